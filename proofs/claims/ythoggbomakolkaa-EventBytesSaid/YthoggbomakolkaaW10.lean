/- Walks. -/
import Derived.Test.YthoggbomakolkaaT
import Derived.Test.YthoggbomakolkaaW9
namespace Go.Proofs.Ythoggbomakolkaa
open Go Fw
set_option linter.unusedVariables false
set_option maxRecDepth 100000
set_option maxHeartbeats 4000000

theorem sim_wire_Read'2 (k : Nat) (o_1 : Nat) (n_2 : Nat) (x_3 : (List UInt8)) (go_4 : Option Nat) (gc_5 : Nat) (r : (List UInt8) × Nat) (hm : wire_Read'2 k o_1 n_2 x_3 = some r) : Sim Try.prog 38 [HDX go_4 (o_1 * 1) n_2] [cown go_4 (rU UInt8) x_3 0 gc_5] (γ := Nat × Option Nat × Nat) (fun q => [cvar q.1 (rP (rW (HDX q.2.1 ((0) * 1) r.2)) (rP rB (rP rB r0))) ((), (true, (true, ()))), cown q.2.1 (rU UInt8) r.1 0 q.2.2, cown go_4 (rU UInt8) x_3 0 gc_5]) (fun q => .one (.val (PTR q.1 0))) := by
 unfold wire_Read'2 at hm
 refine Sim.of Try.func38 rfl rfl (Nat.le_of_ble_eq_true rfl) (fun e0 w0 => ?_)
 refine JC.at ⟨[(0, ov (HDX go_4 (o_1 * 1) n_2))], [cown go_4 (rU UInt8) x_3 0 gc_5], []⟩ ?_
 refine JC.seq ?_
 refine JC.region ?_
 refine jc (op_assign lb (HasO.const (p := PTO none) fun _ => rfl)) ?_
 refine JL.nil ?_
 refine JQ.then ?_
 refine JC.seq ?_
 refine JC.region ?_
 refine jc (op_move lb (.tmp rfl)) ?_
 replace hm := bnd_inv hm
 obtain ⟨v_6, hv_v_6, hm⟩ := hm
 refine jx (op_call (js := [0]) ld cl60 (sim_slices_Clonebyte_byte'2 k o_1 n_2 x_3 go_4 gc_5 v_6 hv_v_6) .func (.cons (.tmp rfl) .nil) rfl) (fun q => ?_)
 obtain ⟨go_7, gc_8⟩ := q
 refine JL.pre (Imp.slot (s := 4) (q := HDE go_7 (List.length v_6) gc_8) rfl wkTE) ?_
 refine JL.pre (Imp.slotX (s := 4) (j := 0) rfl rfl) ?_
 refine JL.pre (Imp.slot (s := 4) (q := HDX go_7 ((0) * 1) (List.length v_6)) rfl wkX0) ?_
 refine jc (op_build lb tZ88 zr88 tp88 (.S (off := 0) (s := rW (HDX go_7 ((0) * 1) (List.length v_6))) (u := ()) rfl (HasO.wk (q := S (rW (HDX go_7 ((0) * 1) (List.length v_6))) ()) (.tmp rfl) wkV) rfl ((UpdR.fst (UpdR.self (by rfl))).at (by rfl)) (.S (off := 1) rfl .cB rfl ((UpdR.snd (UpdR.fst (UpdR.self (by rfl)))).at (by rfl)) (.S (off := 2) rfl .cB rfl ((UpdR.snd (UpdR.snd (UpdR.fst (UpdR.self (by rfl))))).at (by rfl)) .nil))) rfl) ?_
 refine jx (op_boxA lb (.tmp rfl)) (fun q => ?_)
 obtain ⟨gb_9, hqq⟩ : ∃ z, z = q := ⟨_, rfl⟩
 subst hqq
 refine jc (op_assign lb (.tmp rfl)) ?_
 refine JL.nil ?_
 refine JQ.then ?_
 refine JC.ret ?_
 replace hm := Option.some.inj hm
 subst hm
 exact JQ.done (js := [2, 0, 0]) (ss := [.val (PTR gb_9 0)]) (gb_9, go_7, gc_8) (.inl rfl) (.nil rfl) rfl (.cons (.tmp rfl) .nil) rfl rfl rfl

theorem sim_wire_Get (k : Nat) (o_1 : Nat) (n_2 : Nat) (x_3 : (List UInt8)) (go_4 : Option Nat) (gc_5 : Nat) (r : UInt64 × Int) (hm : wire_Get k o_1 n_2 x_3 = some r) : Sim Try.prog 64 [HDX go_4 (o_1 * 1) n_2] [cown go_4 (rU UInt8) x_3 0 gc_5] (γ := Unit) (fun q => [cown go_4 (rU UInt8) x_3 0 gc_5]) (fun q => .tup [.val (S (rU UInt64) r.1), .val (S (rI .i64) r.2)]) := by
 unfold wire_Get at hm
 refine Sim.of Try.func64 rfl rfl (Nat.le_of_ble_eq_true rfl) (fun e0 w0 => ?_)
 refine JC.at ⟨[(0, ov (HDX go_4 (o_1 * 1) n_2))], [cown go_4 (rU UInt8) x_3 0 gc_5], []⟩ ?_
 refine JC.seq ?_
 refine JC.region ?_
 refine jc (op_assign lb (HasO.cU (x := (0 : UInt64)) rfl (by decide))) ?_
 refine jc (op_assign lb .cI) ?_
 refine JL.nil ?_
 refine JQ.then ?_
 refine JC.seq ?_
 replace hm := bnd_inv hm
 obtain ⟨x_8, hx1, hq1⟩ := hm
 refine JC.seqJ (γ := Unit) (stj := fun q => ⟨[(0, ov (HDX go_4 (o_1 * 1) n_2)), (14, ov (S rB x_8))], [cown go_4 (rU UInt8) x_3 0 gc_5], []⟩) (fun q => ?_) ?_
 · obtain _ := q
   refine JC.at ⟨[(0, ov (HDX go_4 (o_1 * 1) n_2)), (14, ov (S rB x_8))], [cown go_4 (rU UInt8) x_3 0 gc_5], []⟩ ?_
   replace hq1 := iteB_inv hq1
   rcases hq1 with ⟨hc4, hq1⟩ | ⟨hc4, hq1⟩
   · refine JC.condT (.tmp rfl) hc4 ?_
     refine JC.seq ?_
     refine JC.region ?_
     refine jc (op_assign lb (HasO.cU (x := (0 : UInt64)) rfl (by decide))) ?_
     refine jc (op_assign lb .cI) ?_
     refine JL.nil ?_
     refine JQ.then ?_
     refine JC.ret ?_
     refine JQ.outR ?_
     replace hq1 := Option.some.inj hq1
     subst hq1
     exact JQ.done (js := [0]) (ss := [.val (S (rU UInt64) (0 : UInt64)), .val (S (rI .i64) (2 : Int))]) () (.inl rfl) (.nil rfl) rfl (.cons (.tmp rfl) (.cons (.tmp rfl) .nil)) rfl rfl rfl
   · refine JC.condF (.tmp rfl) hc4 ?_
     refine JC.skip ?_
     refine JQ.then ?_
     refine JC.seq ?_
     refine JC.region ?_
     refine jc (op_assign lb (HasO.cU (x := (0 : UInt64)) rfl (by decide))) ?_
     refine JL.nil ?_
     refine JQ.then ?_
     replace hq1 := bnd_inv hq1
     obtain ⟨n_18, hx5, hq5⟩ := hq1
     refine JC.seqJ (γ := Unit) (stj := fun q => ⟨[(4, ov (S (rU UInt64) n_18))], [cown go_4 (rU UInt8) x_3 0 gc_5], []⟩) (fun q => ?_) ?_
     · obtain _ := q
       refine JC.at ⟨[(4, ov (S (rU UInt64) n_18))], [cown go_4 (rU UInt8) x_3 0 gc_5], []⟩ ?_
       refine JC.seq ?_
       refine JC.region ?_
       refine jc (op_move lb (.tmp rfl)) ?_
       refine jc (op_assign lb (.tmp rfl)) ?_
       refine jc (op_assign lb .cI) ?_
       refine JL.nil ?_
       refine JQ.then ?_
       refine JC.ret ?_
       replace hq5 := Option.some.inj hq5
       subst hq5
       exact JQ.done (js := [0]) (ss := [.val (S (rU UInt64) n_18), .val (S (rI .i64) (0 : Int))]) () (.inl rfl) (.nil rfl) rfl (.cons (.tmp rfl) (.cons (.tmp rfl) .nil)) rfl rfl rfl
     · refine JC.seq ?_
       refine JC.region ?_
       refine jc (op_move lb (.tmp rfl)) ?_
       refine jc (op_lenX lb tu35 (.tmp rfl)) ?_
       refine jc (op_move lb .cI) ?_
       refine JL.nil ?_
       refine JQ.then ?_
       refine JC.block ?_
       refine JC.pre ?_ (JC.loop (γ := Unit) (stf := fun s q => ⟨[(4, ov (S (rU UInt64) s.1)), (15, ov (HDX go_4 (o_1 * 1) n_2)), (16, ov (S (rI .i64) ((n_2 : Nat) : Int))), (17, ov (S (rI .i64) s.2))], [cown go_4 (rU UInt8) x_3 0 gc_5], []⟩) (q := ()) hx5 ?_)
       · exact (Imp.norm (js := [0]) rfl (.cons rfl (.cons rfl (.cons rfl (.cons rfl .nil)))))
       · intro s q x hx hr
         obtain ⟨n_9, x_10⟩ := s
         obtain _ := q
         change wire_Get.b1 k n_2 o_1 x_3 n_9 x_10 = some x at hx
         unfold wire_Get.b1 at hx
         refine JC.at ⟨[(4, ov (S (rU UInt64) n_9)), (15, ov (HDX go_4 (o_1 * 1) n_2)), (16, ov (S (rI .i64) ((n_2 : Nat) : Int))), (17, ov (S (rI .i64) x_10))], [cown go_4 (rU UInt8) x_3 0 gc_5], []⟩ ?_
         refine JC.seq ?_
         refine JC.region ?_
         replace hx := lt1_inv hx
         obtain ⟨v_11, hv_v_11, hx⟩ := hx
         refine jc (op_cmpI lb (.tmp rfl) (.tmp rfl) (congrArg some hv_v_11)) ?_
         refine JL.nil ?_
         refine JQ.then ?_
         refine JC.seq ?_
         replace hx := iteB_inv hx
         rcases hx with ⟨hc7, hx⟩ | ⟨hc7, hx⟩
         · refine JC.condT (.tmp rfl) hc7 ?_
           refine JC.skip ?_
           refine JQ.then ?_
           refine JC.seq ?_
           refine JC.block ?_
           refine JC.seq ?_
           refine JC.region ?_
           replace hx := bnd_inv hx
           obtain ⟨i_12, hv_i_12, hx⟩ := hx
           refine jc (op_indexAddrXF (r := (rU UInt8)) (o := o_1) lb tu35 tz5 (.tmp rfl) (.tmp rfl) hv_i_12) ?_
           replace hx := bnd_inv hx
           obtain ⟨v_13, hv_v_13, hx⟩ := hx
           refine jc (op_loadOS (r := (rU UInt8)) (i := i_12) (off := 0) (j := 0) lb tS5 rfl rfl (.tmp rfl) hv_v_13 (Comp.self (rU UInt8) v_13) (by decide)) ?_
           refine jc (op_assign lb (.tmp rfl)) ?_
           refine JL.nil ?_
           refine JQ.then ?_
           refine JC.region ?_
           refine jc (op_move lb (.tmp rfl)) ?_
           replace hx := lt1_inv hx
           obtain ⟨v_14, hv_v_14, hx⟩ := hx
           refine jc (op_shlUU lb (.tmp rfl) (HasO.cU (x := (8 : UInt64)) rfl (by decide)) hv_v_14) ?_
           refine jc (op_move lb (.tmp rfl)) ?_
           replace hx := lt1_inv hx
           obtain ⟨v_15, hv_v_15, hx⟩ := hx
           refine jc (op_convUU lb tu5 tu22 (.tmp rfl) hv_v_15) ?_
           replace hx := lt1_inv hx
           obtain ⟨v_16, hv_v_16, hx⟩ := hx
           refine jc (op_arU lb (.tmp rfl) (.tmp rfl) (congrArg some hv_v_16)) ?_
           refine jc (op_assign lb (.tmp rfl)) ?_
           refine JL.nil ?_
           refine JQ.outNB ?_
           refine JQ.then ?_
           refine JC.region ?_
           replace hx := lt1_inv hx
           obtain ⟨v_17, hv_v_17, hx⟩ := hx
           refine jc (op_arI lb (.tmp rfl) .cI (congrArg some hv_v_17)) ?_
           refine jc (op_move lb (.tmp rfl)) ?_
           refine JL.sub ⟨[(4, ov (S (rU UInt64) v_16)), (15, ov (HDX go_4 (o_1 * 1) n_2)), (16, ov (S (rI .i64) ((n_2 : Nat) : Int))), (17, ov (S (rI .i64) v_17))], [cown go_4 (rU UInt8) x_3 0 gc_5], []⟩ (.cons rfl (.cons rfl (.cons rfl (.cons rfl .nil)))) rfl rfl ?_
           refine JL.nil ?_
           replace hx := Option.some.inj hx
           first | subst hx | clear hx
           exact JQ.next () rfl (Imp.norm (js := [0]) rfl (.cons rfl (.cons rfl (.cons rfl (.cons rfl .nil)))))
         · refine JC.condF (.tmp rfl) hc7 ?_
           refine JC.exit ?_
           refine JQ.outX ?_
           replace hx := Option.some.inj hx
           first | subst hx | clear hx
           have ht := hr _ rfl
           have hq6 := congrArg some ht
           clear hr ht
           refine JQ.outX ?_
           refine JQ.here ?_
           replace hq6 := Option.some.inj hq6
           first | subst hq6 | clear hq6
           exact JQ.join () (Imp.norm (js := [0]) rfl (.cons rfl .nil))
 · refine JC.region ?_
   refine jc (op_move lb (.tmp rfl)) ?_
   refine jc (op_lenX lb tu35 (.tmp rfl)) ?_
   replace hx1 := lt1_inv hx1
   obtain ⟨v_6, hv_v_6, hx1⟩ := hx1
   refine jc (op_cmpI lb (.tmp rfl) .cI (congrArg some hv_v_6)) ?_
   refine jc (op_move lb (.tmp rfl)) ?_
   replace hx1 := iteB_inv hx1
   rcases hx1 with ⟨hc3, hx1⟩ | ⟨hc3, hx1⟩
   · refine JL.skip (.no rfl (ltB rfl) rfl hc3) (fun d h => by cases h; exact ltB rfl) ?_
     refine JL.skip (.no rfl (ltB rfl) rfl hc3) (fun d h => by cases h; exact ltB rfl) ?_
     refine JL.skip (.no rfl (ltB rfl) rfl hc3) (fun d h => by cases h; exact ltB rfl) ?_
     refine jc (op_pickT lb (.tmp rfl) hc3 .cB) ?_
     refine JL.nil ?_
     replace hx1 := Option.some.inj hx1
     first | subst hx1 | clear hx1
     exact JQ.join () (Imp.norm (js := [0]) rfl (.cons rfl (.cons rfl .nil)))
   · refine JL.run (.yes rfl (ltB rfl) rfl hc3) (op_move lb (.tmp rfl)) ?_
     refine JL.run (.yes rfl (ltB rfl) rfl hc3) (op_lenX lb tu35 (.tmp rfl)) ?_
     replace hx1 := lt1_inv hx1
     obtain ⟨v_7, hv_v_7, hx1⟩ := hx1
     refine JL.run (.yes rfl (ltB rfl) rfl hc3) (op_cmpI lb (.tmp rfl) .cI (congrArg some hv_v_7)) ?_
     refine jc (op_pickF lb (.tmp rfl) hc3 (.tmp rfl)) ?_
     refine JL.nil ?_
     replace hx1 := Option.some.inj hx1
     first | subst hx1 | clear hx1
     exact JQ.join () (Imp.norm (js := [0]) rfl (.cons rfl (.cons rfl .nil)))

theorem sim_wire_Reader_Number (k : Nat) (size_1 : Int) (o_2 : Nat) (n_3 : Nat) (is_4 : Bool) (made_5 : Bool) (x_7 : (List UInt8)) (gb_6 : Nat) (go_8 : Option Nat) (gc_9 : Nat) (r : UInt64 × Nat × Nat × Bool × Bool) (hm : wire_Reader_Number k size_1 o_2 n_3 is_4 made_5 x_7 = some r) : Sim Try.prog 42 [PTR gb_6 0, S (rI .i64) size_1] [cvar gb_6 (rP (rW (HDX go_8 (o_2 * 1) n_3)) (rP rB (rP rB r0))) ((), (is_4, (made_5, ()))), cown go_8 (rU UInt8) x_7 0 gc_9] (γ := Unit) (fun q => [cvar gb_6 (rP (rW (HDX go_8 (r.2.1 * 1) r.2.2.1)) (rP rB (rP rB r0))) ((), (r.2.2.2.1, (r.2.2.2.2, ()))), cown go_8 (rU UInt8) x_7 0 gc_9]) (fun q => .one (.val (S (rU UInt64) r.1))) := by
 unfold wire_Reader_Number at hm
 refine Sim.of Try.func42 rfl rfl (Nat.le_of_ble_eq_true rfl) (fun e0 w0 => ?_)
 refine JC.at ⟨[(0, ov (PTR gb_6 0)), (1, ov (S (rI .i64) size_1))], [cvar gb_6 (rP (rW (HDX go_8 (o_2 * 1) n_3)) (rP rB (rP rB r0))) ((), (is_4, (made_5, ()))), cown go_8 (rU UInt8) x_7 0 gc_9], []⟩ ?_
 refine JC.seq ?_
 refine JC.region ?_
 refine jc (op_assign lb (HasO.cU (x := (0 : UInt64)) rfl (by decide))) ?_
 refine JL.nil ?_
 refine JQ.then ?_
 replace hm := bnd_inv hm
 obtain ⟨size_14, hx1, hq1⟩ := hm
 refine JC.seqJ (γ := Unit) (stj := fun q => ⟨[(0, ov (PTR gb_6 0)), (1, ov (S (rI .i64) size_14))], [cvar gb_6 (rP (rW (HDX go_8 (o_2 * 1) n_3)) (rP rB (rP rB r0))) ((), (is_4, (made_5, ()))), cown go_8 (rU UInt8) x_7 0 gc_9], []⟩) (fun q => ?_) ?_
 · obtain _ := q
   refine JC.at ⟨[(0, ov (PTR gb_6 0)), (1, ov (S (rI .i64) size_14))], [cvar gb_6 (rP (rW (HDX go_8 (o_2 * 1) n_3)) (rP rB (rP rB r0))) ((), (is_4, (made_5, ()))), cown go_8 (rU UInt8) x_7 0 gc_9], []⟩ ?_
   refine JC.seq ?_
   refine JC.region ?_
   refine jc (op_move lb (.tmp rfl)) ?_
   refine jc (op_move lb (.tmp rfl)) ?_
   replace hq1 := bnd_inv hq1
   obtain ⟨⟨v_15, v_16, x_17, x_18, x_19, x_20, x_21⟩, hv_v_15, hq1⟩ := hq1
   refine jx (op_call (js := [0, 0]) ld cl61 (sim_wire_Reader_take k size_14 o_2 n_3 is_4 made_5 x_7 gb_6 go_8 gc_9 (v_15, v_16, x_17, x_18, x_19, x_20, x_21) hv_v_15) .func (.cons (.tmp rfl) (.cons (.tmp rfl) .nil)) rfl) (fun _ => ?_)
   refine jc (op_move lb (.tmp rfl)) ?_
   refine jc (op_extract (i := 0) lb (.tmp rfl) rfl) ?_
   refine jc (op_extract (i := 1) lb (.tmp rfl) rfl) ?_
   refine jc (op_assign lb (.tmp rfl)) ?_
   refine jc (op_assign lb (.tmp rfl)) ?_
   refine JL.nil ?_
   refine JQ.then ?_
   refine JC.seq ?_
   refine JC.region ?_
   refine jc (op_move lb (.tmp rfl)) ?_
   replace hq1 := bnd_inv hq1
   obtain ⟨⟨v_22, v_23⟩, hv_v_22, hq1⟩ := hq1
   refine jx (op_call (js := [0]) ld cl64 (sim_wire_Get k v_15 v_16 x_7 go_8 gc_9 (v_22, v_23) hv_v_22) .func (.cons (.tmp rfl) .nil) rfl) (fun _ => ?_)
   refine JL.sub ⟨[(23, .tup [.val (S (rU UInt64) v_22), .val (S (rI .i64) v_23)])], [cown go_8 (rU UInt8) x_7 0 gc_9, cvar gb_6 (rP (rW (HDX go_8 (x_18 * 1) x_19)) (rP rB (rP rB r0))) ((), (x_20, (x_21, ())))], []⟩ (.cons rfl .nil) rfl rfl ?_
   refine jc (op_move lb (.tmp rfl)) ?_
   refine jc (op_extract (i := 0) lb (.tmp rfl) rfl) ?_
   refine jc (op_extract (i := 1) lb (.tmp rfl) rfl) ?_
   refine jc (op_assign lb (.tmp rfl)) ?_
   refine jc (op_assign lb (.tmp rfl)) ?_
   refine JL.nil ?_
   refine JQ.then ?_
   refine JC.seq ?_
   refine JC.region ?_
   refine jc (op_move lb (.tmp rfl)) ?_
   refine jc (op_assign lb (.tmp rfl)) ?_
   refine JL.nil ?_
   refine JQ.then ?_
   refine JC.ret ?_
   replace hq1 := Option.some.inj hq1
   subst hq1
   exact JQ.done (js := [1, 0]) (ss := [.val (S (rU UInt64) v_22)]) () (.inl rfl) (.nil rfl) rfl (.cons (.tmp rfl) .nil) rfl rfl rfl
 · replace hx1 := bnd_inv hx1
   obtain ⟨x_13, hx2, hq2⟩ := hx1
   refine JC.seqJ (γ := Unit) (stj := fun q => ⟨[(0, ov (PTR gb_6 0)), (1, ov (S (rI .i64) size_1)), (14, ov (S rB x_13))], [cvar gb_6 (rP (rW (HDX go_8 (o_2 * 1) n_3)) (rP rB (rP rB r0))) ((), (is_4, (made_5, ()))), cown go_8 (rU UInt8) x_7 0 gc_9], []⟩) (fun q => ?_) ?_
   · obtain _ := q
     refine JC.at ⟨[(0, ov (PTR gb_6 0)), (1, ov (S (rI .i64) size_1)), (14, ov (S rB x_13))], [cvar gb_6 (rP (rW (HDX go_8 (o_2 * 1) n_3)) (rP rB (rP rB r0))) ((), (is_4, (made_5, ()))), cown go_8 (rU UInt8) x_7 0 gc_9], []⟩ ?_
     replace hq2 := iteB_inv hq2
     rcases hq2 with ⟨hc6, hq2⟩ | ⟨hc6, hq2⟩
     · refine JC.condT (.tmp rfl) hc6 ?_
       refine JC.region ?_
       refine jc (op_assign lb .cI) ?_
       refine JL.nil ?_
       replace hq2 := Option.some.inj hq2
       first | subst hq2 | clear hq2
       exact JQ.join () (Imp.norm (js := [0, 0]) rfl (.cons rfl (.cons rfl .nil)))
     · refine JC.condF (.tmp rfl) hc6 ?_
       refine JC.skip ?_
       replace hq2 := Option.some.inj hq2
       first | subst hq2 | clear hq2
       exact JQ.join () (Imp.norm (js := [0, 0]) rfl (.cons rfl (.cons rfl .nil)))
   · refine JC.region ?_
     refine jc (op_move lb (.tmp rfl)) ?_
     replace hx2 := lt1_inv hx2
     obtain ⟨v_10, hv_v_10, hx2⟩ := hx2
     refine jc (op_cmpI lb (.tmp rfl) .cI (congrArg some hv_v_10)) ?_
     refine jc (op_move lb (.tmp rfl)) ?_
     refine JL.cnd (sv := ov (S (rI .i64) size_1)) (Guard.isF (ltB rfl) rfl rfl) rfl (ltB rfl) (fun hq_3 => op_move lb (.tmp rfl)) ?_
     replace hx2 := lt1_inv hx2
     obtain ⟨v_11, hv_v_11, hx2⟩ := hx2
     refine JL.cnd (sv := ov (S rB v_11)) (Guard.isF (ltB rfl) rfl rfl) rfl (ltB rfl) (fun hq_4 => op_cmpI lb (HasO.cnd (.tmp rfl) (notT (notF hq_4))) .cI (congrArg some hv_v_11)) ?_
     replace hx2 := lt1_inv hx2
     obtain ⟨v_12, hv_v_12, hx2⟩ := hx2
     refine jc (op_pickCS lb (.tmp rfl) (fun hb5 => .cB) (fun hb5 => (HasO.cnd (.tmp rfl) (notT hb5))) hv_v_12) ?_
     refine JL.nil ?_
     replace hx2 := Option.some.inj hx2
     first | subst hx2 | clear hx2
     refine JQ.pre (Imp.var (j := 0) (q := (rP (rW (HDX go_8 (o_2 * 1) n_3)) (rP rB (rP rB r0)))) (y := ((), (is_4, (made_5, ())))) rfl Wk.refl) ?_
     exact JQ.join () (Imp.norm (js := [0, 0]) rfl (.cons rfl (.cons rfl (.cons rfl .nil))))

theorem sim_wire_Reader_Dot (k : Nat) (o_1 : Nat) (n_2 : Nat) (is_3 : Bool) (made_4 : Bool) (x_6 : (List UInt8)) (gb_5 : Nat) (go_7 : Option Nat) (gc_8 : Nat) (r : api_Dot × Nat × Nat × Bool × Bool) (hm : wire_Reader_Dot k o_1 n_2 is_3 made_4 x_6 = some r) : Sim Try.prog 39 [PTR gb_5 0] [cvar gb_5 (rP (rW (HDX go_7 (o_1 * 1) n_2)) (rP rB (rP rB r0))) ((), (is_3, (made_4, ()))), cown go_7 (rU UInt8) x_6 0 gc_8] (γ := Unit) (fun q => [cvar gb_5 (rP (rW (HDX go_7 (r.2.1 * 1) r.2.2.1)) (rP rB (rP rB r0))) ((), (r.2.2.2.1, (r.2.2.2.2, ()))), cown go_7 (rU UInt8) x_6 0 gc_8]) (fun q => .one (.val (A r_api_Dot r.1))) := by
 unfold wire_Reader_Dot at hm
 refine Sim.of Try.func39 rfl rfl (Nat.le_of_ble_eq_true rfl) (fun e0 w0 => ?_)
 refine JC.at ⟨[(0, ov (PTR gb_5 0))], [cvar gb_5 (rP (rW (HDX go_7 (o_1 * 1) n_2)) (rP rB (rP rB r0))) ((), (is_3, (made_4, ()))), cown go_7 (rU UInt8) x_6 0 gc_8], []⟩ ?_
 refine JC.seq ?_
 refine JC.region ?_
 refine jx (op_alloc lb tZ24 zr24) (fun q => ?_)
 obtain ⟨gb_9, hqq⟩ : ∃ z, z = q := ⟨_, rfl⟩
 subst hqq
 refine JL.nil ?_
 refine JQ.then ?_
 refine JC.seq ?_
 refine JC.region ?_
 refine jc (op_move lb (.tmp rfl)) ?_
 replace hm := bnd_inv hm
 obtain ⟨⟨v_10, v_11, x_12, x_13, x_14, x_15, x_16⟩, hv_v_10, hm⟩ := hm
 refine jx (op_call (js := [0, 0]) ld cl61 (sim_wire_Reader_take k (9 : Int) o_1 n_2 is_3 made_4 x_6 gb_5 go_7 gc_8 (v_10, v_11, x_12, x_13, x_14, x_15, x_16) hv_v_10) .func (.cons (.tmp rfl) (.cons .cI .nil)) rfl) (fun _ => ?_)
 refine jc (op_move lb (.tmp rfl)) ?_
 refine jc (op_extract (i := 0) lb (.tmp rfl) rfl) ?_
 refine jc (op_extract (i := 1) lb (.tmp rfl) rfl) ?_
 refine jc (op_assign lb (.tmp rfl)) ?_
 refine jc (op_assign lb (.tmp rfl)) ?_
 refine JL.sub ⟨[(2, ov (PTR gb_9 0)), (3, ov (HDX go_7 (v_10 * 1) v_11))], [cown go_7 (rU UInt8) x_6 0 gc_8, cvar gb_5 (rP (rW (HDX go_7 (x_13 * 1) x_14)) (rP rB (rP rB r0))) ((), (x_15, (x_16, ()))), cvar gb_9 r_api_Dot (api_Dot.mk (0 : Int) (0 : UInt64))], []⟩ (.cons rfl (.cons rfl .nil)) rfl rfl ?_
 refine JL.nil ?_
 refine JQ.then ?_
 refine JC.seq ?_
 refine JC.region ?_
 refine jc (op_move lb (.tmp rfl)) ?_
 replace hm := bnd_inv hm
 obtain ⟨⟨v_17, x_18⟩, hv_v_17, hm⟩ := hm
 refine jx (op_call (js := [0]) ld cl38 (sim_wire_Read'2 k v_10 v_11 x_6 go_7 gc_8 (v_17, x_18) hv_v_17) .func (.cons (.tmp rfl) .nil) rfl) (fun q => ?_)
 obtain ⟨gb_19, go_20, gc_21⟩ := q
 refine jc (op_assign lb (.tmp rfl)) ?_
 refine JL.nil ?_
 refine JQ.then ?_
 refine JC.seq ?_
 refine JC.region ?_
 refine jc (op_move lb (.tmp rfl)) ?_
 replace hm := bnd_inv hm
 obtain ⟨⟨v_22, x_23, x_24, x_25, x_26⟩, hv_v_22, hm⟩ := hm
 refine jx (op_call (js := [0, 0]) ld cl42 (sim_wire_Reader_Number k (1 : Int) (0) x_18 true true v_17 gb_19 go_20 gc_21 (v_22, x_23, x_24, x_25, x_26) hv_v_22) .func (.cons (.tmp rfl) (.cons .cI .nil)) rfl) (fun _ => ?_)
 replace hm := lt1_inv hm
 obtain ⟨v_27, hv_v_27, hm⟩ := hm
 refine jc (op_convUI lb tu22 tu3 (.tmp rfl) hv_v_27) ?_
 refine jc (op_move lb (.tmp rfl)) ?_
 replace hm := bnd_inv hm
 obtain ⟨⟨v_28, x_29, x_30, x_31, x_32⟩, hv_v_28, hm⟩ := hm
 refine jx (op_call (js := [0, 0]) ld cl42 (sim_wire_Reader_Number k (8 : Int) x_23 x_24 x_25 x_26 v_17 gb_19 go_20 gc_21 (v_28, x_29, x_30, x_31, x_32) hv_v_28) .func (.cons (.tmp rfl) (.cons .cI .nil)) rfl) (fun _ => ?_)
 refine JL.nrm ⟨[(2, ov (PTR gb_9 0)), (15, ov (S (rI .i64) v_27)), (17, ov (S (rU UInt64) v_28))], [cown go_7 (rU UInt8) x_6 0 gc_8, cvar gb_5 (rP (rW (HDX go_7 (x_13 * 1) x_14)) (rP rB (rP rB r0))) ((), (x_15, (x_16, ()))), cvar gb_9 r_api_Dot (api_Dot.mk (0 : Int) (0 : UInt64))], []⟩ [2, 2, 2] rfl (.cons rfl (.cons rfl (.cons rfl .nil))) rfl ?_
 refine jc (op_build lb tZ24 zs24 tp24 (.S (off := 0) rfl (.tmp rfl) rfl ((UpdR.fst (UpdR.self (by rfl))).at (by rfl)) (.S (off := 1) rfl (.tmp rfl) rfl ((UpdR.snd (UpdR.fst (UpdR.self (by rfl)))).at (by rfl)) .nil)) rfl) ?_
 refine jc (op_storeA (j := 2) tA24 (.tmp rfl) (.tmp rfl) rfl (UpdR.self (by rfl)) rfl) ?_
 refine JL.nil ?_
 refine JQ.then ?_
 refine JC.ret ?_
 replace hm := Option.some.inj hm
 subst hm
 refine JQ.pre (Imp.var (j := 2) (q := r_api_Dot) (y := (api_Dot.mk v_27 v_28)) rfl (Wk.st Wk.refl)) ?_
 exact JQ.done (js := [1, 0]) (ss := [.val (A r_api_Dot (api_Dot.mk v_27 v_28))]) () (.inl rfl) (.nil rfl) rfl (.cons (.cellA (j := 2) tA24 rfl rfl) .nil) rfl rfl rfl

theorem sim_wire_Reader_Bytes (k : Nat) (n_1 : Int) (o_2 : Nat) (n_3 : Nat) (is_4 : Bool) (made_5 : Bool) (x_7 : (List UInt8)) (gb_6 : Nat) (go_8 : Option Nat) (gc_9 : Nat) (r : Nat × Nat × Nat × Nat × Bool × Bool) (hm : wire_Reader_Bytes k n_1 o_2 n_3 is_4 made_5 x_7 = some r) : Sim Try.prog 62 [PTR gb_6 0, S (rI .i64) n_1] [cvar gb_6 (rP (rW (HDX go_8 (o_2 * 1) n_3)) (rP rB (rP rB r0))) ((), (is_4, (made_5, ()))), cown go_8 (rU UInt8) x_7 0 gc_9] (γ := Unit) (fun q => [cown go_8 (rU UInt8) x_7 0 gc_9, cvar gb_6 (rP (rW (HDX go_8 (r.2.2.1 * 1) r.2.2.2.1)) (rP rB (rP rB r0))) ((), (r.2.2.2.2.1, (r.2.2.2.2.2, ())))]) (fun q => .one (.val (HDX go_8 (r.1 * 1) r.2.1))) := by
 unfold wire_Reader_Bytes at hm
 refine Sim.of Try.func62 rfl rfl (Nat.le_of_ble_eq_true rfl) (fun e0 w0 => ?_)
 refine JC.at ⟨[(0, ov (PTR gb_6 0)), (1, ov (S (rI .i64) n_1))], [cvar gb_6 (rP (rW (HDX go_8 (o_2 * 1) n_3)) (rP rB (rP rB r0))) ((), (is_4, (made_5, ()))), cown go_8 (rU UInt8) x_7 0 gc_9], []⟩ ?_
 refine JC.seq ?_
 refine JC.region ?_
 refine jc (op_assign lb HasO.nilH) ?_
 refine JL.nil ?_
 refine JQ.then ?_
 refine JC.seq ?_
 refine JC.region ?_
 refine jc (op_move lb (.tmp rfl)) ?_
 refine jc (op_move lb (.tmp rfl)) ?_
 replace hm := bnd_inv hm
 obtain ⟨⟨v_10, v_11, x_12, x_13, x_14, x_15, x_16⟩, hv_v_10, hm⟩ := hm
 refine jx (op_call (js := [0, 0]) ld cl61 (sim_wire_Reader_take k n_1 o_2 n_3 is_4 made_5 x_7 gb_6 go_8 gc_9 (v_10, v_11, x_12, x_13, x_14, x_15, x_16) hv_v_10) .func (.cons (.tmp rfl) (.cons (.tmp rfl) .nil)) rfl) (fun _ => ?_)
 refine jc (op_move lb (.tmp rfl)) ?_
 refine jc (op_extract (i := 0) lb (.tmp rfl) rfl) ?_
 refine jc (op_extract (i := 1) lb (.tmp rfl) rfl) ?_
 refine jc (op_assign lb (.tmp rfl)) ?_
 refine jc (op_assign lb (.tmp rfl)) ?_
 refine JL.nil ?_
 refine JQ.then ?_
 refine JC.seq ?_
 refine JC.region ?_
 refine jc (op_move lb (.tmp rfl)) ?_
 refine JL.sub ⟨[(4, ov (HDR none 0 0 0)), (13, ov (HDX go_8 (v_10 * 1) v_11))], [cown go_8 (rU UInt8) x_7 0 gc_9, cvar gb_6 (rP (rW (HDX go_8 (x_13 * 1) x_14)) (rP rB (rP rB r0))) ((), (x_15, (x_16, ())))], []⟩ (.cons rfl (.cons rfl .nil)) rfl rfl ?_
 refine jc (op_assign lb (.tmp rfl)) ?_
 refine JL.nil ?_
 refine JQ.then ?_
 refine JC.ret ?_
 replace hm := Option.some.inj hm
 subst hm
 exact JQ.done (js := [0, 0]) (ss := [.val (HDX go_8 (v_10 * 1) v_11)]) () (.inl rfl) (.nil rfl) rfl (.cons (.tmp rfl) .nil) rfl rfl rfl

theorem sim_wire_Reader_Blob (k : Nat) (o_1 : Nat) (n_2 : Nat) (is_3 : Bool) (made_4 : Bool) (x_6 : (List UInt8)) (gb_5 : Nat) (go_7 : Option Nat) (gc_8 : Nat) (r : Nat × Nat × Nat × Nat × Bool × Bool) (hm : wire_Reader_Blob k o_1 n_2 is_3 made_4 x_6 = some r) : Sim Try.prog 40 [PTR gb_5 0] [cvar gb_5 (rP (rW (HDX go_7 (o_1 * 1) n_2)) (rP rB (rP rB r0))) ((), (is_3, (made_4, ()))), cown go_7 (rU UInt8) x_6 0 gc_8] (γ := Unit) (fun q => [cown go_7 (rU UInt8) x_6 0 gc_8, cvar gb_5 (rP (rW (HDX go_7 (r.2.2.1 * 1) r.2.2.2.1)) (rP rB (rP rB r0))) ((), (r.2.2.2.2.1, (r.2.2.2.2.2, ())))]) (fun q => .one (.val (HDX go_7 (r.1 * 1) r.2.1))) := by
 unfold wire_Reader_Blob at hm
 refine Sim.of Try.func40 rfl rfl (Nat.le_of_ble_eq_true rfl) (fun e0 w0 => ?_)
 refine JC.at ⟨[(0, ov (PTR gb_5 0))], [cvar gb_5 (rP (rW (HDX go_7 (o_1 * 1) n_2)) (rP rB (rP rB r0))) ((), (is_3, (made_4, ()))), cown go_7 (rU UInt8) x_6 0 gc_8], []⟩ ?_
 refine JC.seq ?_
 refine JC.region ?_
 refine jc (op_assign lb HasO.nilH) ?_
 refine JL.nil ?_
 refine JQ.then ?_
 refine JC.seq ?_
 refine JC.region ?_
 refine jc (op_move lb (.tmp rfl)) ?_
 refine jc (op_move lb (.tmp rfl)) ?_
 replace hm := bnd_inv hm
 obtain ⟨⟨v_9, x_10, x_11, x_12, x_13⟩, hv_v_9, hm⟩ := hm
 refine jx (op_call (js := [0, 0]) ld cl42 (sim_wire_Reader_Number k (2 : Int) o_1 n_2 is_3 made_4 x_6 gb_5 go_7 gc_8 (v_9, x_10, x_11, x_12, x_13) hv_v_9) .func (.cons (.tmp rfl) (.cons .cI .nil)) rfl) (fun _ => ?_)
 replace hm := lt1_inv hm
 obtain ⟨v_14, hv_v_14, hm⟩ := hm
 refine jc (op_convUI lb tu22 tu3 (.tmp rfl) hv_v_14) ?_
 replace hm := bnd_inv hm
 obtain ⟨⟨v_15, x_16, x_17, x_18, x_19, x_20⟩, hv_v_15, hm⟩ := hm
 refine jx (op_call (js := [0, 0]) ld cl62 (sim_wire_Reader_Bytes k v_14 x_10 x_11 x_12 x_13 x_6 gb_5 go_7 gc_8 (v_15, x_16, x_17, x_18, x_19, x_20) hv_v_15) .func (.cons (.tmp rfl) (.cons (.tmp rfl) .nil)) rfl) (fun _ => ?_)
 refine jc (op_assign lb (.tmp rfl)) ?_
 refine JL.nil ?_
 refine JQ.then ?_
 refine JC.ret ?_
 replace hm := Option.some.inj hm
 subst hm
 exact JQ.done (js := [0, 0]) (ss := [.val (HDX go_7 (v_15 * 1) x_16)]) () (.inl rfl) (.nil rfl) rfl (.cons (.tmp rfl) .nil) rfl rfl rfl

theorem sim_wire_Reader_Vector_1 (k : Nat) (o_2 : Nat) (n_3 : Nat) (is_4 : Bool) (made_5 : Bool) (x_7 : (List UInt8)) (gb_1 : Nat) (gb_6 : Nat) (go_8 : Option Nat) (gc_9 : Nat) (r : UInt64 × Nat × Nat × Bool × Bool) (hm : wire_Reader_Vector_1 k o_2 n_3 is_4 made_5 x_7 = some r) : Sim Try.prog 63 [PTR gb_1 0] [cvar gb_1 (rW (PTR gb_6 0)) (), cvar gb_6 (rP (rW (HDX go_8 (o_2 * 1) n_3)) (rP rB (rP rB r0))) ((), (is_4, (made_5, ()))), cown go_8 (rU UInt8) x_7 0 gc_9] (γ := Unit) (fun q => [cvar gb_1 (rW (PTR gb_6 0)) (), cvar gb_6 (rP (rW (HDX go_8 (r.2.1 * 1) r.2.2.1)) (rP rB (rP rB r0))) ((), (r.2.2.2.1, (r.2.2.2.2, ()))), cown go_8 (rU UInt8) x_7 0 gc_9]) (fun q => .one (.val (S (rU UInt64) r.1))) := by
 unfold wire_Reader_Vector_1 at hm
 refine Sim.of Try.func63 rfl rfl (Nat.le_of_ble_eq_true rfl) (fun e0 w0 => ?_)
 refine JC.at ⟨[(0, ov (PTR gb_1 0))], [cvar gb_1 (rW (PTR gb_6 0)) (), cvar gb_6 (rP (rW (HDX go_8 (o_2 * 1) n_3)) (rP rB (rP rB r0))) ((), (is_4, (made_5, ()))), cown go_8 (rU UInt8) x_7 0 gc_9], []⟩ ?_
 refine JC.seq ?_
 refine JC.region ?_
 refine jc (op_assign lb (HasO.cU (x := (0 : UInt64)) rfl (by decide))) ?_
 refine JL.nil ?_
 refine JQ.then ?_
 refine JC.seq ?_
 refine JC.region ?_
 refine jc (op_loadW (j := 0) lb tS66 (.tmp rfl) rfl (Comp.self (rW (PTR gb_6 0)) ())) ?_
 replace hm := bnd_inv hm
 obtain ⟨⟨v_10, x_11, x_12, x_13, x_14⟩, hv_v_10, hm⟩ := hm
 refine jx (op_call (js := [1, 1]) ld cl42 (sim_wire_Reader_Number k (8 : Int) o_2 n_3 is_4 made_5 x_7 gb_6 go_8 gc_9 (v_10, x_11, x_12, x_13, x_14) hv_v_10) .func (.cons (.tmp rfl) (.cons .cI .nil)) rfl) (fun _ => ?_)
 refine jc (op_assign lb (.tmp rfl)) ?_
 refine JL.nil ?_
 refine JQ.then ?_
 refine JC.ret ?_
 replace hm := Option.some.inj hm
 subst hm
 exact JQ.done (js := [2, 0, 0]) (ss := [.val (S (rU UInt64) v_10)]) () (.inl rfl) (.nil rfl) rfl (.cons (.tmp rfl) .nil) rfl rfl rfl

theorem sim_wire_Reader_Vector (k : Nat) (o_1 : Nat) (n_2 : Nat) (is_3 : Bool) (made_4 : Bool) (x_6 : (List UInt8)) (gb_5 : Nat) (go_7 : Option Nat) (gc_8 : Nat) (r : (Vector UInt64 16) × Nat × Nat × Bool × Bool) (hm : wire_Reader_Vector k o_1 n_2 is_3 made_4 x_6 = some r) : Sim Try.prog 41 [PTR gb_5 0] [cvar gb_5 (rP (rW (HDX go_7 (o_1 * 1) n_2)) (rP rB (rP rB r0))) ((), (is_3, (made_4, ()))), cown go_7 (rU UInt8) x_6 0 gc_8] (γ := Unit) (fun q => [cvar gb_5 (rP (rW (HDX go_7 (r.2.1 * 1) r.2.2.1)) (rP rB (rP rB r0))) ((), (r.2.2.2.1, (r.2.2.2.2, ()))), cown go_7 (rU UInt8) x_6 0 gc_8]) (fun q => .one (.val (A (rV 16 (rU UInt64)) r.1))) := by
 unfold wire_Reader_Vector at hm
 refine Sim.of Try.func41 rfl rfl (Nat.le_of_ble_eq_true rfl) (fun e0 w0 => ?_)
 refine JC.at ⟨[(0, ov (PTR gb_5 0))], [cvar gb_5 (rP (rW (HDX go_7 (o_1 * 1) n_2)) (rP rB (rP rB r0))) ((), (is_3, (made_4, ()))), cown go_7 (rU UInt8) x_6 0 gc_8], []⟩ ?_
 refine JC.seq ?_
 refine JC.region ?_
 refine jx (op_alloc lb tZ26 zr26) (fun q => ?_)
 obtain ⟨gb_9, hqq⟩ : ∃ z, z = q := ⟨_, rfl⟩
 subst hqq
 refine JL.nil ?_
 refine JQ.then ?_
 refine JC.seq ?_
 refine JC.region ?_
 refine jc (op_move lb (.tmp rfl)) ?_
 replace hm := bnd_inv hm
 obtain ⟨⟨v_10, v_11, x_12, x_13, x_14, x_15, x_16⟩, hv_v_10, hm⟩ := hm
 refine jx (op_call (js := [0, 0]) ld cl61 (sim_wire_Reader_take k (128 : Int) o_1 n_2 is_3 made_4 x_6 gb_5 go_7 gc_8 (v_10, v_11, x_12, x_13, x_14, x_15, x_16) hv_v_10) .func (.cons (.tmp rfl) (.cons .cI .nil)) rfl) (fun _ => ?_)
 refine jc (op_move lb (.tmp rfl)) ?_
 refine jc (op_extract (i := 0) lb (.tmp rfl) rfl) ?_
 refine jc (op_extract (i := 1) lb (.tmp rfl) rfl) ?_
 refine jc (op_assign lb (.tmp rfl)) ?_
 refine jc (op_assign lb (.tmp rfl)) ?_
 refine JL.sub ⟨[(2, ov (PTR gb_9 0)), (3, ov (HDX go_7 (v_10 * 1) v_11))], [cown go_7 (rU UInt8) x_6 0 gc_8, cvar gb_5 (rP (rW (HDX go_7 (x_13 * 1) x_14)) (rP rB (rP rB r0))) ((), (x_15, (x_16, ()))), cvar gb_9 (rV 16 (rU UInt64)) (Vector.replicate 16 (0 : UInt64))], []⟩ (.cons rfl (.cons rfl .nil)) rfl rfl ?_
 refine JL.nil ?_
 refine JQ.then ?_
 refine JC.seq ?_
 refine JC.region ?_
 refine jc (op_move lb (.tmp rfl)) ?_
 replace hm := bnd_inv hm
 obtain ⟨⟨v_17, x_18⟩, hv_v_17, hm⟩ := hm
 refine jx (op_call (js := [0]) ld cl38 (sim_wire_Read'2 k v_10 v_11 x_6 go_7 gc_8 (v_17, x_18) hv_v_17) .func (.cons (.tmp rfl) .nil) rfl) (fun q => ?_)
 obtain ⟨gb_19, go_20, gc_21⟩ := q
 refine jx (op_alloc lb tZ66 zr66) (fun q => ?_)
 obtain ⟨gb_22, hqq⟩ : ∃ z, z = q := ⟨_, rfl⟩
 subst hqq
 refine jc (op_storeW (j := 5) tS66 (.tmp rfl) (.tmp rfl) rfl (UpdR.self (by rfl)) rfl) ?_
 refine JL.nil ?_
 refine JQ.then ?_
 refine JC.seq ?_
 refine JC.region ?_
 refine jc (op_makeFunc lb (.cons (.tmp rfl) .nil)) ?_
 refine jc (op_assign lb (.tmp rfl)) ?_
 refine JL.sub ⟨[(2, ov (PTR gb_9 0)), (6, ov (CLO 63 [PTR gb_22 0]))], [cvar gb_19 (rP (rW (HDX go_20 ((0) * 1) x_18)) (rP rB (rP rB r0))) ((), (true, (true, ()))), cown go_20 (rU UInt8) v_17 0 gc_21, cown go_7 (rU UInt8) x_6 0 gc_8, cvar gb_5 (rP (rW (HDX go_7 (x_13 * 1) x_14)) (rP rB (rP rB r0))) ((), (x_15, (x_16, ()))), cvar gb_9 (rV 16 (rU UInt64)) (Vector.replicate 16 (0 : UInt64)), cvar gb_22 (rW (PTR gb_19 0)) ()], []⟩ (.cons rfl (.cons rfl .nil)) rfl rfl ?_
 refine JL.nil ?_
 refine JQ.then ?_
 replace hm := bnd_inv hm
 obtain ⟨v_38, hx1, hq1⟩ := hm
 refine JC.seqJ (γ := Unit) (stj := fun q => ⟨[(2, ov (PTR gb_9 0))], [cvar gb_9 (rV 16 (rU UInt64)) v_38, cvar gb_5 (rP (rW (HDX go_7 (x_13 * 1) x_14)) (rP rB (rP rB r0))) ((), (x_15, (x_16, ()))), cown go_7 (rU UInt8) x_6 0 gc_8], []⟩) (fun q => ?_) ?_
 · obtain _ := q
   refine JC.at ⟨[(2, ov (PTR gb_9 0))], [cvar gb_9 (rV 16 (rU UInt64)) v_38, cvar gb_5 (rP (rW (HDX go_7 (x_13 * 1) x_14)) (rP rB (rP rB r0))) ((), (x_15, (x_16, ()))), cown go_7 (rU UInt8) x_6 0 gc_8], []⟩ ?_
   refine JC.seq ?_
   refine JC.region ?_
   refine jc (op_loadA (j := 0) lb tA26 (.tmp rfl) rfl (Comp.self (rV 16 (rU UInt64)) v_38) rfl) ?_
   refine jc (op_storeA (j := 0) tA26 (.tmp rfl) (.tmp rfl) rfl (UpdR.self (by rfl)) rfl) ?_
   refine JL.nil ?_
   refine JQ.then ?_
   refine JC.ret ?_
   replace hq1 := Option.some.inj hq1
   subst hq1
   exact JQ.done (js := [1, 1]) (ss := [.val (A (rV 16 (rU UInt64)) v_38)]) () (.inl rfl) (.nil rfl) rfl (.cons (.cellA (j := 0) tA26 rfl rfl) .nil) rfl rfl rfl
 · refine JC.seq ?_
   refine JC.region ?_
   refine jc (op_move lb .cI) ?_
   refine JL.nil ?_
   refine JQ.then ?_
   refine JC.block ?_
   refine JC.pre ?_ (JC.loop (γ := Unit) (stf := fun s q => ⟨[(2, ov (PTR gb_9 0)), (6, ov (CLO 63 [PTR gb_22 0])), (16, ov (S (rI .i64) s.2.2.2.2.2))], [cvar gb_9 (rV 16 (rU UInt64)) s.1, cvar gb_22 (rW (PTR gb_19 0)) (), cvar gb_19 (rP (rW (HDX go_20 (s.2.1 * 1) s.2.2.1)) (rP rB (rP rB r0))) ((), (s.2.2.2.1, (s.2.2.2.2.1, ()))), cown go_20 (rU UInt8) v_17 0 gc_21, cvar gb_5 (rP (rW (HDX go_7 (x_13 * 1) x_14)) (rP rB (rP rB r0))) ((), (x_15, (x_16, ()))), cown go_7 (rU UInt8) x_6 0 gc_8], []⟩) (q := ()) hx1 ?_)
   · exact (Imp.norm (js := [4, 4, 0, 0, 1, 0]) rfl (.cons rfl (.cons rfl (.cons rfl .nil))))
   · intro s q x hx hr
     obtain ⟨v_23, x_24, x_25, x_26, x_27, x_28⟩ := s
     obtain _ := q
     change wire_Reader_Vector.b1 k v_17 v_23 x_24 x_25 x_26 x_27 x_28 = some x at hx
     unfold wire_Reader_Vector.b1 at hx
     refine JC.at ⟨[(2, ov (PTR gb_9 0)), (6, ov (CLO 63 [PTR gb_22 0])), (16, ov (S (rI .i64) x_28))], [cvar gb_9 (rV 16 (rU UInt64)) v_23, cvar gb_22 (rW (PTR gb_19 0)) (), cvar gb_19 (rP (rW (HDX go_20 (x_24 * 1) x_25)) (rP rB (rP rB r0))) ((), (x_26, (x_27, ()))), cown go_20 (rU UInt8) v_17 0 gc_21, cvar gb_5 (rP (rW (HDX go_7 (x_13 * 1) x_14)) (rP rB (rP rB r0))) ((), (x_15, (x_16, ()))), cown go_7 (rU UInt8) x_6 0 gc_8], []⟩ ?_
     refine JC.seq ?_
     refine JC.region ?_
     replace hx := lt1_inv hx
     obtain ⟨v_29, hv_v_29, hx⟩ := hx
     refine jc (op_cmpI lb (.tmp rfl) .cI (congrArg some hv_v_29)) ?_
     refine JL.nil ?_
     refine JQ.then ?_
     refine JC.seq ?_
     replace hx := iteB_inv hx
     rcases hx with ⟨hc3, hx⟩ | ⟨hc3, hx⟩
     · refine JC.condT (.tmp rfl) hc3 ?_
       refine JC.skip ?_
       refine JQ.then ?_
       refine JC.seq ?_
       refine JC.block ?_
       refine JC.seq ?_
       refine JC.region ?_
       refine jc (op_move lb (.tmp rfl)) ?_
       refine jc (op_assign lb (.tmp rfl)) ?_
       refine JL.nil ?_
       refine JQ.then ?_
       refine JC.region ?_
       refine jc (op_move lb (.tmp rfl)) ?_
       refine jc (op_move lb (.tmp rfl)) ?_
       replace hx := bnd_inv hx
       obtain ⟨⟨v_30, x_31, x_32, x_33, x_34⟩, hv_v_30, hx⟩ := hx
       refine jx (op_call (js := [1, 1, 1]) ld cl63 (sim_wire_Reader_Vector_1 k x_24 x_25 x_26 x_27 v_17 gb_22 gb_19 go_20 gc_21 (v_30, x_31, x_32, x_33, x_34) hv_v_30) (.tmp rfl) .nil rfl) (fun _ => ?_)
       replace hx := bnd_inv hx
       obtain ⟨i_35, hv_i_35, hx⟩ := hx
       refine jc (op_indexAddrIF lb tr26 (.tmp rfl) (.tmp rfl) hv_i_35) ?_
       replace hx := lt1_inv hx
       obtain ⟨v_36, hv_v_36, hx⟩ := hx
       refine jc (op_storeS (j := 3) tS22 (.tmp rfl) (.tmp rfl) rfl rfl (Upd.at (Comp.self (rV 16 (rU UInt64)) v_23) i_35.2 rfl (Upd.self (rV 16 (rU UInt64)) v_23 _)).R hv_v_36) ?_
       refine JL.sub ⟨[(2, ov (PTR gb_9 0)), (6, ov (CLO 63 [PTR gb_22 0])), (16, ov (S (rI .i64) x_28))], [cvar gb_22 (rW (PTR gb_19 0)) (), cvar gb_19 (rP (rW (HDX go_20 (x_31 * 1) x_32)) (rP rB (rP rB r0))) ((), (x_33, (x_34, ()))), cown go_20 (rU UInt8) v_17 0 gc_21, cvar gb_9 (rV 16 (rU UInt64)) v_36, cvar gb_5 (rP (rW (HDX go_7 (x_13 * 1) x_14)) (rP rB (rP rB r0))) ((), (x_15, (x_16, ()))), cown go_7 (rU UInt8) x_6 0 gc_8], []⟩ (.cons rfl (.cons rfl (.cons rfl .nil))) rfl rfl ?_
       refine JL.nil ?_
       refine JQ.outNB ?_
       refine JQ.then ?_
       refine JC.region ?_
       replace hx := lt1_inv hx
       obtain ⟨v_37, hv_v_37, hx⟩ := hx
       refine jc (op_arI lb (.tmp rfl) .cI (congrArg some hv_v_37)) ?_
       refine jc (op_move lb (.tmp rfl)) ?_
       refine JL.nil ?_
       replace hx := Option.some.inj hx
       first | subst hx | clear hx
       exact JQ.next () rfl (Imp.norm (js := [3, 0, 0, 0, 0, 0]) rfl (.cons rfl (.cons rfl (.cons rfl .nil))))
     · refine JC.condF (.tmp rfl) hc3 ?_
       refine JC.exit ?_
       refine JQ.outX ?_
       replace hx := Option.some.inj hx
       first | subst hx | clear hx
       have ht := hr _ rfl
       have hq2 := congrArg some ht
       clear hr ht
       refine JQ.outX ?_
       refine JQ.here ?_
       replace hq2 := Option.some.inj hq2
       first | subst hq2 | clear hq2
       exact JQ.join () (Imp.norm (js := [0, 3, 3]) rfl (.cons rfl .nil))

theorem sim_wire_Reader_Left (k : Nat) (o_1 : Nat) (n_2 : Nat) (is_3 : Bool) (made_4 : Bool) (x_6 : (List UInt8)) (gb_5 : Nat) (go_7 : Option Nat) (gc_8 : Nat) (r : Int) (hm : wire_Reader_Left k o_1 n_2 is_3 made_4 x_6 = some r) : Sim Try.prog 43 [PTR gb_5 0] [cvar gb_5 (rP (rW (HDX go_7 (o_1 * 1) n_2)) (rP rB (rP rB r0))) ((), (is_3, (made_4, ()))), cown go_7 (rU UInt8) x_6 0 gc_8] (γ := Unit) (fun q => [cvar gb_5 (rP (rW (HDX go_7 (o_1 * 1) n_2)) (rP rB (rP rB r0))) ((), (is_3, (made_4, ()))), cown go_7 (rU UInt8) x_6 0 gc_8]) (fun q => .one (.val (S (rI .i64) r))) := by
 unfold wire_Reader_Left at hm
 refine Sim.of Try.func43 rfl rfl (Nat.le_of_ble_eq_true rfl) (fun e0 w0 => ?_)
 refine JC.at ⟨[(0, ov (PTR gb_5 0))], [cvar gb_5 (rP (rW (HDX go_7 (o_1 * 1) n_2)) (rP rB (rP rB r0))) ((), (is_3, (made_4, ()))), cown go_7 (rU UInt8) x_6 0 gc_8], []⟩ ?_
 refine JC.seq ?_
 refine JC.region ?_
 refine jc (op_assign lb .cI) ?_
 refine JL.nil ?_
 refine JQ.then ?_
 refine JC.seq ?_
 refine JC.seq ?_
 refine JC.region ?_
 refine jc (op_move lb (.tmp rfl)) ?_
 replace hm := bnd_inv hm
 obtain ⟨v_9, hv_v_9, hm⟩ := hm
 refine jx (op_call (js := [0, 0]) ld cl65 (sim_wire_Reader_Failed k o_1 n_2 is_3 made_4 x_6 gb_5 go_7 gc_8 v_9 hv_v_9) .func (.cons (.tmp rfl) .nil) rfl) (fun _ => ?_)
 refine JL.nil ?_
 refine JQ.then ?_
 replace hm := iteB_inv hm
 rcases hm with ⟨hc1, hm⟩ | ⟨hc1, hm⟩
 · refine JC.condT (.tmp rfl) hc1 ?_
   refine JC.seq ?_
   refine JC.region ?_
   refine jc (op_assign lb .cI) ?_
   refine JL.nil ?_
   refine JQ.then ?_
   refine JC.ret ?_
   refine JQ.outR ?_
   replace hm := Option.some.inj hm
   subst hm
   exact JQ.done (js := [0, 0]) (ss := [.val (S (rI .i64) (0 : Int))]) () (.inl rfl) (.nil rfl) rfl (.cons (.tmp rfl) .nil) rfl rfl rfl
 · refine JC.condF (.tmp rfl) hc1 ?_
   refine JC.skip ?_
   refine JQ.then ?_
   refine JC.seq ?_
   refine JC.region ?_
   refine jc (op_move lb (.tmp rfl)) ?_
   refine jc (op_nilCheck lb (.tmp rfl) (fun e v h => by subst h; rfl)) ?_
   refine jc (op_fieldAddr (off := 0) lb tf88_0 (.tmp rfl)) ?_
   refine jc (op_loadW (j := 0) lb tS35 (.tmp rfl) rfl (Comp.trans (Comp.self (rP (rW (HDX go_7 (o_1 * 1) n_2)) (rP rB (rP rB r0))) ((), (is_3, (made_4, ())))) (Comp.at' (Comp.inF (Comp.self (rW (HDX go_7 (o_1 * 1) n_2)) ()) (Nat.le_of_ble_eq_true rfl)) (by rfl : _ = 0)) (Nat.le_of_ble_eq_true rfl))) ?_
   refine jc (op_lenX lb tu35 (.tmp rfl)) ?_
   refine jc (op_assign lb (.tmp rfl)) ?_
   refine JL.nil ?_
   refine JQ.then ?_
   refine JC.ret ?_
   replace hm := Option.some.inj hm
   subst hm
   exact JQ.done (js := [0, 0]) (ss := [.val (S (rI .i64) ((n_2 : Nat) : Int))]) () (.inl rfl) (.nil rfl) rfl (.cons (.tmp rfl) .nil) rfl rfl rfl

end Go.Proofs.Ythoggbomakolkaa
