/- Walks. -/
import Derived.Test.YtkbkdfcakpbojaaT
import Derived.Test.YtkbkdfcakpbojaaW0
import Derived.Test.YtkbkdfcakpbojaaW1
import Derived.Test.YtkbkdfcakpbojaaW2
namespace Go.Proofs.Ytkbkdfcakpbojaa
open Go Fw
set_option linter.unusedVariables false
set_option maxRecDepth 100000
set_option maxHeartbeats 4000000

theorem sim_ref01_Put (k : Nat) (n_1 : UInt64) (size_2 : Int) (r : (List UInt8)) (hm : ref01_Put k n_1 size_2 = some r) : Sim Try.prog 12 [S (rU UInt64) n_1, S (rI .i64) size_2] [] (γ := Option Nat) (fun q => [cown q (rU UInt8) r 0 (Int.toNat size_2)]) (fun q => .one (.val (HDR q 0 (List.length r) (Int.toNat size_2)))) := by
 unfold ref01_Put at hm
 refine Sim.of Try.func12 rfl rfl (Nat.le_of_ble_eq_true rfl) (fun e0 w0 => ?_)
 refine JC.at ⟨[(0, ov (S (rU UInt64) n_1)), (1, ov (S (rI .i64) size_2))], [], []⟩ ?_
 refine JC.seq ?_
 refine JC.region ?_
 refine jc (op_assign lb HasO.nilH) ?_
 refine JL.nil ?_
 refine JQ.then ?_
 refine JC.seq ?_
 refine JC.region ?_
 refine jc (op_move lb (.tmp rfl)) ?_
 replace hm := bnd_inv hm
 obtain ⟨v_3, hv_v_3, hm⟩ := hm
 refine jx (op_makeOg lb tu23 tB5 zv5 (.tmp rfl) (.tmp rfl) hv_v_3) (fun q => ?_)
 obtain ⟨gb_4, hqq⟩ : ∃ z, z = q := ⟨_, rfl⟩
 subst hqq
 refine jc (op_assign lb (.tmp rfl)) ?_
 refine JL.nil ?_
 refine JQ.then ?_
 replace hm := bnd_inv hm
 obtain ⟨b_16, hx1, hq1⟩ := hm
 refine JC.seqJ (γ := Unit) (stj := fun q => ⟨[(5, ov (HDR (some gb_4) 0 (List.length b_16) (Int.toNat size_2)))], [cown (some gb_4) (rU UInt8) b_16 0 (Int.toNat size_2)], []⟩) (fun q => ?_) ?_
 · obtain _ := q
   refine JC.at ⟨[(5, ov (HDR (some gb_4) 0 (List.length b_16) (Int.toNat size_2)))], [cown (some gb_4) (rU UInt8) b_16 0 (Int.toNat size_2)], []⟩ ?_
   refine JC.seq ?_
   refine JC.region ?_
   refine jc (op_move lb (.tmp rfl)) ?_
   refine jc (op_assign lb (.tmp rfl)) ?_
   refine JL.nil ?_
   refine JQ.then ?_
   refine JC.ret ?_
   replace hq1 := Option.some.inj hq1
   subst hq1
   exact JQ.done (js := [0]) (ss := [.val (HDR (some gb_4) 0 (List.length b_16) (Int.toNat size_2))]) (some gb_4) (.inl rfl) (.nil rfl) rfl (.cons (.tmp rfl) .nil) rfl rfl rfl
 · refine JC.seq ?_
   refine JC.region ?_
   refine jc (op_move lb (.tmp rfl)) ?_
   replace hx1 := lt1_inv hx1
   obtain ⟨v_5, hv_v_5, hx1⟩ := hx1
   refine jc (op_arI lb (.tmp rfl) .cI (congrArg some hv_v_5)) ?_
   refine jc (op_assign lb (.tmp rfl)) ?_
   refine JL.nil ?_
   refine JQ.then ?_
   refine JC.block ?_
   refine JC.pre ?_ (JC.loop (γ := Unit) (stf := fun s q => ⟨[(0, ov (S (rU UInt64) s.1)), (5, ov (HDR (some gb_4) 0 (List.length s.2.1) (Int.toNat size_2))), (6, ov (S (rI .i64) s.2.2))], [cown (some gb_4) (rU UInt8) s.2.1 0 (Int.toNat size_2)], []⟩) (q := ()) hx1 ?_)
   · exact (Imp.norm (js := [0]) rfl (.cons rfl (.cons rfl (.cons rfl .nil))))
   · intro s q x hx hr
     obtain ⟨n_6, b_7, i_8⟩ := s
     obtain _ := q
     change ref01_Put.b1 k n_6 b_7 i_8 = some x at hx
     unfold ref01_Put.b1 at hx
     refine JC.at ⟨[(0, ov (S (rU UInt64) n_6)), (5, ov (HDR (some gb_4) 0 (List.length b_7) (Int.toNat size_2))), (6, ov (S (rI .i64) i_8))], [cown (some gb_4) (rU UInt8) b_7 0 (Int.toNat size_2)], []⟩ ?_
     refine JC.seq ?_
     refine JC.seq ?_
     refine JC.region ?_
     refine jc (op_move lb (.tmp rfl)) ?_
     replace hx := lt1_inv hx
     obtain ⟨v_9, hv_v_9, hx⟩ := hx
     refine jc (op_cmpI lb (.tmp rfl) .cI (congrArg some hv_v_9)) ?_
     refine JL.nil ?_
     refine JQ.then ?_
     replace hx := iteB_inv hx
     rcases hx with ⟨hc3, hx⟩ | ⟨hc3, hx⟩
     · refine JC.condT (.tmp rfl) hc3 ?_
       refine JC.skip ?_
       refine JQ.then ?_
       refine JC.seq ?_
       refine JC.block ?_
       refine JC.seq ?_
       refine JC.region ?_
       refine jc (op_move lb (.tmp rfl)) ?_
       refine jc (op_move lb (.tmp rfl)) ?_
       refine jc (op_move lb (.tmp rfl)) ?_
       replace hx := bnd_inv hx
       obtain ⟨v_10, hv_v_10, hx⟩ := hx
       refine jc (op_arU lb (.tmp rfl) (HasO.cU (x := (256 : UInt64)) rfl (by decide)) hv_v_10) ?_
       replace hx := lt1_inv hx
       obtain ⟨v_11, hv_v_11, hx⟩ := hx
       refine jc (op_convUU lb tu22 tu5 (.tmp rfl) hv_v_11) ?_
       replace hx := bnd_inv hx
       obtain ⟨i_12, hv_i_12, hx⟩ := hx
       refine jc (op_indexAddrOF (r := (rU UInt8)) (j := 0) lb tu23 tz5 rfl (.tmp rfl) (.tmp rfl) hv_i_12) ?_
       replace hx := bnd_inv hx
       obtain ⟨b_13, hv_b_13, hx⟩ := hx
       refine jc (op_storeOSg (r := (rU UInt8)) (j := 0) tS5 rfl rfl (.tmp rfl) (.tmp rfl) hv_b_13) ?_
       refine JL.pre (Imp.slot (s := 5) (q := HDR (some gb_4) 0 (List.length b_13) (Int.toNat size_2)) rfl (wkLen (setO'_len hv_b_13))) ?_
       refine JL.pre (Imp.slot (s := 15) (q := HDR (some gb_4) 0 (List.length b_13) (Int.toNat size_2)) rfl (wkLen (setO'_len hv_b_13))) ?_
       refine JL.nil ?_
       refine JQ.then ?_
       refine JC.region ?_
       refine jc (op_move lb (.tmp rfl)) ?_
       refine JL.sub ⟨[(0, ov (S (rU UInt64) n_6)), (5, ov (HDR (some gb_4) 0 (List.length b_13) (Int.toNat size_2))), (6, ov (S (rI .i64) i_8)), (21, ov (S (rU UInt64) n_6))], [cown (some gb_4) (rU UInt8) b_13 0 (Int.toNat size_2)], []⟩ (.cons rfl (.cons rfl (.cons rfl (.cons rfl .nil)))) rfl rfl ?_
       replace hx := bnd_inv hx
       obtain ⟨v_14, hv_v_14, hx⟩ := hx
       refine jc (op_arU lb (.tmp rfl) (HasO.cU (x := (256 : UInt64)) rfl (by decide)) hv_v_14) ?_
       refine jc (op_assign lb (.tmp rfl)) ?_
       refine JL.nil ?_
       refine JQ.outNB ?_
       refine JQ.then ?_
       refine JC.region ?_
       refine jc (op_move lb (.tmp rfl)) ?_
       replace hx := lt1_inv hx
       obtain ⟨v_15, hv_v_15, hx⟩ := hx
       refine jc (op_arI lb (.tmp rfl) .cI (congrArg some hv_v_15)) ?_
       refine jc (op_assign lb (.tmp rfl)) ?_
       refine JL.nil ?_
       replace hx := Option.some.inj hx
       first | subst hx | clear hx
       exact JQ.next () rfl (Imp.norm (js := [0]) rfl (.cons rfl (.cons rfl (.cons rfl .nil))))
     · refine JC.condF (.tmp rfl) hc3 ?_
       refine JC.exit ?_
       refine JQ.outX ?_
       replace hx := Option.some.inj hx
       first | subst hx | clear hx
       have ht := hr _ rfl
       have hq2 := congrArg some ht
       clear hr ht
       refine JQ.outX ?_
       refine JQ.here ?_
       replace hq2 := Option.some.inj hq2
       first | subst hq2 | clear hq2
       exact JQ.join () (Imp.norm (js := [0]) rfl (.cons rfl .nil))

theorem sim_ref01_Get (k : Nat) (b_1 : (List UInt8)) (r : UInt64) (hm : ref01_Get k b_1 = some r) : Sim Try.prog 15 [S (rL (rU UInt8)) b_1] [] (γ := Unit) (fun q => []) (fun q => .one (.val (S (rU UInt64) r))) := by
 unfold ref01_Get at hm
 refine Sim.of Try.func15 rfl rfl (Nat.le_of_ble_eq_true rfl) (fun e0 w0 => ?_)
 refine JC.at ⟨[(0, ov (S (rL (rU UInt8)) b_1))], [], []⟩ ?_
 refine JC.seq ?_
 refine JC.region ?_
 refine jc (op_assign lb (HasO.cU (x := (0 : UInt64)) rfl (by decide))) ?_
 refine JL.nil ?_
 refine JQ.then ?_
 refine JC.seq ?_
 refine JC.region ?_
 refine jc (op_assign lb (HasO.cU (x := (0 : UInt64)) rfl (by decide))) ?_
 refine JL.nil ?_
 refine JQ.then ?_
 replace hm := bnd_inv hm
 obtain ⟨n_10, hx1, hq1⟩ := hm
 refine JC.seqJ (γ := Unit) (stj := fun q => ⟨[(3, ov (S (rU UInt64) n_10))], [], []⟩) (fun q => ?_) ?_
 · obtain _ := q
   refine JC.at ⟨[(3, ov (S (rU UInt64) n_10))], [], []⟩ ?_
   refine JC.seq ?_
   refine JC.region ?_
   refine jc (op_move lb (.tmp rfl)) ?_
   refine jc (op_assign lb (.tmp rfl)) ?_
   refine JL.nil ?_
   refine JQ.then ?_
   refine JC.ret ?_
   replace hq1 := Option.some.inj hq1
   subst hq1
   exact JQ.done (js := []) (ss := [.val (S (rU UInt64) n_10)]) () (.inl rfl) (.nil rfl) rfl (.cons (.tmp rfl) .nil) rfl rfl rfl
 · refine JC.seq ?_
   refine JC.region ?_
   refine jc (op_assign lb .cI) ?_
   refine JL.nil ?_
   refine JQ.then ?_
   refine JC.block ?_
   refine JC.pre ?_ (JC.loop (γ := Unit) (stf := fun s q => ⟨[(0, ov (S (rL (rU UInt8)) b_1)), (3, ov (S (rU UInt64) s.1)), (4, ov (S (rI .i64) s.2))], [], []⟩) (q := ()) hx1 ?_)
   · exact (Imp.norm (js := []) rfl (.cons rfl (.cons rfl (.cons rfl .nil))))
   · intro s q x hx hr
     obtain ⟨n_2, i_3⟩ := s
     obtain _ := q
     change ref01_Get.b1 k b_1 n_2 i_3 = some x at hx
     unfold ref01_Get.b1 at hx
     refine JC.at ⟨[(0, ov (S (rL (rU UInt8)) b_1)), (3, ov (S (rU UInt64) n_2)), (4, ov (S (rI .i64) i_3))], [], []⟩ ?_
     refine JC.seq ?_
     refine JC.seq ?_
     refine JC.region ?_
     refine jc (op_move lb (.tmp rfl)) ?_
     refine jc (op_move lb (.tmp rfl)) ?_
     refine jc (op_lenL lb tu23 (.tmp rfl)) ?_
     replace hx := lt1_inv hx
     obtain ⟨v_4, hv_v_4, hx⟩ := hx
     refine jc (op_cmpI lb (.tmp rfl) (.tmp rfl) (congrArg some hv_v_4)) ?_
     refine JL.nil ?_
     refine JQ.then ?_
     replace hx := iteB_inv hx
     rcases hx with ⟨hc3, hx⟩ | ⟨hc3, hx⟩
     · refine JC.condT (.tmp rfl) hc3 ?_
       refine JC.skip ?_
       refine JQ.then ?_
       refine JC.seq ?_
       refine JC.block ?_
       refine JC.region ?_
       refine jc (op_move lb (.tmp rfl)) ?_
       replace hx := lt1_inv hx
       obtain ⟨v_5, hv_v_5, hx⟩ := hx
       refine jc (op_arU lb (.tmp rfl) (HasO.cU (x := (256 : UInt64)) rfl (by decide)) (congrArg some hv_v_5)) ?_
       refine jc (op_move lb (.tmp rfl)) ?_
       refine jc (op_move lb (.tmp rfl)) ?_
       replace hx := bnd_inv hx
       obtain ⟨v_6, hv_v_6, hx⟩ := hx
       refine jc (op_indexAddrLg lb tu23 tz5 (.tmp rfl) (.tmp rfl) hv_v_6) ?_
       refine jc (op_loadPSg lb tS5 rfl (.tmp rfl) rfl) ?_
       replace hx := lt1_inv hx
       obtain ⟨v_7, hv_v_7, hx⟩ := hx
       refine jc (op_convUU lb tu5 tu22 (.tmp rfl) hv_v_7) ?_
       replace hx := lt1_inv hx
       obtain ⟨v_8, hv_v_8, hx⟩ := hx
       refine jc (op_arU lb (.tmp rfl) (.tmp rfl) (congrArg some hv_v_8)) ?_
       refine JL.sub ⟨[(0, ov (S (rL (rU UInt8)) b_1)), (3, ov (S (rU UInt64) n_2)), (4, ov (S (rI .i64) i_3)), (18, ov (S (rU UInt64) v_8))], [], []⟩ (.cons rfl (.cons rfl (.cons rfl (.cons rfl .nil)))) rfl rfl ?_
       refine jc (op_assign lb (.tmp rfl)) ?_
       refine JL.nil ?_
       refine JQ.outNB ?_
       refine JQ.then ?_
       refine JC.region ?_
       refine jc (op_move lb (.tmp rfl)) ?_
       replace hx := lt1_inv hx
       obtain ⟨v_9, hv_v_9, hx⟩ := hx
       refine jc (op_arI lb (.tmp rfl) .cI (congrArg some hv_v_9)) ?_
       refine jc (op_assign lb (.tmp rfl)) ?_
       refine JL.nil ?_
       replace hx := Option.some.inj hx
       first | subst hx | clear hx
       exact JQ.next () rfl (Imp.norm (js := []) rfl (.cons rfl (.cons rfl (.cons rfl .nil))))
     · refine JC.condF (.tmp rfl) hc3 ?_
       refine JC.exit ?_
       refine JQ.outX ?_
       replace hx := Option.some.inj hx
       first | subst hx | clear hx
       have ht := hr _ rfl
       have hq2 := congrArg some ht
       clear hr ht
       refine JQ.outX ?_
       refine JQ.here ?_
       replace hq2 := Option.some.inj hq2
       first | subst hq2 | clear hq2
       exact JQ.join () (Imp.norm (js := []) rfl (.cons rfl .nil))

theorem sim_law01_WireNumbers (k : Nat) (t_1 : UInt64) (a_2 : Int) (a_3 : (List UInt8)) (r : Bool) (hm : law01_WireNumbers k t_1 a_2 a_3 = some r) : Sim Try.prog 3 [S (rU UInt64) t_1, S (rI .i64) a_2, S (rL (rU UInt8)) a_3] [] (γ := Unit) (fun q => []) (fun q => .one (.val (S rB r))) := by
 unfold law01_WireNumbers at hm
 refine Sim.of Try.func3 rfl rfl (Nat.le_of_ble_eq_true rfl) (fun e0 w0 => ?_)
 refine JC.at ⟨[(0, ov (S (rU UInt64) t_1)), (1, ov (S (rI .i64) a_2)), (2, ov (S (rL (rU UInt8)) a_3))], [], []⟩ ?_
 refine JC.seq ?_
 refine JC.region ?_
 refine jc (op_assign lb .cB) ?_
 refine JL.nil ?_
 refine JQ.then ?_
 refine JC.seq ?_
 refine JC.seq ?_
 refine JC.region ?_
 refine jc (op_move lb (.tmp rfl)) ?_
 refine jc (op_lenL lb tu23 (.tmp rfl)) ?_
 replace hm := lt1_inv hm
 obtain ⟨v_4, hv_v_4, hm⟩ := hm
 refine jc (op_cmpI lb (.tmp rfl) .cI (congrArg some hv_v_4)) ?_
 refine JL.nil ?_
 refine JQ.then ?_
 replace hm := iteB_inv hm
 rcases hm with ⟨hc1, hm⟩ | ⟨hc1, hm⟩
 · refine JC.condT (.tmp rfl) hc1 ?_
   refine JC.seq ?_
   refine JC.region ?_
   replace hm := bnd_inv hm
   obtain ⟨v_5, hv_v_5, hm⟩ := hm
   refine jx (op_call (js := []) ld cl9 (sim_law01_known k v_5 hv_v_5) .func .nil rfl) (fun _ => ?_)
   refine jc (op_assign lb (.tmp rfl)) ?_
   refine JL.nil ?_
   refine JQ.then ?_
   refine JC.ret ?_
   refine JQ.outR ?_
   replace hm := Option.some.inj hm
   subst hm
   exact JQ.done (js := []) (ss := [.val (S rB v_5)]) () (.inl rfl) (.nil rfl) rfl (.cons (.tmp rfl) .nil) rfl rfl rfl
 · refine JC.condF (.tmp rfl) hc1 ?_
   refine JC.skip ?_
   refine JQ.then ?_
   refine JC.seq ?_
   refine JC.region ?_
   refine jc (op_move lb (.tmp rfl)) ?_
   refine jc (op_move lb (.tmp rfl)) ?_
   replace hm := bnd_inv hm
   obtain ⟨⟨v_6, v_7⟩, hv_v_6, hm⟩ := hm
   refine jx (op_call (js := []) ld cl10 (sim_wire_Put k t_1 a_2 (v_6, v_7) hv_v_6) .func (.cons (.tmp rfl) (.cons (.tmp rfl) .nil)) rfl) (fun q => ?_)
   obtain ⟨go_8, gc_9⟩ := q
   refine jc (op_move lb (.tmp rfl)) ?_
   refine jc (op_extract (i := 0) lb (.tmp rfl) rfl) ?_
   refine jc (op_extract (i := 1) lb (.tmp rfl) rfl) ?_
   refine JL.sub ⟨[(0, ov (S (rU UInt64) t_1)), (1, ov (S (rI .i64) a_2)), (2, ov (S (rL (rU UInt8)) a_3)), (19, ov (HDR go_8 0 (List.length v_6) gc_9)), (20, ov (S (rI .i64) v_7))], [cown go_8 (rU UInt8) v_6 0 gc_9], []⟩ (.cons rfl (.cons rfl (.cons rfl (.cons rfl (.cons rfl .nil))))) rfl rfl ?_
   refine jc (op_assign lb (.tmp rfl)) ?_
   refine jc (op_assign lb (.tmp rfl)) ?_
   refine JL.nil ?_
   refine JQ.then ?_
   replace hm := bnd_inv hm
   obtain ⟨tv2, hx2, hq2⟩ := hm
   refine JC.seqK (α := Unit) (γ := Unit) (stj := fun v q => ⟨[(2, ov (S (rL (rU UInt8)) a_3))], [], []⟩) (p := fun v => tv2 = (.inl v)) (fun v q hv => ?_) ?_
   · subst hv
     skip
     obtain _ := q
     dsimp only at hq2
     refine JC.at ⟨[(2, ov (S (rL (rU UInt8)) a_3))], [], []⟩ ?_
     refine JC.seq ?_
     refine JC.region ?_
     refine jc (op_move lb (.tmp rfl)) ?_
     replace hq2 := bnd_inv hq2
     obtain ⟨⟨v_23, v_24⟩, hv_v_23, hq2⟩ := hq2
     refine jx (op_call (js := []) ld cl14 (sim_wire_Get k a_3 (v_23, v_24) hv_v_23) .func (.cons (.tmp rfl) .nil) rfl) (fun _ => ?_)
     refine jc (op_move lb (.tmp rfl)) ?_
     refine jc (op_extract (i := 0) lb (.tmp rfl) rfl) ?_
     refine jc (op_extract (i := 1) lb (.tmp rfl) rfl) ?_
     refine jc (op_assign lb (.tmp rfl)) ?_
     refine jc (op_assign lb (.tmp rfl)) ?_
     refine JL.nil ?_
     refine JQ.then ?_
     refine JC.seq ?_
     replace hq2 := bnd_inv hq2
     obtain ⟨x_28, hx16, hq16⟩ := hq2
     refine JC.seqJ (γ := Unit) (stj := fun q => ⟨[(2, ov (S (rL (rU UInt8)) a_3)), (9, ov (S (rU UInt64) v_23)), (10, ov (S (rI .i64) v_24)), (56, ov (S rB x_28))], [], []⟩) (fun q => ?_) ?_
     · obtain _ := q
       refine JC.at ⟨[(2, ov (S (rL (rU UInt8)) a_3)), (9, ov (S (rU UInt64) v_23)), (10, ov (S (rI .i64) v_24)), (56, ov (S rB x_28))], [], []⟩ ?_
       replace hq16 := iteB_inv hq16
       rcases hq16 with ⟨hc21, hq16⟩ | ⟨hc21, hq16⟩
       · refine JC.condT (.tmp rfl) hc21 ?_
         replace hq16 := bnd_inv hq16
         obtain ⟨x_35, hx22, hq22⟩ := hq16
         refine JC.seqJ (γ := Unit) (stj := fun q => ⟨[(6, ov (S rB x_35))], [], []⟩) (fun q => ?_) ?_
         · obtain _ := q
           refine JC.at ⟨[(6, ov (S rB x_35))], [], []⟩ ?_
           refine JC.ret ?_
           refine JQ.outR ?_
           replace hq22 := Option.some.inj hq22
           subst hq22
           exact JQ.done (js := []) (ss := [.val (S rB x_35)]) () (.inl rfl) (.nil rfl) rfl (.cons (.tmp rfl) .nil) rfl rfl rfl
         · refine JC.region ?_
           refine jc (op_move lb (.tmp rfl)) ?_
           replace hx22 := lt1_inv hx22
           obtain ⟨v_29, hv_v_29, hx22⟩ := hx22
           refine jc (op_cmpU lb (.tmp rfl) (HasO.cU (x := (0 : UInt64)) rfl (by decide)) (congrArg some hv_v_29)) ?_
           refine jc (op_move lb (.tmp rfl)) ?_
           refine JL.cnd (sv := ov (S (rI .i64) v_24)) (Guard.isT (ltB rfl) rfl rfl) rfl (ltB rfl) (fun hq_23 => op_move lb (.tmp rfl)) ?_
           replace hx22 := bnd_inv hx22
           obtain ⟨_, hv_u_30, hx22⟩ := hx22
           refine JL.cnd (sv := ov (S (rI .i64) v_24)) (Guard.isT (ltB rfl) rfl rfl) rfl (ltB rfl) (fun hq_24 => (op_call (js := []) ld cl13 (sim_law01_num k v_24 () (ifT hv_u_30 hq_24)) .func (.cons (HasO.cnd (.tmp rfl) hq_24) .nil) rfl).post (fun _ => Imp.refl)) ?_
           replace hx22 := lt1_inv hx22
           obtain ⟨v_31, hv_v_31, hx22⟩ := hx22
           refine JL.cnd (sv := ov (S rB v_31)) (Guard.isT (ltB rfl) rfl rfl) rfl (ltB rfl) (fun hq_25 => op_cmpI lb (HasO.cnd (.tmp rfl) hq_25) .cI (congrArg some hv_v_31)) ?_
           replace hx22 := lt1_inv hx22
           obtain ⟨v_32, hv_v_32, hx22⟩ := hx22
           refine jc (op_pickCS lb (.tmp rfl) (fun hb26 => (HasO.cnd (.tmp rfl) hb26)) (fun hb26 => .cB) hv_v_32) ?_
           refine jc (op_move lb (.tmp rfl)) ?_
           replace hx22 := bnd_inv hx22
           obtain ⟨v_33, hv_v_33, hx22⟩ := hx22
           refine JL.cnd (sv := ov (S rB v_33)) (Guard.isT (ltB rfl) rfl rfl) rfl (ltB rfl) (fun hq_27 => (op_call (js := []) ld cl9 (sim_law01_known k v_33 (ifT hv_v_33 hq_27)) .func .nil rfl).post (fun _ => Imp.refl)) ?_
           replace hx22 := lt1_inv hx22
           obtain ⟨v_34, hv_v_34, hx22⟩ := hx22
           refine jc (op_pickCS lb (.tmp rfl) (fun hb28 => (HasO.cnd (.tmp rfl) hb28)) (fun hb28 => .cB) hv_v_34) ?_
           refine jc (op_assign lb (.tmp rfl)) ?_
           refine JL.nil ?_
           replace hx22 := Option.some.inj hx22
           first | subst hx22 | clear hx22
           exact JQ.join () (Imp.norm (js := []) rfl (.cons rfl .nil))
       · refine JC.condF (.tmp rfl) hc21 ?_
         refine JC.skip ?_
         refine JQ.then ?_
         replace hq16 := bnd_inv hq16
         obtain ⟨x_43, hx29, hq29⟩ := hq16
         refine JC.seqJ (γ := Unit) (stj := fun q => ⟨[(6, ov (S rB x_43))], [], []⟩) (fun q => ?_) ?_
         · obtain _ := q
           refine JC.at ⟨[(6, ov (S rB x_43))], [], []⟩ ?_
           refine JC.ret ?_
           replace hq29 := Option.some.inj hq29
           subst hq29
           exact JQ.done (js := []) (ss := [.val (S rB x_43)]) () (.inl rfl) (.nil rfl) rfl (.cons (.tmp rfl) .nil) rfl rfl rfl
         · refine JC.region ?_
           refine jc (op_move lb (.tmp rfl)) ?_
           refine jc (op_move lb (.tmp rfl)) ?_
           replace hx29 := bnd_inv hx29
           obtain ⟨v_36, hv_v_36, hx29⟩ := hx29
           refine jx (op_call (js := []) ld cl15 (sim_ref01_Get k a_3 v_36 hv_v_36) .func (.cons (.tmp rfl) .nil) rfl) (fun _ => ?_)
           replace hx29 := lt1_inv hx29
           obtain ⟨v_37, hv_v_37, hx29⟩ := hx29
           refine jc (op_cmpU lb (.tmp rfl) (.tmp rfl) (congrArg some hv_v_37)) ?_
           refine jc (op_move lb (.tmp rfl)) ?_
           refine JL.cnd (sv := ov (S (rI .i64) v_24)) (Guard.isT (ltB rfl) rfl rfl) rfl (ltB rfl) (fun hq_30 => op_move lb (.tmp rfl)) ?_
           replace hx29 := bnd_inv hx29
           obtain ⟨_, hv_u_38, hx29⟩ := hx29
           refine JL.cnd (sv := ov (S (rI .i64) v_24)) (Guard.isT (ltB rfl) rfl rfl) rfl (ltB rfl) (fun hq_31 => (op_call (js := []) ld cl13 (sim_law01_num k v_24 () (ifT hv_u_38 hq_31)) .func (.cons (HasO.cnd (.tmp rfl) hq_31) .nil) rfl).post (fun _ => Imp.refl)) ?_
           replace hx29 := lt1_inv hx29
           obtain ⟨v_39, hv_v_39, hx29⟩ := hx29
           refine JL.cnd (sv := ov (S rB v_39)) (Guard.isT (ltB rfl) rfl rfl) rfl (ltB rfl) (fun hq_32 => op_cmpI lb (HasO.cnd (.tmp rfl) hq_32) .cI (congrArg some hv_v_39)) ?_
           replace hx29 := lt1_inv hx29
           obtain ⟨v_40, hv_v_40, hx29⟩ := hx29
           refine jc (op_pickCS lb (.tmp rfl) (fun hb33 => (HasO.cnd (.tmp rfl) hb33)) (fun hb33 => .cB) hv_v_40) ?_
           refine jc (op_move lb (.tmp rfl)) ?_
           replace hx29 := bnd_inv hx29
           obtain ⟨v_41, hv_v_41, hx29⟩ := hx29
           refine JL.cnd (sv := ov (S rB v_41)) (Guard.isT (ltB rfl) rfl rfl) rfl (ltB rfl) (fun hq_34 => (op_call (js := []) ld cl9 (sim_law01_known k v_41 (ifT hv_v_41 hq_34)) .func .nil rfl).post (fun _ => Imp.refl)) ?_
           replace hx29 := lt1_inv hx29
           obtain ⟨v_42, hv_v_42, hx29⟩ := hx29
           refine jc (op_pickCS lb (.tmp rfl) (fun hb35 => (HasO.cnd (.tmp rfl) hb35)) (fun hb35 => .cB) hv_v_42) ?_
           refine JL.sub ⟨[(78, ov (S rB v_42))], [], []⟩ (.cons rfl .nil) rfl rfl ?_
           refine jc (op_assign lb (.tmp rfl)) ?_
           refine JL.nil ?_
           replace hx29 := Option.some.inj hx29
           first | subst hx29 | clear hx29
           exact JQ.join () (Imp.norm (js := []) rfl (.cons rfl .nil))
     · refine JC.region ?_
       refine jc (op_move lb (.tmp rfl)) ?_
       refine jc (op_lenL lb tu23 (.tmp rfl)) ?_
       replace hx16 := lt1_inv hx16
       obtain ⟨v_25, hv_v_25, hx16⟩ := hx16
       refine jc (op_cmpI lb (.tmp rfl) .cI (congrArg some hv_v_25)) ?_
       refine jc (op_move lb (.tmp rfl)) ?_
       refine JL.cnd (sv := ov (S (rL (rU UInt8)) a_3)) (Guard.isF (ltB rfl) rfl rfl) rfl (ltB rfl) (fun hq_17 => op_move lb (.tmp rfl)) ?_
       refine JL.sub ⟨[(2, ov (S (rL (rU UInt8)) a_3)), (9, ov (S (rU UInt64) v_23)), (10, ov (S (rI .i64) v_24)), (52, ov (S rB v_25)), (53, bif (!v_25) then ov (S (rL (rU UInt8)) a_3) else .one .und)], [], []⟩ (.cons rfl (.cons rfl (.cons rfl (.cons rfl (.cons rfl .nil))))) rfl rfl ?_
       refine JL.cnd (sv := ov (S (rI .i64) (List.length a_3 : Int))) (Guard.isF (ltB rfl) rfl rfl) rfl (ltB rfl) (fun hq_18 => op_lenL lb tu23 (HasO.cnd (.tmp rfl) (notT (notF hq_18)))) ?_
       replace hx16 := lt1_inv hx16
       obtain ⟨v_26, hv_v_26, hx16⟩ := hx16
       refine JL.cnd (sv := ov (S rB v_26)) (Guard.isF (ltB rfl) rfl rfl) rfl (ltB rfl) (fun hq_19 => op_cmpI lb (HasO.cnd (.tmp rfl) (notT (notF hq_19))) .cI (congrArg some hv_v_26)) ?_
       replace hx16 := lt1_inv hx16
       obtain ⟨v_27, hv_v_27, hx16⟩ := hx16
       refine jc (op_pickCS lb (.tmp rfl) (fun hb20 => .cB) (fun hb20 => (HasO.cnd (.tmp rfl) (notT hb20))) hv_v_27) ?_
       refine JL.nil ?_
       replace hx16 := Option.some.inj hx16
       first | subst hx16 | clear hx16
       exact JQ.join () (Imp.norm (js := []) rfl (.cons rfl (.cons rfl (.cons rfl (.cons rfl .nil)))))
   · refine JC.seq ?_
     refine JC.region ?_
     refine jc (op_move lb (.tmp rfl)) ?_
     refine jc (op_move lb (.tmp rfl)) ?_
     replace hx2 := bnd_inv hx2
     obtain ⟨v_10, hv_v_10, hx2⟩ := hx2
     refine jx (op_call (js := []) ld cl11 (sim_ref01_Room k t_1 a_2 v_10 hv_v_10) .func (.cons (.tmp rfl) (.cons (.tmp rfl) .nil)) rfl) (fun _ => ?_)
     refine JL.nil ?_
     refine JQ.then ?_
     replace hx2 := iteB_inv hx2
     rcases hx2 with ⟨hc3, hx2⟩ | ⟨hc3, hx2⟩
     · refine JC.condT (.tmp rfl) hc3 ?_
       replace hx2 := bnd_inv hx2
       obtain ⟨x_17, hx4, hq4⟩ := hx2
       refine JC.seqJ (γ := Unit) (stj := fun q => ⟨[(2, ov (S (rL (rU UInt8)) a_3)), (35, ov (S rB x_17))], [], []⟩) (fun q => ?_) ?_
       · obtain _ := q
         refine JC.at ⟨[(2, ov (S (rL (rU UInt8)) a_3)), (35, ov (S rB x_17))], [], []⟩ ?_
         replace hq4 := iteB_inv hq4
         rcases hq4 with ⟨hc9, hq4⟩ | ⟨hc9, hq4⟩
         · refine JC.condT (.tmp rfl) hc9 ?_
           refine JC.seq ?_
           refine JC.region ?_
           refine jc (op_assign lb .cB) ?_
           refine JL.nil ?_
           refine JQ.then ?_
           refine JC.ret ?_
           replace hq4 := Option.some.inj hq4
           first | subst hq4 | clear hq4
           dsimp only at hq2
           refine JQ.outR ?_
           replace hq2 := Option.some.inj hq2
           subst hq2
           exact JQ.done (js := []) (ss := [.val (S rB false)]) () (.inl rfl) (.nil rfl) rfl (.cons (.tmp rfl) .nil) rfl rfl rfl
         · refine JC.condF (.tmp rfl) hc9 ?_
           refine JC.skip ?_
           replace hq4 := Option.some.inj hq4
           first | subst hq4 | clear hq4
           exact JQ.joinK () () rfl (Imp.norm (js := []) rfl (.cons rfl .nil))
       · replace hx4 := bnd_inv hx4
         obtain ⟨v_11, hv_v_11, hx4⟩ := hx4
         replace hx4 := lt1_inv hx4
         obtain ⟨v_13, hv_v_13, hx4⟩ := hx4
         replace hx4 := bnd_inv hx4
         obtain ⟨_, hv_u_14, hx4⟩ := hx4
         replace hx4 := lt1_inv hx4
         obtain ⟨v_15, hv_v_15, hx4⟩ := hx4
         replace hx4 := lt1_inv hx4
         obtain ⟨v_16, hv_v_16, hx4⟩ := hx4
         refine JC.anyE (kl := []) (kk := 0) (base := [(0, ov (S (rU UInt64) t_1)), (1, ov (S (rI .i64) a_2)), (2, ov (S (rL (rU UInt8)) a_3)), (7, ov (HDR go_8 0 (List.length v_6) gc_9)), (8, ov (S (rI .i64) v_7))])
             (fs := fun γ => [⟨some 24, ov (HDR go_8 0 (List.length v_6) gc_9)⟩, ⟨some 25, ov (S rS v_6)⟩, ⟨some 26, ov (S (rU UInt64) t_1)⟩, ⟨some 27, ov (S (rI .i64) a_2)⟩, ⟨some 28, ov (HDR (deo (γ 4 0)) 0 (List.length v_11) (Int.toNat a_2))⟩, ⟨some 29, ov (S rS v_11)⟩, ⟨some 30, ov (S rB v_13)⟩, ⟨some 31, ov (S rB v_13)⟩, ⟨some 32, bif (!v_13) then ov (S (rI .i64) v_7) else .one .und⟩, ⟨some 33, bif (!v_13) then ov (S (rI .i64) v_7) else .one .und⟩, ⟨some 34, bif (!v_13) then ov (S rB v_15) else .one .und⟩, ⟨some 35, ov (S rB v_16)⟩])
             (rs := fun γ => [⟨cown go_8 (rU UInt8) v_6 0 gc_9, none, none, [1]⟩, ⟨cown (deo (γ 4 0)) (rU UInt8) v_11 0 (Int.toNat a_2), (some 4), none, [5]⟩])
             (ds := [24, 25, 26, 27, 28, 29, 30, 31, 32, 33, 34, 35]) (bs := [0, 1, 2, 7, 8]) (afts := [[], [], [], [], [4, 5, 6, 7, 8, 9, 10, 11], [], [], [], [], [], [], []]) (js := [0]) mixed (.cons rfl (.cons rfl (.cons rfl (.cons rfl (.cons rfl .nil))))) (fun _ => rfl)
             (by
      refine dS 1 (fun γ ρ B hb hd => op_move lb (.tmp (hb 7 _ rfl))) ?_
      refine DSteps.cons (j := 2) rfl (fun _ => rfl) (.run (fun γ ρ B hb hd => ⟨.none, OpStep.at ⟨ρ, (cown go_8 (rU UInt8) v_6 0 gc_9) :: B, _⟩ (setO ⟨ρ, (cown go_8 (rU UInt8) v_6 0 gc_9) :: B, _⟩ _ _) (op_convOS (j := 0) lb tu23 tu5 tu9 rfl (.tmp (hl hd 0 24 rfl)))⟩)) ?_
      refine dS 3 (fun γ ρ B hb hd => op_move lb (.tmp (hb 0 _ rfl))) ?_
      refine dS 4 (fun γ ρ B hb hd => op_move lb (.tmp (hb 1 _ rfl))) ?_
      refine DSteps.cons (j := 5) rfl (fun _ => rfl) (.runX (fun _ _ => rfl) (fun γ ρ B hb hd => ⟨.none, OpX.ghost (γ := Option Nat) (st' := fun q => setO ⟨ρ, (cown q (rU UInt8) v_11 0 (Int.toNat a_2)) :: B, _⟩ (some 28) (ov (HDR q 0 (List.length v_11) (Int.toNat a_2)))) (fun q c => eno q) (op_call (js := []) ld cl12 (sim_ref01_Put k t_1 a_2 v_11 hv_v_11) .func (.cons (.tmp (hl hd 2 26 rfl)) (.cons (.tmp (hl hd 3 27 rfl)) .nil)) rfl) (fun q => by cases q <;> exact Imp.refl)⟩) (fun _ _ => rfl) (fun _ _ => rfl)) ?_
      refine DSteps.cons (j := 6) rfl (fun _ => rfl) (.run (fun γ ρ B hb hd => ⟨.none, OpStep.at ⟨ρ, (cown (deo (γ 4 0)) (rU UInt8) v_11 0 (Int.toNat a_2)) :: B, _⟩ (setO ⟨ρ, (cown (deo (γ 4 0)) (rU UInt8) v_11 0 (Int.toNat a_2)) :: B, _⟩ _ _) (op_convOS (j := 0) lb tu23 tu5 tu9 rfl (.tmp (hl hd 4 28 rfl)))⟩)) ?_
      refine dS 7 (fun γ ρ B hb hd => op_cmpS lb (.tmp (hl hd 1 25 rfl)) (.tmp (hl hd 5 29 rfl)) (congrArg some hv_v_13)) ?_
      refine dS 8 (fun γ ρ B hb hd => op_move lb (.tmp (hl hd 6 30 rfl))) ?_
      refine dC 9 (!v_13) (fun γ => ov (S (rI .i64) v_7)) (fun γ ρ B hb hd => ⟨(Guard.isF (ltB rfl) rfl (hl hd 7 31 rfl)), fun hq_5 => op_move lb (.tmp (hb 8 _ rfl))⟩) ?_
      refine dC 10 (!v_13) (fun γ => ov (S (rI .i64) v_7)) (fun γ ρ B hb hd => ⟨(Guard.isF (ltB rfl) rfl (hl hd 7 31 rfl)), fun hq_6 => (op_call (js := []) ld cl13 (sim_law01_num k v_7 () (ifT hv_u_14 hq_6)) .func (.cons (HasO.cnd (.tmp (hl hd 8 32 rfl)) (notT (notF hq_6))) .nil) rfl).post (fun _ => Imp.refl)⟩) ?_
      refine dC 11 (!v_13) (fun γ => ov (S rB v_15)) (fun γ ρ B hb hd => ⟨(Guard.isF (ltB rfl) rfl (hl hd 7 31 rfl)), fun hq_7 => op_cmpI lb (HasO.cnd (.tmp (hl hd 9 33 rfl)) (notT (notF hq_7))) .cI (congrArg some hv_v_15)⟩) ?_
      refine dS 12 (fun γ ρ B hb hd => op_pickCS lb (.tmp (hl hd 7 31 rfl)) (fun hb8 => .cB) (fun hb8 => (HasO.cnd (.tmp (hl hd 10 34 rfl)) (notT hb8))) hv_v_16) ?_
      exact DSteps.nil)
             (by decide +kernel) (fun _ => rfl) rfl (fun _ => rfl) (fun _ => rfl) rfl (by decide) (by decide) (by decide +kernel) (fun _ d h => by cases h)
             (ρ' := fun γ => [(2, ov (S (rL (rU UInt8)) a_3)), (35, ov (S rB v_16))])
             (X' := fun γ => [cown go_8 (rU UInt8) v_6 0 gc_9, cown (deo (γ 4 0)) (rU UInt8) v_11 0 (Int.toNat a_2)])
             (fun γ ρ hb hd => (.cons (hb 2 _ rfl (by decide)) (.cons (hdq hd 11 35 rfl) .nil))) (fun _ => rfl) (fun γ => ?_)
         generalize (deo (γ 4 0)) = go_12
         clear γ
         refine JQ.at ⟨[(2, ov (S (rL (rU UInt8)) a_3)), (35, ov (S rB v_16))], [cown go_8 (rU UInt8) v_6 0 gc_9, cown go_12 (rU UInt8) v_11 0 (Int.toNat a_2)], []⟩ ?_
         replace hx4 := Option.some.inj hx4
         first | subst hx4 | clear hx4
         exact JQ.join () (Imp.norm (js := []) rfl (.cons rfl (.cons rfl .nil)))
     · refine JC.condF (.tmp rfl) hc3 ?_
       replace hx2 := bnd_inv hx2
       obtain ⟨x_22, hx10, hq10⟩ := hx2
       refine JC.seqJ (γ := Unit) (stj := fun q => ⟨[(2, ov (S (rL (rU UInt8)) a_3)), (43, ov (S rB x_22))], [], []⟩) (fun q => ?_) ?_
       · obtain _ := q
         refine JC.at ⟨[(2, ov (S (rL (rU UInt8)) a_3)), (43, ov (S rB x_22))], [], []⟩ ?_
         replace hq10 := iteB_inv hq10
         rcases hq10 with ⟨hc15, hq10⟩ | ⟨hc15, hq10⟩
         · refine JC.condT (.tmp rfl) hc15 ?_
           refine JC.seq ?_
           refine JC.region ?_
           refine jc (op_assign lb .cB) ?_
           refine JL.nil ?_
           refine JQ.then ?_
           refine JC.ret ?_
           replace hq10 := Option.some.inj hq10
           first | subst hq10 | clear hq10
           dsimp only at hq2
           refine JQ.outR ?_
           replace hq2 := Option.some.inj hq2
           subst hq2
           exact JQ.done (js := []) (ss := [.val (S rB false)]) () (.inl rfl) (.nil rfl) rfl (.cons (.tmp rfl) .nil) rfl rfl rfl
         · refine JC.condF (.tmp rfl) hc15 ?_
           refine JC.skip ?_
           replace hq10 := Option.some.inj hq10
           first | subst hq10 | clear hq10
           exact JQ.joinK () () rfl (Imp.norm (js := []) rfl (.cons rfl .nil))
       · refine JC.region ?_
         refine jc (op_move lb (.tmp rfl)) ?_
         refine jc (op_lenH lb tu23 (.tmp rfl)) ?_
         replace hx10 := lt1_inv hx10
         obtain ⟨v_18, hv_v_18, hx10⟩ := hx10
         refine jc (op_cmpI lb (.tmp rfl) .cI (congrArg some hv_v_18)) ?_
         refine jc (op_move lb (.tmp rfl)) ?_
         refine JL.cnd (sv := ov (S (rI .i64) v_7)) (Guard.isF (ltB rfl) rfl rfl) rfl (ltB rfl) (fun hq_11 => op_move lb (.tmp rfl)) ?_
         replace hx10 := bnd_inv hx10
         obtain ⟨_, hv_u_19, hx10⟩ := hx10
         refine JL.cnd (sv := ov (S (rI .i64) v_7)) (Guard.isF (ltB rfl) rfl rfl) rfl (ltB rfl) (fun hq_12 => (op_call (js := []) ld cl13 (sim_law01_num k v_7 () (ifT hv_u_19 hq_12)) .func (.cons (HasO.cnd (.tmp rfl) (notT (notF hq_12))) .nil) rfl).post (fun _ => Imp.refl)) ?_
         replace hx10 := lt1_inv hx10
         obtain ⟨v_20, hv_v_20, hx10⟩ := hx10
         refine JL.cnd (sv := ov (S rB v_20)) (Guard.isF (ltB rfl) rfl rfl) rfl (ltB rfl) (fun hq_13 => op_cmpI lb (HasO.cnd (.tmp rfl) (notT (notF hq_13))) .cI (congrArg some hv_v_20)) ?_
         refine JL.nrm ⟨[(2, ov (S (rL (rU UInt8)) a_3)), (39, ov (S rB v_18)), (42, bif (!v_18) then ov (S rB v_20) else .one .und)], [], []⟩ [] rfl (.cons rfl (.cons rfl (.cons rfl .nil))) rfl ?_
         replace hx10 := lt1_inv hx10
         obtain ⟨v_21, hv_v_21, hx10⟩ := hx10
         refine jc (op_pickCS lb (.tmp rfl) (fun hb14 => .cB) (fun hb14 => (HasO.cnd (.tmp rfl) (notT hb14))) hv_v_21) ?_
         refine JL.nil ?_
         replace hx10 := Option.some.inj hx10
         first | subst hx10 | clear hx10
         exact JQ.join () (Imp.norm (js := []) rfl (.cons rfl (.cons rfl .nil)))

end Go.Proofs.Ytkbkdfcakpbojaa
