/- Walks. -/
import Derived.Test.YtnhiiabdoichlaaT
import Derived.Test.YtnhiiabdoichlaaW2
import Derived.Test.YtnhiiabdoichlaaW4
namespace Go.Proofs.Ytnhiiabdoichlaa
open Go Fw
set_option linter.unusedVariables false
set_option maxRecDepth 100000
set_option maxHeartbeats 4000000

theorem sim_sha_state_hash (k : Nat) (s_1 : sha_state) (l_2 : (List (List UInt8))) (r : (Vector UInt8 32)) (hm : sha_state_hash k s_1 l_2 = some r) : Sim Try.prog 40 [A r_sha_state s_1, S (rL (rL (rU UInt8))) l_2] [] (γ := Unit) (fun q => []) (fun q => .one (.val (A (rV 32 (rU UInt8)) r))) := by
 unfold sha_state_hash at hm
 refine Sim.of Try.func40 rfl rfl (Nat.le_of_ble_eq_true rfl) (fun e0 w0 => ?_)
 refine JC.at ⟨[(0, ov (A r_sha_state s_1)), (1, ov (S (rL (rL (rU UInt8))) l_2))], [], []⟩ ?_
 refine JC.seq ?_
 refine JC.region ?_
 refine jx (op_boxA lb (.tmp rfl)) (fun q => ?_)
 obtain ⟨gb_3, hqq⟩ : ∃ z, z = q := ⟨_, rfl⟩
 subst hqq
 refine jx (op_alloc lb tZ45 zr45) (fun q => ?_)
 obtain ⟨gb_4, hqq⟩ : ∃ z, z = q := ⟨_, rfl⟩
 subst hqq
 refine JL.nil ?_
 refine JQ.then ?_
 refine JC.seq ?_
 refine JC.region ?_
 refine jc (op_move lb (.tmp rfl)) ?_
 replace hm := bnd_inv hm
 obtain ⟨v_5, hv_v_5, hm⟩ := hm
 refine jx (op_call (js := []) ld cl49 (sim_slices_Concatbyte_byte k l_2 v_5 hv_v_5) .func (.cons (.tmp rfl) .nil) rfl) (fun q => ?_)
 obtain ⟨go_6, gc_7⟩ := q
 refine jc (op_assign lb (.tmp rfl)) ?_
 refine JL.nil ?_
 refine JQ.then ?_
 refine JC.seq ?_
 refine JC.region ?_
 refine jc (op_move lb (.tmp rfl)) ?_
 refine JL.sub ⟨[(2, ov (PTR gb_3 0)), (4, ov (PTR gb_4 0)), (5, ov (HDR go_6 0 (List.length v_5) gc_7)), (11, ov (HDR go_6 0 (List.length v_5) gc_7))], [cown go_6 (rU UInt8) v_5 0 gc_7, cvar gb_3 r_sha_state s_1, cvar gb_4 (rV 32 (rU UInt8)) (Vector.replicate 32 (0 : UInt8))], []⟩ rfl rfl rfl ?_
 refine jc (op_lenH lb tu22 (.tmp rfl)) ?_
 replace hm := lt1_inv hm
 obtain ⟨v_8, hv_v_8, hm⟩ := hm
 refine jc (op_convIU lb tu3 tu23 (.tmp rfl) hv_v_8) ?_
 replace hm := lt1_inv hm
 obtain ⟨v_9, hv_v_9, hm⟩ := hm
 refine jc (op_arU lb (.tmp rfl) (HasO.cU (x := (8 : UInt64)) rfl (by decide)) (congrArg some hv_v_9)) ?_
 refine jc (op_assign lb (.tmp rfl)) ?_
 refine JL.nil ?_
 refine JQ.then ?_
 refine JC.seq ?_
 refine JC.region ?_
 refine jc (op_move lb (.tmp rfl)) ?_
 refine jc (op_buildF (r := (rU UInt8)) lb tu22 tz5 tZ5 rfl (Nat.le_of_ble_eq_true rfl) (.S rfl (HasO.cU (x := (128 : UInt8)) rfl (by decide)) .nil) rfl) ?_
 replace hm := bnd_inv hm
 obtain ⟨b_10, hv_b_10, hm⟩ := hm
 refine jx (op_appendL (j := 0) lb tu22 tu22 rfl tB5 rfl (Nat.lt_of_lt_of_le Nat.zero_lt_one (Nat.le_of_ble_eq_true rfl)) (Nat.lt_of_lt_of_le Nat.zero_lt_one (Nat.le_of_ble_eq_true rfl))  rfl (.tmp rfl) (.tmp rfl) hv_b_10) (fun q => ?_)
 obtain ⟨go_11, gc_12⟩ := q
 refine jc (op_assign lb (.tmp rfl)) ?_
 refine JL.nil ?_
 refine JQ.then ?_
 refine JC.seq ?_
 refine JC.region ?_
 refine jc (op_move lb (.tmp rfl)) ?_
 refine jc (op_move lb (.tmp rfl)) ?_
 refine JL.sub ⟨[(2, ov (PTR gb_3 0)), (4, ov (PTR gb_4 0)), (5, ov (HDR go_11 0 (List.length b_10) gc_12)), (6, ov (S (rU UInt64) v_9)), (18, ov (HDR go_11 0 (List.length b_10) gc_12)), (19, ov (HDR go_11 0 (List.length b_10) gc_12))], [cown go_11 (rU UInt8) b_10 0 gc_12, cvar gb_3 r_sha_state s_1, cvar gb_4 (rV 32 (rU UInt8)) (Vector.replicate 32 (0 : UInt8))], []⟩ rfl rfl rfl ?_
 refine jc (op_lenH lb tu22 (.tmp rfl)) ?_
 replace hm := bnd_inv hm
 obtain ⟨v_13, hv_v_13, hm⟩ := hm
 refine jc (op_arI lb (.tmp rfl) .cI hv_v_13) ?_
 replace hm := lt1_inv hm
 obtain ⟨v_14, hv_v_14, hm⟩ := hm
 refine jc (op_arI lb .cI (.tmp rfl) (congrArg some hv_v_14)) ?_
 replace hm := bnd_inv hm
 obtain ⟨v_15, hv_v_15, hm⟩ := hm
 refine jc (op_arI lb (.tmp rfl) .cI hv_v_15) ?_
 replace hm := bnd_inv hm
 obtain ⟨b_16, hv_b_16, hm⟩ := hm
 refine jx (op_appendZ (j := 0) lb tu22 tu3 tB5 zv5 rfl (Nat.lt_of_lt_of_le Nat.zero_lt_one (Nat.le_of_ble_eq_true rfl)) (Nat.lt_of_lt_of_le Nat.zero_lt_one (Nat.le_of_ble_eq_true rfl)) rfl (.tmp rfl) (.tmp rfl) hv_b_16) (fun q => ?_)
 obtain ⟨go_17, gc_18⟩ := q
 refine jc (op_assign lb (.tmp rfl)) ?_
 refine JL.nil ?_
 refine JQ.then ?_
 replace hm := bnd_inv hm
 obtain ⟨b_32, hx1, hq1⟩ := hm
 refine JC.seqJ (γ := Option Nat × Nat) (stj := fun q => ⟨[(2, ov (PTR gb_3 0)), (4, ov (PTR gb_4 0)), (5, ov (HDR q.1 0 (List.length b_32) q.2))], [cvar gb_3 r_sha_state s_1, cvar gb_4 (rV 32 (rU UInt8)) (Vector.replicate 32 (0 : UInt8)), cown q.1 (rU UInt8) b_32 0 q.2], []⟩) (fun q => ?_) ?_
 · obtain ⟨go_33, gc_34⟩ := q
   refine JC.at ⟨[(2, ov (PTR gb_3 0)), (4, ov (PTR gb_4 0)), (5, ov (HDR go_33 0 (List.length b_32) gc_34))], [cvar gb_3 r_sha_state s_1, cvar gb_4 (rV 32 (rU UInt8)) (Vector.replicate 32 (0 : UInt8)), cown go_33 (rU UInt8) b_32 0 gc_34], []⟩ ?_
   replace hq1 := bnd_inv hq1
   obtain ⟨s_41, hx4, hq4⟩ := hq1
   refine JC.seqJ (γ := Unit) (stj := fun q => ⟨[(2, ov (PTR gb_3 0)), (4, ov (PTR gb_4 0))], [cvar gb_3 r_sha_state s_41, cvar gb_4 (rV 32 (rU UInt8)) (Vector.replicate 32 (0 : UInt8))], []⟩) (fun q => ?_) ?_
   · obtain _ := q
     refine JC.at ⟨[(2, ov (PTR gb_3 0)), (4, ov (PTR gb_4 0))], [cvar gb_3 r_sha_state s_41, cvar gb_4 (rV 32 (rU UInt8)) (Vector.replicate 32 (0 : UInt8))], []⟩ ?_
     replace hq4 := bnd_inv hq4
     obtain ⟨out_56, hx7, hq7⟩ := hq4
     refine JC.seqJ (γ := Unit) (stj := fun q => ⟨[(4, ov (PTR gb_4 0))], [cvar gb_4 (rV 32 (rU UInt8)) out_56], []⟩) (fun q => ?_) ?_
     · obtain _ := q
       refine JC.at ⟨[(4, ov (PTR gb_4 0))], [cvar gb_4 (rV 32 (rU UInt8)) out_56], []⟩ ?_
       refine JC.seq ?_
       refine JC.region ?_
       refine jc (op_loadA (j := 0) lb tA45 (.tmp rfl) rfl (Comp.self (rV 32 (rU UInt8)) out_56) rfl) ?_
       refine jc (op_storeA (j := 0) tA45 (.tmp rfl) (.tmp rfl) rfl (UpdR.self (by rfl)) rfl) ?_
       refine JL.nil ?_
       refine JQ.then ?_
       refine JC.ret ?_
       replace hq7 := Option.some.inj hq7
       subst hq7
       exact JQ.done (js := []) (ss := [.val (A (rV 32 (rU UInt8)) out_56)]) () (.inl rfl) (.nil rfl) rfl (.cons (.cellA (j := 0) tA45 rfl rfl) .nil) rfl rfl rfl
     · refine JC.seq ?_
       refine JC.region ?_
       refine jc (op_move lb .cI) ?_
       refine JL.nil ?_
       refine JQ.then ?_
       refine JC.block ?_
       refine JC.pre ?_ (JC.loop (γ := Unit) (stf := fun s q => ⟨[(2, ov (PTR gb_3 0)), (4, ov (PTR gb_4 0)), (46, ov (S (rI .i64) s.2))], [cvar gb_3 r_sha_state s_41, cvar gb_4 (rV 32 (rU UInt8)) s.1], []⟩) (q := ()) hx7 ?_)
       · exact (Imp.norm (js := [0, 0]) rfl (.cons rfl (.cons rfl (.cons rfl .nil))))
       · intro s q x hx hr
         obtain ⟨out_42, x_43⟩ := s
         obtain _ := q
         change sha_state_hash.b3 k s_41 out_42 x_43 = some x at hx
         unfold sha_state_hash.b3 at hx
         refine JC.at ⟨[(2, ov (PTR gb_3 0)), (4, ov (PTR gb_4 0)), (46, ov (S (rI .i64) x_43))], [cvar gb_3 r_sha_state s_41, cvar gb_4 (rV 32 (rU UInt8)) out_42], []⟩ ?_
         refine JC.seq ?_
         refine JC.region ?_
         replace hx := lt1_inv hx
         obtain ⟨v_44, hv_v_44, hx⟩ := hx
         refine jc (op_cmpI lb (.tmp rfl) .cI (congrArg some hv_v_44)) ?_
         refine JL.nil ?_
         refine JQ.then ?_
         refine JC.seq ?_
         replace hx := iteB_inv hx
         rcases hx with ⟨hc9, hx⟩ | ⟨hc9, hx⟩
         · refine JC.condT (.tmp rfl) hc9 ?_
           refine JC.skip ?_
           refine JQ.then ?_
           refine JC.seq ?_
           refine JC.block ?_
           refine JC.seq ?_
           refine JC.region ?_
           refine jc (op_move lb (.tmp rfl)) ?_
           refine jc (op_assign lb (.tmp rfl)) ?_
           refine JL.nil ?_
           refine JQ.then ?_
           refine JC.region ?_
           refine jc (op_move lb (.tmp rfl)) ?_
           refine jc (op_move lb (.tmp rfl)) ?_
           replace hx := bnd_inv hx
           obtain ⟨v_45, hv_v_45, hx⟩ := hx
           refine jc (op_arI lb (.tmp rfl) .cI hv_v_45) ?_
           refine jc (op_fieldAddr (off := 0) lb tf70_0 (.tmp rfl)) ?_
           replace hx := bnd_inv hx
           obtain ⟨i_46, hv_i_46, hx⟩ := hx
           refine jc (op_indexAddrIF lb tr67 (.tmp rfl) (.tmp rfl) hv_i_46) ?_
           replace hx := lt1_inv hx
           obtain ⟨v_47, hv_v_47, hx⟩ := hx
           refine jc (op_loadS (j := 0) lb tS66 (.tmp rfl) rfl (Comp.at (Comp.trans (Comp.self r_sha_state s_41) (comp_sha_state_h s_41) (Nat.le_of_ble_eq_true rfl)) i_46.2 rfl) rfl hv_v_47) ?_
           refine jc (op_move lb (.tmp rfl)) ?_
           replace hx := bnd_inv hx
           obtain ⟨v_48, hv_v_48, hx⟩ := hx
           refine jc (op_arI lb (.tmp rfl) .cI hv_v_48) ?_
           replace hx := lt1_inv hx
           obtain ⟨v_49, hv_v_49, hx⟩ := hx
           refine jc (op_arI lb .cI (.tmp rfl) (congrArg some hv_v_49)) ?_
           refine JL.sub ⟨[(2, ov (PTR gb_3 0)), (4, ov (PTR gb_4 0)), (46, ov (S (rI .i64) x_43)), (49, ov (S (rI .i64) x_43)), (54, ov (S (rU UInt32) v_47)), (57, ov (S (rI .i64) v_49))], [cvar gb_3 r_sha_state s_41, cvar gb_4 (rV 32 (rU UInt8)) out_42], []⟩ rfl rfl rfl ?_
           replace hx := lt1_inv hx
           obtain ⟨v_50, hv_v_50, hx⟩ := hx
           refine jc (op_arI lb .cI (.tmp rfl) (congrArg some hv_v_50)) ?_
           replace hx := bnd_inv hx
           obtain ⟨v_51, hv_v_51, hx⟩ := hx
           refine jc (op_shrUI lb (.tmp rfl) (.tmp rfl) hv_v_51) ?_
           replace hx := lt1_inv hx
           obtain ⟨v_52, hv_v_52, hx⟩ := hx
           refine jc (op_convUU lb tu66 tu5 (.tmp rfl) hv_v_52) ?_
           replace hx := bnd_inv hx
           obtain ⟨i_53, hv_i_53, hx⟩ := hx
           refine jc (op_indexAddrIF lb tr45 (.tmp rfl) (.tmp rfl) hv_i_53) ?_
           replace hx := lt1_inv hx
           obtain ⟨out_54, hv_out_54, hx⟩ := hx
           refine jc (op_storeS (j := 1) tS5 (.tmp rfl) (.tmp rfl) rfl rfl (Upd.at (Comp.self (rV 32 (rU UInt8)) out_42) i_53.2 rfl (Upd.self (rV 32 (rU UInt8)) out_42 _)).R hv_out_54) ?_
           refine JL.nil ?_
           refine JQ.outNB ?_
           refine JQ.then ?_
           refine JC.region ?_
           replace hx := lt1_inv hx
           obtain ⟨v_55, hv_v_55, hx⟩ := hx
           refine jc (op_arI lb (.tmp rfl) .cI (congrArg some hv_v_55)) ?_
           refine jc (op_move lb (.tmp rfl)) ?_
           refine JL.nil ?_
           replace hx := Option.some.inj hx
           first | subst hx | clear hx
           exact JQ.next () rfl (Imp.norm (js := [0, 0]) rfl (.cons rfl (.cons rfl (.cons rfl .nil))))
         · refine JC.condF (.tmp rfl) hc9 ?_
           refine JC.exit ?_
           refine JQ.outX ?_
           replace hx := Option.some.inj hx
           first | subst hx | clear hx
           have ht := hr _ rfl
           have hq8 := congrArg some ht
           clear hr ht
           refine JQ.outX ?_
           refine JQ.here ?_
           replace hq8 := Option.some.inj hq8
           first | subst hq8 | clear hq8
           exact JQ.join () (Imp.norm (js := [1]) rfl (.cons rfl .nil))
   · refine JC.block ?_
     refine JC.pre (Imp.frz (j := 2) rfl (ImpK.slotH (s := 5) rfl ImpK.refl)) ?_
     refine JC.pre (Imp.slot (s := 5) rfl wkHL) ?_
     refine JC.pre ?_ (JC.loop (γ := Unit) (stf := fun s q => ⟨[(2, ov (PTR gb_3 0)), (4, ov (PTR gb_4 0)), (5, ov (S (rL (rU UInt8)) s.2))], [cvar gb_3 r_sha_state s.1, cvar gb_4 (rV 32 (rU UInt8)) (Vector.replicate 32 (0 : UInt8))], []⟩) (q := ()) hx4 ?_)
     · exact (Imp.norm (js := [0, 0]) rfl (.cons rfl (.cons rfl (.cons rfl .nil))))
     · intro s q x hx hr
       obtain ⟨s_35, b_36⟩ := s
       obtain _ := q
       change sha_state_hash.b2 k s_35 b_36 = some x at hx
       unfold sha_state_hash.b2 at hx
       refine JC.at ⟨[(2, ov (PTR gb_3 0)), (4, ov (PTR gb_4 0)), (5, ov (S (rL (rU UInt8)) b_36))], [cvar gb_3 r_sha_state s_35, cvar gb_4 (rV 32 (rU UInt8)) (Vector.replicate 32 (0 : UInt8))], []⟩ ?_
       refine JC.seq ?_
       refine JC.seq ?_
       refine JC.region ?_
       refine jc (op_move lb (.tmp rfl)) ?_
       refine jc (op_lenL lb tu22 (.tmp rfl)) ?_
       replace hx := lt1_inv hx
       obtain ⟨v_37, hv_v_37, hx⟩ := hx
       refine jc (op_cmpI lb (.tmp rfl) .cI (congrArg some hv_v_37)) ?_
       refine JL.nil ?_
       refine JQ.then ?_
       replace hx := iteB_inv hx
       rcases hx with ⟨hc6, hx⟩ | ⟨hc6, hx⟩
       · refine JC.condT (.tmp rfl) hc6 ?_
         refine JC.skip ?_
         refine JQ.then ?_
         refine JC.seq ?_
         refine JC.block ?_
         refine JC.region ?_
         refine jc (op_move lb (.tmp rfl)) ?_
         replace hx := bnd_inv hx
         obtain ⟨v_38, hv_v_38, hx⟩ := hx
         refine jc (op_sliceLg lb tu22 tz5 (.tmp rfl) .none (.some .cI) hv_v_38) ?_
         replace hx := bnd_inv hx
         obtain ⟨x_39, hv_x_39, hx⟩ := hx
         refine jx (op_call (js := [0]) ld cl50 (sim_sha_state_press k v_38 s_35 gb_3 x_39 hv_x_39) .func (.cons (.tmp rfl) (.cons (.tmp rfl) .nil)) rfl) (fun _ => ?_)
         refine JL.nil ?_
         refine JQ.outNB ?_
         refine JQ.then ?_
         refine JC.region ?_
         refine jc (op_move lb (.tmp rfl)) ?_
         replace hx := bnd_inv hx
         obtain ⟨v_40, hv_v_40, hx⟩ := hx
         refine jc (op_sliceLg lb tu22 tz5 (.tmp rfl) (.some .cI) .none hv_v_40) ?_
         refine jc (op_assign lb (.tmp rfl)) ?_
         refine JL.nil ?_
         replace hx := Option.some.inj hx
         first | subst hx | clear hx
         exact JQ.next () rfl (Imp.norm (js := [0, 0]) rfl (.cons rfl (.cons rfl (.cons rfl .nil))))
       · refine JC.condF (.tmp rfl) hc6 ?_
         refine JC.exit ?_
         refine JQ.outX ?_
         replace hx := Option.some.inj hx
         first | subst hx | clear hx
         have ht := hr _ rfl
         have hq5 := congrArg some ht
         clear hr ht
         refine JQ.outX ?_
         refine JQ.here ?_
         replace hq5 := Option.some.inj hq5
         first | subst hq5 | clear hq5
         exact JQ.join () (Imp.norm (js := [0, 0]) rfl (.cons rfl (.cons rfl .nil)))
 · refine JC.seq ?_
   refine JC.region ?_
   refine jc (op_move lb .cI) ?_
   refine JL.nil ?_
   refine JQ.then ?_
   refine JC.block ?_
   refine JC.pre ?_ (JC.loop (γ := Option Nat × Nat) (stf := fun s q => ⟨[(2, ov (PTR gb_3 0)), (4, ov (PTR gb_4 0)), (5, ov (HDR q.1 0 (List.length s.1) q.2)), (6, ov (S (rU UInt64) v_9)), (25, ov (S (rI .i64) s.2))], [cvar gb_3 r_sha_state s_1, cvar gb_4 (rV 32 (rU UInt8)) (Vector.replicate 32 (0 : UInt8)), cown q.1 (rU UInt8) s.1 0 q.2], []⟩) (q := (go_17, gc_18)) hx1 ?_)
   · exact (Imp.norm (js := [1, 1, 0]) rfl (.cons rfl (.cons rfl (.cons rfl (.cons rfl (.cons rfl .nil))))))
   · intro s q x hx hr
     obtain ⟨b_19, x_20⟩ := s
     obtain ⟨go_21, gc_22⟩ := q
     change sha_state_hash.b1 k v_9 b_19 x_20 = some x at hx
     unfold sha_state_hash.b1 at hx
     refine JC.at ⟨[(2, ov (PTR gb_3 0)), (4, ov (PTR gb_4 0)), (5, ov (HDR go_21 0 (List.length b_19) gc_22)), (6, ov (S (rU UInt64) v_9)), (25, ov (S (rI .i64) x_20))], [cvar gb_3 r_sha_state s_1, cvar gb_4 (rV 32 (rU UInt8)) (Vector.replicate 32 (0 : UInt8)), cown go_21 (rU UInt8) b_19 0 gc_22], []⟩ ?_
     refine JC.seq ?_
     refine JC.region ?_
     replace hx := lt1_inv hx
     obtain ⟨v_23, hv_v_23, hx⟩ := hx
     refine jc (op_cmpI lb (.tmp rfl) .cI (congrArg some hv_v_23)) ?_
     refine JL.nil ?_
     refine JQ.then ?_
     refine JC.seq ?_
     replace hx := iteB_inv hx
     rcases hx with ⟨hc3, hx⟩ | ⟨hc3, hx⟩
     · refine JC.condT (.tmp rfl) hc3 ?_
       refine JC.skip ?_
       refine JQ.then ?_
       refine JC.seq ?_
       refine JC.block ?_
       refine JC.seq ?_
       refine JC.region ?_
       refine jc (op_move lb (.tmp rfl)) ?_
       refine jc (op_assign lb (.tmp rfl)) ?_
       refine JL.nil ?_
       refine JQ.then ?_
       refine JC.region ?_
       refine jc (op_move lb (.tmp rfl)) ?_
       refine jc (op_move lb (.tmp rfl)) ?_
       refine jc (op_move lb (.tmp rfl)) ?_
       replace hx := lt1_inv hx
       obtain ⟨v_24, hv_v_24, hx⟩ := hx
       refine jc (op_arI lb .cI (.tmp rfl) (congrArg some hv_v_24)) ?_
       replace hx := lt1_inv hx
       obtain ⟨v_25, hv_v_25, hx⟩ := hx
       refine jc (op_arI lb .cI (.tmp rfl) (congrArg some hv_v_25)) ?_
       replace hx := bnd_inv hx
       obtain ⟨v_26, hv_v_26, hx⟩ := hx
       refine jc (op_shrUI lb (.tmp rfl) (.tmp rfl) hv_v_26) ?_
       replace hx := lt1_inv hx
       obtain ⟨v_27, hv_v_27, hx⟩ := hx
       refine jc (op_convUU lb tu23 tu5 (.tmp rfl) hv_v_27) ?_
       refine jc (op_buildF (r := (rU UInt8)) lb tu22 tz5 tZ5 rfl (Nat.le_of_ble_eq_true rfl) (.S rfl (.tmp rfl) .nil) rfl) ?_
       replace hx := bnd_inv hx
       obtain ⟨b_28, hv_b_28, hx⟩ := hx
       refine jx (op_appendL (j := 2) lb tu22 tu22 rfl tB5 rfl (Nat.lt_of_lt_of_le Nat.zero_lt_one (Nat.le_of_ble_eq_true rfl)) (Nat.lt_of_lt_of_le Nat.zero_lt_one (Nat.le_of_ble_eq_true rfl))  rfl (.tmp rfl) (.tmp rfl) hv_b_28) (fun q => ?_)
       obtain ⟨go_29, gc_30⟩ := q
       refine JL.sub ⟨[(2, ov (PTR gb_3 0)), (4, ov (PTR gb_4 0)), (6, ov (S (rU UInt64) v_9)), (25, ov (S (rI .i64) x_20)), (36, ov (HDR go_29 0 (List.length b_28) gc_30))], [cvar gb_3 r_sha_state s_1, cvar gb_4 (rV 32 (rU UInt8)) (Vector.replicate 32 (0 : UInt8)), cown go_29 (rU UInt8) b_28 0 gc_30], []⟩ rfl rfl rfl ?_
       refine jc (op_assign lb (.tmp rfl)) ?_
       refine JL.nil ?_
       refine JQ.outNB ?_
       refine JQ.then ?_
       refine JC.region ?_
       replace hx := lt1_inv hx
       obtain ⟨v_31, hv_v_31, hx⟩ := hx
       refine jc (op_arI lb (.tmp rfl) .cI (congrArg some hv_v_31)) ?_
       refine jc (op_move lb (.tmp rfl)) ?_
       refine JL.nil ?_
       replace hx := Option.some.inj hx
       first | subst hx | clear hx
       exact JQ.next (go_29, gc_30) rfl (Imp.norm (js := [0, 0, 0]) rfl (.cons rfl (.cons rfl (.cons rfl (.cons rfl (.cons rfl .nil))))))
     · refine JC.condF (.tmp rfl) hc3 ?_
       refine JC.exit ?_
       refine JQ.outX ?_
       replace hx := Option.some.inj hx
       first | subst hx | clear hx
       have ht := hr _ rfl
       have hq2 := congrArg some ht
       clear hr ht
       refine JQ.outX ?_
       refine JQ.here ?_
       replace hq2 := Option.some.inj hq2
       first | subst hq2 | clear hq2
       exact JQ.join (go_21, gc_22) (Imp.norm (js := [0, 0, 0]) rfl (.cons rfl (.cons rfl (.cons rfl .nil))))

theorem sim_sha_Code (k : Nat) (secret_1 : (List UInt8)) (l_2 : (List (List UInt8))) (r : (Vector UInt8 32)) (hm : sha_Code k secret_1 l_2 = some r) : Sim Try.prog 32 [S (rL (rU UInt8)) secret_1, S (rL (rL (rU UInt8))) l_2] [] (γ := Unit) (fun q => []) (fun q => .one (.val (A (rV 32 (rU UInt8)) r))) := by
 unfold sha_Code at hm
 refine Sim.of Try.func32 rfl rfl (Nat.le_of_ble_eq_true rfl) (fun e0 w0 => ?_)
 refine JC.at ⟨[(0, ov (S (rL (rU UInt8)) secret_1)), (1, ov (S (rL (rL (rU UInt8))) l_2))], [], []⟩ ?_
 refine JC.seq ?_
 refine JC.region ?_
 refine jx (op_alloc lb tZ45 zr45) (fun q => ?_)
 obtain ⟨gb_3, hqq⟩ : ∃ z, z = q := ⟨_, rfl⟩
 subst hqq
 refine JL.nil ?_
 refine JQ.then ?_
 refine JC.seq ?_
 refine JC.region ?_
 replace hm := bnd_inv hm
 obtain ⟨v_4, hv_v_4, hm⟩ := hm
 refine jx (op_call (js := []) ld cl39 (sim_sha_begun k v_4 hv_v_4) .func .nil rfl) (fun _ => ?_)
 refine jx (op_alloc lb tZ70 zr70) (fun q => ?_)
 obtain ⟨gb_5, hqq⟩ : ∃ z, z = q := ⟨_, rfl⟩
 subst hqq
 refine jc (op_storeA (j := 1) tA70 (.tmp rfl) (.tmp rfl) rfl (UpdR.self (by rfl)) rfl) ?_
 refine JL.nil ?_
 refine JQ.then ?_
 replace hm := bnd_inv hm
 obtain ⟨secret_10, hx1, hq1⟩ := hm
 refine JC.seqJ (γ := Unit) (stj := fun q => ⟨[(0, ov (S (rL (rU UInt8)) secret_10)), (1, ov (S (rL (rL (rU UInt8))) l_2)), (4, ov (PTR gb_3 0)), (5, ov (PTR gb_5 0))], [cvar gb_3 (rV 32 (rU UInt8)) (Vector.replicate 32 (0 : UInt8)), cvar gb_5 r_sha_state v_4], []⟩) (fun q => ?_) ?_
 · obtain _ := q
   refine JC.at ⟨[(0, ov (S (rL (rU UInt8)) secret_10)), (1, ov (S (rL (rL (rU UInt8))) l_2)), (4, ov (PTR gb_3 0)), (5, ov (PTR gb_5 0))], [cvar gb_3 (rV 32 (rU UInt8)) (Vector.replicate 32 (0 : UInt8)), cvar gb_5 r_sha_state v_4], []⟩ ?_
   refine JC.seq ?_
   refine JC.region ?_
   refine jx (op_alloc lb tZ73 zr73) (fun q => ?_)
   obtain ⟨gb_11, hqq⟩ : ∃ z, z = q := ⟨_, rfl⟩
   subst hqq
   refine jx (op_alloc lb tZ73 zr73) (fun q => ?_)
   obtain ⟨gb_12, hqq⟩ : ∃ z, z = q := ⟨_, rfl⟩
   subst hqq
   refine JL.nil ?_
   refine JQ.then ?_
   refine JC.seq ?_
   refine JC.region ?_
   refine jc (op_sliceAV (l := 0) (h := 64) lb tu73 tz5 (.tmp rfl) .none .none (Nat.le_of_ble_eq_true rfl) (Nat.le_of_ble_eq_true rfl) (ltB rfl)) ?_
   refine jc (op_move lb (.tmp rfl)) ?_
   replace hq1 := lt1_inv hq1
   obtain ⟨inner_13, hv_inner_13, hq1⟩ := hq1
   refine jc (op_copyAV (j := 2) ld tu22 tz5 (.tmp rfl) rfl (Comp.self (rV 64 (rU UInt8)) (Vector.replicate 64 (0 : UInt8))) (UpdR.self (by rfl)) (fun e a w => SrcN.list (.tmp rfl)) (Nat.le_of_ble_eq_true rfl) hv_inner_13 rfl rfl) ?_
   refine JL.nil ?_
   refine JQ.then ?_
   refine JC.seq ?_
   refine JC.region ?_
   refine jc (op_loadA (j := 2) lb tA73 (.tmp rfl) rfl (Comp.self (rV 64 (rU UInt8)) inner_13) rfl) ?_
   refine JL.sub ⟨[(1, ov (S (rL (rL (rU UInt8))) l_2)), (4, ov (PTR gb_3 0)), (5, ov (PTR gb_5 0)), (7, ov (PTR gb_11 0)), (8, ov (PTR gb_12 0)), (23, ov (A (rV 64 (rU UInt8)) inner_13))], [cvar gb_3 (rV 32 (rU UInt8)) (Vector.replicate 32 (0 : UInt8)), cvar gb_5 r_sha_state v_4, cvar gb_11 (rV 64 (rU UInt8)) inner_13, cvar gb_12 (rV 64 (rU UInt8)) (Vector.replicate 64 (0 : UInt8))], []⟩ rfl rfl rfl ?_
   refine jc (op_storeA (j := 3) tA73 (.tmp rfl) (.tmp rfl) rfl (UpdR.self (by rfl)) rfl) ?_
   refine JL.nil ?_
   refine JQ.then ?_
   replace hq1 := bnd_inv hq1
   obtain ⟨⟨inner_29, outer_30⟩, hx3, hq3⟩ := hq1
   refine JC.seqJ (γ := Unit) (stj := fun q => ⟨[(1, ov (S (rL (rL (rU UInt8))) l_2)), (4, ov (PTR gb_3 0)), (5, ov (PTR gb_5 0)), (7, ov (PTR gb_11 0)), (8, ov (PTR gb_12 0))], [cvar gb_3 (rV 32 (rU UInt8)) (Vector.replicate 32 (0 : UInt8)), cvar gb_5 r_sha_state v_4, cvar gb_11 (rV 64 (rU UInt8)) inner_29, cvar gb_12 (rV 64 (rU UInt8)) outer_30], []⟩) (fun q => ?_) ?_
   · obtain _ := q
     refine JC.at ⟨[(1, ov (S (rL (rL (rU UInt8))) l_2)), (4, ov (PTR gb_3 0)), (5, ov (PTR gb_5 0)), (7, ov (PTR gb_11 0)), (8, ov (PTR gb_12 0))], [cvar gb_3 (rV 32 (rU UInt8)) (Vector.replicate 32 (0 : UInt8)), cvar gb_5 r_sha_state v_4, cvar gb_11 (rV 64 (rU UInt8)) inner_29, cvar gb_12 (rV 64 (rU UInt8)) outer_30], []⟩ ?_
     refine JC.seq ?_
     refine JC.pre (Imp.frzVar (j := 2) rfl (ImpK.slotP (s := 7) rfl (Comp.self (rV 64 (rU UInt8)) inner_29) ImpK.refl)) ?_
     replace hq3 := bnd_inv hq3
     obtain ⟨v_31, hv_v_31, hq3⟩ := hq3
     replace hq3 := bnd_inv hq3
     obtain ⟨x_33, hv_x_33, hq3⟩ := hq3
     replace hq3 := bnd_inv hq3
     obtain ⟨v_36, hv_v_36, hq3⟩ := hq3
     refine JC.anyE (kl := []) (kk := 0) (base := [(1, ov (S (rL (rL (rU UInt8))) l_2)), (4, ov (PTR gb_3 0)), (5, ov (PTR gb_5 0)), (7, ov (PT (rV 64 (rU UInt8)) inner_29)), (8, ov (PTR gb_12 0))])
         (fs := fun γ => [⟨some 38, ov (A r_sha_state v_4)⟩, ⟨some 39, ov (S (rL (rU UInt8)) v_31)⟩, ⟨some 40, ov (HDR (some (γ 2 0)) 0 (List.length ([v_31] : (List (List UInt8)))) (1))⟩, ⟨some 41, ov (S (rL (rL (rU UInt8))) l_2)⟩, ⟨some 42, ov (S (rL (rL (rU UInt8))) x_33)⟩, ⟨some 43, ov (A (rV 32 (rU UInt8)) v_36)⟩, ⟨some 10, ov (PTR (γ 6 0) 0)⟩, ⟨none, .one .any⟩])
         (rs := fun γ => [⟨cvar gb_3 (rV 32 (rU UInt8)) (Vector.replicate 32 (0 : UInt8)), none, none, []⟩, ⟨cvar gb_5 r_sha_state v_4, none, none, [0]⟩, ⟨cvar gb_12 (rV 64 (rU UInt8)) outer_30, none, none, []⟩, ⟨cown (some (γ 2 0)) (rL (rU UInt8)) ([v_31] : (List (List UInt8))) 0 (1), (some 2), (some 4), []⟩, ⟨cvar (γ 6 0) (rV 32 (rU UInt8)) (Vector.replicate 32 (0 : UInt8)), (some 6), (some 7), []⟩, ⟨cvar (γ 6 0) (rV 32 (rU UInt8)) v_36, (some 7), none, []⟩])
         (ds := [38, 39, 40, 41, 42, 43, 10]) (bs := [1, 4, 5, 7, 8]) (afts := [[], [], [2, 4, 5, 7], [], [], [], [6, 7], []]) (js := [0, 0, 0]) mixed (.cons rfl (.cons rfl (.cons rfl (.cons rfl (.cons rfl .nil))))) (fun _ => rfl)
         (by
      refine DSteps.cons (j := 1) rfl (fun _ => rfl) (.run (fun γ ρ B hb hd => ⟨.none, OpStep.at ⟨ρ, (cvar gb_5 r_sha_state v_4) :: B, _⟩ (setO ⟨ρ, (cvar gb_5 r_sha_state v_4) :: B, _⟩ _ _) (op_loadA (j := 0) lb tA70 (.tmp (hb 5 _ rfl)) rfl (Comp.self r_sha_state v_4) rfl)⟩)) ?_
      refine dS 2 (fun γ ρ B hb hd => op_sliceP lb tu73 tz5 (.tmp (hb 7 _ rfl)) .none .none hv_v_31) ?_
      refine DSteps.cons (j := 3) rfl (fun _ => rfl) (.runX (fun _ _ => rfl) (fun γ ρ B hb hd => ⟨.none, OpX.ghost (γ := Nat) (st' := fun q => setO ⟨ρ, (cown (some q) (rL (rU UInt8)) ([v_31] : (List (List UInt8))) 0 (1)) :: B, _⟩ (some 40) (ov (HDR (some q) 0 (List.length ([v_31] : (List (List UInt8)))) (1)))) (fun q c => q) (OpX.front (op_buildO (r := (rL (rU UInt8))) lb tu65 tz22 tZ22 rfl (Nat.le_of_ble_eq_true rfl) (.S rfl (.tmp (hl hd 1 39 rfl)) .nil) rfl)) (fun q => Imp.refl)⟩) (fun _ _ => rfl) (fun _ _ => rfl)) ?_
      refine dS 4 (fun γ ρ B hb hd => op_move lb (.tmp (hb 1 _ rfl))) ?_
      refine DSteps.cons (j := 5) rfl (fun _ => rfl) (.run (fun γ ρ B hb hd => ⟨.none, OpStep.at ⟨ρ, (cown (some (γ 2 0)) (rL (rU UInt8)) ([v_31] : (List (List UInt8))) 0 (1)) :: B, _⟩ (setO ⟨ρ, B, _⟩ _ _) ((op_appendL (j := 0) lb tu65 tu65 rfl tB22 rfl (Nat.lt_of_lt_of_le Nat.zero_lt_one (Nat.le_of_ble_eq_true rfl)) (Nat.lt_of_lt_of_le Nat.zero_lt_one (Nat.le_of_ble_eq_true rfl))  rfl (.tmp (hl hd 2 40 rfl)) (.tmp (hl hd 3 41 rfl)) hv_x_33).post (fun q => Imp.dropF (j := 0) rfl))⟩)) ?_
      refine dS 6 (fun γ ρ B hb hd => (op_call (js := []) ld cl40 (sim_sha_state_hash k v_4 x_33 v_36 hv_v_36) .func (.cons (.tmp (hl hd 0 38 rfl)) (.cons (.tmp (hl hd 4 42 rfl)) .nil)) rfl).post (fun _ => Imp.refl)) ?_
      refine DSteps.cons (j := 7) rfl (fun _ => rfl) (.runX (fun _ _ => rfl) (fun γ ρ B hb hd => ⟨.none, OpX.ghost (γ := Nat) (st' := fun q => setO ⟨ρ, (cvar q (rV 32 (rU UInt8)) (Vector.replicate 32 (0 : UInt8))) :: B, _⟩ (some 10) (ov (PTR q 0))) (fun q c => q) (OpX.front (op_alloc lb tZ45 zr45)) (fun q => Imp.refl)⟩) (fun _ _ => rfl) (fun _ _ => rfl)) ?_
      refine DSteps.cons (j := 8) rfl (fun _ => rfl) (.run (fun γ ρ B hb hd => ⟨.none, OpStep.at ⟨ρ, (cvar (γ 6 0) (rV 32 (rU UInt8)) (Vector.replicate 32 (0 : UInt8))) :: B, _⟩ (setO ⟨ρ, (cvar (γ 6 0) (rV 32 (rU UInt8)) v_36) :: B, _⟩ _ _) (op_storeA (j := 0) tA45 (.tmp (hl hd 6 10 rfl)) (.tmp (hl hd 5 43 rfl)) rfl (UpdR.self (by rfl)) rfl)⟩)) ?_
      exact DSteps.nil)
         (by decide +kernel) (fun _ => rfl) rfl (fun _ => rfl) (fun _ => rfl) rfl (by decide) (by decide) (by decide +kernel) (fun _ d h => by cases h)
         (ρ' := fun γ => [(4, ov (PTR gb_3 0)), (5, ov (PTR gb_5 0)), (8, ov (PTR gb_12 0)), (10, ov (PTR (γ 6 0) 0))])
         (X' := fun γ => [cvar gb_3 (rV 32 (rU UInt8)) (Vector.replicate 32 (0 : UInt8)), cvar gb_5 r_sha_state v_4, cvar gb_12 (rV 64 (rU UInt8)) outer_30, cvar (γ 6 0) (rV 32 (rU UInt8)) v_36])
         (fun γ ρ hb hd => (.cons (hb 4 _ rfl (by decide)) (.cons (hb 5 _ rfl (by decide)) (.cons (hb 8 _ rfl (by decide)) (.cons (hdq hd 6 10 rfl) .nil))))) (fun _ => rfl) (fun γ => ?_)
     generalize (γ 2 0) = gb_32
     generalize (γ 6 0) = gb_37
     clear γ
     refine JQ.at ⟨[(4, ov (PTR gb_3 0)), (5, ov (PTR gb_5 0)), (8, ov (PTR gb_12 0)), (10, ov (PTR gb_37 0))], [cvar gb_3 (rV 32 (rU UInt8)) (Vector.replicate 32 (0 : UInt8)), cvar gb_5 r_sha_state v_4, cvar gb_12 (rV 64 (rU UInt8)) outer_30, cvar gb_37 (rV 32 (rU UInt8)) v_36], []⟩ ?_
     refine JQ.then ?_
     refine JC.seq ?_
     refine JC.pre (Imp.frzVar (j := 2) rfl (ImpK.slotP (s := 8) rfl (Comp.self (rV 64 (rU UInt8)) outer_30) ImpK.refl)) ?_
     refine JC.pre (Imp.frzVar (j := 2) rfl (ImpK.slotP (s := 10) rfl (Comp.self (rV 32 (rU UInt8)) v_36) ImpK.refl)) ?_
     replace hq3 := bnd_inv hq3
     obtain ⟨v_38, hv_v_38, hq3⟩ := hq3
     replace hq3 := bnd_inv hq3
     obtain ⟨v_39, hv_v_39, hq3⟩ := hq3
     replace hq3 := bnd_inv hq3
     obtain ⟨v_40, hv_v_40, hq3⟩ := hq3
     refine JC.anyE (kl := []) (kk := 0) (base := [(4, ov (PTR gb_3 0)), (5, ov (PTR gb_5 0)), (8, ov (PT (rV 64 (rU UInt8)) outer_30)), (10, ov (PT (rV 32 (rU UInt8)) v_36))])
         (fs := fun γ => [⟨some 44, ov (A r_sha_state v_4)⟩, ⟨some 45, ov (S (rL (rU UInt8)) v_38)⟩, ⟨some 46, ov (S (rL (rU UInt8)) v_39)⟩, ⟨some 47, ov (S (rL (rL (rU UInt8))) ([v_38, v_39] : (List (List UInt8))))⟩, ⟨some 48, ov (A (rV 32 (rU UInt8)) v_40)⟩, ⟨none, .one .any⟩])
         (rs := fun γ => [⟨cvar gb_3 (rV 32 (rU UInt8)) (Vector.replicate 32 (0 : UInt8)), none, (some 5), []⟩, ⟨cvar gb_5 r_sha_state v_4, none, none, [0]⟩, ⟨cvar gb_3 (rV 32 (rU UInt8)) v_40, (some 5), none, []⟩])
         (ds := [44, 45, 46, 47, 48]) (bs := [4, 5, 8, 10]) (afts := [[], [], [], [], [], []]) (js := [0, 0]) mixed (.cons rfl (.cons rfl (.cons rfl (.cons rfl .nil)))) (fun _ => rfl)
         (by
      refine DSteps.cons (j := 1) rfl (fun _ => rfl) (.run (fun γ ρ B hb hd => ⟨.none, OpStep.at ⟨ρ, (cvar gb_5 r_sha_state v_4) :: B, _⟩ (setO ⟨ρ, (cvar gb_5 r_sha_state v_4) :: B, _⟩ _ _) (op_loadA (j := 0) lb tA70 (.tmp (hb 5 _ rfl)) rfl (Comp.self r_sha_state v_4) rfl)⟩)) ?_
      refine dS 2 (fun γ ρ B hb hd => op_sliceP lb tu73 tz5 (.tmp (hb 8 _ rfl)) .none .none hv_v_38) ?_
      refine dS 3 (fun γ ρ B hb hd => op_sliceP lb tu45 tz5 (.tmp (hb 10 _ rfl)) .none .none hv_v_39) ?_
      refine dS 4 (fun γ ρ B hb hd => op_buildF (r := (rL (rU UInt8))) lb tu65 tz22 tZ22 rfl (Nat.le_of_ble_eq_true rfl) (.S rfl (.tmp (hl hd 1 45 rfl)) (.S rfl (.tmp (hl hd 2 46 rfl)) .nil)) rfl) ?_
      refine dS 5 (fun γ ρ B hb hd => (op_call (js := []) ld cl40 (sim_sha_state_hash k v_4 ([v_38, v_39] : (List (List UInt8))) v_40 hv_v_40) .func (.cons (.tmp (hl hd 0 44 rfl)) (.cons (.tmp (hl hd 3 47 rfl)) .nil)) rfl).post (fun _ => Imp.refl)) ?_
      refine DSteps.cons (j := 6) rfl (fun _ => rfl) (.run (fun γ ρ B hb hd => ⟨.none, OpStep.at ⟨ρ, (cvar gb_3 (rV 32 (rU UInt8)) (Vector.replicate 32 (0 : UInt8))) :: B, _⟩ (setO ⟨ρ, (cvar gb_3 (rV 32 (rU UInt8)) v_40) :: B, _⟩ _ _) (op_storeA (j := 0) tA45 (.tmp (hb 4 _ rfl)) (.tmp (hl hd 4 48 rfl)) rfl (UpdR.self (by rfl)) rfl)⟩)) ?_
      exact DSteps.nil)
         (by decide +kernel) (fun _ => rfl) rfl (fun _ => rfl) (fun _ => rfl) rfl (by decide) (by decide) (by decide +kernel) (fun _ d h => by cases h)
         (ρ' := fun γ => [(4, ov (PTR gb_3 0))])
         (X' := fun γ => [cvar gb_5 r_sha_state v_4, cvar gb_3 (rV 32 (rU UInt8)) v_40])
         (fun γ ρ hb hd => (.cons (hb 4 _ rfl (by decide)) .nil)) (fun _ => rfl) (fun γ => ?_)
     refine JQ.at ⟨[(4, ov (PTR gb_3 0))], [cvar gb_5 r_sha_state v_4, cvar gb_3 (rV 32 (rU UInt8)) v_40], []⟩ ?_
     refine JQ.then ?_
     refine JC.ret ?_
     replace hq3 := Option.some.inj hq3
     subst hq3
     exact JQ.done (js := []) (ss := [.val (A (rV 32 (rU UInt8)) v_40)]) () (.inl rfl) (.nil rfl) rfl (.cons (.cellA (j := 1) tA45 rfl rfl) .nil) rfl rfl rfl
   · refine JC.seq ?_
     refine JC.region ?_
     refine jc (op_move lb .cI) ?_
     refine JL.nil ?_
     refine JQ.then ?_
     refine JC.block ?_
     refine JC.pre ?_ (JC.loop (γ := Unit) (stf := fun s q => ⟨[(1, ov (S (rL (rL (rU UInt8))) l_2)), (4, ov (PTR gb_3 0)), (5, ov (PTR gb_5 0)), (7, ov (PTR gb_11 0)), (8, ov (PTR gb_12 0)), (24, ov (S (rI .i64) s.2.2))], [cvar gb_3 (rV 32 (rU UInt8)) (Vector.replicate 32 (0 : UInt8)), cvar gb_5 r_sha_state v_4, cvar gb_11 (rV 64 (rU UInt8)) s.1, cvar gb_12 (rV 64 (rU UInt8)) s.2.1], []⟩) (q := ()) hx3 ?_)
     · exact (Imp.norm (js := [0, 0, 0, 0]) rfl (.cons rfl (.cons rfl (.cons rfl (.cons rfl (.cons rfl (.cons rfl .nil)))))))
     · intro s q x hx hr
       obtain ⟨inner_14, outer_15, x_16⟩ := s
       obtain _ := q
       change sha_Code.b1 k inner_14 outer_15 x_16 = some x at hx
       unfold sha_Code.b1 at hx
       refine JC.at ⟨[(1, ov (S (rL (rL (rU UInt8))) l_2)), (4, ov (PTR gb_3 0)), (5, ov (PTR gb_5 0)), (7, ov (PTR gb_11 0)), (8, ov (PTR gb_12 0)), (24, ov (S (rI .i64) x_16))], [cvar gb_3 (rV 32 (rU UInt8)) (Vector.replicate 32 (0 : UInt8)), cvar gb_5 r_sha_state v_4, cvar gb_11 (rV 64 (rU UInt8)) inner_14, cvar gb_12 (rV 64 (rU UInt8)) outer_15], []⟩ ?_
       refine JC.seq ?_
       refine JC.region ?_
       replace hx := lt1_inv hx
       obtain ⟨v_17, hv_v_17, hx⟩ := hx
       refine jc (op_cmpI lb (.tmp rfl) .cI (congrArg some hv_v_17)) ?_
       refine JL.nil ?_
       refine JQ.then ?_
       refine JC.seq ?_
       replace hx := iteB_inv hx
       rcases hx with ⟨hc5, hx⟩ | ⟨hc5, hx⟩
       · refine JC.condT (.tmp rfl) hc5 ?_
         refine JC.skip ?_
         refine JQ.then ?_
         refine JC.seq ?_
         refine JC.block ?_
         refine JC.seq ?_
         refine JC.region ?_
         refine jc (op_move lb (.tmp rfl)) ?_
         refine jc (op_assign lb (.tmp rfl)) ?_
         refine JL.nil ?_
         refine JQ.then ?_
         refine JC.seq ?_
         refine JC.region ?_
         refine jc (op_move lb (.tmp rfl)) ?_
         replace hx := bnd_inv hx
         obtain ⟨i_18, hv_i_18, hx⟩ := hx
         refine jc (op_indexAddrIF lb tr73 (.tmp rfl) (.tmp rfl) hv_i_18) ?_
         replace hx := lt1_inv hx
         obtain ⟨v_19, hv_v_19, hx⟩ := hx
         refine jc (op_loadS (j := 2) lb tS5 (.tmp rfl) rfl (Comp.at (Comp.self (rV 64 (rU UInt8)) inner_14) i_18.2 rfl) rfl hv_v_19) ?_
         replace hx := lt1_inv hx
         obtain ⟨v_20, hv_v_20, hx⟩ := hx
         refine jc (op_arU lb (.tmp rfl) (HasO.cU (x := (54 : UInt8)) rfl (by decide)) (congrArg some hv_v_20)) ?_
         replace hx := bnd_inv hx
         obtain ⟨i_21, hv_i_21, hx⟩ := hx
         refine jc (op_indexAddrIF lb tr73 (.tmp rfl) (.tmp rfl) hv_i_21) ?_
         replace hx := lt1_inv hx
         obtain ⟨inner_22, hv_inner_22, hx⟩ := hx
         refine jc (op_storeS (j := 2) tS5 (.tmp rfl) (.tmp rfl) rfl rfl (Upd.at (Comp.self (rV 64 (rU UInt8)) inner_14) i_21.2 rfl (Upd.self (rV 64 (rU UInt8)) inner_14 _)).R hv_inner_22) ?_
         refine JL.nil ?_
         refine JQ.then ?_
         refine JC.region ?_
         refine jc (op_move lb (.tmp rfl)) ?_
         refine JL.sub ⟨[(1, ov (S (rL (rL (rU UInt8))) l_2)), (4, ov (PTR gb_3 0)), (5, ov (PTR gb_5 0)), (7, ov (PTR gb_11 0)), (8, ov (PTR gb_12 0)), (24, ov (S (rI .i64) x_16)), (32, ov (S (rI .i64) x_16))], [cvar gb_3 (rV 32 (rU UInt8)) (Vector.replicate 32 (0 : UInt8)), cvar gb_5 r_sha_state v_4, cvar gb_11 (rV 64 (rU UInt8)) inner_22, cvar gb_12 (rV 64 (rU UInt8)) outer_15], []⟩ rfl rfl rfl ?_
         replace hx := bnd_inv hx
         obtain ⟨i_23, hv_i_23, hx⟩ := hx
         refine jc (op_indexAddrIF lb tr73 (.tmp rfl) (.tmp rfl) hv_i_23) ?_
         replace hx := lt1_inv hx
         obtain ⟨v_24, hv_v_24, hx⟩ := hx
         refine jc (op_loadS (j := 3) lb tS5 (.tmp rfl) rfl (Comp.at (Comp.self (rV 64 (rU UInt8)) outer_15) i_23.2 rfl) rfl hv_v_24) ?_
         replace hx := lt1_inv hx
         obtain ⟨v_25, hv_v_25, hx⟩ := hx
         refine jc (op_arU lb (.tmp rfl) (HasO.cU (x := (92 : UInt8)) rfl (by decide)) (congrArg some hv_v_25)) ?_
         replace hx := bnd_inv hx
         obtain ⟨i_26, hv_i_26, hx⟩ := hx
         refine jc (op_indexAddrIF lb tr73 (.tmp rfl) (.tmp rfl) hv_i_26) ?_
         replace hx := lt1_inv hx
         obtain ⟨outer_27, hv_outer_27, hx⟩ := hx
         refine jc (op_storeS (j := 3) tS5 (.tmp rfl) (.tmp rfl) rfl rfl (Upd.at (Comp.self (rV 64 (rU UInt8)) outer_15) i_26.2 rfl (Upd.self (rV 64 (rU UInt8)) outer_15 _)).R hv_outer_27) ?_
         refine JL.nil ?_
         refine JQ.outNB ?_
         refine JQ.then ?_
         refine JC.region ?_
         replace hx := lt1_inv hx
         obtain ⟨v_28, hv_v_28, hx⟩ := hx
         refine jc (op_arI lb (.tmp rfl) .cI (congrArg some hv_v_28)) ?_
         refine jc (op_move lb (.tmp rfl)) ?_
         refine JL.nil ?_
         replace hx := Option.some.inj hx
         first | subst hx | clear hx
         exact JQ.next () rfl (Imp.norm (js := [0, 0, 0, 0]) rfl (.cons rfl (.cons rfl (.cons rfl (.cons rfl (.cons rfl (.cons rfl .nil)))))))
       · refine JC.condF (.tmp rfl) hc5 ?_
         refine JC.exit ?_
         refine JQ.outX ?_
         replace hx := Option.some.inj hx
         first | subst hx | clear hx
         have ht := hr _ rfl
         have hq4 := congrArg some ht
         clear hr ht
         refine JQ.outX ?_
         refine JQ.here ?_
         replace hq4 := Option.some.inj hq4
         replace hq4 := Prod.mk.inj hq4
         obtain ⟨hq4_a, hq4⟩ := hq4
         first | subst hq4_a | clear hq4_a
         first | subst hq4 | clear hq4
         exact JQ.join () (Imp.norm (js := [0, 0, 0, 0]) rfl (.cons rfl (.cons rfl (.cons rfl (.cons rfl (.cons rfl .nil))))))
 · refine JC.seq ?_
   refine JC.region ?_
   refine jc (op_move lb (.tmp rfl)) ?_
   refine jc (op_lenL lb tu22 (.tmp rfl)) ?_
   refine JL.sub ⟨[(0, ov (S (rL (rU UInt8)) secret_1)), (1, ov (S (rL (rL (rU UInt8))) l_2)), (4, ov (PTR gb_3 0)), (5, ov (PTR gb_5 0)), (13, ov (S (rI .i64) (List.length secret_1 : Int)))], [cvar gb_3 (rV 32 (rU UInt8)) (Vector.replicate 32 (0 : UInt8)), cvar gb_5 r_sha_state v_4], []⟩ rfl rfl rfl ?_
   replace hx1 := lt1_inv hx1
   obtain ⟨v_6, hv_v_6, hx1⟩ := hx1
   refine jc (op_cmpI lb (.tmp rfl) .cI (congrArg some hv_v_6)) ?_
   refine JL.nil ?_
   refine JQ.then ?_
   replace hx1 := iteB_inv hx1
   rcases hx1 with ⟨hc2, hx1⟩ | ⟨hc2, hx1⟩
   · refine JC.condT (.tmp rfl) hc2 ?_
     refine JC.seq ?_
     refine JC.region ?_
     refine jc (op_loadA (j := 1) lb tA70 (.tmp rfl) rfl (Comp.self r_sha_state v_4) rfl) ?_
     refine jc (op_move lb (.tmp rfl)) ?_
     refine jc (op_buildF (r := (rL (rU UInt8))) lb tu65 tz22 tZ22 rfl (Nat.le_of_ble_eq_true rfl) (.S rfl (.tmp rfl) .nil) rfl) ?_
     replace hx1 := bnd_inv hx1
     obtain ⟨v_7, hv_v_7, hx1⟩ := hx1
     refine jx (op_call (js := []) ld cl40 (sim_sha_state_hash k v_4 ([secret_1] : (List (List UInt8))) v_7 hv_v_7) .func (.cons (.tmp rfl) (.cons (.tmp rfl) .nil)) rfl) (fun _ => ?_)
     refine jx (op_alloc lb tZ45 zr45) (fun q => ?_)
     obtain ⟨gb_8, hqq⟩ : ∃ z, z = q := ⟨_, rfl⟩
     subst hqq
     refine jc (op_storeA (j := 2) tA45 (.tmp rfl) (.tmp rfl) rfl (UpdR.self (by rfl)) rfl) ?_
     refine JL.nil ?_
     refine JQ.then ?_
     refine JC.region ?_
     replace hx1 := bnd_inv hx1
     obtain ⟨v_9, hv_v_9, hx1⟩ := hx1
     refine JL.pre (Imp.frzVar (j := 2) rfl (ImpK.slotP (s := 6) rfl (Comp.self (rV 32 (rU UInt8)) v_7) ImpK.refl)) ?_
     refine jc (op_sliceP lb tu45 tz5 (.tmp rfl) .none .none hv_v_9) ?_
     refine JL.sub ⟨[(0, ov (S (rL (rU UInt8)) secret_1)), (1, ov (S (rL (rL (rU UInt8))) l_2)), (4, ov (PTR gb_3 0)), (5, ov (PTR gb_5 0)), (19, ov (S (rL (rU UInt8)) v_9))], [cvar gb_3 (rV 32 (rU UInt8)) (Vector.replicate 32 (0 : UInt8)), cvar gb_5 r_sha_state v_4], []⟩ rfl rfl rfl ?_
     refine jc (op_assign lb (.tmp rfl)) ?_
     refine JL.nil ?_
     replace hx1 := Option.some.inj hx1
     first | subst hx1 | clear hx1
     exact JQ.join () (Imp.norm (js := [0, 0]) rfl (.cons rfl (.cons rfl (.cons rfl (.cons rfl .nil)))))
   · refine JC.condF (.tmp rfl) hc2 ?_
     refine JC.skip ?_
     replace hx1 := Option.some.inj hx1
     first | subst hx1 | clear hx1
     exact JQ.join () (Imp.norm (js := [0, 0]) rfl (.cons rfl (.cons rfl (.cons rfl (.cons rfl .nil)))))

end Go.Proofs.Ytnhiiabdoichlaa
