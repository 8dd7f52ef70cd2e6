/- Walks. -/
import Derived.Test.YtnhiiabdoichlaaT
import Derived.Test.YtnhiiabdoichlaaW11
import Derived.Test.YtnhiiabdoichlaaW12
import Derived.Test.YtnhiiabdoichlaaW13
namespace Go.Proofs.Ytnhiiabdoichlaa
open Go Fw
set_option linter.unusedVariables false
set_option maxRecDepth 100000
set_option maxHeartbeats 4000000

theorem sim_ref03_Sum (k : Nat) (b_1 : (List UInt8)) (r : (Vector UInt8 32)) (hm : ref03_Sum k b_1 = some r) : Sim Try.prog 38 [S (rL (rU UInt8)) b_1] [] (γ := Unit) (fun q => []) (fun q => .one (.val (A (rV 32 (rU UInt8)) r))) := by
 unfold ref03_Sum at hm
 refine Sim.of Try.func38 rfl rfl (Nat.le_of_ble_eq_true rfl) (fun e0 w0 => ?_)
 refine JC.at ⟨[(0, ov (S (rL (rU UInt8)) b_1))], [], []⟩ ?_
 refine JC.seq ?_
 refine JC.region ?_
 refine jx (op_alloc lb tZ45 zr45) (fun q => ?_)
 obtain ⟨gb_2, hqq⟩ : ∃ z, z = q := ⟨_, rfl⟩
 subst hqq
 refine JL.nil ?_
 refine JQ.then ?_
 refine JC.seq ?_
 refine JC.region ?_
 replace hm := bnd_inv hm
 obtain ⟨⟨v_3, v_4⟩, hv_v_3, hm⟩ := hm
 refine jx (op_call (js := []) ld cl43 (sim_ref03_begun k (v_3, v_4) hv_v_3) .func .nil rfl) (fun q => ?_)
 obtain ⟨go_5, gc_6⟩ := q
 refine jc (op_move lb (.tmp rfl)) ?_
 refine jc (op_extract (i := 0) lb (.tmp rfl) rfl) ?_
 refine jc (op_extract (i := 1) lb (.tmp rfl) rfl) ?_
 refine jx (op_alloc lb tZ67 zr67) (fun q => ?_)
 obtain ⟨gb_7, hqq⟩ : ∃ z, z = q := ⟨_, rfl⟩
 subst hqq
 refine JL.sub ⟨[(0, ov (S (rL (rU UInt8)) b_1)), (2, ov (PTR gb_2 0)), (3, ov (PTR gb_7 0)), (11, ov (A (rV 8 (rU UInt32)) v_3)), (12, ov (HDR go_5 0 (List.length v_4) gc_6))], [cown go_5 (rU UInt32) v_4 0 gc_6, cvar gb_2 (rV 32 (rU UInt8)) (Vector.replicate 32 (0 : UInt8)), cvar gb_7 (rV 8 (rU UInt32)) (Vector.replicate 8 (0 : UInt32))], []⟩ rfl rfl rfl ?_
 refine jc (op_storeA (j := 2) tA67 (.tmp rfl) (.tmp rfl) rfl (UpdR.self (by rfl)) rfl) ?_
 refine jc (op_assign lb (.tmp rfl)) ?_
 refine JL.nil ?_
 refine JQ.then ?_
 refine JC.seq ?_
 refine JC.region ?_
 refine jc (op_move lb (.tmp rfl)) ?_
 replace hm := bnd_inv hm
 obtain ⟨v_8, hv_v_8, hm⟩ := hm
 refine jx (op_call (js := []) ld cl44 (sim_ref03_pad k b_1 v_8 hv_v_8) .func (.cons (.tmp rfl) .nil) rfl) (fun q => ?_)
 obtain ⟨go_9, gc_10⟩ := q
 refine jc (op_assign lb (.tmp rfl)) ?_
 refine JL.nil ?_
 refine JQ.then ?_
 replace hm := bnd_inv hm
 obtain ⟨h_18, hx1, hq1⟩ := hm
 refine JC.seqJ (γ := Unit) (stj := fun q => ⟨[(2, ov (PTR gb_2 0)), (3, ov (PTR gb_7 0))], [cvar gb_2 (rV 32 (rU UInt8)) (Vector.replicate 32 (0 : UInt8)), cvar gb_7 (rV 8 (rU UInt32)) h_18], []⟩) (fun q => ?_) ?_
 · obtain _ := q
   refine JC.at ⟨[(2, ov (PTR gb_2 0)), (3, ov (PTR gb_7 0))], [cvar gb_2 (rV 32 (rU UInt8)) (Vector.replicate 32 (0 : UInt8)), cvar gb_7 (rV 8 (rU UInt32)) h_18], []⟩ ?_
   refine JC.seq ?_
   refine JC.region ?_
   refine jx (op_alloc lb tZ45 zr45) (fun q => ?_)
   obtain ⟨gb_19, hqq⟩ : ∃ z, z = q := ⟨_, rfl⟩
   subst hqq
   refine JL.nil ?_
   refine JQ.then ?_
   replace hq1 := bnd_inv hq1
   obtain ⟨d_35, hx4, hq4⟩ := hq1
   refine JC.seqJ (γ := Unit) (stj := fun q => ⟨[(2, ov (PTR gb_2 0)), (7, ov (PTR gb_19 0))], [cvar gb_2 (rV 32 (rU UInt8)) (Vector.replicate 32 (0 : UInt8)), cvar gb_19 (rV 32 (rU UInt8)) d_35], []⟩) (fun q => ?_) ?_
   · obtain _ := q
     refine JC.at ⟨[(2, ov (PTR gb_2 0)), (7, ov (PTR gb_19 0))], [cvar gb_2 (rV 32 (rU UInt8)) (Vector.replicate 32 (0 : UInt8)), cvar gb_19 (rV 32 (rU UInt8)) d_35], []⟩ ?_
     refine JC.seq ?_
     refine JC.region ?_
     refine jc (op_loadA (j := 1) lb tA45 (.tmp rfl) rfl (Comp.self (rV 32 (rU UInt8)) d_35) rfl) ?_
     refine jc (op_storeA (j := 0) tA45 (.tmp rfl) (.tmp rfl) rfl (UpdR.self (by rfl)) rfl) ?_
     refine JL.nil ?_
     refine JQ.then ?_
     refine JC.ret ?_
     replace hq4 := Option.some.inj hq4
     subst hq4
     exact JQ.done (js := []) (ss := [.val (A (rV 32 (rU UInt8)) d_35)]) () (.inl rfl) (.nil rfl) rfl (.cons (.cellA (j := 0) tA45 rfl rfl) .nil) rfl rfl rfl
   · refine JC.seq ?_
     refine JC.region ?_
     refine jc (op_assign lb .cI) ?_
     refine JL.nil ?_
     refine JQ.then ?_
     refine JC.block ?_
     refine JC.pre ?_ (JC.loop (γ := Unit) (stf := fun s q => ⟨[(2, ov (PTR gb_2 0)), (3, ov (PTR gb_7 0)), (7, ov (PTR gb_19 0)), (8, ov (S (rI .i64) s.2))], [cvar gb_2 (rV 32 (rU UInt8)) (Vector.replicate 32 (0 : UInt8)), cvar gb_7 (rV 8 (rU UInt32)) h_18, cvar gb_19 (rV 32 (rU UInt8)) s.1], []⟩) (q := ()) hx4 ?_)
     · exact (Imp.norm (js := [0, 0, 0]) rfl (.cons rfl (.cons rfl (.cons rfl (.cons rfl .nil)))))
     · intro s q x hx hr
       obtain ⟨d_20, i_21⟩ := s
       obtain _ := q
       change ref03_Sum.b2 k h_18 d_20 i_21 = some x at hx
       unfold ref03_Sum.b2 at hx
       refine JC.at ⟨[(2, ov (PTR gb_2 0)), (3, ov (PTR gb_7 0)), (7, ov (PTR gb_19 0)), (8, ov (S (rI .i64) i_21))], [cvar gb_2 (rV 32 (rU UInt8)) (Vector.replicate 32 (0 : UInt8)), cvar gb_7 (rV 8 (rU UInt32)) h_18, cvar gb_19 (rV 32 (rU UInt8)) d_20], []⟩ ?_
       refine JC.seq ?_
       refine JC.seq ?_
       refine JC.region ?_
       refine jc (op_move lb (.tmp rfl)) ?_
       replace hx := lt1_inv hx
       obtain ⟨v_22, hv_v_22, hx⟩ := hx
       refine jc (op_cmpI lb (.tmp rfl) .cI (congrArg some hv_v_22)) ?_
       refine JL.nil ?_
       refine JQ.then ?_
       replace hx := iteB_inv hx
       rcases hx with ⟨hc6, hx⟩ | ⟨hc6, hx⟩
       · refine JC.condT (.tmp rfl) hc6 ?_
         refine JC.skip ?_
         refine JQ.then ?_
         refine JC.seq ?_
         refine JC.block ?_
         refine JC.region ?_
         refine jc (op_move lb (.tmp rfl)) ?_
         refine jc (op_move lb (.tmp rfl)) ?_
         replace hx := bnd_inv hx
         obtain ⟨v_23, hv_v_23, hx⟩ := hx
         refine jc (op_arI lb (.tmp rfl) .cI hv_v_23) ?_
         replace hx := bnd_inv hx
         obtain ⟨i_24, hv_i_24, hx⟩ := hx
         refine jc (op_indexAddrIF lb tr67 (.tmp rfl) (.tmp rfl) hv_i_24) ?_
         replace hx := lt1_inv hx
         obtain ⟨v_25, hv_v_25, hx⟩ := hx
         refine jc (op_loadS (j := 1) lb tS66 (.tmp rfl) rfl (Comp.at (Comp.self (rV 8 (rU UInt32)) h_18) i_24.2 rfl) rfl hv_v_25) ?_
         refine jc (op_move lb (.tmp rfl)) ?_
         replace hx := bnd_inv hx
         obtain ⟨v_26, hv_v_26, hx⟩ := hx
         refine jc (op_arI lb (.tmp rfl) .cI hv_v_26) ?_
         replace hx := lt1_inv hx
         obtain ⟨v_27, hv_v_27, hx⟩ := hx
         refine jc (op_arI lb .cI (.tmp rfl) (congrArg some hv_v_27)) ?_
         replace hx := lt1_inv hx
         obtain ⟨v_28, hv_v_28, hx⟩ := hx
         refine jc (op_arI lb .cI (.tmp rfl) (congrArg some hv_v_28)) ?_
         replace hx := lt1_inv hx
         obtain ⟨v_29, hv_v_29, hx⟩ := hx
         refine jc (op_convIU lb tu3 tu80 (.tmp rfl) hv_v_29) ?_
         refine JL.sub ⟨[(2, ov (PTR gb_2 0)), (3, ov (PTR gb_7 0)), (7, ov (PTR gb_19 0)), (8, ov (S (rI .i64) i_21)), (33, ov (S (rI .i64) i_21)), (37, ov (S (rU UInt32) v_25)), (42, ov (S (rU UInt64) v_29))], [cvar gb_2 (rV 32 (rU UInt8)) (Vector.replicate 32 (0 : UInt8)), cvar gb_7 (rV 8 (rU UInt32)) h_18, cvar gb_19 (rV 32 (rU UInt8)) d_20], []⟩ rfl rfl rfl ?_
         replace hx := lt1_inv hx
         obtain ⟨v_30, hv_v_30, hx⟩ := hx
         refine jc (op_shrUU lb (.tmp rfl) (.tmp rfl) hv_v_30) ?_
         replace hx := lt1_inv hx
         obtain ⟨v_31, hv_v_31, hx⟩ := hx
         refine jc (op_convUU lb tu66 tu5 (.tmp rfl) hv_v_31) ?_
         replace hx := bnd_inv hx
         obtain ⟨i_32, hv_i_32, hx⟩ := hx
         refine jc (op_indexAddrIF lb tr45 (.tmp rfl) (.tmp rfl) hv_i_32) ?_
         replace hx := lt1_inv hx
         obtain ⟨d_33, hv_d_33, hx⟩ := hx
         refine jc (op_storeS (j := 2) tS5 (.tmp rfl) (.tmp rfl) rfl rfl (Upd.at (Comp.self (rV 32 (rU UInt8)) d_20) i_32.2 rfl (Upd.self (rV 32 (rU UInt8)) d_20 _)).R hv_d_33) ?_
         refine JL.nil ?_
         refine JQ.outNB ?_
         refine JQ.then ?_
         refine JC.region ?_
         refine jc (op_move lb (.tmp rfl)) ?_
         replace hx := lt1_inv hx
         obtain ⟨v_34, hv_v_34, hx⟩ := hx
         refine jc (op_arI lb (.tmp rfl) .cI (congrArg some hv_v_34)) ?_
         refine jc (op_assign lb (.tmp rfl)) ?_
         refine JL.nil ?_
         replace hx := Option.some.inj hx
         first | subst hx | clear hx
         exact JQ.next () rfl (Imp.norm (js := [0, 0, 0]) rfl (.cons rfl (.cons rfl (.cons rfl (.cons rfl .nil)))))
       · refine JC.condF (.tmp rfl) hc6 ?_
         refine JC.exit ?_
         refine JQ.outX ?_
         replace hx := Option.some.inj hx
         first | subst hx | clear hx
         have ht := hr _ rfl
         have hq5 := congrArg some ht
         clear hr ht
         refine JQ.outX ?_
         refine JQ.here ?_
         replace hq5 := Option.some.inj hq5
         first | subst hq5 | clear hq5
         exact JQ.join () (Imp.norm (js := [0, 1]) rfl (.cons rfl (.cons rfl .nil)))
 · refine JC.seq ?_
   refine JC.region ?_
   refine jc (op_assign lb .cI) ?_
   refine JL.nil ?_
   refine JQ.then ?_
   refine JC.block ?_
   refine JC.pre (Imp.frz (j := 1) rfl ImpK.refl) ?_
   refine JC.pre (Imp.frz (j := 0) rfl ImpK.refl) ?_
   refine JC.pre ?_ (JC.loop (γ := Unit) (stf := fun s q => ⟨[(2, ov (PTR gb_2 0)), (3, ov (PTR gb_7 0)), (4, ov (HDR go_5 0 (List.length v_4) gc_6)), (5, ov (HDR go_9 0 (List.length v_8) gc_10)), (6, ov (S (rI .i64) s.2))], [cvar gb_2 (rV 32 (rU UInt8)) (Vector.replicate 32 (0 : UInt8)), cvar gb_7 (rV 8 (rU UInt32)) s.1, cown go_5 (rU UInt32) v_4 (List.length v_4) gc_6, cown go_9 (rU UInt8) v_8 (List.length v_8) gc_10], []⟩) (q := ()) hx1 ?_)
   · exact (Imp.norm (js := [2, 2, 1, 0]) rfl (.cons rfl (.cons rfl (.cons rfl (.cons rfl (.cons rfl .nil))))))
   · intro s q x hx hr
     obtain ⟨h_11, at_12⟩ := s
     obtain _ := q
     change ref03_Sum.b1 k v_8 v_4 h_11 at_12 = some x at hx
     unfold ref03_Sum.b1 at hx
     refine JC.at ⟨[(2, ov (PTR gb_2 0)), (3, ov (PTR gb_7 0)), (4, ov (HDR go_5 0 (List.length v_4) gc_6)), (5, ov (HDR go_9 0 (List.length v_8) gc_10)), (6, ov (S (rI .i64) at_12))], [cvar gb_2 (rV 32 (rU UInt8)) (Vector.replicate 32 (0 : UInt8)), cvar gb_7 (rV 8 (rU UInt32)) h_11, cown go_5 (rU UInt32) v_4 (List.length v_4) gc_6, cown go_9 (rU UInt8) v_8 (List.length v_8) gc_10], []⟩ ?_
     refine JC.seq ?_
     refine JC.seq ?_
     refine JC.region ?_
     refine jc (op_move lb (.tmp rfl)) ?_
     refine jc (op_move lb (.tmp rfl)) ?_
     refine jc (op_lenH lb tu22 (.tmp rfl)) ?_
     replace hx := lt1_inv hx
     obtain ⟨v_13, hv_v_13, hx⟩ := hx
     refine jc (op_cmpI lb (.tmp rfl) (.tmp rfl) (congrArg some hv_v_13)) ?_
     refine JL.nil ?_
     refine JQ.then ?_
     replace hx := iteB_inv hx
     rcases hx with ⟨hc3, hx⟩ | ⟨hc3, hx⟩
     · refine JC.condT (.tmp rfl) hc3 ?_
       refine JC.skip ?_
       refine JQ.then ?_
       refine JC.seq ?_
       refine JC.block ?_
       refine JC.pre (Imp.frz (j := 3) rfl (ImpK.slotH (s := 5) rfl (ImpK.slotH (s := 16) rfl ImpK.refl))) ?_
       refine JC.pre (Imp.frz (j := 2) rfl (ImpK.slotH (s := 4) rfl ImpK.refl)) ?_
       replace hx := lt1_inv hx
       obtain ⟨v_14, hv_v_14, hx⟩ := hx
       replace hx := bnd_inv hx
       obtain ⟨v_15, hv_v_15, hx⟩ := hx
       replace hx := bnd_inv hx
       obtain ⟨v_16, hv_v_16, hx⟩ := hx
       refine JC.anyE (kl := []) (kk := 0) (base := [(2, ov (PTR gb_2 0)), (3, ov (PTR gb_7 0)), (4, ov (HL go_5 (rU UInt32) v_4 gc_6)), (5, ov (HL go_9 (rU UInt8) v_8 gc_10)), (6, ov (S (rI .i64) at_12))])
           (fs := fun γ => [⟨some 21, ov (A (rV 8 (rU UInt32)) h_11)⟩, ⟨some 22, ov (HL go_9 (rU UInt8) v_8 gc_10)⟩, ⟨some 23, ov (S (rI .i64) at_12)⟩, ⟨some 24, ov (S (rI .i64) at_12)⟩, ⟨some 25, ov (S (rI .i64) v_14)⟩, ⟨some 26, ov (S (rL (rU UInt8)) v_15)⟩, ⟨some 27, ov (HL go_5 (rU UInt32) v_4 gc_6)⟩, ⟨some 28, ov (A (rV 8 (rU UInt32)) v_16)⟩, ⟨none, .one .any⟩])
           (rs := fun γ => [⟨cvar gb_2 (rV 32 (rU UInt8)) (Vector.replicate 32 (0 : UInt8)), none, none, []⟩, ⟨cvar gb_7 (rV 8 (rU UInt32)) h_11, none, (some 8), [0]⟩, ⟨cown go_5 (rU UInt32) v_4 (List.length v_4) gc_6, none, none, []⟩, ⟨cown go_9 (rU UInt8) v_8 (List.length v_8) gc_10, none, none, []⟩, ⟨cvar gb_7 (rV 8 (rU UInt32)) v_16, (some 8), none, []⟩])
           (ds := [21, 22, 23, 24, 25, 26, 27, 28]) (bs := [2, 3, 4, 5, 6]) (afts := [[], [], [], [], [], [], [], [], []]) (js := [0, 0, 0, 0]) mixed (.cons rfl (.cons rfl (.cons rfl (.cons rfl (.cons rfl .nil))))) (fun _ => rfl)
           (by
      refine DSteps.cons (j := 1) rfl (fun _ => rfl) (.run (fun γ ρ B hb hd => ⟨.none, OpStep.at ⟨ρ, (cvar gb_7 (rV 8 (rU UInt32)) h_11) :: B, _⟩ (setO ⟨ρ, (cvar gb_7 (rV 8 (rU UInt32)) h_11) :: B, _⟩ _ _) (op_loadA (j := 0) lb tA67 (.tmp (hb 3 _ rfl)) rfl (Comp.self (rV 8 (rU UInt32)) h_11) rfl)⟩)) ?_
      refine dS 2 (fun γ ρ B hb hd => op_move lb (.tmp (hb 5 _ rfl))) ?_
      refine dS 3 (fun γ ρ B hb hd => op_move lb (.tmp (hb 6 _ rfl))) ?_
      refine dS 4 (fun γ ρ B hb hd => op_move lb (.tmp (hb 6 _ rfl))) ?_
      refine dS 5 (fun γ ρ B hb hd => op_arI lb (.tmp (hl hd 3 24 rfl)) .cI (congrArg some hv_v_14)) ?_
      refine dS 6 (fun γ ρ B hb hd => op_sliceLg lb tu22 tz5 (HasO.wk (.tmp (hl hd 1 22 rfl)) wkHL) (.some (.tmp (hl hd 2 23 rfl))) (.some (.tmp (hl hd 4 25 rfl))) hv_v_15) ?_
      refine dS 7 (fun γ ρ B hb hd => op_move lb (.tmp (hb 4 _ rfl))) ?_
      refine dS 8 (fun γ ρ B hb hd => (op_call (js := []) ld cl45 (sim_ref03_press k h_11 v_15 v_4 v_16 hv_v_16) .func (.cons (.tmp (hl hd 0 21 rfl)) (.cons (.tmp (hl hd 5 26 rfl)) (.cons (HasO.wk (.tmp (hl hd 6 27 rfl)) wkHL) .nil))) rfl).post (fun _ => Imp.refl)) ?_
      refine DSteps.cons (j := 9) rfl (fun _ => rfl) (.run (fun γ ρ B hb hd => ⟨.none, OpStep.at ⟨ρ, (cvar gb_7 (rV 8 (rU UInt32)) h_11) :: B, _⟩ (setO ⟨ρ, (cvar gb_7 (rV 8 (rU UInt32)) v_16) :: B, _⟩ _ _) (op_storeA (j := 0) tA67 (.tmp (hb 3 _ rfl)) (.tmp (hl hd 7 28 rfl)) rfl (UpdR.self (by rfl)) rfl)⟩)) ?_
      exact DSteps.nil)
           (by decide +kernel) (fun _ => rfl) rfl (fun _ => rfl) (fun _ => rfl) rfl (by decide) (by decide) (by decide +kernel) (fun _ d h => by cases h)
           (ρ' := fun γ => [(2, ov (PTR gb_2 0)), (3, ov (PTR gb_7 0)), (4, ov (HL go_5 (rU UInt32) v_4 gc_6)), (5, ov (HL go_9 (rU UInt8) v_8 gc_10)), (6, ov (S (rI .i64) at_12))])
           (X' := fun γ => [cvar gb_2 (rV 32 (rU UInt8)) (Vector.replicate 32 (0 : UInt8)), cown go_5 (rU UInt32) v_4 (List.length v_4) gc_6, cown go_9 (rU UInt8) v_8 (List.length v_8) gc_10, cvar gb_7 (rV 8 (rU UInt32)) v_16])
           (fun γ ρ hb hd => (.cons (hb 2 _ rfl (by decide)) (.cons (hb 3 _ rfl (by decide)) (.cons (hb 4 _ rfl (by decide)) (.cons (hb 5 _ rfl (by decide)) (.cons (hb 6 _ rfl (by decide)) .nil)))))) (fun _ => rfl) (fun γ => ?_)
       refine JQ.at ⟨[(2, ov (PTR gb_2 0)), (3, ov (PTR gb_7 0)), (4, ov (HL go_5 (rU UInt32) v_4 gc_6)), (5, ov (HL go_9 (rU UInt8) v_8 gc_10)), (6, ov (S (rI .i64) at_12))], [cvar gb_2 (rV 32 (rU UInt8)) (Vector.replicate 32 (0 : UInt8)), cown go_5 (rU UInt32) v_4 (List.length v_4) gc_6, cown go_9 (rU UInt8) v_8 (List.length v_8) gc_10, cvar gb_7 (rV 8 (rU UInt32)) v_16], []⟩ ?_
       refine JQ.outNB ?_
       refine JQ.then ?_
       refine JC.region ?_
       refine jc (op_move lb (.tmp rfl)) ?_
       replace hx := lt1_inv hx
       obtain ⟨v_17, hv_v_17, hx⟩ := hx
       refine jc (op_arI lb (.tmp rfl) .cI (congrArg some hv_v_17)) ?_
       refine jc (op_assign lb (.tmp rfl)) ?_
       refine JL.nil ?_
       replace hx := Option.some.inj hx
       first | subst hx | clear hx
       refine JQ.pre (Imp.slot (s := 4) rfl wkHH) ?_
       refine JQ.pre (Imp.slot (s := 5) rfl wkHH) ?_
       exact JQ.next () rfl (Imp.norm (js := [0, 2, 0, 0]) rfl (.cons rfl (.cons rfl (.cons rfl (.cons rfl (.cons rfl .nil))))))
     · refine JC.condF (.tmp rfl) hc3 ?_
       refine JC.exit ?_
       refine JQ.outX ?_
       replace hx := Option.some.inj hx
       first | subst hx | clear hx
       have ht := hr _ rfl
       have hq2 := congrArg some ht
       clear hr ht
       refine JQ.outX ?_
       refine JQ.here ?_
       replace hq2 := Option.some.inj hq2
       first | subst hq2 | clear hq2
       exact JQ.join () (Imp.norm (js := [0, 0]) rfl (.cons rfl (.cons rfl .nil)))

theorem sim_ref03_Code (k : Nat) (secret_1 : (List UInt8)) (b_2 : (List UInt8)) (r : (Vector UInt8 32)) (hm : ref03_Code k secret_1 b_2 = some r) : Sim Try.prog 27 [S (rL (rU UInt8)) secret_1, S (rL (rU UInt8)) b_2] [] (γ := Unit) (fun q => []) (fun q => .one (.val (A (rV 32 (rU UInt8)) r))) := by
 unfold ref03_Code at hm
 refine Sim.of Try.func27 rfl rfl (Nat.le_of_ble_eq_true rfl) (fun e0 w0 => ?_)
 refine JC.at ⟨[(0, ov (S (rL (rU UInt8)) secret_1)), (1, ov (S (rL (rU UInt8)) b_2))], [], []⟩ ?_
 refine JC.seq ?_
 refine JC.region ?_
 refine jx (op_alloc lb tZ45 zr45) (fun q => ?_)
 obtain ⟨gb_3, hqq⟩ : ∃ z, z = q := ⟨_, rfl⟩
 subst hqq
 refine JL.nil ?_
 refine JQ.then ?_
 refine JC.seq ?_
 refine JC.region ?_
 refine jc (op_move lb (.tmp rfl)) ?_
 replace hm := bnd_inv hm
 obtain ⟨v_4, hv_v_4, hm⟩ := hm
 refine JL.pre (Imp.nilown (rU UInt8)) ?_
 refine jx (op_appendL (j := 1) lb tu22 tu22 rfl tB5 rfl (Nat.lt_of_lt_of_le Nat.zero_lt_one (Nat.le_of_ble_eq_true rfl)) (Nat.lt_of_lt_of_le Nat.zero_lt_one (Nat.le_of_ble_eq_true rfl))  rfl HasO.nilH (.tmp rfl) hv_v_4) (fun q => ?_)
 obtain ⟨go_5, gc_6⟩ := q
 refine JL.sub ⟨[(0, ov (S (rL (rU UInt8)) secret_1)), (1, ov (S (rL (rU UInt8)) b_2)), (4, ov (PTR gb_3 0)), (12, ov (HDR go_5 0 (List.length v_4) gc_6))], [cvar gb_3 (rV 32 (rU UInt8)) (Vector.replicate 32 (0 : UInt8)), cown go_5 (rU UInt8) v_4 0 gc_6], []⟩ rfl rfl rfl ?_
 refine jc (op_assign lb (.tmp rfl)) ?_
 refine JL.nil ?_
 refine JQ.then ?_
 replace hm := bnd_inv hm
 obtain ⟨k_14, hx1, hq1⟩ := hm
 refine JC.seqJ (γ := Option Nat × Nat) (stj := fun q => ⟨[(1, ov (S (rL (rU UInt8)) b_2)), (4, ov (PTR gb_3 0)), (5, ov (HDR q.1 0 (List.length k_14) q.2))], [cvar gb_3 (rV 32 (rU UInt8)) (Vector.replicate 32 (0 : UInt8)), cown q.1 (rU UInt8) k_14 0 q.2], []⟩) (fun q => ?_) ?_
 · obtain ⟨go_15, gc_16⟩ := q
   refine JC.at ⟨[(1, ov (S (rL (rU UInt8)) b_2)), (4, ov (PTR gb_3 0)), (5, ov (HDR go_15 0 (List.length k_14) gc_16))], [cvar gb_3 (rV 32 (rU UInt8)) (Vector.replicate 32 (0 : UInt8)), cown go_15 (rU UInt8) k_14 0 gc_16], []⟩ ?_
   replace hq1 := bnd_inv hq1
   obtain ⟨k_24, hx3, hq3⟩ := hq1
   refine JC.seqJ (γ := Option Nat × Nat) (stj := fun q => ⟨[(1, ov (S (rL (rU UInt8)) b_2)), (4, ov (PTR gb_3 0)), (5, ov (HDR q.1 0 (List.length k_24) q.2))], [cvar gb_3 (rV 32 (rU UInt8)) (Vector.replicate 32 (0 : UInt8)), cown q.1 (rU UInt8) k_24 0 q.2], []⟩) (fun q => ?_) ?_
   · obtain ⟨go_25, gc_26⟩ := q
     refine JC.at ⟨[(1, ov (S (rL (rU UInt8)) b_2)), (4, ov (PTR gb_3 0)), (5, ov (HDR go_25 0 (List.length k_24) gc_26))], [cvar gb_3 (rV 32 (rU UInt8)) (Vector.replicate 32 (0 : UInt8)), cown go_25 (rU UInt8) k_24 0 gc_26], []⟩ ?_
     refine JC.seq ?_
     refine JC.region ?_
     refine jc (op_assign lb HasO.nilH) ?_
     refine jc (op_assign lb HasO.nilH) ?_
     refine JL.nil ?_
     refine JQ.then ?_
     replace hq3 := bnd_inv hq3
     obtain ⟨⟨i_48, o_49⟩, hx6, hq6⟩ := hq3
     refine JC.seqJ (γ := Option Nat × Nat × Option Nat × Nat) (stj := fun q => ⟨[(1, ov (S (rL (rU UInt8)) b_2)), (4, ov (PTR gb_3 0)), (7, ov (HDR q.1 0 (List.length i_48) q.2.1)), (8, ov (HDR q.2.2.1 0 (List.length o_49) q.2.2.2))], [cvar gb_3 (rV 32 (rU UInt8)) (Vector.replicate 32 (0 : UInt8)), cown q.1 (rU UInt8) i_48 0 q.2.1, cown q.2.2.1 (rU UInt8) o_49 0 q.2.2.2], []⟩) (fun q => ?_) ?_
     · obtain ⟨go_50, gc_51, go_52, gc_53⟩ := q
       refine JC.at ⟨[(1, ov (S (rL (rU UInt8)) b_2)), (4, ov (PTR gb_3 0)), (7, ov (HDR go_50 0 (List.length i_48) gc_51)), (8, ov (HDR go_52 0 (List.length o_49) gc_53))], [cvar gb_3 (rV 32 (rU UInt8)) (Vector.replicate 32 (0 : UInt8)), cown go_50 (rU UInt8) i_48 0 gc_51, cown go_52 (rU UInt8) o_49 0 gc_53], []⟩ ?_
       refine JC.seq ?_
       refine JC.region ?_
       refine jc (op_move lb (.tmp rfl)) ?_
       refine jc (op_move lb (.tmp rfl)) ?_
       replace hq6 := bnd_inv hq6
       obtain ⟨i_54, hv_i_54, hq6⟩ := hq6
       refine jx (op_appendL (j := 1) lb tu22 tu22 rfl tB5 rfl (Nat.lt_of_lt_of_le Nat.zero_lt_one (Nat.le_of_ble_eq_true rfl)) (Nat.lt_of_lt_of_le Nat.zero_lt_one (Nat.le_of_ble_eq_true rfl))  rfl (.tmp rfl) (.tmp rfl) hv_i_54) (fun q => ?_)
       obtain ⟨go_55, gc_56⟩ := q
       replace hq6 := bnd_inv hq6
       obtain ⟨v_57, hv_v_57, hq6⟩ := hq6
       refine JL.pre (Imp.frz (j := 1) rfl (ImpK.slotH (s := 48) rfl ImpK.refl)) ?_
       refine jx (op_call (js := []) ld cl38 (sim_ref03_Sum k i_54 v_57 hv_v_57) .func (.cons (HasO.wk (.tmp rfl) wkHL) .nil) rfl) (fun _ => ?_)
       refine jx (op_alloc lb tZ45 zr45) (fun q => ?_)
       obtain ⟨gb_58, hqq⟩ : ∃ z, z = q := ⟨_, rfl⟩
       subst hqq
       refine jc (op_storeA (j := 3) tA45 (.tmp rfl) (.tmp rfl) rfl (UpdR.self (by rfl)) rfl) ?_
       refine JL.nrm ⟨[(4, ov (PTR gb_3 0)), (8, ov (HDR go_52 0 (List.length o_49) gc_53)), (10, ov (PTR gb_58 0))], [cvar gb_3 (rV 32 (rU UInt8)) (Vector.replicate 32 (0 : UInt8)), cown go_52 (rU UInt8) o_49 0 gc_53, cvar gb_58 (rV 32 (rU UInt8)) v_57], []⟩ [0, 1, 1] rfl rfl rfl ?_
       refine JL.nil ?_
       refine JQ.then ?_
       refine JC.seq ?_
       refine JC.region ?_
       refine jc (op_move lb (.tmp rfl)) ?_
       replace hq6 := bnd_inv hq6
       obtain ⟨v_59, hv_v_59, hq6⟩ := hq6
       refine JL.pre (Imp.frzVar (j := 2) rfl (ImpK.slotP (s := 10) rfl (Comp.self (rV 32 (rU UInt8)) v_57) ImpK.refl)) ?_
       refine jc (op_sliceP lb tu45 tz5 (.tmp rfl) .none .none hv_v_59) ?_
       replace hq6 := bnd_inv hq6
       obtain ⟨o_60, hv_o_60, hq6⟩ := hq6
       refine jx (op_appendL (j := 1) lb tu22 tu22 rfl tB5 rfl (Nat.lt_of_lt_of_le Nat.zero_lt_one (Nat.le_of_ble_eq_true rfl)) (Nat.lt_of_lt_of_le Nat.zero_lt_one (Nat.le_of_ble_eq_true rfl))  rfl (.tmp rfl) (.tmp rfl) hv_o_60) (fun q => ?_)
       obtain ⟨go_61, gc_62⟩ := q
       replace hq6 := bnd_inv hq6
       obtain ⟨v_63, hv_v_63, hq6⟩ := hq6
       refine JL.pre (Imp.frz (j := 1) rfl (ImpK.slotH (s := 52) rfl ImpK.refl)) ?_
       refine jx (op_call (js := []) ld cl38 (sim_ref03_Sum k o_60 v_63 hv_v_63) .func (.cons (HasO.wk (.tmp rfl) wkHL) .nil) rfl) (fun _ => ?_)
       refine jc (op_storeA (j := 0) tA45 (.tmp rfl) (.tmp rfl) rfl (UpdR.self (by rfl)) rfl) ?_
       refine JL.nrm ⟨[(4, ov (PTR gb_3 0))], [cvar gb_3 (rV 32 (rU UInt8)) v_63], []⟩ [0] rfl rfl rfl ?_
       refine JL.nil ?_
       refine JQ.then ?_
       refine JC.ret ?_
       replace hq6 := Option.some.inj hq6
       subst hq6
       exact JQ.done (js := []) (ss := [.val (A (rV 32 (rU UInt8)) v_63)]) () (.inl rfl) (.nil rfl) rfl (.cons (.cellA (j := 0) tA45 rfl rfl) .nil) rfl rfl rfl
     · refine JC.seq ?_
       refine JC.region ?_
       refine jc (op_assign lb .cI) ?_
       refine JL.nil ?_
       refine JQ.then ?_
       refine JC.block ?_
       refine JC.pre (Imp.nilown (rU UInt8)) ?_
       refine JC.pre (Imp.nilown (rU UInt8)) ?_
       refine JC.pre ?_ (JC.loop (γ := Option Nat × Nat × Option Nat × Nat) (stf := fun s q => ⟨[(1, ov (S (rL (rU UInt8)) b_2)), (4, ov (PTR gb_3 0)), (5, ov (HDR go_25 0 (List.length k_24) gc_26)), (7, ov (HDR q.1 0 (List.length s.1) q.2.1)), (8, ov (HDR q.2.2.1 0 (List.length s.2.1) q.2.2.2)), (9, ov (S (rI .i64) s.2.2))], [cvar gb_3 (rV 32 (rU UInt8)) (Vector.replicate 32 (0 : UInt8)), cown go_25 (rU UInt8) k_24 0 gc_26, cown q.1 (rU UInt8) s.1 0 q.2.1, cown q.2.2.1 (rU UInt8) s.2.1 0 q.2.2.2], []⟩) (q := (none, 0, none, 0)) hx6 ?_)
       · exact (Imp.norm (js := [0, 0, 0, 0]) rfl (.cons rfl (.cons rfl (.cons rfl (.cons rfl (.cons rfl (.cons rfl .nil)))))))
       · intro s q x hx hr
         obtain ⟨i_27, o_28, n_29⟩ := s
         obtain ⟨go_30, gc_31, go_32, gc_33⟩ := q
         change ref03_Code.b2 k k_24 i_27 o_28 n_29 = some x at hx
         unfold ref03_Code.b2 at hx
         refine JC.at ⟨[(1, ov (S (rL (rU UInt8)) b_2)), (4, ov (PTR gb_3 0)), (5, ov (HDR go_25 0 (List.length k_24) gc_26)), (7, ov (HDR go_30 0 (List.length i_27) gc_31)), (8, ov (HDR go_32 0 (List.length o_28) gc_33)), (9, ov (S (rI .i64) n_29))], [cvar gb_3 (rV 32 (rU UInt8)) (Vector.replicate 32 (0 : UInt8)), cown go_25 (rU UInt8) k_24 0 gc_26, cown go_30 (rU UInt8) i_27 0 gc_31, cown go_32 (rU UInt8) o_28 0 gc_33], []⟩ ?_
         refine JC.seq ?_
         refine JC.seq ?_
         refine JC.region ?_
         refine jc (op_move lb (.tmp rfl)) ?_
         replace hx := lt1_inv hx
         obtain ⟨v_34, hv_v_34, hx⟩ := hx
         refine jc (op_cmpI lb (.tmp rfl) .cI (congrArg some hv_v_34)) ?_
         refine JL.nil ?_
         refine JQ.then ?_
         replace hx := iteB_inv hx
         rcases hx with ⟨hc8, hx⟩ | ⟨hc8, hx⟩
         · refine JC.condT (.tmp rfl) hc8 ?_
           refine JC.skip ?_
           refine JQ.then ?_
           refine JC.seq ?_
           refine JC.block ?_
           refine JC.seq ?_
           refine JC.region ?_
           refine jc (op_move lb (.tmp rfl)) ?_
           refine jc (op_move lb (.tmp rfl)) ?_
           refine jc (op_move lb (.tmp rfl)) ?_
           replace hx := bnd_inv hx
           obtain ⟨i_35, hv_i_35, hx⟩ := hx
           refine jc (op_indexAddrOF (r := (rU UInt8)) (j := 1) lb tu22 tz5 rfl (.tmp rfl) (.tmp rfl) hv_i_35) ?_
           replace hx := bnd_inv hx
           obtain ⟨v_36, hv_v_36, hx⟩ := hx
           refine jc (op_loadOS (r := (rU UInt8)) (i := i_35) (off := 0) (j := 1) lb tS5 rfl rfl (.tmp rfl) hv_v_36 (Comp.self (rU UInt8) v_36) (by decide)) ?_
           replace hx := lt1_inv hx
           obtain ⟨v_37, hv_v_37, hx⟩ := hx
           refine jc (op_arU lb (.tmp rfl) (HasO.cU (x := (54 : UInt8)) rfl (by decide)) (congrArg some hv_v_37)) ?_
           refine jc (op_buildF (r := (rU UInt8)) lb tu22 tz5 tZ5 rfl (Nat.le_of_ble_eq_true rfl) (.S rfl (.tmp rfl) .nil) rfl) ?_
           replace hx := bnd_inv hx
           obtain ⟨i_38, hv_i_38, hx⟩ := hx
           refine jx (op_appendL (j := 2) lb tu22 tu22 rfl tB5 rfl (Nat.lt_of_lt_of_le Nat.zero_lt_one (Nat.le_of_ble_eq_true rfl)) (Nat.lt_of_lt_of_le Nat.zero_lt_one (Nat.le_of_ble_eq_true rfl))  rfl (.tmp rfl) (.tmp rfl) hv_i_38) (fun q => ?_)
           obtain ⟨go_39, gc_40⟩ := q
           refine JL.sub ⟨[(1, ov (S (rL (rU UInt8)) b_2)), (4, ov (PTR gb_3 0)), (5, ov (HDR go_25 0 (List.length k_24) gc_26)), (8, ov (HDR go_32 0 (List.length o_28) gc_33)), (9, ov (S (rI .i64) n_29)), (37, ov (HDR go_39 0 (List.length i_38) gc_40))], [cvar gb_3 (rV 32 (rU UInt8)) (Vector.replicate 32 (0 : UInt8)), cown go_25 (rU UInt8) k_24 0 gc_26, cown go_39 (rU UInt8) i_38 0 gc_40, cown go_32 (rU UInt8) o_28 0 gc_33], []⟩ rfl rfl rfl ?_
           refine jc (op_assign lb (.tmp rfl)) ?_
           refine JL.nil ?_
           refine JQ.then ?_
           refine JC.region ?_
           refine jc (op_move lb (.tmp rfl)) ?_
           refine jc (op_move lb (.tmp rfl)) ?_
           refine jc (op_move lb (.tmp rfl)) ?_
           replace hx := bnd_inv hx
           obtain ⟨i_41, hv_i_41, hx⟩ := hx
           refine jc (op_indexAddrOF (r := (rU UInt8)) (j := 1) lb tu22 tz5 rfl (.tmp rfl) (.tmp rfl) hv_i_41) ?_
           replace hx := bnd_inv hx
           obtain ⟨v_42, hv_v_42, hx⟩ := hx
           refine jc (op_loadOS (r := (rU UInt8)) (i := i_41) (off := 0) (j := 1) lb tS5 rfl rfl (.tmp rfl) hv_v_42 (Comp.self (rU UInt8) v_42) (by decide)) ?_
           replace hx := lt1_inv hx
           obtain ⟨v_43, hv_v_43, hx⟩ := hx
           refine jc (op_arU lb (.tmp rfl) (HasO.cU (x := (92 : UInt8)) rfl (by decide)) (congrArg some hv_v_43)) ?_
           refine jc (op_buildF (r := (rU UInt8)) lb tu22 tz5 tZ5 rfl (Nat.le_of_ble_eq_true rfl) (.S rfl (.tmp rfl) .nil) rfl) ?_
           replace hx := bnd_inv hx
           obtain ⟨o_44, hv_o_44, hx⟩ := hx
           refine jx (op_appendL (j := 3) lb tu22 tu22 rfl tB5 rfl (Nat.lt_of_lt_of_le Nat.zero_lt_one (Nat.le_of_ble_eq_true rfl)) (Nat.lt_of_lt_of_le Nat.zero_lt_one (Nat.le_of_ble_eq_true rfl))  rfl (.tmp rfl) (.tmp rfl) hv_o_44) (fun q => ?_)
           obtain ⟨go_45, gc_46⟩ := q
           refine jc (op_assign lb (.tmp rfl)) ?_
           refine JL.sub ⟨[(1, ov (S (rL (rU UInt8)) b_2)), (4, ov (PTR gb_3 0)), (5, ov (HDR go_25 0 (List.length k_24) gc_26)), (7, ov (HDR go_39 0 (List.length i_38) gc_40)), (8, ov (HDR go_45 0 (List.length o_44) gc_46)), (9, ov (S (rI .i64) n_29))], [cvar gb_3 (rV 32 (rU UInt8)) (Vector.replicate 32 (0 : UInt8)), cown go_25 (rU UInt8) k_24 0 gc_26, cown go_39 (rU UInt8) i_38 0 gc_40, cown go_45 (rU UInt8) o_44 0 gc_46], []⟩ rfl rfl rfl ?_
           refine JL.nil ?_
           refine JQ.outNB ?_
           refine JQ.then ?_
           refine JC.region ?_
           refine jc (op_move lb (.tmp rfl)) ?_
           replace hx := lt1_inv hx
           obtain ⟨v_47, hv_v_47, hx⟩ := hx
           refine jc (op_arI lb (.tmp rfl) .cI (congrArg some hv_v_47)) ?_
           refine jc (op_assign lb (.tmp rfl)) ?_
           refine JL.nil ?_
           replace hx := Option.some.inj hx
           first | subst hx | clear hx
           exact JQ.next (go_39, gc_40, go_45, gc_46) rfl (Imp.norm (js := [0, 0, 0, 0]) rfl (.cons rfl (.cons rfl (.cons rfl (.cons rfl (.cons rfl (.cons rfl .nil)))))))
         · refine JC.condF (.tmp rfl) hc8 ?_
           refine JC.exit ?_
           refine JQ.outX ?_
           replace hx := Option.some.inj hx
           first | subst hx | clear hx
           have ht := hr _ rfl
           have hq7 := congrArg some ht
           clear hr ht
           refine JQ.outX ?_
           refine JQ.here ?_
           replace hq7 := Option.some.inj hq7
           replace hq7 := Prod.mk.inj hq7
           obtain ⟨hq7_a, hq7⟩ := hq7
           first | subst hq7_a | clear hq7_a
           first | subst hq7 | clear hq7
           exact JQ.join (go_30, gc_31, go_32, gc_33) (Imp.norm (js := [0, 1, 1]) rfl (.cons rfl (.cons rfl (.cons rfl (.cons rfl .nil)))))
   · refine JC.block ?_
     refine JC.pre ?_ (JC.loop (γ := Option Nat × Nat) (stf := fun s q => ⟨[(1, ov (S (rL (rU UInt8)) b_2)), (4, ov (PTR gb_3 0)), (5, ov (HDR q.1 0 (List.length s) q.2))], [cvar gb_3 (rV 32 (rU UInt8)) (Vector.replicate 32 (0 : UInt8)), cown q.1 (rU UInt8) s 0 q.2], []⟩) (q := (go_15, gc_16)) hx3 ?_)
     · exact (Imp.norm (js := [0, 0]) rfl (.cons rfl (.cons rfl (.cons rfl .nil))))
     · intro k_17 q x hx hr
       obtain ⟨go_18, gc_19⟩ := q
       change ref03_Code.b1 k k_17 = some x at hx
       unfold ref03_Code.b1 at hx
       refine JC.at ⟨[(1, ov (S (rL (rU UInt8)) b_2)), (4, ov (PTR gb_3 0)), (5, ov (HDR go_18 0 (List.length k_17) gc_19))], [cvar gb_3 (rV 32 (rU UInt8)) (Vector.replicate 32 (0 : UInt8)), cown go_18 (rU UInt8) k_17 0 gc_19], []⟩ ?_
       refine JC.seq ?_
       refine JC.seq ?_
       refine JC.region ?_
       refine jc (op_move lb (.tmp rfl)) ?_
       refine jc (op_lenH lb tu22 (.tmp rfl)) ?_
       replace hx := lt1_inv hx
       obtain ⟨v_20, hv_v_20, hx⟩ := hx
       refine jc (op_cmpI lb (.tmp rfl) .cI (congrArg some hv_v_20)) ?_
       refine JL.nil ?_
       refine JQ.then ?_
       replace hx := iteB_inv hx
       rcases hx with ⟨hc5, hx⟩ | ⟨hc5, hx⟩
       · refine JC.condT (.tmp rfl) hc5 ?_
         refine JC.skip ?_
         refine JQ.then ?_
         refine JC.block ?_
         refine JC.region ?_
         refine jc (op_move lb (.tmp rfl)) ?_
         refine jc (op_buildF (r := (rU UInt8)) lb tu22 tz5 tZ5 rfl (Nat.le_of_ble_eq_true rfl) (.S rfl (HasO.cU (x := (0 : UInt8)) rfl (by decide)) .nil) rfl) ?_
         replace hx := bnd_inv hx
         obtain ⟨k_21, hv_k_21, hx⟩ := hx
         refine jx (op_appendL (j := 1) lb tu22 tu22 rfl tB5 rfl (Nat.lt_of_lt_of_le Nat.zero_lt_one (Nat.le_of_ble_eq_true rfl)) (Nat.lt_of_lt_of_le Nat.zero_lt_one (Nat.le_of_ble_eq_true rfl))  rfl (.tmp rfl) (.tmp rfl) hv_k_21) (fun q => ?_)
         obtain ⟨go_22, gc_23⟩ := q
         refine jc (op_assign lb (.tmp rfl)) ?_
         refine JL.nil ?_
         refine JQ.outNB ?_
         replace hx := Option.some.inj hx
         first | subst hx | clear hx
         exact JQ.next (go_22, gc_23) rfl (Imp.norm (js := [0, 0]) rfl (.cons rfl (.cons rfl (.cons rfl .nil))))
       · refine JC.condF (.tmp rfl) hc5 ?_
         refine JC.exit ?_
         refine JQ.outX ?_
         replace hx := Option.some.inj hx
         first | subst hx | clear hx
         have ht := hr _ rfl
         have hq4 := congrArg some ht
         clear hr ht
         refine JQ.outX ?_
         refine JQ.here ?_
         replace hq4 := Option.some.inj hq4
         first | subst hq4 | clear hq4
         exact JQ.join (go_18, gc_19) (Imp.norm (js := [0, 0]) rfl (.cons rfl (.cons rfl (.cons rfl .nil))))
 · refine JC.seq ?_
   refine JC.region ?_
   refine jc (op_move lb (.tmp rfl)) ?_
   refine jc (op_lenH lb tu22 (.tmp rfl)) ?_
   replace hx1 := lt1_inv hx1
   obtain ⟨v_7, hv_v_7, hx1⟩ := hx1
   refine jc (op_cmpI lb (.tmp rfl) .cI (congrArg some hv_v_7)) ?_
   refine JL.nil ?_
   refine JQ.then ?_
   replace hx1 := iteB_inv hx1
   rcases hx1 with ⟨hc2, hx1⟩ | ⟨hc2, hx1⟩
   · refine JC.condT (.tmp rfl) hc2 ?_
     refine JC.seq ?_
     refine JC.region ?_
     refine jc (op_move lb (.tmp rfl)) ?_
     replace hx1 := bnd_inv hx1
     obtain ⟨v_8, hv_v_8, hx1⟩ := hx1
     refine jx (op_call (js := []) ld cl38 (sim_ref03_Sum k secret_1 v_8 hv_v_8) .func (.cons (.tmp rfl) .nil) rfl) (fun _ => ?_)
     refine jx (op_alloc lb tZ45 zr45) (fun q => ?_)
     obtain ⟨gb_9, hqq⟩ : ∃ z, z = q := ⟨_, rfl⟩
     subst hqq
     refine jc (op_storeA (j := 2) tA45 (.tmp rfl) (.tmp rfl) rfl (UpdR.self (by rfl)) rfl) ?_
     refine JL.nrm ⟨[(1, ov (S (rL (rU UInt8)) b_2)), (4, ov (PTR gb_3 0)), (6, ov (PTR gb_9 0))], [cvar gb_3 (rV 32 (rU UInt8)) (Vector.replicate 32 (0 : UInt8)), cvar gb_9 (rV 32 (rU UInt8)) v_8], []⟩ [0, 1] rfl rfl rfl ?_
     refine JL.nil ?_
     refine JQ.then ?_
     refine JC.region ?_
     replace hx1 := bnd_inv hx1
     obtain ⟨v_10, hv_v_10, hx1⟩ := hx1
     refine JL.pre (Imp.frzVar (j := 1) rfl (ImpK.slotP (s := 6) rfl (Comp.self (rV 32 (rU UInt8)) v_8) ImpK.refl)) ?_
     refine jc (op_sliceP lb tu45 tz5 (.tmp rfl) .none .none hv_v_10) ?_
     replace hx1 := bnd_inv hx1
     obtain ⟨v_11, hv_v_11, hx1⟩ := hx1
     refine JL.pre (Imp.nilown (rU UInt8)) ?_
     refine jx (op_appendL (j := 1) lb tu22 tu22 rfl tB5 rfl (Nat.lt_of_lt_of_le Nat.zero_lt_one (Nat.le_of_ble_eq_true rfl)) (Nat.lt_of_lt_of_le Nat.zero_lt_one (Nat.le_of_ble_eq_true rfl))  rfl HasO.nilH (.tmp rfl) hv_v_11) (fun q => ?_)
     obtain ⟨go_12, gc_13⟩ := q
     refine JL.sub ⟨[(1, ov (S (rL (rU UInt8)) b_2)), (4, ov (PTR gb_3 0)), (19, ov (HDR go_12 0 (List.length v_11) gc_13))], [cvar gb_3 (rV 32 (rU UInt8)) (Vector.replicate 32 (0 : UInt8)), cown go_12 (rU UInt8) v_11 0 gc_13], []⟩ rfl rfl rfl ?_
     refine jc (op_assign lb (.tmp rfl)) ?_
     refine JL.nil ?_
     replace hx1 := Option.some.inj hx1
     first | subst hx1 | clear hx1
     exact JQ.join (go_12, gc_13) (Imp.norm (js := [0, 0]) rfl (.cons rfl (.cons rfl (.cons rfl .nil))))
   · refine JC.condF (.tmp rfl) hc2 ?_
     refine JC.skip ?_
     replace hx1 := Option.some.inj hx1
     first | subst hx1 | clear hx1
     exact JQ.join (go_5, gc_6) (Imp.norm (js := [0, 0]) rfl (.cons rfl (.cons rfl (.cons rfl .nil))))

theorem sim_ref10_Bytes (k : Nat) (secret_1 : (List UInt8)) (device_2 : (List UInt8)) (v_3 : (Vector UInt64 16)) (r : (List UInt8)) (hm : ref10_Bytes k secret_1 device_2 v_3 = some r) : Sim Try.prog 12 [S (rL (rU UInt8)) secret_1, S rS device_2, A (rV 16 (rU UInt64)) v_3] [] (γ := Option Nat × Nat) (fun q => [cown q.1 (rU UInt8) r 0 q.2]) (fun q => .one (.val (HDR q.1 0 (List.length r) q.2))) := by
 unfold ref10_Bytes at hm
 refine Sim.of Try.func12 rfl rfl (Nat.le_of_ble_eq_true rfl) (fun e0 w0 => ?_)
 refine JC.at ⟨[(0, ov (S (rL (rU UInt8)) secret_1)), (1, ov (S rS device_2)), (2, ov (A (rV 16 (rU UInt64)) v_3))], [], []⟩ ?_
 refine JC.seq ?_
 refine JC.region ?_
 refine jx (op_boxA lb (.tmp rfl)) (fun q => ?_)
 obtain ⟨gb_4, hqq⟩ : ∃ z, z = q := ⟨_, rfl⟩
 subst hqq
 refine jc (op_assign lb HasO.nilH) ?_
 refine JL.nil ?_
 refine JQ.then ?_
 refine JC.seq ?_
 refine JC.region ?_
 refine jc (op_loadA (j := 0) lb tA25 (.tmp rfl) rfl (Comp.self (rV 16 (rU UInt64)) v_3) rfl) ?_
 replace hm := bnd_inv hm
 obtain ⟨v_5, hv_v_5, hm⟩ := hm
 refine jx (op_call (js := []) ld cl26 (sim_ref01_Vector k v_3 v_5 hv_v_5) .func (.cons (.tmp rfl) .nil) rfl) (fun q => ?_)
 obtain ⟨go_6, gc_7⟩ := q
 refine jc (op_assign lb (.tmp rfl)) ?_
 refine JL.nil ?_
 refine JQ.then ?_
 refine JC.seq ?_
 refine JC.region ?_
 refine jc (op_move lb (.tmp rfl)) ?_
 refine jc (op_move lb (.tmp rfl)) ?_
 refine jc (op_convSB lb tu9 tu22 tu5 (.tmp rfl)) ?_
 refine JL.nrm ⟨[(7, ov (HDR go_6 0 (List.length v_5) gc_7)), (11, ov (S (rL (rU UInt8)) secret_1)), (13, ov (S (rL (rU UInt8)) device_2))], [cown go_6 (rU UInt8) v_5 0 gc_7], []⟩ [0] rfl rfl rfl ?_
 replace hm := bnd_inv hm
 obtain ⟨v_8, hv_v_8, hm⟩ := hm
 refine jx (op_call (js := []) ld cl28 (sim_ref01_Blob k device_2 v_8 hv_v_8) .func (.cons (.tmp rfl) .nil) rfl) (fun q => ?_)
 obtain ⟨go_9, gc_10⟩ := q
 refine jc (op_move lb (.tmp rfl)) ?_
 replace hm := bnd_inv hm
 obtain ⟨x_11, hv_x_11, hm⟩ := hm
 refine jx (op_appendO (j := 0) (j' := 1) lb tu22 tu22 rfl tB5 rfl (Nat.lt_of_lt_of_le Nat.zero_lt_one (Nat.le_of_ble_eq_true rfl)) (Nat.lt_of_lt_of_le Nat.zero_lt_one (Nat.le_of_ble_eq_true rfl))  rfl (.tmp rfl) rfl (.tmp rfl) hv_x_11) (fun q => ?_)
 obtain ⟨go_12, gc_13⟩ := q
 replace hm := bnd_inv hm
 obtain ⟨v_14, hv_v_14, hm⟩ := hm
 refine JL.pre (Imp.frz (j := 0) rfl (ImpK.slotH (s := 16) rfl ImpK.refl)) ?_
 refine jx (op_call (js := []) ld cl27 (sim_ref03_Code k secret_1 x_11 v_14 hv_v_14) .func (.cons (.tmp rfl) (.cons (HasO.wk (.tmp rfl) wkHL) .nil)) rfl) (fun _ => ?_)
 refine jx (op_alloc lb tZ45 zr45) (fun q => ?_)
 obtain ⟨gb_15, hqq⟩ : ∃ z, z = q := ⟨_, rfl⟩
 subst hqq
 refine JL.nrm ⟨[(7, ov (HDR go_6 0 (List.length v_5) gc_7)), (8, ov (PTR gb_15 0)), (17, ov (A (rV 32 (rU UInt8)) v_14))], [cown go_6 (rU UInt8) v_5 0 gc_7, cvar gb_15 (rV 32 (rU UInt8)) (Vector.replicate 32 (0 : UInt8))], []⟩ [1, 1] rfl rfl rfl ?_
 refine jc (op_storeA (j := 1) tA45 (.tmp rfl) (.tmp rfl) rfl (UpdR.self (by rfl)) rfl) ?_
 refine JL.nil ?_
 refine JQ.then ?_
 refine JC.seq ?_
 refine JC.region ?_
 refine jc (op_move lb (.tmp rfl)) ?_
 replace hm := bnd_inv hm
 obtain ⟨v_16, hv_v_16, hm⟩ := hm
 refine JL.pre (Imp.frzVar (j := 1) rfl (ImpK.slotP (s := 8) rfl (Comp.self (rV 32 (rU UInt8)) v_14) ImpK.refl)) ?_
 refine jc (op_sliceP lb tu45 tz5 (.tmp rfl) .none .none hv_v_16) ?_
 replace hm := bnd_inv hm
 obtain ⟨b_17, hv_b_17, hm⟩ := hm
 refine jx (op_appendL (j := 0) lb tu22 tu22 rfl tB5 rfl (Nat.lt_of_lt_of_le Nat.zero_lt_one (Nat.le_of_ble_eq_true rfl)) (Nat.lt_of_lt_of_le Nat.zero_lt_one (Nat.le_of_ble_eq_true rfl))  rfl (.tmp rfl) (.tmp rfl) hv_b_17) (fun q => ?_)
 obtain ⟨go_18, gc_19⟩ := q
 refine jc (op_assign lb (.tmp rfl)) ?_
 refine JL.nil ?_
 refine JQ.then ?_
 refine JC.ret ?_
 replace hm := Option.some.inj hm
 subst hm
 exact JQ.done (js := [0]) (ss := [.val (HDR go_18 0 (List.length b_17) gc_19)]) (go_18, gc_19) (.inl rfl) (.nil rfl) rfl (.cons (.tmp rfl) .nil) rfl rfl rfl

end Go.Proofs.Ytnhiiabdoichlaa
