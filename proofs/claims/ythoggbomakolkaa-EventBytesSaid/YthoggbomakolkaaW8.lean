/- Walks. -/
import Derived.Test.YthoggbomakolkaaT
namespace Go.Proofs.Ythoggbomakolkaa
open Go Fw
set_option linter.unusedVariables false
set_option maxRecDepth 100000
set_option maxHeartbeats 4000000

theorem sim_ref01_Put (k : Nat) (n_1 : UInt64) (size_2 : Int) (r : (List UInt8)) (hm : ref01_Put k n_1 size_2 = some r) : Sim Try.prog 36 [S (rU UInt64) n_1, S (rI .i64) size_2] [] (γ := Option Nat) (fun q => [cown q (rU UInt8) r 0 (Int.toNat size_2)]) (fun q => .one (.val (HDR q 0 (List.length r) (Int.toNat size_2)))) := by
 unfold ref01_Put at hm
 refine Sim.of Try.func36 rfl rfl (Nat.le_of_ble_eq_true rfl) (fun e0 w0 => ?_)
 refine JC.at ⟨[(0, ov (S (rU UInt64) n_1)), (1, ov (S (rI .i64) size_2))], [], []⟩ ?_
 refine JC.seq ?_
 refine JC.region ?_
 refine jc (op_assign lb HasO.nilH) ?_
 refine JL.nil ?_
 refine JQ.then ?_
 refine JC.seq ?_
 refine JC.region ?_
 refine jc (op_move lb (.tmp rfl)) ?_
 replace hm := bnd_inv hm
 obtain ⟨v_3, hv_v_3, hm⟩ := hm
 refine jx (op_makeOg lb tu35 tB5 zv5 (.tmp rfl) (.tmp rfl) hv_v_3) (fun q => ?_)
 obtain ⟨gb_4, hqq⟩ : ∃ z, z = q := ⟨_, rfl⟩
 subst hqq
 refine jc (op_assign lb (.tmp rfl)) ?_
 refine JL.nil ?_
 refine JQ.then ?_
 replace hm := bnd_inv hm
 obtain ⟨b_16, hx1, hq1⟩ := hm
 refine JC.seqJ (γ := Unit) (stj := fun q => ⟨[(5, ov (HDR (some gb_4) 0 (List.length b_16) (Int.toNat size_2)))], [cown (some gb_4) (rU UInt8) b_16 0 (Int.toNat size_2)], []⟩) (fun q => ?_) ?_
 · obtain _ := q
   refine JC.at ⟨[(5, ov (HDR (some gb_4) 0 (List.length b_16) (Int.toNat size_2)))], [cown (some gb_4) (rU UInt8) b_16 0 (Int.toNat size_2)], []⟩ ?_
   refine JC.seq ?_
   refine JC.region ?_
   refine jc (op_move lb (.tmp rfl)) ?_
   refine jc (op_assign lb (.tmp rfl)) ?_
   refine JL.nil ?_
   refine JQ.then ?_
   refine JC.ret ?_
   replace hq1 := Option.some.inj hq1
   subst hq1
   exact JQ.done (js := [0]) (ss := [.val (HDR (some gb_4) 0 (List.length b_16) (Int.toNat size_2))]) (some gb_4) (.inl rfl) (.nil rfl) rfl (.cons (.tmp rfl) .nil) rfl rfl rfl
 · refine JC.seq ?_
   refine JC.region ?_
   refine jc (op_move lb (.tmp rfl)) ?_
   replace hx1 := lt1_inv hx1
   obtain ⟨v_5, hv_v_5, hx1⟩ := hx1
   refine jc (op_arI lb (.tmp rfl) .cI (congrArg some hv_v_5)) ?_
   refine jc (op_assign lb (.tmp rfl)) ?_
   refine JL.nil ?_
   refine JQ.then ?_
   refine JC.block ?_
   refine JC.pre ?_ (JC.loop (γ := Unit) (stf := fun s q => ⟨[(0, ov (S (rU UInt64) s.1)), (5, ov (HDR (some gb_4) 0 (List.length s.2.1) (Int.toNat size_2))), (6, ov (S (rI .i64) s.2.2))], [cown (some gb_4) (rU UInt8) s.2.1 0 (Int.toNat size_2)], []⟩) (q := ()) hx1 ?_)
   · exact (Imp.norm (js := [0]) rfl (.cons rfl (.cons rfl (.cons rfl .nil))))
   · intro s q x hx hr
     obtain ⟨n_6, b_7, i_8⟩ := s
     obtain _ := q
     change ref01_Put.b1 k n_6 b_7 i_8 = some x at hx
     unfold ref01_Put.b1 at hx
     refine JC.at ⟨[(0, ov (S (rU UInt64) n_6)), (5, ov (HDR (some gb_4) 0 (List.length b_7) (Int.toNat size_2))), (6, ov (S (rI .i64) i_8))], [cown (some gb_4) (rU UInt8) b_7 0 (Int.toNat size_2)], []⟩ ?_
     refine JC.seq ?_
     refine JC.seq ?_
     refine JC.region ?_
     refine jc (op_move lb (.tmp rfl)) ?_
     replace hx := lt1_inv hx
     obtain ⟨v_9, hv_v_9, hx⟩ := hx
     refine jc (op_cmpI lb (.tmp rfl) .cI (congrArg some hv_v_9)) ?_
     refine JL.nil ?_
     refine JQ.then ?_
     replace hx := iteB_inv hx
     rcases hx with ⟨hc3, hx⟩ | ⟨hc3, hx⟩
     · refine JC.condT (.tmp rfl) hc3 ?_
       refine JC.skip ?_
       refine JQ.then ?_
       refine JC.seq ?_
       refine JC.block ?_
       refine JC.seq ?_
       refine JC.region ?_
       refine jc (op_move lb (.tmp rfl)) ?_
       refine jc (op_move lb (.tmp rfl)) ?_
       refine jc (op_move lb (.tmp rfl)) ?_
       replace hx := bnd_inv hx
       obtain ⟨v_10, hv_v_10, hx⟩ := hx
       refine jc (op_arU lb (.tmp rfl) (HasO.cU (x := (256 : UInt64)) rfl (by decide)) hv_v_10) ?_
       replace hx := lt1_inv hx
       obtain ⟨v_11, hv_v_11, hx⟩ := hx
       refine jc (op_convUU lb tu22 tu5 (.tmp rfl) hv_v_11) ?_
       replace hx := bnd_inv hx
       obtain ⟨i_12, hv_i_12, hx⟩ := hx
       refine jc (op_indexAddrOF (r := (rU UInt8)) (j := 0) lb tu35 tz5 rfl (.tmp rfl) (.tmp rfl) hv_i_12) ?_
       replace hx := bnd_inv hx
       obtain ⟨b_13, hv_b_13, hx⟩ := hx
       refine jc (op_storeOSg (r := (rU UInt8)) (j := 0) tS5 rfl rfl (.tmp rfl) (.tmp rfl) hv_b_13) ?_
       refine JL.pre (Imp.slot (s := 5) (q := HDR (some gb_4) 0 (List.length b_13) (Int.toNat size_2)) rfl (wkLen (setO'_len hv_b_13))) ?_
       refine JL.pre (Imp.slot (s := 15) (q := HDR (some gb_4) 0 (List.length b_13) (Int.toNat size_2)) rfl (wkLen (setO'_len hv_b_13))) ?_
       refine JL.nil ?_
       refine JQ.then ?_
       refine JC.region ?_
       refine jc (op_move lb (.tmp rfl)) ?_
       refine JL.sub ⟨[(0, ov (S (rU UInt64) n_6)), (5, ov (HDR (some gb_4) 0 (List.length b_13) (Int.toNat size_2))), (6, ov (S (rI .i64) i_8)), (21, ov (S (rU UInt64) n_6))], [cown (some gb_4) (rU UInt8) b_13 0 (Int.toNat size_2)], []⟩ (.cons rfl (.cons rfl (.cons rfl (.cons rfl .nil)))) rfl rfl ?_
       replace hx := bnd_inv hx
       obtain ⟨v_14, hv_v_14, hx⟩ := hx
       refine jc (op_arU lb (.tmp rfl) (HasO.cU (x := (256 : UInt64)) rfl (by decide)) hv_v_14) ?_
       refine jc (op_assign lb (.tmp rfl)) ?_
       refine JL.nil ?_
       refine JQ.outNB ?_
       refine JQ.then ?_
       refine JC.region ?_
       refine jc (op_move lb (.tmp rfl)) ?_
       replace hx := lt1_inv hx
       obtain ⟨v_15, hv_v_15, hx⟩ := hx
       refine jc (op_arI lb (.tmp rfl) .cI (congrArg some hv_v_15)) ?_
       refine jc (op_assign lb (.tmp rfl)) ?_
       refine JL.nil ?_
       replace hx := Option.some.inj hx
       first | subst hx | clear hx
       exact JQ.next () rfl (Imp.norm (js := [0]) rfl (.cons rfl (.cons rfl (.cons rfl .nil))))
     · refine JC.condF (.tmp rfl) hc3 ?_
       refine JC.exit ?_
       refine JQ.outX ?_
       replace hx := Option.some.inj hx
       first | subst hx | clear hx
       have ht := hr _ rfl
       have hq2 := congrArg some ht
       clear hr ht
       refine JQ.outX ?_
       refine JQ.here ?_
       replace hq2 := Option.some.inj hq2
       first | subst hq2 | clear hq2
       exact JQ.join () (Imp.norm (js := [0]) rfl (.cons rfl .nil))

theorem sim_ref01_Dot (k : Nat) (d_1 : api_Dot) (r : (List UInt8)) (hm : ref01_Dot k d_1 = some r) : Sim Try.prog 33 [A r_api_Dot d_1] [] (γ := Option Nat × Nat) (fun q => [cown q.1 (rU UInt8) r 0 q.2]) (fun q => .one (.val (HDR q.1 0 (List.length r) q.2))) := by
 unfold ref01_Dot at hm
 refine Sim.of Try.func33 rfl rfl (Nat.le_of_ble_eq_true rfl) (fun e0 w0 => ?_)
 refine JC.at ⟨[(0, ov (A r_api_Dot d_1))], [], []⟩ ?_
 refine JC.seq ?_
 refine JC.region ?_
 refine jx (op_boxA lb (.tmp rfl)) (fun q => ?_)
 obtain ⟨gb_2, hqq⟩ : ∃ z, z = q := ⟨_, rfl⟩
 subst hqq
 refine jc (op_assign lb HasO.nilH) ?_
 refine JL.nil ?_
 refine JQ.then ?_
 refine JC.seq ?_
 replace hm := lt1_inv hm
 obtain ⟨v_3, hv_v_3, hm⟩ := hm
 replace hm := bnd_inv hm
 obtain ⟨v_4, hv_v_4, hm⟩ := hm
 replace hm := bnd_inv hm
 obtain ⟨v_6, hv_v_6, hm⟩ := hm
 replace hm := bnd_inv hm
 obtain ⟨x_8, hv_x_8, hm⟩ := hm
 refine JC.anyE (kl := []) (kk := 0) (base := [(1, ov (PTR gb_2 0))])
     (fs := fun γ => [⟨some 3, ov (PTR gb_2 (0 + 0))⟩, ⟨some 4, ov (S (rI .i64) d_1.Region)⟩, ⟨some 5, ov (S (rU UInt64) v_3)⟩, ⟨some 6, ov (HDR (deo (γ 3 0)) 0 (List.length v_4) (Int.toNat (1 : Int)))⟩, ⟨some 7, ov (PTR gb_2 (0 + 1))⟩, ⟨some 8, ov (S (rU UInt64) d_1.Count)⟩, ⟨some 9, ov (HDR (deo (γ 6 0)) 0 (List.length v_6) (Int.toNat (8 : Int)))⟩, ⟨some 10, ov (HDR (deo (γ 7 0)) 0 (List.length x_8) (γ 7 1))⟩, ⟨some 2, ov (HDR (deo (γ 7 0)) 0 (List.length x_8) (γ 7 1))⟩])
     (rs := fun γ => [⟨cvar gb_2 r_api_Dot d_1, none, none, [1, 5]⟩, ⟨cown (deo (γ 3 0)) (rU UInt8) v_4 0 (Int.toNat (1 : Int)), (some 3), (some 7), []⟩, ⟨cown (deo (γ 6 0)) (rU UInt8) v_6 0 (Int.toNat (8 : Int)), (some 6), none, [7]⟩, ⟨cown (deo (γ 7 0)) (rU UInt8) x_8 0 (γ 7 1), (some 7), none, []⟩])
     (ds := [3, 4, 5, 6, 7, 8, 9, 10, 2]) (bs := [1]) (afts := [[], [], [], [3, 6, 7, 8], [], [], [6, 7, 8], [7, 8], []]) (js := [0]) mixed (.cons rfl .nil) (fun _ => rfl)
     (by
      refine dS 1 (fun γ ρ B hb hd => op_fieldAddr (off := 0) lb tf24_0 (.tmp (hb 1 _ rfl))) ?_
      refine DSteps.cons (j := 2) rfl (fun _ => rfl) (.run (fun γ ρ B hb hd => ⟨.none, OpStep.at ⟨ρ, (cvar gb_2 r_api_Dot d_1) :: B, _⟩ (setO ⟨ρ, (cvar gb_2 r_api_Dot d_1) :: B, _⟩ _ _) (op_loadS (j := 0) lb tS3 (.tmp (hl hd 0 3 rfl)) rfl (Comp.trans (Comp.self r_api_Dot d_1) (comp_api_Dot_Region d_1) (Nat.le_of_ble_eq_true rfl)) rfl rfl)⟩)) ?_
      refine dS 3 (fun γ ρ B hb hd => op_convIU lb tu3 tu22 (.tmp (hl hd 1 4 rfl)) hv_v_3) ?_
      refine DSteps.cons (j := 4) rfl (fun _ => rfl) (.runX (fun _ _ => rfl) (fun γ ρ B hb hd => ⟨.none, OpX.ghost (γ := Option Nat) (st' := fun q => setO ⟨ρ, (cown q (rU UInt8) v_4 0 (Int.toNat (1 : Int))) :: B, _⟩ (some 6) (ov (HDR q 0 (List.length v_4) (Int.toNat (1 : Int))))) (fun q c => eno q) (op_call (js := []) ld cl36 (sim_ref01_Put k v_3 (1 : Int) v_4 hv_v_4) .func (.cons (.tmp (hl hd 2 5 rfl)) (.cons .cI .nil)) rfl) (fun q => by cases q <;> exact Imp.refl)⟩) (fun _ _ => rfl) (fun _ _ => rfl)) ?_
      refine dS 5 (fun γ ρ B hb hd => op_fieldAddr (off := 1) lb tf24_1 (.tmp (hb 1 _ rfl))) ?_
      refine DSteps.cons (j := 6) rfl (fun _ => rfl) (.run (fun γ ρ B hb hd => ⟨.none, OpStep.at ⟨ρ, (cvar gb_2 r_api_Dot d_1) :: B, _⟩ (setO ⟨ρ, (cvar gb_2 r_api_Dot d_1) :: B, _⟩ _ _) (op_loadS (j := 0) lb tS22 (.tmp (hl hd 4 7 rfl)) rfl (Comp.trans (Comp.self r_api_Dot d_1) (comp_api_Dot_Count d_1) (Nat.le_of_ble_eq_true rfl)) rfl rfl)⟩)) ?_
      refine DSteps.cons (j := 7) rfl (fun _ => rfl) (.runX (fun _ _ => rfl) (fun γ ρ B hb hd => ⟨.none, OpX.ghost (γ := Option Nat) (st' := fun q => setO ⟨ρ, (cown q (rU UInt8) v_6 0 (Int.toNat (8 : Int))) :: B, _⟩ (some 9) (ov (HDR q 0 (List.length v_6) (Int.toNat (8 : Int))))) (fun q c => eno q) (op_call (js := []) ld cl36 (sim_ref01_Put k d_1.Count (8 : Int) v_6 hv_v_6) .func (.cons (.tmp (hl hd 5 8 rfl)) (.cons .cI .nil)) rfl) (fun q => by cases q <;> exact Imp.refl)⟩) (fun _ _ => rfl) (fun _ _ => rfl)) ?_
      refine DSteps.cons (j := 8) rfl (fun _ => rfl) (.runX (fun _ _ => rfl) (fun γ ρ B hb hd => ⟨.none, OpX.ghost (γ := Option Nat × Nat) (st' := fun q => setO ⟨ρ, (cown q.1 (rU UInt8) x_8 0 q.2) :: (cown (deo (γ 6 0)) (rU UInt8) v_6 0 (Int.toNat (8 : Int))) :: B, _⟩ (some 10) (ov (HDR q.1 0 (List.length x_8) q.2))) (fun q c => bif Nat.beq c 0 then eno q.1 else q.2) (op_appendO (j := 0) (j' := 1) lb tu35 tu35 rfl tB5 rfl (Nat.lt_of_lt_of_le Nat.zero_lt_one (Nat.le_of_ble_eq_true rfl)) (Nat.lt_of_lt_of_le Nat.zero_lt_one (Nat.le_of_ble_eq_true rfl))  rfl (.tmp (hl hd 3 6 rfl)) rfl (.tmp (hl hd 6 9 rfl)) hv_x_8) (fun q => by obtain ⟨q0, q1⟩ := q; cases q0 <;> exact Imp.refl)⟩) (fun _ _ => rfl) (fun _ _ => rfl)) ?_
      refine dS 9 (fun γ ρ B hb hd => op_assign lb (.tmp (hl hd 7 10 rfl))) ?_
      exact DSteps.nil)
     (by decide +kernel) (fun _ => rfl) rfl (fun _ => rfl) (fun _ => rfl) rfl (by decide) (by decide) (by decide +kernel) (fun _ d h => by cases h)
     (ρ' := fun γ => [(2, ov (HDR (deo (γ 7 0)) 0 (List.length x_8) (γ 7 1)))])
     (X' := fun γ => [cvar gb_2 r_api_Dot d_1, cown (deo (γ 6 0)) (rU UInt8) v_6 0 (Int.toNat (8 : Int)), cown (deo (γ 7 0)) (rU UInt8) x_8 0 (γ 7 1)])
     (fun γ ρ hb hd => (.cons (hdq hd 8 2 rfl) .nil)) (fun _ => rfl) (fun γ => ?_)
 generalize (deo (γ 3 0)) = go_5
 generalize (deo (γ 6 0)) = go_7
 generalize (deo (γ 7 0)) = go_9
 generalize (γ 7 1) = gc_10
 clear γ
 refine JQ.at ⟨[(2, ov (HDR go_9 0 (List.length x_8) gc_10))], [cvar gb_2 r_api_Dot d_1, cown go_7 (rU UInt8) v_6 0 (Int.toNat (8 : Int)), cown go_9 (rU UInt8) x_8 0 gc_10], []⟩ ?_
 refine JQ.then ?_
 refine JC.ret ?_
 replace hm := Option.some.inj hm
 subst hm
 exact JQ.done (js := [2]) (ss := [.val (HDR go_9 0 (List.length x_8) gc_10)]) (go_9, gc_10) (.inl rfl) (.nil rfl) rfl (.cons (.tmp rfl) .nil) rfl rfl rfl

theorem sim_ref01_Blob (k : Nat) (b_1 : (List UInt8)) (r : (List UInt8)) (hm : ref01_Blob k b_1 = some r) : Sim Try.prog 34 [S (rL (rU UInt8)) b_1] [] (γ := Option Nat × Nat) (fun q => [cown q.1 (rU UInt8) r 0 q.2]) (fun q => .one (.val (HDR q.1 0 (List.length r) q.2))) := by
 unfold ref01_Blob at hm
 refine Sim.of Try.func34 rfl rfl (Nat.le_of_ble_eq_true rfl) (fun e0 w0 => ?_)
 refine JC.at ⟨[(0, ov (S (rL (rU UInt8)) b_1))], [], []⟩ ?_
 refine JC.seq ?_
 refine JC.region ?_
 refine jc (op_assign lb HasO.nilH) ?_
 refine JL.nil ?_
 refine JQ.then ?_
 refine JC.seq ?_
 refine JC.region ?_
 refine jc (op_move lb (.tmp rfl)) ?_
 refine jc (op_lenL lb tu35 (.tmp rfl)) ?_
 replace hm := lt1_inv hm
 obtain ⟨v_2, hv_v_2, hm⟩ := hm
 refine jc (op_convIU lb tu3 tu22 (.tmp rfl) hv_v_2) ?_
 replace hm := bnd_inv hm
 obtain ⟨v_3, hv_v_3, hm⟩ := hm
 refine jx (op_call (js := []) ld cl36 (sim_ref01_Put k v_2 (2 : Int) v_3 hv_v_3) .func (.cons (.tmp rfl) (.cons .cI .nil)) rfl) (fun q => ?_)
 obtain ⟨go_4, hqq⟩ : ∃ z, z = q := ⟨_, rfl⟩
 subst hqq
 refine jc (op_move lb (.tmp rfl)) ?_
 replace hm := bnd_inv hm
 obtain ⟨x_5, hv_x_5, hm⟩ := hm
 refine jx (op_appendL (j := 0) lb tu35 tu35 rfl tB5 rfl (Nat.lt_of_lt_of_le Nat.zero_lt_one (Nat.le_of_ble_eq_true rfl)) (Nat.lt_of_lt_of_le Nat.zero_lt_one (Nat.le_of_ble_eq_true rfl))  rfl (.tmp rfl) (.tmp rfl) hv_x_5) (fun q => ?_)
 obtain ⟨go_6, gc_7⟩ := q
 refine jc (op_assign lb (.tmp rfl)) ?_
 refine JL.sub ⟨[(2, ov (HDR go_6 0 (List.length x_5) gc_7))], [cown go_6 (rU UInt8) x_5 0 gc_7], []⟩ (.cons rfl .nil) rfl rfl ?_
 refine JL.nil ?_
 refine JQ.then ?_
 refine JC.ret ?_
 replace hm := Option.some.inj hm
 subst hm
 exact JQ.done (js := [0]) (ss := [.val (HDR go_6 0 (List.length x_5) gc_7)]) (go_6, gc_7) (.inl rfl) (.nil rfl) rfl (.cons (.tmp rfl) .nil) rfl rfl rfl

theorem sim_ref01_Vector (k : Nat) (v_1 : (Vector UInt64 16)) (r : (List UInt8)) (hm : ref01_Vector k v_1 = some r) : Sim Try.prog 35 [A (rV 16 (rU UInt64)) v_1] [] (γ := Option Nat × Nat) (fun q => [cown q.1 (rU UInt8) r 0 q.2]) (fun q => .one (.val (HDR q.1 0 (List.length r) q.2))) := by
 unfold ref01_Vector at hm
 refine Sim.of Try.func35 rfl rfl (Nat.le_of_ble_eq_true rfl) (fun e0 w0 => ?_)
 refine JC.at ⟨[(0, ov (A (rV 16 (rU UInt64)) v_1))], [], []⟩ ?_
 refine JC.seq ?_
 refine JC.region ?_
 refine jx (op_boxA lb (.tmp rfl)) (fun q => ?_)
 obtain ⟨gb_2, hqq⟩ : ∃ z, z = q := ⟨_, rfl⟩
 subst hqq
 refine jc (op_assign lb HasO.nilH) ?_
 refine JL.nil ?_
 refine JQ.then ?_
 refine JC.seq ?_
 refine JC.region ?_
 refine jc (op_assign lb HasO.nilH) ?_
 refine JL.nil ?_
 refine JQ.then ?_
 replace hm := bnd_inv hm
 obtain ⟨b_16, hx1, hq1⟩ := hm
 refine JC.seqJ (γ := Option Nat × Nat) (stj := fun q => ⟨[(3, ov (HDR q.1 0 (List.length b_16) q.2))], [cown q.1 (rU UInt8) b_16 0 q.2], []⟩) (fun q => ?_) ?_
 · obtain ⟨go_17, gc_18⟩ := q
   refine JC.at ⟨[(3, ov (HDR go_17 0 (List.length b_16) gc_18))], [cown go_17 (rU UInt8) b_16 0 gc_18], []⟩ ?_
   refine JC.seq ?_
   refine JC.region ?_
   refine jc (op_move lb (.tmp rfl)) ?_
   refine jc (op_assign lb (.tmp rfl)) ?_
   refine JL.nil ?_
   refine JQ.then ?_
   refine JC.ret ?_
   replace hq1 := Option.some.inj hq1
   subst hq1
   exact JQ.done (js := [0]) (ss := [.val (HDR go_17 0 (List.length b_16) gc_18)]) (go_17, gc_18) (.inl rfl) (.nil rfl) rfl (.cons (.tmp rfl) .nil) rfl rfl rfl
 · refine JC.seq ?_
   refine JC.region ?_
   refine jc (op_assign lb .cI) ?_
   refine JL.nil ?_
   refine JQ.then ?_
   refine JC.block ?_
   refine JC.pre (Imp.nilown (rU UInt8)) ?_
   refine JC.pre ?_ (JC.loop (γ := Option Nat × Nat) (stf := fun s q => ⟨[(1, ov (PTR gb_2 0)), (3, ov (HDR q.1 0 (List.length s.1) q.2)), (4, ov (S (rI .i64) s.2))], [cvar gb_2 (rV 16 (rU UInt64)) v_1, cown q.1 (rU UInt8) s.1 0 q.2], []⟩) (q := (none, 0)) hx1 ?_)
   · exact (Imp.norm (js := [0, 0]) rfl (.cons rfl (.cons rfl (.cons rfl .nil))))
   · intro s q x hx hr
     obtain ⟨b_3, i_4⟩ := s
     obtain ⟨go_5, gc_6⟩ := q
     change ref01_Vector.b1 k v_1 b_3 i_4 = some x at hx
     unfold ref01_Vector.b1 at hx
     refine JC.at ⟨[(1, ov (PTR gb_2 0)), (3, ov (HDR go_5 0 (List.length b_3) gc_6)), (4, ov (S (rI .i64) i_4))], [cvar gb_2 (rV 16 (rU UInt64)) v_1, cown go_5 (rU UInt8) b_3 0 gc_6], []⟩ ?_
     refine JC.seq ?_
     refine JC.seq ?_
     refine JC.region ?_
     refine jc (op_move lb (.tmp rfl)) ?_
     replace hx := lt1_inv hx
     obtain ⟨v_7, hv_v_7, hx⟩ := hx
     refine jc (op_cmpI lb (.tmp rfl) .cI (congrArg some hv_v_7)) ?_
     refine JL.nil ?_
     refine JQ.then ?_
     replace hx := iteB_inv hx
     rcases hx with ⟨hc3, hx⟩ | ⟨hc3, hx⟩
     · refine JC.condT (.tmp rfl) hc3 ?_
       refine JC.skip ?_
       refine JQ.then ?_
       refine JC.seq ?_
       refine JC.block ?_
       refine JC.region ?_
       refine jc (op_move lb (.tmp rfl)) ?_
       refine jc (op_move lb (.tmp rfl)) ?_
       replace hx := bnd_inv hx
       obtain ⟨i_8, hv_i_8, hx⟩ := hx
       refine jc (op_indexAddrIF lb tr26 (.tmp rfl) (.tmp rfl) hv_i_8) ?_
       replace hx := lt1_inv hx
       obtain ⟨v_9, hv_v_9, hx⟩ := hx
       refine jc (op_loadS (j := 0) lb tS22 (.tmp rfl) rfl (Comp.at (Comp.self (rV 16 (rU UInt64)) v_1) i_8.2 rfl) rfl hv_v_9) ?_
       replace hx := bnd_inv hx
       obtain ⟨v_10, hv_v_10, hx⟩ := hx
       refine jx (op_call (js := []) ld cl36 (sim_ref01_Put k v_9 (8 : Int) v_10 hv_v_10) .func (.cons (.tmp rfl) (.cons .cI .nil)) rfl) (fun q => ?_)
       obtain ⟨go_11, hqq⟩ : ∃ z, z = q := ⟨_, rfl⟩
       subst hqq
       replace hx := bnd_inv hx
       obtain ⟨b_12, hv_b_12, hx⟩ := hx
       refine jx (op_appendO (j := 2) (j' := 0) lb tu35 tu35 rfl tB5 rfl (Nat.lt_of_lt_of_le Nat.zero_lt_one (Nat.le_of_ble_eq_true rfl)) (Nat.lt_of_lt_of_le Nat.zero_lt_one (Nat.le_of_ble_eq_true rfl))  rfl (.tmp rfl) rfl (.tmp rfl) hv_b_12) (fun q => ?_)
       obtain ⟨go_13, gc_14⟩ := q
       refine JL.nrm ⟨[(1, ov (PTR gb_2 0)), (4, ov (S (rI .i64) i_4)), (14, ov (HDR go_13 0 (List.length b_12) gc_14))], [cvar gb_2 (rV 16 (rU UInt64)) v_1, cown go_13 (rU UInt8) b_12 0 gc_14], []⟩ [1, 1] rfl (.cons rfl (.cons rfl (.cons rfl .nil))) rfl ?_
       refine jc (op_assign lb (.tmp rfl)) ?_
       refine JL.nil ?_
       refine JQ.outNB ?_
       refine JQ.then ?_
       refine JC.region ?_
       refine jc (op_move lb (.tmp rfl)) ?_
       replace hx := lt1_inv hx
       obtain ⟨v_15, hv_v_15, hx⟩ := hx
       refine jc (op_arI lb (.tmp rfl) .cI (congrArg some hv_v_15)) ?_
       refine jc (op_assign lb (.tmp rfl)) ?_
       refine JL.nil ?_
       replace hx := Option.some.inj hx
       first | subst hx | clear hx
       exact JQ.next (go_13, gc_14) rfl (Imp.norm (js := [0, 0]) rfl (.cons rfl (.cons rfl (.cons rfl .nil))))
     · refine JC.condF (.tmp rfl) hc3 ?_
       refine JC.exit ?_
       refine JQ.outX ?_
       replace hx := Option.some.inj hx
       first | subst hx | clear hx
       have ht := hr _ rfl
       have hq2 := congrArg some ht
       clear hr ht
       refine JQ.outX ?_
       refine JQ.here ?_
       replace hq2 := Option.some.inj hq2
       first | subst hq2 | clear hq2
       exact JQ.join (go_5, gc_6) (Imp.norm (js := [1]) rfl (.cons rfl .nil))

theorem sim_ref01_Join (k : Nat) (l_1 : (List (List UInt8))) (r : (List UInt8)) (hm : ref01_Join k l_1 = some r) : Sim Try.prog 37 [S (rL (rL (rU UInt8))) l_1] [] (γ := Option Nat × Nat) (fun q => [cown q.1 (rU UInt8) r 0 q.2]) (fun q => .one (.val (HDR q.1 0 (List.length r) q.2))) := by
 unfold ref01_Join at hm
 refine Sim.of Try.func37 rfl rfl (Nat.le_of_ble_eq_true rfl) (fun e0 w0 => ?_)
 refine JC.at ⟨[(0, ov (S (rL (rL (rU UInt8))) l_1))], [], []⟩ ?_
 refine JC.seq ?_
 refine JC.region ?_
 refine jc (op_assign lb HasO.nilH) ?_
 refine JL.nil ?_
 refine JQ.then ?_
 refine JC.seq ?_
 refine JC.region ?_
 refine jc (op_assign lb HasO.nilH) ?_
 refine JL.nil ?_
 refine JQ.then ?_
 replace hm := bnd_inv hm
 obtain ⟨o_12, hx1, hq1⟩ := hm
 refine JC.seqJ (γ := Option Nat × Nat) (stj := fun q => ⟨[(3, ov (HDR q.1 0 (List.length o_12) q.2))], [cown q.1 (rU UInt8) o_12 0 q.2], []⟩) (fun q => ?_) ?_
 · obtain ⟨go_13, gc_14⟩ := q
   refine JC.at ⟨[(3, ov (HDR go_13 0 (List.length o_12) gc_14))], [cown go_13 (rU UInt8) o_12 0 gc_14], []⟩ ?_
   refine JC.seq ?_
   refine JC.region ?_
   refine jc (op_move lb (.tmp rfl)) ?_
   refine jc (op_assign lb (.tmp rfl)) ?_
   refine JL.nil ?_
   refine JQ.then ?_
   refine JC.ret ?_
   replace hq1 := Option.some.inj hq1
   subst hq1
   exact JQ.done (js := [0]) (ss := [.val (HDR go_13 0 (List.length o_12) gc_14)]) (go_13, gc_14) (.inl rfl) (.nil rfl) rfl (.cons (.tmp rfl) .nil) rfl rfl rfl
 · refine JC.seq ?_
   refine JC.region ?_
   refine jc (op_assign lb .cI) ?_
   refine JL.nil ?_
   refine JQ.then ?_
   refine JC.block ?_
   refine JC.pre (Imp.nilown (rU UInt8)) ?_
   refine JC.pre ?_ (JC.loop (γ := Option Nat × Nat) (stf := fun s q => ⟨[(0, ov (S (rL (rL (rU UInt8))) l_1)), (3, ov (HDR q.1 0 (List.length s.1) q.2)), (4, ov (S (rI .i64) s.2))], [cown q.1 (rU UInt8) s.1 0 q.2], []⟩) (q := (none, 0)) hx1 ?_)
   · exact (Imp.norm (js := [0]) rfl (.cons rfl (.cons rfl (.cons rfl .nil))))
   · intro s q x hx hr
     obtain ⟨o_2, i_3⟩ := s
     obtain ⟨go_4, gc_5⟩ := q
     change ref01_Join.b1 k l_1 o_2 i_3 = some x at hx
     unfold ref01_Join.b1 at hx
     refine JC.at ⟨[(0, ov (S (rL (rL (rU UInt8))) l_1)), (3, ov (HDR go_4 0 (List.length o_2) gc_5)), (4, ov (S (rI .i64) i_3))], [cown go_4 (rU UInt8) o_2 0 gc_5], []⟩ ?_
     refine JC.seq ?_
     refine JC.seq ?_
     refine JC.region ?_
     refine jc (op_move lb (.tmp rfl)) ?_
     refine jc (op_move lb (.tmp rfl)) ?_
     refine jc (op_lenL lb tu64 (.tmp rfl)) ?_
     replace hx := lt1_inv hx
     obtain ⟨v_6, hv_v_6, hx⟩ := hx
     refine jc (op_cmpI lb (.tmp rfl) (.tmp rfl) (congrArg some hv_v_6)) ?_
     refine JL.nil ?_
     refine JQ.then ?_
     replace hx := iteB_inv hx
     rcases hx with ⟨hc3, hx⟩ | ⟨hc3, hx⟩
     · refine JC.condT (.tmp rfl) hc3 ?_
       refine JC.skip ?_
       refine JQ.then ?_
       refine JC.seq ?_
       refine JC.block ?_
       refine JC.region ?_
       refine jc (op_move lb (.tmp rfl)) ?_
       refine jc (op_move lb (.tmp rfl)) ?_
       refine jc (op_move lb (.tmp rfl)) ?_
       replace hx := bnd_inv hx
       obtain ⟨v_7, hv_v_7, hx⟩ := hx
       refine jc (op_indexAddrLg lb tu64 tz35 (.tmp rfl) (.tmp rfl) hv_v_7) ?_
       refine jc (op_loadPSg lb tS35 rfl (.tmp rfl) rfl) ?_
       replace hx := bnd_inv hx
       obtain ⟨o_8, hv_o_8, hx⟩ := hx
       refine jx (op_appendL (j := 0) lb tu35 tu35 rfl tB5 rfl (Nat.lt_of_lt_of_le Nat.zero_lt_one (Nat.le_of_ble_eq_true rfl)) (Nat.lt_of_lt_of_le Nat.zero_lt_one (Nat.le_of_ble_eq_true rfl))  rfl (.tmp rfl) (.tmp rfl) hv_o_8) (fun q => ?_)
       obtain ⟨go_9, gc_10⟩ := q
       refine JL.sub ⟨[(0, ov (S (rL (rL (rU UInt8))) l_1)), (4, ov (S (rI .i64) i_3)), (16, ov (HDR go_9 0 (List.length o_8) gc_10))], [cown go_9 (rU UInt8) o_8 0 gc_10], []⟩ (.cons rfl (.cons rfl (.cons rfl .nil))) rfl rfl ?_
       refine jc (op_assign lb (.tmp rfl)) ?_
       refine JL.nil ?_
       refine JQ.outNB ?_
       refine JQ.then ?_
       refine JC.region ?_
       refine jc (op_move lb (.tmp rfl)) ?_
       replace hx := lt1_inv hx
       obtain ⟨v_11, hv_v_11, hx⟩ := hx
       refine jc (op_arI lb (.tmp rfl) .cI (congrArg some hv_v_11)) ?_
       refine jc (op_assign lb (.tmp rfl)) ?_
       refine JL.nil ?_
       replace hx := Option.some.inj hx
       first | subst hx | clear hx
       exact JQ.next (go_9, gc_10) rfl (Imp.norm (js := [0]) rfl (.cons rfl (.cons rfl (.cons rfl .nil))))
     · refine JC.condF (.tmp rfl) hc3 ?_
       refine JC.exit ?_
       refine JQ.outX ?_
       replace hx := Option.some.inj hx
       first | subst hx | clear hx
       have ht := hr _ rfl
       have hq2 := congrArg some ht
       clear hr ht
       refine JQ.outX ?_
       refine JQ.here ?_
       replace hq2 := Option.some.inj hq2
       first | subst hq2 | clear hq2
       exact JQ.join (go_4, gc_5) (Imp.norm (js := [0]) rfl (.cons rfl .nil))

end Go.Proofs.Ythoggbomakolkaa
