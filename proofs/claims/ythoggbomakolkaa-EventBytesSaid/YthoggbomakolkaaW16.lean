/- Walks. -/
import Derived.Test.YthoggbomakolkaaT
import Derived.Test.YthoggbomakolkaaW15
namespace Go.Proofs.Ythoggbomakolkaa
open Go Fw
set_option linter.unusedVariables false
set_option maxRecDepth 100000
set_option maxHeartbeats 4000000

theorem sim_ref01_Reader_Vector (k : Nat) (r_1 : ref01_Reader) (gb_2 : Nat) (r : (Vector UInt64 16) × ref01_Reader) (hm : ref01_Reader_Vector k r_1 = some r) : Sim Try.prog 48 [PTR gb_2 0] [cvar gb_2 r_ref01_Reader r_1] (γ := Unit) (fun q => [cvar gb_2 r_ref01_Reader r.2]) (fun q => .one (.val (A (rV 16 (rU UInt64)) r.1))) := by
 unfold ref01_Reader_Vector at hm
 refine Sim.of Try.func48 rfl rfl (Nat.le_of_ble_eq_true rfl) (fun e0 w0 => ?_)
 refine JC.at ⟨[(0, ov (PTR gb_2 0))], [cvar gb_2 r_ref01_Reader r_1], []⟩ ?_
 refine JC.seq ?_
 refine JC.region ?_
 refine jx (op_alloc lb tZ26 zr26) (fun q => ?_)
 obtain ⟨gb_3, hqq⟩ : ∃ z, z = q := ⟨_, rfl⟩
 subst hqq
 refine JL.nil ?_
 refine JQ.then ?_
 refine JC.seq ?_
 refine JC.region ?_
 refine jx (op_alloc lb tZ26 zr26) (fun q => ?_)
 obtain ⟨gb_4, hqq⟩ : ∃ z, z = q := ⟨_, rfl⟩
 subst hqq
 refine JL.nil ?_
 refine JQ.then ?_
 refine JC.seq ?_
 refine JC.region ?_
 refine jc (op_move lb (.tmp rfl)) ?_
 replace hm := bnd_inv hm
 obtain ⟨⟨v_5, x_6⟩, hv_v_5, hm⟩ := hm
 refine jx (op_call (js := [0]) ld cl66 (sim_ref01_Reader_Bytes k (128 : Int) r_1 gb_2 (v_5, x_6) hv_v_5) .func (.cons (.tmp rfl) (.cons .cI .nil)) rfl) (fun _ => ?_)
 refine jc (op_assign lb (.tmp rfl)) ?_
 refine JL.nil ?_
 refine JQ.then ?_
 replace hm := bnd_inv hm
 obtain ⟨v_19, hx1, hq1⟩ := hm
 refine JC.seqJ (γ := Unit) (stj := fun q => ⟨[(2, ov (PTR gb_3 0)), (3, ov (PTR gb_4 0))], [cvar gb_3 (rV 16 (rU UInt64)) (Vector.replicate 16 (0 : UInt64)), cvar gb_4 (rV 16 (rU UInt64)) v_19, cvar gb_2 r_ref01_Reader x_6], []⟩) (fun q => ?_) ?_
 · obtain _ := q
   refine JC.at ⟨[(2, ov (PTR gb_3 0)), (3, ov (PTR gb_4 0))], [cvar gb_3 (rV 16 (rU UInt64)) (Vector.replicate 16 (0 : UInt64)), cvar gb_4 (rV 16 (rU UInt64)) v_19, cvar gb_2 r_ref01_Reader x_6], []⟩ ?_
   refine JC.seq ?_
   refine JC.region ?_
   refine jc (op_loadA (j := 1) lb tA26 (.tmp rfl) rfl (Comp.self (rV 16 (rU UInt64)) v_19) rfl) ?_
   refine jc (op_storeA (j := 0) tA26 (.tmp rfl) (.tmp rfl) rfl (UpdR.self (by rfl)) rfl) ?_
   refine JL.nil ?_
   refine JQ.then ?_
   refine JC.ret ?_
   replace hq1 := Option.some.inj hq1
   subst hq1
   exact JQ.done (js := [2]) (ss := [.val (A (rV 16 (rU UInt64)) v_19)]) () (.inl rfl) (.nil rfl) rfl (.cons (.cellA (j := 0) tA26 rfl rfl) .nil) rfl rfl rfl
 · refine JC.seq ?_
   refine JC.region ?_
   refine jc (op_assign lb .cI) ?_
   refine JL.sub ⟨[(2, ov (PTR gb_3 0)), (3, ov (PTR gb_4 0)), (4, ov (S (rL (rU UInt8)) v_5)), (5, ov (S (rI .i64) (0 : Int)))], [cvar gb_2 r_ref01_Reader x_6, cvar gb_3 (rV 16 (rU UInt64)) (Vector.replicate 16 (0 : UInt64)), cvar gb_4 (rV 16 (rU UInt64)) (Vector.replicate 16 (0 : UInt64))], []⟩ (.cons rfl (.cons rfl (.cons rfl (.cons rfl .nil)))) rfl rfl ?_
   refine JL.nil ?_
   refine JQ.then ?_
   refine JC.block ?_
   refine JC.pre ?_ (JC.loop (γ := Unit) (stf := fun s q => ⟨[(2, ov (PTR gb_3 0)), (3, ov (PTR gb_4 0)), (4, ov (S (rL (rU UInt8)) v_5)), (5, ov (S (rI .i64) s.2))], [cvar gb_3 (rV 16 (rU UInt64)) (Vector.replicate 16 (0 : UInt64)), cvar gb_4 (rV 16 (rU UInt64)) s.1, cvar gb_2 r_ref01_Reader x_6], []⟩) (q := ()) hx1 ?_)
   · exact (Imp.norm (js := [1, 1, 0]) rfl (.cons rfl (.cons rfl (.cons rfl (.cons rfl .nil)))))
   · intro s q x hx hr
     obtain ⟨v_7, i_8⟩ := s
     obtain _ := q
     change ref01_Reader_Vector.b1 k v_5 v_7 i_8 = some x at hx
     unfold ref01_Reader_Vector.b1 at hx
     refine JC.at ⟨[(2, ov (PTR gb_3 0)), (3, ov (PTR gb_4 0)), (4, ov (S (rL (rU UInt8)) v_5)), (5, ov (S (rI .i64) i_8))], [cvar gb_3 (rV 16 (rU UInt64)) (Vector.replicate 16 (0 : UInt64)), cvar gb_4 (rV 16 (rU UInt64)) v_7, cvar gb_2 r_ref01_Reader x_6], []⟩ ?_
     refine JC.seq ?_
     refine JC.seq ?_
     refine JC.region ?_
     refine jc (op_move lb (.tmp rfl)) ?_
     refine jc (op_move lb (.tmp rfl)) ?_
     refine jc (op_lenL lb tu35 (.tmp rfl)) ?_
     replace hx := bnd_inv hx
     obtain ⟨v_9, hv_v_9, hx⟩ := hx
     refine jc (op_arI lb (.tmp rfl) .cI hv_v_9) ?_
     replace hx := lt1_inv hx
     obtain ⟨v_10, hv_v_10, hx⟩ := hx
     refine jc (op_cmpI lb (.tmp rfl) (.tmp rfl) (congrArg some hv_v_10)) ?_
     refine JL.nil ?_
     refine JQ.then ?_
     replace hx := iteB_inv hx
     rcases hx with ⟨hc3, hx⟩ | ⟨hc3, hx⟩
     · refine JC.condT (.tmp rfl) hc3 ?_
       refine JC.skip ?_
       refine JQ.then ?_
       refine JC.seq ?_
       refine JC.block ?_
       refine JC.region ?_
       refine jc (op_move lb (.tmp rfl)) ?_
       refine jc (op_move lb (.tmp rfl)) ?_
       refine jc (op_move lb (.tmp rfl)) ?_
       replace hx := lt1_inv hx
       obtain ⟨v_11, hv_v_11, hx⟩ := hx
       refine jc (op_arI lb .cI (.tmp rfl) (congrArg some hv_v_11)) ?_
       refine jc (op_move lb (.tmp rfl)) ?_
       replace hx := lt1_inv hx
       obtain ⟨v_12, hv_v_12, hx⟩ := hx
       refine jc (op_arI lb .cI (.tmp rfl) (congrArg some hv_v_12)) ?_
       replace hx := lt1_inv hx
       obtain ⟨v_13, hv_v_13, hx⟩ := hx
       refine jc (op_arI lb (.tmp rfl) .cI (congrArg some hv_v_13)) ?_
       refine JL.sub ⟨[(2, ov (PTR gb_3 0)), (3, ov (PTR gb_4 0)), (4, ov (S (rL (rU UInt8)) v_5)), (5, ov (S (rI .i64) i_8)), (15, ov (S (rI .i64) i_8)), (16, ov (S (rL (rU UInt8)) v_5)), (18, ov (S (rI .i64) v_11)), (21, ov (S (rI .i64) v_13))], [cvar gb_3 (rV 16 (rU UInt64)) (Vector.replicate 16 (0 : UInt64)), cvar gb_4 (rV 16 (rU UInt64)) v_7, cvar gb_2 r_ref01_Reader x_6], []⟩ (.cons rfl (.cons rfl (.cons rfl (.cons rfl (.cons rfl (.cons rfl (.cons rfl (.cons rfl .nil)))))))) rfl rfl ?_
       replace hx := bnd_inv hx
       obtain ⟨v_14, hv_v_14, hx⟩ := hx
       refine jc (op_sliceLg lb tu35 tz5 (.tmp rfl) (.some (.tmp rfl)) (.some (.tmp rfl)) hv_v_14) ?_
       replace hx := bnd_inv hx
       obtain ⟨v_15, hv_v_15, hx⟩ := hx
       refine jx (op_call (js := []) ld cl67 (sim_ref01_Get k v_14 v_15 hv_v_15) .func (.cons (.tmp rfl) .nil) rfl) (fun _ => ?_)
       replace hx := bnd_inv hx
       obtain ⟨i_16, hv_i_16, hx⟩ := hx
       refine jc (op_indexAddrIF lb tr26 (.tmp rfl) (.tmp rfl) hv_i_16) ?_
       replace hx := lt1_inv hx
       obtain ⟨v_17, hv_v_17, hx⟩ := hx
       refine jc (op_storeS (j := 1) tS22 (.tmp rfl) (.tmp rfl) rfl rfl (Upd.at (Comp.self (rV 16 (rU UInt64)) v_7) i_16.2 rfl (Upd.self (rV 16 (rU UInt64)) v_7 _)).R hv_v_17) ?_
       refine JL.nil ?_
       refine JQ.outNB ?_
       refine JQ.then ?_
       refine JC.region ?_
       refine jc (op_move lb (.tmp rfl)) ?_
       replace hx := lt1_inv hx
       obtain ⟨v_18, hv_v_18, hx⟩ := hx
       refine jc (op_arI lb (.tmp rfl) .cI (congrArg some hv_v_18)) ?_
       refine jc (op_assign lb (.tmp rfl)) ?_
       refine JL.nil ?_
       replace hx := Option.some.inj hx
       first | subst hx | clear hx
       exact JQ.next () rfl (Imp.norm (js := [0, 0, 0]) rfl (.cons rfl (.cons rfl (.cons rfl (.cons rfl .nil)))))
     · refine JC.condF (.tmp rfl) hc3 ?_
       refine JC.exit ?_
       refine JQ.outX ?_
       replace hx := Option.some.inj hx
       first | subst hx | clear hx
       have ht := hr _ rfl
       have hq2 := congrArg some ht
       clear hr ht
       refine JQ.outX ?_
       refine JQ.here ?_
       replace hq2 := Option.some.inj hq2
       first | subst hq2 | clear hq2
       exact JQ.join () (Imp.norm (js := [0, 0, 0]) rfl (.cons rfl (.cons rfl .nil)))

theorem sim_ref01_Reader_Left (k : Nat) (r_1 : ref01_Reader) (gb_2 : Nat) (r : Int) (hm : ref01_Reader_Left k r_1 = some r) : Sim Try.prog 68 [PTR gb_2 0] [cvar gb_2 r_ref01_Reader r_1] (γ := Unit) (fun q => [cvar gb_2 r_ref01_Reader r_1]) (fun q => .one (.val (S (rI .i64) r))) := by
 unfold ref01_Reader_Left at hm
 refine Sim.of Try.func68 rfl rfl (Nat.le_of_ble_eq_true rfl) (fun e0 w0 => ?_)
 refine JC.at ⟨[(0, ov (PTR gb_2 0))], [cvar gb_2 r_ref01_Reader r_1], []⟩ ?_
 refine JC.seq ?_
 refine JC.region ?_
 refine jc (op_assign lb .cI) ?_
 refine JL.nil ?_
 refine JQ.then ?_
 refine JC.seq ?_
 refine JC.seq ?_
 refine JC.region ?_
 refine jc (op_move lb (.tmp rfl)) ?_
 refine jc (op_nilCheck lb (.tmp rfl) (fun e v h => by subst h; rfl)) ?_
 refine jc (op_fieldAddr (off := 2) lb tf77_2 (.tmp rfl)) ?_
 refine jc (op_loadS (j := 0) lb tS4 (.tmp rfl) rfl (Comp.trans (Comp.self r_ref01_Reader r_1) (comp_ref01_Reader_Failed r_1) (Nat.le_of_ble_eq_true rfl)) rfl rfl) ?_
 refine JL.nil ?_
 refine JQ.then ?_
 replace hm := iteB_inv hm
 rcases hm with ⟨hc1, hm⟩ | ⟨hc1, hm⟩
 · refine JC.condT (.tmp rfl) hc1 ?_
   refine JC.seq ?_
   refine JC.region ?_
   refine jc (op_assign lb .cI) ?_
   refine JL.nil ?_
   refine JQ.then ?_
   refine JC.ret ?_
   refine JQ.outR ?_
   replace hm := Option.some.inj hm
   subst hm
   exact JQ.done (js := [0]) (ss := [.val (S (rI .i64) (0 : Int))]) () (.inl rfl) (.nil rfl) rfl (.cons (.tmp rfl) .nil) rfl rfl rfl
 · refine JC.condF (.tmp rfl) hc1 ?_
   refine JC.skip ?_
   refine JQ.then ?_
   refine JC.seq ?_
   replace hm := lt1_inv hm
   obtain ⟨v_3, hv_v_3, hm⟩ := hm
   refine JC.anyE (kl := []) (kk := 0) (base := [(0, ov (PTR gb_2 0))])
       (fs := fun γ => [⟨some 7, ov (PTR gb_2 0)⟩, ⟨some 8, ov (PTR gb_2 0)⟩, ⟨some 9, ov (PTR gb_2 (0 + 0))⟩, ⟨some 10, ov (S (rL (rU UInt8)) r_1.B)⟩, ⟨some 11, ov (S (rI .i64) (List.length r_1.B : Int))⟩, ⟨some 12, ov (PTR gb_2 0)⟩, ⟨some 13, ov (PTR gb_2 0)⟩, ⟨some 14, ov (PTR gb_2 (0 + 1))⟩, ⟨some 15, ov (S (rI .i64) r_1.At)⟩, ⟨some 16, ov (S (rI .i64) v_3)⟩, ⟨some 2, ov (S (rI .i64) v_3)⟩])
       (rs := fun γ => [⟨cvar gb_2 r_ref01_Reader r_1, none, none, [3, 8]⟩])
       (ds := [7, 8, 9, 10, 11, 12, 13, 14, 15, 16, 2]) (bs := [0]) (afts := [[], [], [], [], [], [], [], [], [], [], []]) (js := [0]) mixed (.cons rfl .nil) (fun _ => rfl)
       (by
      refine dS 1 (fun γ ρ B hb hd => op_move lb (.tmp (hb 0 _ rfl))) ?_
      refine dS 2 (fun γ ρ B hb hd => op_nilCheck lb (.tmp (hl hd 0 7 rfl)) (fun e v h => by subst h; rfl)) ?_
      refine dS 3 (fun γ ρ B hb hd => op_fieldAddr (off := 0) lb tf77_0 (.tmp (hl hd 1 8 rfl))) ?_
      refine DSteps.cons (j := 4) rfl (fun _ => rfl) (.run (fun γ ρ B hb hd => ⟨.none, OpStep.at ⟨ρ, (cvar gb_2 r_ref01_Reader r_1) :: B, _⟩ (setO ⟨ρ, (cvar gb_2 r_ref01_Reader r_1) :: B, _⟩ _ _) (op_loadS (j := 0) lb tS35 (.tmp (hl hd 2 9 rfl)) rfl (Comp.trans (Comp.self r_ref01_Reader r_1) (comp_ref01_Reader_B r_1) (Nat.le_of_ble_eq_true rfl)) rfl rfl)⟩)) ?_
      refine dS 5 (fun γ ρ B hb hd => op_lenL lb tu35 (.tmp (hl hd 3 10 rfl))) ?_
      refine dS 6 (fun γ ρ B hb hd => op_move lb (.tmp (hb 0 _ rfl))) ?_
      refine dS 7 (fun γ ρ B hb hd => op_nilCheck lb (.tmp (hl hd 5 12 rfl)) (fun e v h => by subst h; rfl)) ?_
      refine dS 8 (fun γ ρ B hb hd => op_fieldAddr (off := 1) lb tf77_1 (.tmp (hl hd 6 13 rfl))) ?_
      refine DSteps.cons (j := 9) rfl (fun _ => rfl) (.run (fun γ ρ B hb hd => ⟨.none, OpStep.at ⟨ρ, (cvar gb_2 r_ref01_Reader r_1) :: B, _⟩ (setO ⟨ρ, (cvar gb_2 r_ref01_Reader r_1) :: B, _⟩ _ _) (op_loadS (j := 0) lb tS3 (.tmp (hl hd 7 14 rfl)) rfl (Comp.trans (Comp.self r_ref01_Reader r_1) (comp_ref01_Reader_At r_1) (Nat.le_of_ble_eq_true rfl)) rfl rfl)⟩)) ?_
      refine dS 10 (fun γ ρ B hb hd => op_arI lb (.tmp (hl hd 4 11 rfl)) (.tmp (hl hd 8 15 rfl)) (congrArg some hv_v_3)) ?_
      refine dS 11 (fun γ ρ B hb hd => op_assign lb (.tmp (hl hd 9 16 rfl))) ?_
      exact DSteps.nil)
       (by decide +kernel) (fun _ => rfl) rfl (fun _ => rfl) (fun _ => rfl) rfl (by decide) (by decide) (by decide +kernel) (fun _ d h => by cases h)
       (ρ' := fun γ => [(2, ov (S (rI .i64) v_3))])
       (X' := fun γ => [cvar gb_2 r_ref01_Reader r_1])
       (fun γ ρ hb hd => (.cons (hdq hd 10 2 rfl) .nil)) (fun _ => rfl) (fun γ => ?_)
   refine JQ.at ⟨[(2, ov (S (rI .i64) v_3))], [cvar gb_2 r_ref01_Reader r_1], []⟩ ?_
   refine JQ.then ?_
   refine JC.ret ?_
   replace hm := Option.some.inj hm
   subst hm
   exact JQ.done (js := [0]) (ss := [.val (S (rI .i64) v_3)]) () (.inl rfl) (.nil rfl) rfl (.cons (.tmp rfl) .nil) rfl rfl rfl

theorem sim_ref01_Reader_End (k : Nat) (r_1 : ref01_Reader) (gb_2 : Nat) (r : Int) (hm : ref01_Reader_End k r_1 = some r) : Sim Try.prog 50 [PTR gb_2 0] [cvar gb_2 r_ref01_Reader r_1] (γ := Unit) (fun q => [cvar gb_2 r_ref01_Reader r_1]) (fun q => .one (.val (S (rI .i64) r))) := by
 unfold ref01_Reader_End at hm
 refine Sim.of Try.func50 rfl rfl (Nat.le_of_ble_eq_true rfl) (fun e0 w0 => ?_)
 refine JC.at ⟨[(0, ov (PTR gb_2 0))], [cvar gb_2 r_ref01_Reader r_1], []⟩ ?_
 refine JC.seq ?_
 refine JC.region ?_
 refine jc (op_assign lb .cI) ?_
 refine JL.nil ?_
 refine JQ.then ?_
 refine JC.seq ?_
 replace hm := bnd_inv hm
 obtain ⟨x_5, hx1, hq1⟩ := hm
 refine JC.seqJ (γ := Unit) (stj := fun q => ⟨[(11, ov (S rB x_5))], [cvar gb_2 r_ref01_Reader r_1], []⟩) (fun q => ?_) ?_
 · obtain _ := q
   refine JC.at ⟨[(11, ov (S rB x_5))], [cvar gb_2 r_ref01_Reader r_1], []⟩ ?_
   replace hq1 := iteB_inv hq1
   rcases hq1 with ⟨hc4, hq1⟩ | ⟨hc4, hq1⟩
   · refine JC.condT (.tmp rfl) hc4 ?_
     refine JC.seq ?_
     refine JC.region ?_
     refine jc (op_assign lb .cI) ?_
     refine JL.nil ?_
     refine JQ.then ?_
     refine JC.ret ?_
     refine JQ.outR ?_
     replace hq1 := Option.some.inj hq1
     subst hq1
     exact JQ.done (js := [0]) (ss := [.val (S (rI .i64) (4 : Int))]) () (.inl rfl) (.nil rfl) rfl (.cons (.tmp rfl) .nil) rfl rfl rfl
   · refine JC.condF (.tmp rfl) hc4 ?_
     refine JC.skip ?_
     refine JQ.then ?_
     refine JC.seq ?_
     refine JC.region ?_
     refine jc (op_assign lb .cI) ?_
     refine JL.nil ?_
     refine JQ.then ?_
     refine JC.ret ?_
     replace hq1 := Option.some.inj hq1
     subst hq1
     exact JQ.done (js := [0]) (ss := [.val (S (rI .i64) (0 : Int))]) () (.inl rfl) (.nil rfl) rfl (.cons (.tmp rfl) .nil) rfl rfl rfl
 · refine JC.region ?_
   refine jc (op_move lb (.tmp rfl)) ?_
   refine jc (op_nilCheck lb (.tmp rfl) (fun e v h => by subst h; rfl)) ?_
   refine jc (op_fieldAddr (off := 2) lb tf77_2 (.tmp rfl)) ?_
   refine jc (op_loadS (j := 0) lb tS4 (.tmp rfl) rfl (Comp.trans (Comp.self r_ref01_Reader r_1) (comp_ref01_Reader_Failed r_1) (Nat.le_of_ble_eq_true rfl)) rfl rfl) ?_
   refine jc (op_move lb (.tmp rfl)) ?_
   replace hx1 := iteB_inv hx1
   rcases hx1 with ⟨hc3, hx1⟩ | ⟨hc3, hx1⟩
   · refine JL.skip (.no rfl (ltB rfl) rfl hc3) (fun d h => by cases h; exact ltB rfl) ?_
     refine JL.skip (.no rfl (ltB rfl) rfl hc3) (fun d h => by cases h; exact ltB rfl) ?_
     refine JL.skip (.no rfl (ltB rfl) rfl hc3) (fun d h => by cases h; exact ltB rfl) ?_
     refine jc (op_pickT lb (.tmp rfl) hc3 .cB) ?_
     refine JL.nil ?_
     replace hx1 := Option.some.inj hx1
     first | subst hx1 | clear hx1
     exact JQ.join () (Imp.norm (js := [0]) rfl (.cons rfl .nil))
   · refine JL.run (.yes rfl (ltB rfl) rfl hc3) (op_move lb (.tmp rfl)) ?_
     replace hx1 := bnd_inv hx1
     obtain ⟨v_3, hv_v_3, hx1⟩ := hx1
     refine JL.runX (.yes rfl (ltB rfl) rfl hc3) (op_call (js := [0]) ld cl68 (sim_ref01_Reader_Left k r_1 gb_2 v_3 hv_v_3) .func (.cons (.tmp rfl) .nil) rfl) (fun _ => ?_)
     replace hx1 := lt1_inv hx1
     obtain ⟨v_4, hv_v_4, hx1⟩ := hx1
     refine JL.run (.yes rfl (ltB rfl) rfl hc3) (op_cmpI lb (.tmp rfl) .cI (congrArg some hv_v_4)) ?_
     refine jc (op_pickF lb (.tmp rfl) hc3 (.tmp rfl)) ?_
     refine JL.sub ⟨[(11, ov (S rB v_4))], [cvar gb_2 r_ref01_Reader r_1], []⟩ (.cons rfl .nil) rfl rfl ?_
     refine JL.nil ?_
     replace hx1 := Option.some.inj hx1
     first | subst hx1 | clear hx1
     exact JQ.join () (Imp.norm (js := [0]) rfl (.cons rfl .nil))

end Go.Proofs.Ythoggbomakolkaa
