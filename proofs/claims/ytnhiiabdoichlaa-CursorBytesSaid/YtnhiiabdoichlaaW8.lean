/- Walks. -/
import Derived.Test.YtnhiiabdoichlaaT
import Derived.Test.YtnhiiabdoichlaaW0
import Derived.Test.YtnhiiabdoichlaaW6
import Derived.Test.YtnhiiabdoichlaaW7
namespace Go.Proofs.Ytnhiiabdoichlaa
open Go Fw
set_option linter.unusedVariables false
set_option maxRecDepth 100000
set_option maxHeartbeats 4000000

theorem sim_sha_Equal (k : Nat) (a_1 : (Vector UInt8 32)) (b_2 : (Vector UInt8 32)) (r : Bool) (hm : sha_Equal k a_1 b_2 = some r) : Sim Try.prog 24 [A (rV 32 (rU UInt8)) a_1, A (rV 32 (rU UInt8)) b_2] [] (γ := Unit) (fun q => []) (fun q => .one (.val (S rB r))) := by
 unfold sha_Equal at hm
 refine Sim.of Try.func24 rfl rfl (Nat.le_of_ble_eq_true rfl) (fun e0 w0 => ?_)
 refine JC.at ⟨[(0, ov (A (rV 32 (rU UInt8)) a_1)), (1, ov (A (rV 32 (rU UInt8)) b_2))], [], []⟩ ?_
 refine JC.seq ?_
 refine JC.region ?_
 refine jx (op_boxA lb (.tmp rfl)) (fun q => ?_)
 obtain ⟨gb_3, hqq⟩ : ∃ z, z = q := ⟨_, rfl⟩
 subst hqq
 refine jx (op_boxA lb (.tmp rfl)) (fun q => ?_)
 obtain ⟨gb_4, hqq⟩ : ∃ z, z = q := ⟨_, rfl⟩
 subst hqq
 refine jc (op_assign lb .cB) ?_
 refine JL.nil ?_
 refine JQ.then ?_
 refine JC.seq ?_
 refine JC.region ?_
 refine jc (op_assign lb (HasO.cU (x := (0 : UInt8)) rfl (by decide))) ?_
 refine JL.nil ?_
 refine JQ.then ?_
 replace hm := bnd_inv hm
 obtain ⟨x_15, hx1, hq1⟩ := hm
 refine JC.seqJ (γ := Unit) (stj := fun q => ⟨[(5, ov (S (rU UInt8) x_15))], [], []⟩) (fun q => ?_) ?_
 · obtain _ := q
   refine JC.at ⟨[(5, ov (S (rU UInt8) x_15))], [], []⟩ ?_
   refine JC.seq ?_
   refine JC.region ?_
   refine jc (op_move lb (.tmp rfl)) ?_
   replace hq1 := lt1_inv hq1
   obtain ⟨v_16, hv_v_16, hq1⟩ := hq1
   refine jc (op_cmpU lb (.tmp rfl) (HasO.cU (x := (0 : UInt8)) rfl (by decide)) (congrArg some hv_v_16)) ?_
   refine jc (op_assign lb (.tmp rfl)) ?_
   refine JL.nil ?_
   refine JQ.then ?_
   refine JC.ret ?_
   replace hq1 := Option.some.inj hq1
   subst hq1
   exact JQ.done (js := []) (ss := [.val (S rB v_16)]) () (.inl rfl) (.nil rfl) rfl (.cons (.tmp rfl) .nil) rfl rfl rfl
 · refine JC.seq ?_
   refine JC.region ?_
   refine jc (op_move lb .cI) ?_
   refine JL.nil ?_
   refine JQ.then ?_
   refine JC.block ?_
   refine JC.pre ?_ (JC.loop (γ := Unit) (stf := fun s q => ⟨[(2, ov (PTR gb_3 0)), (3, ov (PTR gb_4 0)), (5, ov (S (rU UInt8) s.1)), (7, ov (S (rI .i64) s.2))], [cvar gb_3 (rV 32 (rU UInt8)) a_1, cvar gb_4 (rV 32 (rU UInt8)) b_2], []⟩) (q := ()) hx1 ?_)
   · exact (Imp.norm (js := [0, 0]) rfl (.cons rfl (.cons rfl (.cons rfl (.cons rfl .nil)))))
   · intro s q x hx hr
     obtain ⟨x_5, x_6⟩ := s
     obtain _ := q
     change sha_Equal.b1 k a_1 b_2 x_5 x_6 = some x at hx
     unfold sha_Equal.b1 at hx
     refine JC.at ⟨[(2, ov (PTR gb_3 0)), (3, ov (PTR gb_4 0)), (5, ov (S (rU UInt8) x_5)), (7, ov (S (rI .i64) x_6))], [cvar gb_3 (rV 32 (rU UInt8)) a_1, cvar gb_4 (rV 32 (rU UInt8)) b_2], []⟩ ?_
     refine JC.seq ?_
     refine JC.region ?_
     replace hx := lt1_inv hx
     obtain ⟨v_7, hv_v_7, hx⟩ := hx
     refine jc (op_cmpI lb (.tmp rfl) .cI (congrArg some hv_v_7)) ?_
     refine JL.nil ?_
     refine JQ.then ?_
     refine JC.seq ?_
     replace hx := iteB_inv hx
     rcases hx with ⟨hc3, hx⟩ | ⟨hc3, hx⟩
     · refine JC.condT (.tmp rfl) hc3 ?_
       refine JC.skip ?_
       refine JQ.then ?_
       refine JC.seq ?_
       refine JC.block ?_
       refine JC.seq ?_
       refine JC.region ?_
       refine jc (op_move lb (.tmp rfl)) ?_
       refine jc (op_assign lb (.tmp rfl)) ?_
       refine JL.nil ?_
       refine JQ.then ?_
       replace hx := bnd_inv hx
       obtain ⟨i_8, hv_i_8, hx⟩ := hx
       replace hx := lt1_inv hx
       obtain ⟨v_9, hv_v_9, hx⟩ := hx
       replace hx := bnd_inv hx
       obtain ⟨i_10, hv_i_10, hx⟩ := hx
       replace hx := lt1_inv hx
       obtain ⟨v_11, hv_v_11, hx⟩ := hx
       replace hx := lt1_inv hx
       obtain ⟨v_12, hv_v_12, hx⟩ := hx
       replace hx := lt1_inv hx
       obtain ⟨v_13, hv_v_13, hx⟩ := hx
       refine JC.anyE (kl := [5]) (kk := 9) (base := [(2, ov (PTR gb_3 0)), (3, ov (PTR gb_4 0)), (5, ov (S (rU UInt8) x_5)), (6, ov (S (rI .i64) x_6)), (7, ov (S (rI .i64) x_6))])
           (fs := fun γ => [⟨some 10, ov (S (rU UInt8) x_5)⟩, ⟨some 11, ov (S (rI .i64) x_6)⟩, ⟨some 12, ov (PTR gb_3 (0 + i_8.1 * 1))⟩, ⟨some 13, ov (S (rU UInt8) v_9)⟩, ⟨some 14, ov (S (rI .i64) x_6)⟩, ⟨some 15, ov (PTR gb_4 (0 + i_10.1 * 1))⟩, ⟨some 16, ov (S (rU UInt8) v_11)⟩, ⟨some 17, ov (S (rU UInt8) v_12)⟩, ⟨some 18, ov (S (rU UInt8) v_13)⟩, ⟨some 5, ov (S (rU UInt8) v_13)⟩])
           (rs := fun γ => [⟨cvar gb_3 (rV 32 (rU UInt8)) a_1, none, none, [3]⟩, ⟨cvar gb_4 (rV 32 (rU UInt8)) b_2, none, none, [6]⟩])
           (ds := [10, 11, 12, 13, 14, 15, 16, 17, 18, 5]) (bs := [2, 3, 5, 6, 7]) (afts := [[], [], [], [], [], [], [], [], [], []]) (js := [0, 0]) mixed (.cons rfl (.cons rfl (.cons rfl (.cons rfl (.cons rfl .nil))))) (fun _ => rfl)
           (by
      refine dS 1 (fun γ ρ B hb hd => op_move lb (.tmp (hb 5 _ rfl))) ?_
      refine dS 2 (fun γ ρ B hb hd => op_move lb (.tmp (hb 6 _ rfl))) ?_
      refine dS 3 (fun γ ρ B hb hd => op_indexAddrIF lb tr45 (.tmp (hb 2 _ rfl)) (.tmp (hl hd 1 11 rfl)) hv_i_8) ?_
      refine DSteps.cons (j := 4) rfl (fun _ => rfl) (.run (fun γ ρ B hb hd => ⟨.none, OpStep.at ⟨ρ, (cvar gb_3 (rV 32 (rU UInt8)) a_1) :: B, _⟩ (setO ⟨ρ, (cvar gb_3 (rV 32 (rU UInt8)) a_1) :: B, _⟩ _ _) (op_loadS (j := 0) lb tS5 (.tmp (hl hd 2 12 rfl)) rfl (Comp.at (Comp.self (rV 32 (rU UInt8)) a_1) i_8.2 rfl) rfl hv_v_9)⟩)) ?_
      refine dS 5 (fun γ ρ B hb hd => op_move lb (.tmp (hb 6 _ rfl))) ?_
      refine dS 6 (fun γ ρ B hb hd => op_indexAddrIF lb tr45 (.tmp (hb 3 _ rfl)) (.tmp (hl hd 4 14 rfl)) hv_i_10) ?_
      refine DSteps.cons (j := 7) rfl (fun _ => rfl) (.run (fun γ ρ B hb hd => ⟨.none, OpStep.at ⟨ρ, (cvar gb_4 (rV 32 (rU UInt8)) b_2) :: B, _⟩ (setO ⟨ρ, (cvar gb_4 (rV 32 (rU UInt8)) b_2) :: B, _⟩ _ _) (op_loadS (j := 0) lb tS5 (.tmp (hl hd 5 15 rfl)) rfl (Comp.at (Comp.self (rV 32 (rU UInt8)) b_2) i_10.2 rfl) rfl hv_v_11)⟩)) ?_
      refine dS 8 (fun γ ρ B hb hd => op_arU lb (.tmp (hl hd 3 13 rfl)) (.tmp (hl hd 6 16 rfl)) (congrArg some hv_v_12)) ?_
      refine dS 9 (fun γ ρ B hb hd => op_arU lb (.tmp (hl hd 0 10 rfl)) (.tmp (hl hd 7 17 rfl)) (congrArg some hv_v_13)) ?_
      refine dS 10 (fun γ ρ B hb hd => op_assign lb (.tmp (hl hd 8 18 rfl))) ?_
      exact DSteps.nil)
           (by decide +kernel) (fun _ => rfl) rfl (fun _ => rfl) (fun _ => rfl) rfl (by decide) (by decide) (by decide +kernel) (fun _ d h => by simp at h; subst h; exact ⟨_, rfl, rfl⟩)
           (ρ' := fun γ => [(2, ov (PTR gb_3 0)), (3, ov (PTR gb_4 0)), (5, ov (S (rU UInt8) v_13)), (7, ov (S (rI .i64) x_6))])
           (X' := fun γ => [cvar gb_3 (rV 32 (rU UInt8)) a_1, cvar gb_4 (rV 32 (rU UInt8)) b_2])
           (fun γ ρ hb hd => (.cons (hb 2 _ rfl (by decide)) (.cons (hb 3 _ rfl (by decide)) (.cons (hdq hd 9 5 rfl) (.cons (hb 7 _ rfl (by decide)) .nil))))) (fun _ => rfl) (fun γ => ?_)
       refine JQ.at ⟨[(2, ov (PTR gb_3 0)), (3, ov (PTR gb_4 0)), (5, ov (S (rU UInt8) v_13)), (7, ov (S (rI .i64) x_6))], [cvar gb_3 (rV 32 (rU UInt8)) a_1, cvar gb_4 (rV 32 (rU UInt8)) b_2], []⟩ ?_
       refine JQ.outNB ?_
       refine JQ.then ?_
       refine JC.region ?_
       replace hx := lt1_inv hx
       obtain ⟨v_14, hv_v_14, hx⟩ := hx
       refine jc (op_arI lb (.tmp rfl) .cI (congrArg some hv_v_14)) ?_
       refine jc (op_move lb (.tmp rfl)) ?_
       refine JL.nil ?_
       replace hx := Option.some.inj hx
       first | subst hx | clear hx
       exact JQ.next () rfl (Imp.norm (js := [0, 0]) rfl (.cons rfl (.cons rfl (.cons rfl (.cons rfl .nil)))))
     · refine JC.condF (.tmp rfl) hc3 ?_
       refine JC.exit ?_
       refine JQ.outX ?_
       replace hx := Option.some.inj hx
       first | subst hx | clear hx
       have ht := hr _ rfl
       have hq2 := congrArg some ht
       clear hr ht
       refine JQ.outX ?_
       refine JQ.here ?_
       replace hq2 := Option.some.inj hq2
       first | subst hq2 | clear hq2
       exact JQ.join () (Imp.norm (js := []) rfl (.cons rfl .nil))

theorem sim_cursor_Of (k : Nat) (secret_1 : (List UInt8)) (device_2 : (List UInt8)) (b_3 : (List UInt8)) (r : (Vector UInt64 16) × Int) (hm : cursor_Of k secret_1 device_2 b_3 = some r) : Sim Try.prog 9 [S (rL (rU UInt8)) secret_1, S rS device_2, S (rL (rU UInt8)) b_3] [] (γ := Unit) (fun q => []) (fun q => .tup [.val (A (rV 16 (rU UInt64)) r.1), .val (S (rI .i64) r.2)]) := by
 unfold cursor_Of at hm
 refine Sim.of Try.func9 rfl rfl (Nat.le_of_ble_eq_true rfl) (fun e0 w0 => ?_)
 refine JC.at ⟨[(0, ov (S (rL (rU UInt8)) secret_1)), (1, ov (S rS device_2)), (2, ov (S (rL (rU UInt8)) b_3))], [], []⟩ ?_
 refine JC.seq ?_
 refine JC.region ?_
 refine jx (op_alloc lb tZ25 zr25) (fun q => ?_)
 obtain ⟨gb_4, hqq⟩ : ∃ z, z = q := ⟨_, rfl⟩
 subst hqq
 refine jc (op_assign lb .cI) ?_
 refine JL.nil ?_
 refine JQ.then ?_
 refine JC.seq ?_
 refine JC.block ?_
 refine JC.seq ?_
 refine JC.region ?_
 refine jc (op_move lb (.tmp rfl)) ?_
 replace hm := bnd_inv hm
 obtain ⟨v_5, hv_v_5, hm⟩ := hm
 refine jx (op_call (js := []) ld cl19 (sim_cursor_mayDevice k device_2 v_5 hv_v_5) .func (.cons (.tmp rfl) .nil) rfl) (fun _ => ?_)
 replace hm := lt1_inv hm
 obtain ⟨v_6, hv_v_6, hm⟩ := hm
 refine jc (op_not lb (.tmp rfl) hv_v_6) ?_
 refine jc (op_assign lb (.tmp rfl)) ?_
 refine JL.nil ?_
 refine JQ.then ?_
 replace hm := iteB_inv hm
 rcases hm with ⟨hc1, hm⟩ | ⟨hc1, hm⟩
 · refine JC.condT (.tmp rfl) hc1 ?_
   refine JC.seq ?_
   refine JC.region ?_
   refine jc (op_build lb tZ25 zv25 tp25 .nil rfl) ?_
   refine jc (op_storeA (j := 0) tA25 (.tmp rfl) (.tmp rfl) rfl (UpdR.self (by rfl)) rfl) ?_
   refine jc (op_assign lb .cI) ?_
   refine JL.nil ?_
   refine JQ.then ?_
   refine JC.ret ?_
   refine JQ.outRB ?_
   refine JQ.outR ?_
   replace hm := Option.some.inj hm
   subst hm
   exact JQ.done (js := []) (ss := [.val (A (rV 16 (rU UInt64)) (Vector.replicate 16 (0 : UInt64))), .val (S (rI .i64) (2 : Int))]) () (.inl rfl) (.nil rfl) rfl (.cons (.cellA (j := 0) tA25 rfl rfl) (.cons (.tmp rfl) .nil)) rfl rfl rfl
 · refine JC.condF (.tmp rfl) hc1 ?_
   refine JC.seq ?_
   refine JC.region ?_
   refine jc (op_move lb (.tmp rfl)) ?_
   refine jc (op_lenL lb tu22 (.tmp rfl)) ?_
   replace hm := lt1_inv hm
   obtain ⟨v_7, hv_v_7, hm⟩ := hm
   refine jc (op_cmpI lb (.tmp rfl) .cI (congrArg some hv_v_7)) ?_
   refine jc (op_assign lb (.tmp rfl)) ?_
   refine JL.sub ⟨[(0, ov (S (rL (rU UInt8)) secret_1)), (1, ov (S rS device_2)), (2, ov (S (rL (rU UInt8)) b_3)), (6, ov (PTR gb_4 0)), (16, ov (S rB v_7))], [cvar gb_4 (rV 16 (rU UInt64)) (Vector.replicate 16 (0 : UInt64))], []⟩ rfl rfl rfl ?_
   refine JL.nil ?_
   refine JQ.then ?_
   replace hm := iteB_inv hm
   rcases hm with ⟨hc2, hm⟩ | ⟨hc2, hm⟩
   · refine JC.condT (.tmp rfl) hc2 ?_
     refine JC.seq ?_
     refine JC.region ?_
     refine jc (op_build lb tZ25 zv25 tp25 .nil rfl) ?_
     refine jc (op_storeA (j := 0) tA25 (.tmp rfl) (.tmp rfl) rfl (UpdR.self (by rfl)) rfl) ?_
     refine jc (op_assign lb .cI) ?_
     refine JL.nil ?_
     refine JQ.then ?_
     refine JC.ret ?_
     refine JQ.outRB ?_
     refine JQ.outR ?_
     replace hm := Option.some.inj hm
     subst hm
     exact JQ.done (js := []) (ss := [.val (A (rV 16 (rU UInt64)) (Vector.replicate 16 (0 : UInt64))), .val (S (rI .i64) (0 : Int))]) () (.inl rfl) (.nil rfl) rfl (.cons (.cellA (j := 0) tA25 rfl rfl) (.cons (.tmp rfl) .nil)) rfl rfl rfl
   · refine JC.condF (.tmp rfl) hc2 ?_
     refine JC.seq ?_
     refine JC.region ?_
     refine jc (op_move lb (.tmp rfl)) ?_
     refine jc (op_lenL lb tu22 (.tmp rfl)) ?_
     replace hm := lt1_inv hm
     obtain ⟨v_8, hv_v_8, hm⟩ := hm
     refine jc (op_cmpI lb (.tmp rfl) .cI (congrArg some hv_v_8)) ?_
     refine jc (op_assign lb (.tmp rfl)) ?_
     refine JL.nil ?_
     refine JQ.then ?_
     replace hm := iteB_inv hm
     rcases hm with ⟨hc3, hm⟩ | ⟨hc3, hm⟩
     · refine JC.condT (.tmp rfl) hc3 ?_
       refine JC.seq ?_
       refine JC.region ?_
       refine jc (op_build lb tZ25 zv25 tp25 .nil rfl) ?_
       refine jc (op_storeA (j := 0) tA25 (.tmp rfl) (.tmp rfl) rfl (UpdR.self (by rfl)) rfl) ?_
       refine jc (op_assign lb .cI) ?_
       refine JL.nil ?_
       refine JQ.then ?_
       refine JC.ret ?_
       refine JQ.outRB ?_
       refine JQ.outR ?_
       replace hm := Option.some.inj hm
       subst hm
       exact JQ.done (js := []) (ss := [.val (A (rV 16 (rU UInt64)) (Vector.replicate 16 (0 : UInt64))), .val (S (rI .i64) (9 : Int))]) () (.inl rfl) (.nil rfl) rfl (.cons (.cellA (j := 0) tA25 rfl rfl) (.cons (.tmp rfl) .nil)) rfl rfl rfl
     · refine JC.condF (.tmp rfl) hc3 ?_
       refine JC.skip ?_
       refine JQ.outNB ?_
       refine JQ.then ?_
       refine JC.seq ?_
       replace hm := bnd_inv hm
       obtain ⟨v_9, hv_v_9, hm⟩ := hm
       replace hm := bnd_inv hm
       obtain ⟨v_10, hv_v_10, hm⟩ := hm
       refine JC.anyE (kl := []) (kk := 0) (base := [(0, ov (S (rL (rU UInt8)) secret_1)), (1, ov (S rS device_2)), (2, ov (S (rL (rU UInt8)) b_3)), (6, ov (PTR gb_4 0))])
           (fs := fun γ => [⟨some 26, ov (S (rL (rU UInt8)) b_3)⟩, ⟨some 27, ov (S (rLc (rU UInt8)) v_9)⟩, ⟨some 28, ov (S (rL (rU UInt8)) b_3)⟩, ⟨some 29, ov (S (rL (rU UInt8)) v_10)⟩, ⟨some 8, ov (S (rLc (rU UInt8)) v_9)⟩, ⟨some 9, ov (S (rL (rU UInt8)) v_10)⟩])
           (rs := fun γ => [⟨cvar gb_4 (rV 16 (rU UInt64)) (Vector.replicate 16 (0 : UInt64)), none, none, []⟩])
           (ds := [26, 27, 28, 29, 8, 9]) (bs := [0, 1, 2, 6]) (afts := [[], [], [], [], [], []]) (js := [0]) mixed (.cons rfl (.cons rfl (.cons rfl (.cons rfl .nil)))) (fun _ => rfl)
           (by
      refine dS 1 (fun γ ρ B hb hd => op_move lb (.tmp (hb 2 _ rfl))) ?_
      refine dS 2 (fun γ ρ B hb hd => op_sliceLcg lb tu22 tz5 (.tmp (hl hd 0 26 rfl)) .none (.some .cI) (.some .cI) hv_v_9) ?_
      refine dS 3 (fun γ ρ B hb hd => op_move lb (.tmp (hb 2 _ rfl))) ?_
      refine dS 4 (fun γ ρ B hb hd => op_sliceLg lb tu22 tz5 (.tmp (hl hd 2 28 rfl)) (.some .cI) .none hv_v_10) ?_
      refine dS 5 (fun γ ρ B hb hd => op_assign lb (.tmp (hl hd 1 27 rfl))) ?_
      refine dS 6 (fun γ ρ B hb hd => op_assign lb (.tmp (hl hd 3 29 rfl))) ?_
      exact DSteps.nil)
           (by decide +kernel) (fun _ => rfl) rfl (fun _ => rfl) (fun _ => rfl) rfl (by decide) (by decide) (by decide +kernel) (fun _ d h => by cases h)
           (ρ' := fun γ => [(0, ov (S (rL (rU UInt8)) secret_1)), (1, ov (S rS device_2)), (6, ov (PTR gb_4 0)), (8, ov (S (rLc (rU UInt8)) v_9)), (9, ov (S (rL (rU UInt8)) v_10))])
           (X' := fun γ => [cvar gb_4 (rV 16 (rU UInt64)) (Vector.replicate 16 (0 : UInt64))])
           (fun γ ρ hb hd => (.cons (hb 0 _ rfl (by decide)) (.cons (hb 1 _ rfl (by decide)) (.cons (hb 6 _ rfl (by decide)) (.cons (hdq hd 4 8 rfl) (.cons (hdq hd 5 9 rfl) .nil)))))) (fun _ => rfl) (fun γ => ?_)
       refine JQ.at ⟨[(0, ov (S (rL (rU UInt8)) secret_1)), (1, ov (S rS device_2)), (6, ov (PTR gb_4 0)), (8, ov (S (rLc (rU UInt8)) v_9)), (9, ov (S (rL (rU UInt8)) v_10))], [cvar gb_4 (rV 16 (rU UInt64)) (Vector.replicate 16 (0 : UInt64))], []⟩ ?_
       refine JQ.then ?_
       refine JC.seq ?_
       refine JC.region ?_
       refine jc (op_move lb (.tmp rfl)) ?_
       replace hm := bnd_inv hm
       obtain ⟨v_11, hv_v_11, hm⟩ := hm
       refine jx (op_call (js := []) ld cl22 (sim_wire_Read k v_9 v_11 hv_v_11) .func (.cons (HasO.wk (.tmp rfl) wkC) .nil) rfl) (fun q => ?_)
       obtain ⟨gb_12, go_13, gc_14⟩ := q
       replace hm := bnd_inv hm
       obtain ⟨⟨v_15, x_16⟩, hv_v_15, hm⟩ := hm
       refine jx (op_call (js := [0, 0]) ld cl23 (sim_wire_Reader_Vector k true true v_11 gb_12 go_13 gc_14 (v_15, x_16) hv_v_15) .func (.cons (.tmp rfl) .nil) rfl) (fun _ => ?_)
       refine jx (op_alloc lb tZ25 zr25) (fun q => ?_)
       obtain ⟨gb_17, hqq⟩ : ∃ z, z = q := ⟨_, rfl⟩
       subst hqq
       refine jc (op_storeA (j := 3) tA25 (.tmp rfl) (.tmp rfl) rfl (UpdR.self (by rfl)) rfl) ?_
       refine JL.nrm ⟨[(0, ov (S (rL (rU UInt8)) secret_1)), (1, ov (S rS device_2)), (6, ov (PTR gb_4 0)), (8, ov (S (rLc (rU UInt8)) v_9)), (9, ov (S (rL (rU UInt8)) v_10)), (10, ov (PTR gb_17 0))], [cvar gb_4 (rV 16 (rU UInt64)) (Vector.replicate 16 (0 : UInt64)), cvar gb_17 (rV 16 (rU UInt64)) v_15], []⟩ [2, 2] rfl rfl rfl ?_
       refine JL.nil ?_
       refine JQ.then ?_
       refine JC.seq ?_
       replace hm := bnd_inv hm
       obtain ⟨x_25, hx4, hq4⟩ := hm
       refine JC.seqJ (γ := Unit) (stj := fun q => ⟨[(6, ov (PTR gb_4 0)), (10, ov (PTR gb_17 0)), (46, ov (S rB x_25))], [cvar gb_4 (rV 16 (rU UInt64)) (Vector.replicate 16 (0 : UInt64)), cvar gb_17 (rV 16 (rU UInt64)) v_15], []⟩) (fun q => ?_) ?_
       · obtain _ := q
         refine JC.at ⟨[(6, ov (PTR gb_4 0)), (10, ov (PTR gb_17 0)), (46, ov (S rB x_25))], [cvar gb_4 (rV 16 (rU UInt64)) (Vector.replicate 16 (0 : UInt64)), cvar gb_17 (rV 16 (rU UInt64)) v_15], []⟩ ?_
         replace hq4 := iteB_inv hq4
         rcases hq4 with ⟨hc15, hq4⟩ | ⟨hc15, hq4⟩
         · refine JC.condT (.tmp rfl) hc15 ?_
           refine JC.seq ?_
           refine JC.region ?_
           refine jc (op_build lb tZ25 zv25 tp25 .nil rfl) ?_
           refine jc (op_storeA (j := 0) tA25 (.tmp rfl) (.tmp rfl) rfl (UpdR.self (by rfl)) rfl) ?_
           refine jc (op_assign lb .cI) ?_
           refine JL.nil ?_
           refine JQ.then ?_
           refine JC.ret ?_
           refine JQ.outR ?_
           replace hq4 := Option.some.inj hq4
           subst hq4
           exact JQ.done (js := []) (ss := [.val (A (rV 16 (rU UInt64)) (Vector.replicate 16 (0 : UInt64))), .val (S (rI .i64) (9 : Int))]) () (.inl rfl) (.nil rfl) rfl (.cons (.cellA (j := 0) tA25 rfl rfl) (.cons (.tmp rfl) .nil)) rfl rfl rfl
         · refine JC.condF (.tmp rfl) hc15 ?_
           refine JC.skip ?_
           refine JQ.then ?_
           refine JC.seq ?_
           refine JC.region ?_
           refine jc (op_loadA (j := 1) lb tA25 (.tmp rfl) rfl (Comp.self (rV 16 (rU UInt64)) v_15) rfl) ?_
           refine jc (op_storeA (j := 0) tA25 (.tmp rfl) (.tmp rfl) rfl (UpdR.self (by rfl)) rfl) ?_
           refine jc (op_assign lb .cI) ?_
           refine JL.nil ?_
           refine JQ.then ?_
           refine JC.ret ?_
           replace hq4 := Option.some.inj hq4
           subst hq4
           exact JQ.done (js := []) (ss := [.val (A (rV 16 (rU UInt64)) v_15), .val (S (rI .i64) (0 : Int))]) () (.inl rfl) (.nil rfl) rfl (.cons (.cellA (j := 0) tA25 rfl rfl) (.cons (.tmp rfl) .nil)) rfl rfl rfl
       · replace hx4 := bnd_inv hx4
         obtain ⟨v_18, hv_v_18, hx4⟩ := hx4
         replace hx4 := lt1_inv hx4
         obtain ⟨v_19, hv_v_19, hx4⟩ := hx4
         replace hx4 := bnd_inv hx4
         obtain ⟨v_20, hv_v_20, hx4⟩ := hx4
         replace hx4 := bnd_inv hx4
         obtain ⟨v_21, hv_v_21, hx4⟩ := hx4
         replace hx4 := bnd_inv hx4
         obtain ⟨v_22, hv_v_22, hx4⟩ := hx4
         replace hx4 := lt1_inv hx4
         obtain ⟨v_23, hv_v_23, hx4⟩ := hx4
         replace hx4 := lt1_inv hx4
         obtain ⟨v_24, hv_v_24, hx4⟩ := hx4
         refine JC.anyE (kl := []) (kk := 0) (base := [(0, ov (S (rL (rU UInt8)) secret_1)), (1, ov (S rS device_2)), (6, ov (PTR gb_4 0)), (8, ov (S (rLc (rU UInt8)) v_9)), (9, ov (S (rL (rU UInt8)) v_10)), (10, ov (PTR gb_17 0))])
             (fs := fun γ => [⟨some 33, ov (A (rV 16 (rU UInt64)) v_15)⟩, ⟨some 34, ov (S rB v_18)⟩, ⟨some 35, ov (S rB v_19)⟩, ⟨some 36, ov (S rB v_19)⟩, ⟨some 37, bif (!v_19) then ov (S (rL (rU UInt8)) secret_1) else .one .und⟩, ⟨some 38, bif (!v_19) then ov (S rS device_2) else .one .und⟩, ⟨some 39, bif (!v_19) then ov (S (rLc (rU UInt8)) v_9) else .one .und⟩, ⟨some 40, bif (!v_19) then ov (A (rV 32 (rU UInt8)) v_20) else .one .und⟩, ⟨some 41, bif (!v_19) then ov (S (rL (rU UInt8)) v_10) else .one .und⟩, ⟨some 42, bif (!v_19) then ov (PT (rV 32 (rU UInt8)) v_21) else .one .und⟩, ⟨some 43, bif (!v_19) then ov (A (rV 32 (rU UInt8)) v_21) else .one .und⟩, ⟨some 44, bif (!v_19) then ov (S rB v_22) else .one .und⟩, ⟨some 45, bif (!v_19) then ov (S rB v_23) else .one .und⟩, ⟨some 46, ov (S rB v_24)⟩])
             (rs := fun γ => [⟨cvar gb_4 (rV 16 (rU UInt64)) (Vector.replicate 16 (0 : UInt64)), none, none, []⟩, ⟨cvar gb_17 (rV 16 (rU UInt64)) v_15, none, none, [0]⟩])
             (ds := [33, 34, 35, 36, 37, 38, 39, 40, 41, 42, 43, 44, 45, 46]) (bs := [0, 1, 6, 8, 9, 10]) (afts := [[], [], [], [], [], [], [], [], [], [], [], [], [], []]) (js := [0, 0]) mixed (.cons rfl (.cons rfl (.cons rfl (.cons rfl (.cons rfl (.cons rfl .nil)))))) (fun _ => rfl)
             (by
      refine DSteps.cons (j := 1) rfl (fun _ => rfl) (.run (fun γ ρ B hb hd => ⟨.none, OpStep.at ⟨ρ, (cvar gb_17 (rV 16 (rU UInt64)) v_15) :: B, _⟩ (setO ⟨ρ, (cvar gb_17 (rV 16 (rU UInt64)) v_15) :: B, _⟩ _ _) (op_loadA (j := 0) lb tA25 (.tmp (hb 10 _ rfl)) rfl (Comp.self (rV 16 (rU UInt64)) v_15) rfl)⟩)) ?_
      refine dS 2 (fun γ ρ B hb hd => (op_call (js := []) ld cl14 (sim_cursor_May k v_15 v_18 hv_v_18) .func (.cons (.tmp (hl hd 0 33 rfl)) .nil) rfl).post (fun _ => Imp.refl)) ?_
      refine dS 3 (fun γ ρ B hb hd => op_not lb (.tmp (hl hd 1 34 rfl)) hv_v_19) ?_
      refine dS 4 (fun γ ρ B hb hd => op_move lb (.tmp (hl hd 2 35 rfl))) ?_
      refine dC 5 (!v_19) (fun γ => ov (S (rL (rU UInt8)) secret_1)) (fun γ ρ B hb hd => ⟨(Guard.isF (ltB rfl) rfl (hl hd 3 36 rfl)), fun hq_5 => op_move lb (.tmp (hb 0 _ rfl))⟩) ?_
      refine dC 6 (!v_19) (fun γ => ov (S rS device_2)) (fun γ ρ B hb hd => ⟨(Guard.isF (ltB rfl) rfl (hl hd 3 36 rfl)), fun hq_6 => op_move lb (.tmp (hb 1 _ rfl))⟩) ?_
      refine dC 7 (!v_19) (fun γ => ov (S (rLc (rU UInt8)) v_9)) (fun γ ρ B hb hd => ⟨(Guard.isF (ltB rfl) rfl (hl hd 3 36 rfl)), fun hq_7 => op_move lb (.tmp (hb 8 _ rfl))⟩) ?_
      refine dC 8 (!v_19) (fun γ => ov (A (rV 32 (rU UInt8)) v_20)) (fun γ ρ B hb hd => ⟨(Guard.isF (ltB rfl) rfl (hl hd 3 36 rfl)), fun hq_8 => (op_call (js := []) ld cl21 (sim_cursor_code k secret_1 device_2 v_9 v_20 (ifT hv_v_20 hq_8)) .func (.cons (HasO.cnd (.tmp (hl hd 4 37 rfl)) (notT (notF hq_8))) (.cons (HasO.cnd (.tmp (hl hd 5 38 rfl)) (notT (notF hq_8))) (.cons (HasO.wk (HasO.cnd (.tmp (hl hd 6 39 rfl)) (notT (notF hq_8))) wkC) .nil))) rfl).post (fun _ => Imp.refl)⟩) ?_
      refine dC 9 (!v_19) (fun γ => ov (S (rL (rU UInt8)) v_10)) (fun γ ρ B hb hd => ⟨(Guard.isF (ltB rfl) rfl (hl hd 3 36 rfl)), fun hq_9 => op_move lb (.tmp (hb 9 _ rfl))⟩) ?_
      refine dC 10 (!v_19) (fun γ => ov (PT (rV 32 (rU UInt8)) v_21)) (fun γ ρ B hb hd => ⟨(Guard.isF (ltB rfl) rfl (hl hd 3 36 rfl)), fun hq_10 => op_toArr lb tu45 (ltB rfl) (HasO.cnd (.tmp (hl hd 8 41 rfl)) (notT (notF hq_10))) (ifT hv_v_21 hq_10)⟩) ?_
      refine dC 11 (!v_19) (fun γ => ov (A (rV 32 (rU UInt8)) v_21)) (fun γ ρ B hb hd => ⟨(Guard.isF (ltB rfl) rfl (hl hd 3 36 rfl)), fun hq_11 => op_loadPAg lb tA45 (HasO.cnd (.tmp (hl hd 9 42 rfl)) (notT (notF hq_11))) rfl⟩) ?_
      refine dC 12 (!v_19) (fun γ => ov (S rB v_22)) (fun γ ρ B hb hd => ⟨(Guard.isF (ltB rfl) rfl (hl hd 3 36 rfl)), fun hq_12 => (op_call (js := []) ld cl24 (sim_sha_Equal k v_20 v_21 v_22 (ifT hv_v_22 hq_12)) .func (.cons (HasO.cnd (.tmp (hl hd 7 40 rfl)) (notT (notF hq_12))) (.cons (HasO.cnd (.tmp (hl hd 10 43 rfl)) (notT (notF hq_12))) .nil)) rfl).post (fun _ => Imp.refl)⟩) ?_
      refine dC 13 (!v_19) (fun γ => ov (S rB v_23)) (fun γ ρ B hb hd => ⟨(Guard.isF (ltB rfl) rfl (hl hd 3 36 rfl)), fun hq_13 => op_not lb (HasO.cnd (.tmp (hl hd 11 44 rfl)) (notT (notF hq_13))) hv_v_23⟩) ?_
      refine dS 14 (fun γ ρ B hb hd => op_pickCS lb (.tmp (hl hd 3 36 rfl)) (fun hb14 => .cB) (fun hb14 => (HasO.cnd (.tmp (hl hd 12 45 rfl)) (notT hb14))) hv_v_24) ?_
      exact DSteps.nil)
             (by decide +kernel) (fun _ => rfl) rfl (fun _ => rfl) (fun _ => rfl) rfl (by decide) (by decide) (by decide +kernel) (fun _ d h => by cases h)
             (ρ' := fun γ => [(6, ov (PTR gb_4 0)), (10, ov (PTR gb_17 0)), (46, ov (S rB v_24))])
             (X' := fun γ => [cvar gb_4 (rV 16 (rU UInt64)) (Vector.replicate 16 (0 : UInt64)), cvar gb_17 (rV 16 (rU UInt64)) v_15])
             (fun γ ρ hb hd => (.cons (hb 6 _ rfl (by decide)) (.cons (hb 10 _ rfl (by decide)) (.cons (hdq hd 13 46 rfl) .nil)))) (fun _ => rfl) (fun γ => ?_)
         refine JQ.at ⟨[(6, ov (PTR gb_4 0)), (10, ov (PTR gb_17 0)), (46, ov (S rB v_24))], [cvar gb_4 (rV 16 (rU UInt64)) (Vector.replicate 16 (0 : UInt64)), cvar gb_17 (rV 16 (rU UInt64)) v_15], []⟩ ?_
         replace hx4 := Option.some.inj hx4
         first | subst hx4 | clear hx4
         exact JQ.join () (Imp.norm (js := [0, 0]) rfl (.cons rfl (.cons rfl (.cons rfl .nil))))

end Go.Proofs.Ytnhiiabdoichlaa
