/- Walks. -/
import Derived.Test.YtnhiiabdoichlaaT
import Derived.Test.YtnhiiabdoichlaaW10
import Derived.Test.YtnhiiabdoichlaaW12
import Derived.Test.YtnhiiabdoichlaaW14
namespace Go.Proofs.Ytnhiiabdoichlaa
open Go Fw
set_option linter.unusedVariables false
set_option maxRecDepth 100000
set_option maxHeartbeats 4000000

theorem sim_ref10_Of (k : Nat) (secret_1 : (List UInt8)) (device_2 : (List UInt8)) (b_3 : (List UInt8)) (r : (Vector UInt64 16) × Int) (hm : ref10_Of k secret_1 device_2 b_3 = some r) : Sim Try.prog 13 [S (rL (rU UInt8)) secret_1, S rS device_2, S (rL (rU UInt8)) b_3] [] (γ := Unit) (fun q => []) (fun q => .tup [.val (A (rV 16 (rU UInt64)) r.1), .val (S (rI .i64) r.2)]) := by
 unfold ref10_Of at hm
 refine Sim.of Try.func13 rfl rfl (Nat.le_of_ble_eq_true rfl) (fun e0 w0 => ?_)
 refine JC.at ⟨[(0, ov (S (rL (rU UInt8)) secret_1)), (1, ov (S rS device_2)), (2, ov (S (rL (rU UInt8)) b_3))], [], []⟩ ?_
 refine JC.seq ?_
 refine JC.region ?_
 refine jx (op_alloc lb tZ25 zr25) (fun q => ?_)
 obtain ⟨gb_4, hqq⟩ : ∃ z, z = q := ⟨_, rfl⟩
 subst hqq
 refine jc (op_assign lb .cI) ?_
 refine JL.nil ?_
 refine JQ.then ?_
 refine JC.seq ?_
 refine JC.seq ?_
 refine JC.region ?_
 refine jc (op_move lb (.tmp rfl)) ?_
 replace hm := bnd_inv hm
 obtain ⟨v_5, hv_v_5, hm⟩ := hm
 refine jx (op_call (js := []) ld cl10 (sim_ref09_MayName k device_2 v_5 hv_v_5) .func (.cons (.tmp rfl) .nil) rfl) (fun _ => ?_)
 replace hm := lt1_inv hm
 obtain ⟨v_6, hv_v_6, hm⟩ := hm
 refine jc (op_not lb (.tmp rfl) hv_v_6) ?_
 refine JL.nil ?_
 refine JQ.then ?_
 replace hm := iteB_inv hm
 rcases hm with ⟨hc1, hm⟩ | ⟨hc1, hm⟩
 · refine JC.condT (.tmp rfl) hc1 ?_
   refine JC.seq ?_
   refine JC.region ?_
   refine jc (op_build lb tZ25 zv25 tp25 .nil rfl) ?_
   refine jc (op_storeA (j := 0) tA25 (.tmp rfl) (.tmp rfl) rfl (UpdR.self (by rfl)) rfl) ?_
   refine jc (op_assign lb .cI) ?_
   refine JL.nil ?_
   refine JQ.then ?_
   refine JC.ret ?_
   refine JQ.outR ?_
   replace hm := Option.some.inj hm
   subst hm
   exact JQ.done (js := []) (ss := [.val (A (rV 16 (rU UInt64)) (Vector.replicate 16 (0 : UInt64))), .val (S (rI .i64) (2 : Int))]) () (.inl rfl) (.nil rfl) rfl (.cons (.cellA (j := 0) tA25 rfl rfl) (.cons (.tmp rfl) .nil)) rfl rfl rfl
 · refine JC.condF (.tmp rfl) hc1 ?_
   refine JC.skip ?_
   refine JQ.then ?_
   refine JC.seq ?_
   refine JC.seq ?_
   refine JC.region ?_
   refine jc (op_move lb (.tmp rfl)) ?_
   refine jc (op_lenL lb tu22 (.tmp rfl)) ?_
   replace hm := lt1_inv hm
   obtain ⟨v_7, hv_v_7, hm⟩ := hm
   refine jc (op_cmpI lb (.tmp rfl) .cI (congrArg some hv_v_7)) ?_
   refine JL.nil ?_
   refine JQ.then ?_
   replace hm := iteB_inv hm
   rcases hm with ⟨hc2, hm⟩ | ⟨hc2, hm⟩
   · refine JC.condT (.tmp rfl) hc2 ?_
     refine JC.seq ?_
     refine JC.region ?_
     refine jc (op_build lb tZ25 zv25 tp25 .nil rfl) ?_
     refine jc (op_storeA (j := 0) tA25 (.tmp rfl) (.tmp rfl) rfl (UpdR.self (by rfl)) rfl) ?_
     refine JL.sub ⟨[(6, ov (PTR gb_4 0)), (7, ov (S (rI .i64) (0 : Int)))], [cvar gb_4 (rV 16 (rU UInt64)) (Vector.replicate 16 (0 : UInt64))], []⟩ rfl rfl rfl ?_
     refine jc (op_assign lb .cI) ?_
     refine JL.nil ?_
     refine JQ.then ?_
     refine JC.ret ?_
     refine JQ.outR ?_
     replace hm := Option.some.inj hm
     subst hm
     exact JQ.done (js := []) (ss := [.val (A (rV 16 (rU UInt64)) (Vector.replicate 16 (0 : UInt64))), .val (S (rI .i64) (0 : Int))]) () (.inl rfl) (.nil rfl) rfl (.cons (.cellA (j := 0) tA25 rfl rfl) (.cons (.tmp rfl) .nil)) rfl rfl rfl
   · refine JC.condF (.tmp rfl) hc2 ?_
     refine JC.skip ?_
     refine JQ.then ?_
     refine JC.seq ?_
     refine JC.seq ?_
     refine JC.region ?_
     refine jc (op_move lb (.tmp rfl)) ?_
     refine jc (op_lenL lb tu22 (.tmp rfl)) ?_
     refine JL.sub ⟨[(0, ov (S (rL (rU UInt8)) secret_1)), (1, ov (S rS device_2)), (2, ov (S (rL (rU UInt8)) b_3)), (6, ov (PTR gb_4 0)), (19, ov (S (rI .i64) (List.length b_3 : Int)))], [cvar gb_4 (rV 16 (rU UInt64)) (Vector.replicate 16 (0 : UInt64))], []⟩ rfl rfl rfl ?_
     replace hm := lt1_inv hm
     obtain ⟨v_8, hv_v_8, hm⟩ := hm
     refine jc (op_cmpI lb (.tmp rfl) .cI (congrArg some hv_v_8)) ?_
     refine JL.nil ?_
     refine JQ.then ?_
     replace hm := iteB_inv hm
     rcases hm with ⟨hc3, hm⟩ | ⟨hc3, hm⟩
     · refine JC.condT (.tmp rfl) hc3 ?_
       refine JC.seq ?_
       refine JC.region ?_
       refine jc (op_build lb tZ25 zv25 tp25 .nil rfl) ?_
       refine jc (op_storeA (j := 0) tA25 (.tmp rfl) (.tmp rfl) rfl (UpdR.self (by rfl)) rfl) ?_
       refine jc (op_assign lb .cI) ?_
       refine JL.nil ?_
       refine JQ.then ?_
       refine JC.ret ?_
       refine JQ.outR ?_
       replace hm := Option.some.inj hm
       subst hm
       exact JQ.done (js := []) (ss := [.val (A (rV 16 (rU UInt64)) (Vector.replicate 16 (0 : UInt64))), .val (S (rI .i64) (9 : Int))]) () (.inl rfl) (.nil rfl) rfl (.cons (.cellA (j := 0) tA25 rfl rfl) (.cons (.tmp rfl) .nil)) rfl rfl rfl
     · refine JC.condF (.tmp rfl) hc3 ?_
       refine JC.skip ?_
       refine JQ.then ?_
       refine JC.seq ?_
       refine JC.region ?_
       refine jx (op_alloc lb tZ25 zr25) (fun q => ?_)
       obtain ⟨gb_9, hqq⟩ : ∃ z, z = q := ⟨_, rfl⟩
       subst hqq
       refine JL.nil ?_
       refine JQ.then ?_
       replace hm := bnd_inv hm
       obtain ⟨v_21, hx4, hq4⟩ := hm
       refine JC.seqJ (γ := Unit) (stj := fun q => ⟨[(0, ov (S (rL (rU UInt8)) secret_1)), (1, ov (S rS device_2)), (2, ov (S (rL (rU UInt8)) b_3)), (6, ov (PTR gb_4 0)), (8, ov (PTR gb_9 0))], [cvar gb_4 (rV 16 (rU UInt64)) (Vector.replicate 16 (0 : UInt64)), cvar gb_9 (rV 16 (rU UInt64)) v_21], []⟩) (fun q => ?_) ?_
       · obtain _ := q
         refine JC.at ⟨[(0, ov (S (rL (rU UInt8)) secret_1)), (1, ov (S rS device_2)), (2, ov (S (rL (rU UInt8)) b_3)), (6, ov (PTR gb_4 0)), (8, ov (PTR gb_9 0))], [cvar gb_4 (rV 16 (rU UInt64)) (Vector.replicate 16 (0 : UInt64)), cvar gb_9 (rV 16 (rU UInt64)) v_21], []⟩ ?_
         refine JC.seq ?_
         replace hq4 := bnd_inv hq4
         obtain ⟨x_28, hx7, hq7⟩ := hq4
         refine JC.seqJ (γ := Unit) (stj := fun q => ⟨[(6, ov (PTR gb_4 0)), (8, ov (PTR gb_9 0)), (48, ov (S rB x_28))], [cvar gb_4 (rV 16 (rU UInt64)) (Vector.replicate 16 (0 : UInt64)), cvar gb_9 (rV 16 (rU UInt64)) v_21], []⟩) (fun q => ?_) ?_
         · obtain _ := q
           refine JC.at ⟨[(6, ov (PTR gb_4 0)), (8, ov (PTR gb_9 0)), (48, ov (S rB x_28))], [cvar gb_4 (rV 16 (rU UInt64)) (Vector.replicate 16 (0 : UInt64)), cvar gb_9 (rV 16 (rU UInt64)) v_21], []⟩ ?_
           replace hq7 := iteB_inv hq7
           rcases hq7 with ⟨hc13, hq7⟩ | ⟨hc13, hq7⟩
           · refine JC.condT (.tmp rfl) hc13 ?_
             refine JC.seq ?_
             refine JC.region ?_
             refine jc (op_build lb tZ25 zv25 tp25 .nil rfl) ?_
             refine jc (op_storeA (j := 0) tA25 (.tmp rfl) (.tmp rfl) rfl (UpdR.self (by rfl)) rfl) ?_
             refine jc (op_assign lb .cI) ?_
             refine JL.nil ?_
             refine JQ.then ?_
             refine JC.ret ?_
             refine JQ.outR ?_
             replace hq7 := Option.some.inj hq7
             subst hq7
             exact JQ.done (js := []) (ss := [.val (A (rV 16 (rU UInt64)) (Vector.replicate 16 (0 : UInt64))), .val (S (rI .i64) (9 : Int))]) () (.inl rfl) (.nil rfl) rfl (.cons (.cellA (j := 0) tA25 rfl rfl) (.cons (.tmp rfl) .nil)) rfl rfl rfl
           · refine JC.condF (.tmp rfl) hc13 ?_
             refine JC.skip ?_
             refine JQ.then ?_
             refine JC.seq ?_
             refine JC.region ?_
             refine jc (op_loadA (j := 1) lb tA25 (.tmp rfl) rfl (Comp.self (rV 16 (rU UInt64)) v_21) rfl) ?_
             refine jc (op_storeA (j := 0) tA25 (.tmp rfl) (.tmp rfl) rfl (UpdR.self (by rfl)) rfl) ?_
             refine jc (op_assign lb .cI) ?_
             refine JL.nil ?_
             refine JQ.then ?_
             refine JC.ret ?_
             replace hq7 := Option.some.inj hq7
             subst hq7
             exact JQ.done (js := []) (ss := [.val (A (rV 16 (rU UInt64)) v_21), .val (S (rI .i64) (0 : Int))]) () (.inl rfl) (.nil rfl) rfl (.cons (.cellA (j := 0) tA25 rfl rfl) (.cons (.tmp rfl) .nil)) rfl rfl rfl
         · replace hx7 := bnd_inv hx7
           obtain ⟨v_22, hv_v_22, hx7⟩ := hx7
           replace hx7 := lt1_inv hx7
           obtain ⟨v_23, hv_v_23, hx7⟩ := hx7
           replace hx7 := iteB_inv hx7
           rcases hx7 with ⟨hc12, hx7⟩ | ⟨hc12, hx7⟩
           · refine JC.anyE (kl := []) (kk := 0) (base := [(0, ov (S (rL (rU UInt8)) secret_1)), (1, ov (S rS device_2)), (6, ov (PTR gb_4 0)), (8, ov (PTR gb_9 0))])
                 (fs := fun γ => [⟨some 36, ov (A (rV 16 (rU UInt64)) v_21)⟩, ⟨some 37, ov (S rB v_22)⟩, ⟨some 38, ov (S rB v_23)⟩, ⟨some 39, ov (S rB v_23)⟩, ⟨some 40, bif (!v_23) then ov (S (rL (rU UInt8)) secret_1) else .one .und⟩, ⟨some 41, bif (!v_23) then ov (S rS device_2) else .one .und⟩, ⟨some 42, bif (!v_23) then ov (A (rV 16 (rU UInt64)) v_21) else .one .und⟩, ⟨some 43, .one .und⟩, ⟨some 44, .one .und⟩, ⟨some 45, .one .und⟩, ⟨some 46, .one .und⟩, ⟨some 47, .one .und⟩, ⟨some 48, ov (S rB true)⟩])
                 (rs := fun γ => [⟨cvar gb_4 (rV 16 (rU UInt64)) (Vector.replicate 16 (0 : UInt64)), none, none, []⟩, ⟨cvar gb_9 (rV 16 (rU UInt64)) v_21, none, none, [0, 6]⟩])
                 (ds := [36, 37, 38, 39, 40, 41, 42, 43, 44, 45, 46, 47, 48]) (bs := [0, 1, 6, 8]) (afts := [[], [], [], [], [], [], [], [], [], [], [], [], []]) (js := [0, 0]) mixed (.cons rfl (.cons rfl (.cons rfl (.cons rfl .nil)))) (fun _ => rfl)
                 (by
      refine DSteps.cons (j := 1) rfl (fun _ => rfl) (.run (fun γ ρ B hb hd => ⟨.none, OpStep.at ⟨ρ, (cvar gb_9 (rV 16 (rU UInt64)) v_21) :: B, _⟩ (setO ⟨ρ, (cvar gb_9 (rV 16 (rU UInt64)) v_21) :: B, _⟩ _ _) (op_loadA (j := 0) lb tA25 (.tmp (hb 8 _ rfl)) rfl (Comp.self (rV 16 (rU UInt64)) v_21) rfl)⟩)) ?_
      refine dS 2 (fun γ ρ B hb hd => (op_call (js := []) ld cl11 (sim_ref10_May k v_21 v_22 hv_v_22) .func (.cons (.tmp (hl hd 0 36 rfl)) .nil) rfl).post (fun _ => Imp.refl)) ?_
      refine dS 3 (fun γ ρ B hb hd => op_not lb (.tmp (hl hd 1 37 rfl)) hv_v_23) ?_
      refine dS 4 (fun γ ρ B hb hd => op_move lb (.tmp (hl hd 2 38 rfl))) ?_
      refine dC 5 (!v_23) (fun γ => ov (S (rL (rU UInt8)) secret_1)) (fun γ ρ B hb hd => ⟨(Guard.isF (ltB rfl) rfl (hl hd 3 39 rfl)), fun hq_8 => op_move lb (.tmp (hb 0 _ rfl))⟩) ?_
      refine dC 6 (!v_23) (fun γ => ov (S rS device_2)) (fun γ ρ B hb hd => ⟨(Guard.isF (ltB rfl) rfl (hl hd 3 39 rfl)), fun hq_9 => op_move lb (.tmp (hb 1 _ rfl))⟩) ?_
      refine DSteps.cons (j := 7) rfl (fun _ => rfl) (.cnd (q := (!v_23)) (sv := fun γ => ov (A (rV 16 (rU UInt64)) v_21)) (fun _ => rfl) (fun _ => rfl) (fun d h => by cases h; exact ltB rfl) (fun _ => rfl) (fun γ ρ B hb hd => ⟨(Guard.isF (ltB rfl) rfl (hl hd 3 39 rfl)), fun hq_10 => OpStep.at ⟨ρ, (cvar gb_9 (rV 16 (rU UInt64)) v_21) :: B, _⟩ (setO ⟨ρ, (cvar gb_9 (rV 16 (rU UInt64)) v_21) :: B, _⟩ _ _) (op_loadA (j := 0) lb tA25 (.tmp (hb 8 _ rfl)) rfl (Comp.self (rV 16 (rU UInt64)) v_21) rfl)⟩)) ?_
      refine DSteps.cons (j := 8) rfl (fun _ => rfl) (.skip (fun γ ρ B hb hd => ⟨.no rfl (ltB rfl) (hl hd 3 39 rfl) hc12, rfl, rfl, rfl, fun d h => by cases h; exact ltB rfl⟩)) ?_
      refine DSteps.cons (j := 9) rfl (fun _ => rfl) (.skip (fun γ ρ B hb hd => ⟨.no rfl (ltB rfl) (hl hd 3 39 rfl) hc12, rfl, rfl, rfl, fun d h => by cases h; exact ltB rfl⟩)) ?_
      refine DSteps.cons (j := 10) rfl (fun _ => rfl) (.skip (fun γ ρ B hb hd => ⟨.no rfl (ltB rfl) (hl hd 3 39 rfl) hc12, rfl, rfl, rfl, fun d h => by cases h; exact ltB rfl⟩)) ?_
      refine DSteps.cons (j := 11) rfl (fun _ => rfl) (.skip (fun γ ρ B hb hd => ⟨.no rfl (ltB rfl) (hl hd 3 39 rfl) hc12, rfl, rfl, rfl, fun d h => by cases h; exact ltB rfl⟩)) ?_
      refine DSteps.cons (j := 12) rfl (fun _ => rfl) (.skip (fun γ ρ B hb hd => ⟨.no rfl (ltB rfl) (hl hd 3 39 rfl) hc12, rfl, rfl, rfl, fun d h => by cases h; exact ltB rfl⟩)) ?_
      refine dS 13 (fun γ ρ B hb hd => op_pickT lb (.tmp (hl hd 3 39 rfl)) hc12 .cB) ?_
      exact DSteps.nil)
                 (by decide +kernel) (fun _ => rfl) rfl (fun _ => rfl) (fun _ => rfl) rfl (by decide) (by decide) (by decide +kernel) (fun _ d h => by cases h)
                 (ρ' := fun γ => [(6, ov (PTR gb_4 0)), (8, ov (PTR gb_9 0)), (48, ov (S rB true))])
                 (X' := fun γ => [cvar gb_4 (rV 16 (rU UInt64)) (Vector.replicate 16 (0 : UInt64)), cvar gb_9 (rV 16 (rU UInt64)) v_21])
                 (fun γ ρ hb hd => (.cons (hb 6 _ rfl (by decide)) (.cons (hb 8 _ rfl (by decide)) (.cons (hdq hd 12 48 rfl) .nil)))) (fun _ => rfl) (fun γ => ?_)
             refine JQ.at ⟨[(6, ov (PTR gb_4 0)), (8, ov (PTR gb_9 0)), (48, ov (S rB true))], [cvar gb_4 (rV 16 (rU UInt64)) (Vector.replicate 16 (0 : UInt64)), cvar gb_9 (rV 16 (rU UInt64)) v_21], []⟩ ?_
             replace hx7 := Option.some.inj hx7
             first | subst hx7 | clear hx7
             exact JQ.join () (Imp.norm (js := [0, 0]) rfl (.cons rfl (.cons rfl (.cons rfl .nil))))
           · replace hx7 := bnd_inv hx7
             obtain ⟨v_24, hv_v_24, hx7⟩ := hx7
             replace hx7 := lt1_inv hx7
             obtain ⟨v_27, hv_v_27, hx7⟩ := hx7
             refine JC.anyE (kl := []) (kk := 0) (base := [(0, ov (S (rL (rU UInt8)) secret_1)), (1, ov (S rS device_2)), (2, ov (S (rL (rU UInt8)) b_3)), (6, ov (PTR gb_4 0)), (8, ov (PTR gb_9 0))])
                 (fs := fun γ => [⟨some 36, ov (A (rV 16 (rU UInt64)) v_21)⟩, ⟨some 37, ov (S rB v_22)⟩, ⟨some 38, ov (S rB v_23)⟩, ⟨some 39, ov (S rB v_23)⟩, ⟨some 40, bif (!v_23) then ov (S (rL (rU UInt8)) secret_1) else .one .und⟩, ⟨some 41, bif (!v_23) then ov (S rS device_2) else .one .und⟩, ⟨some 42, bif (!v_23) then ov (A (rV 16 (rU UInt64)) v_21) else .one .und⟩, ⟨some 43, ov (HDR (deo (γ 7 0)) 0 (List.length v_24) (γ 7 1))⟩, ⟨some 44, ov (S rS v_24)⟩, ⟨some 45, ov (S (rL (rU UInt8)) b_3)⟩, ⟨some 46, ov (S rS b_3)⟩, ⟨some 47, ov (S rB v_27)⟩, ⟨some 48, ov (S rB v_27)⟩])
                 (rs := fun γ => [⟨cvar gb_4 (rV 16 (rU UInt64)) (Vector.replicate 16 (0 : UInt64)), none, none, []⟩, ⟨cvar gb_9 (rV 16 (rU UInt64)) v_21, none, none, [0, 6]⟩, ⟨cown (deo (γ 7 0)) (rU UInt8) v_24 0 (γ 7 1), (some 7), none, [8]⟩])
                 (ds := [36, 37, 38, 39, 40, 41, 42, 43, 44, 45, 46, 47, 48]) (bs := [0, 1, 2, 6, 8]) (afts := [[], [], [], [], [], [], [], [7, 8, 11, 12], [], [], [], [], []]) (js := [0, 0]) mixed (.cons rfl (.cons rfl (.cons rfl (.cons rfl (.cons rfl .nil))))) (fun _ => rfl)
                 (by
      refine DSteps.cons (j := 1) rfl (fun _ => rfl) (.run (fun γ ρ B hb hd => ⟨.none, OpStep.at ⟨ρ, (cvar gb_9 (rV 16 (rU UInt64)) v_21) :: B, _⟩ (setO ⟨ρ, (cvar gb_9 (rV 16 (rU UInt64)) v_21) :: B, _⟩ _ _) (op_loadA (j := 0) lb tA25 (.tmp (hb 8 _ rfl)) rfl (Comp.self (rV 16 (rU UInt64)) v_21) rfl)⟩)) ?_
      refine dS 2 (fun γ ρ B hb hd => (op_call (js := []) ld cl11 (sim_ref10_May k v_21 v_22 hv_v_22) .func (.cons (.tmp (hl hd 0 36 rfl)) .nil) rfl).post (fun _ => Imp.refl)) ?_
      refine dS 3 (fun γ ρ B hb hd => op_not lb (.tmp (hl hd 1 37 rfl)) hv_v_23) ?_
      refine dS 4 (fun γ ρ B hb hd => op_move lb (.tmp (hl hd 2 38 rfl))) ?_
      refine dC 5 (!v_23) (fun γ => ov (S (rL (rU UInt8)) secret_1)) (fun γ ρ B hb hd => ⟨(Guard.isF (ltB rfl) rfl (hl hd 3 39 rfl)), fun hq_8 => op_move lb (.tmp (hb 0 _ rfl))⟩) ?_
      refine dC 6 (!v_23) (fun γ => ov (S rS device_2)) (fun γ ρ B hb hd => ⟨(Guard.isF (ltB rfl) rfl (hl hd 3 39 rfl)), fun hq_9 => op_move lb (.tmp (hb 1 _ rfl))⟩) ?_
      refine DSteps.cons (j := 7) rfl (fun _ => rfl) (.cnd (q := (!v_23)) (sv := fun γ => ov (A (rV 16 (rU UInt64)) v_21)) (fun _ => rfl) (fun _ => rfl) (fun d h => by cases h; exact ltB rfl) (fun _ => rfl) (fun γ ρ B hb hd => ⟨(Guard.isF (ltB rfl) rfl (hl hd 3 39 rfl)), fun hq_10 => OpStep.at ⟨ρ, (cvar gb_9 (rV 16 (rU UInt64)) v_21) :: B, _⟩ (setO ⟨ρ, (cvar gb_9 (rV 16 (rU UInt64)) v_21) :: B, _⟩ _ _) (op_loadA (j := 0) lb tA25 (.tmp (hb 8 _ rfl)) rfl (Comp.self (rV 16 (rU UInt64)) v_21) rfl)⟩)) ?_
      refine DSteps.cons (j := 8) rfl (fun _ => rfl) (.runX (fun _ _ => rfl) (fun γ ρ B hb hd => ⟨.yes rfl (ltB rfl) (hl hd 3 39 rfl) hc12, OpX.ghost (γ := Option Nat × Nat) (st' := fun q => setO ⟨ρ, (cown q.1 (rU UInt8) v_24 0 q.2) :: B, _⟩ (some 43) (ov (HDR q.1 0 (List.length v_24) q.2))) (fun q c => bif Nat.beq c 0 then eno q.1 else q.2) (op_call (js := []) ld cl12 (sim_ref10_Bytes k secret_1 device_2 v_21 v_24 hv_v_24) .func (.cons (HasO.cnd (.tmp (hl hd 4 40 rfl)) (notT hc12)) (.cons (HasO.cnd (.tmp (hl hd 5 41 rfl)) (notT hc12)) (.cons (HasO.cnd (.tmp (hl hd 6 42 rfl)) (notT hc12)) .nil))) rfl) (fun q => by obtain ⟨q0, q1⟩ := q; cases q0 <;> exact Imp.refl)⟩) (fun _ _ => rfl) (fun _ _ => rfl)) ?_
      refine DSteps.cons (j := 9) rfl (fun _ => rfl) (.run (fun γ ρ B hb hd => ⟨.yes rfl (ltB rfl) (hl hd 3 39 rfl) hc12, OpStep.at ⟨ρ, (cown (deo (γ 7 0)) (rU UInt8) v_24 0 (γ 7 1)) :: B, _⟩ (setO ⟨ρ, (cown (deo (γ 7 0)) (rU UInt8) v_24 0 (γ 7 1)) :: B, _⟩ _ _) (op_convOS (j := 0) lb tu22 tu5 tu9 rfl (.tmp (hl hd 7 43 rfl)))⟩)) ?_
      refine DSteps.cons (j := 10) rfl (fun _ => rfl) (.run (fun γ ρ B hb hd => ⟨.yes rfl (ltB rfl) (hl hd 3 39 rfl) hc12, OpStep.at ⟨ρ, B, _⟩ (setO ⟨ρ, B, _⟩ _ _) (op_move lb (.tmp (hb 2 _ rfl)))⟩)) ?_
      refine DSteps.cons (j := 11) rfl (fun _ => rfl) (.run (fun γ ρ B hb hd => ⟨.yes rfl (ltB rfl) (hl hd 3 39 rfl) hc12, OpStep.at ⟨ρ, B, _⟩ (setO ⟨ρ, B, _⟩ _ _) (op_convBS lb tu22 tu5 tu9 (.tmp (hl hd 9 45 rfl)))⟩)) ?_
      refine DSteps.cons (j := 12) rfl (fun _ => rfl) (.run (fun γ ρ B hb hd => ⟨.yes rfl (ltB rfl) (hl hd 3 39 rfl) hc12, OpStep.at ⟨ρ, B, _⟩ (setO ⟨ρ, B, _⟩ _ _) (op_cmpS lb (.tmp (hl hd 8 44 rfl)) (.tmp (hl hd 10 46 rfl)) (congrArg some hv_v_27))⟩)) ?_
      refine dS 13 (fun γ ρ B hb hd => op_pickF lb (.tmp (hl hd 3 39 rfl)) hc12 (.tmp (hl hd 11 47 rfl))) ?_
      exact DSteps.nil)
                 (by decide +kernel) (fun _ => rfl) rfl (fun _ => rfl) (fun _ => rfl) rfl (by decide) (by decide) (by decide +kernel) (fun _ d h => by cases h)
                 (ρ' := fun γ => [(6, ov (PTR gb_4 0)), (8, ov (PTR gb_9 0)), (48, ov (S rB v_27))])
                 (X' := fun γ => [cvar gb_4 (rV 16 (rU UInt64)) (Vector.replicate 16 (0 : UInt64)), cvar gb_9 (rV 16 (rU UInt64)) v_21, cown (deo (γ 7 0)) (rU UInt8) v_24 0 (γ 7 1)])
                 (fun γ ρ hb hd => (.cons (hb 6 _ rfl (by decide)) (.cons (hb 8 _ rfl (by decide)) (.cons (hdq hd 12 48 rfl) .nil)))) (fun _ => rfl) (fun γ => ?_)
             generalize (deo (γ 7 0)) = go_25
             generalize (γ 7 1) = gc_26
             clear γ
             refine JQ.at ⟨[(6, ov (PTR gb_4 0)), (8, ov (PTR gb_9 0)), (48, ov (S rB v_27))], [cvar gb_4 (rV 16 (rU UInt64)) (Vector.replicate 16 (0 : UInt64)), cvar gb_9 (rV 16 (rU UInt64)) v_21, cown go_25 (rU UInt8) v_24 0 gc_26], []⟩ ?_
             replace hx7 := Option.some.inj hx7
             first | subst hx7 | clear hx7
             exact JQ.join () (Imp.norm (js := [0, 0]) rfl (.cons rfl (.cons rfl (.cons rfl .nil))))
       · refine JC.seq ?_
         refine JC.region ?_
         refine jc (op_assign lb .cI) ?_
         refine JL.nil ?_
         refine JQ.then ?_
         refine JC.block ?_
         refine JC.pre ?_ (JC.loop (γ := Unit) (stf := fun s q => ⟨[(0, ov (S (rL (rU UInt8)) secret_1)), (1, ov (S rS device_2)), (2, ov (S (rL (rU UInt8)) b_3)), (6, ov (PTR gb_4 0)), (8, ov (PTR gb_9 0)), (9, ov (S (rI .i64) s.2))], [cvar gb_4 (rV 16 (rU UInt64)) (Vector.replicate 16 (0 : UInt64)), cvar gb_9 (rV 16 (rU UInt64)) s.1], []⟩) (q := ()) hx4 ?_)
         · exact (Imp.norm (js := [0, 0]) rfl (.cons rfl (.cons rfl (.cons rfl (.cons rfl (.cons rfl (.cons rfl .nil)))))))
         · intro s q x hx hr
           obtain ⟨v_10, i_11⟩ := s
           obtain _ := q
           change ref10_Of.b1 k b_3 v_10 i_11 = some x at hx
           unfold ref10_Of.b1 at hx
           refine JC.at ⟨[(0, ov (S (rL (rU UInt8)) secret_1)), (1, ov (S rS device_2)), (2, ov (S (rL (rU UInt8)) b_3)), (6, ov (PTR gb_4 0)), (8, ov (PTR gb_9 0)), (9, ov (S (rI .i64) i_11))], [cvar gb_4 (rV 16 (rU UInt64)) (Vector.replicate 16 (0 : UInt64)), cvar gb_9 (rV 16 (rU UInt64)) v_10], []⟩ ?_
           refine JC.seq ?_
           refine JC.seq ?_
           refine JC.region ?_
           refine jc (op_move lb (.tmp rfl)) ?_
           replace hx := lt1_inv hx
           obtain ⟨v_12, hv_v_12, hx⟩ := hx
           refine jc (op_cmpI lb (.tmp rfl) .cI (congrArg some hv_v_12)) ?_
           refine JL.nil ?_
           refine JQ.then ?_
           replace hx := iteB_inv hx
           rcases hx with ⟨hc6, hx⟩ | ⟨hc6, hx⟩
           · refine JC.condT (.tmp rfl) hc6 ?_
             refine JC.skip ?_
             refine JQ.then ?_
             refine JC.seq ?_
             refine JC.block ?_
             refine JC.region ?_
             refine jc (op_move lb (.tmp rfl)) ?_
             refine jc (op_move lb (.tmp rfl)) ?_
             refine jc (op_move lb (.tmp rfl)) ?_
             replace hx := lt1_inv hx
             obtain ⟨v_13, hv_v_13, hx⟩ := hx
             refine jc (op_arI lb .cI (.tmp rfl) (congrArg some hv_v_13)) ?_
             refine jc (op_move lb (.tmp rfl)) ?_
             replace hx := lt1_inv hx
             obtain ⟨v_14, hv_v_14, hx⟩ := hx
             refine jc (op_arI lb .cI (.tmp rfl) (congrArg some hv_v_14)) ?_
             replace hx := lt1_inv hx
             obtain ⟨v_15, hv_v_15, hx⟩ := hx
             refine jc (op_arI lb (.tmp rfl) .cI (congrArg some hv_v_15)) ?_
             replace hx := bnd_inv hx
             obtain ⟨v_16, hv_v_16, hx⟩ := hx
             refine jc (op_sliceLg lb tu22 tz5 (.tmp rfl) (.some (.tmp rfl)) (.some (.tmp rfl)) hv_v_16) ?_
             replace hx := bnd_inv hx
             obtain ⟨v_17, hv_v_17, hx⟩ := hx
             refine jx (op_call (js := []) ld cl29 (sim_ref01_Get k v_16 v_17 hv_v_17) .func (.cons (.tmp rfl) .nil) rfl) (fun _ => ?_)
             replace hx := bnd_inv hx
             obtain ⟨i_18, hv_i_18, hx⟩ := hx
             refine jc (op_indexAddrIF lb tr25 (.tmp rfl) (.tmp rfl) hv_i_18) ?_
             refine JL.sub ⟨[(0, ov (S (rL (rU UInt8)) secret_1)), (1, ov (S rS device_2)), (2, ov (S (rL (rU UInt8)) b_3)), (6, ov (PTR gb_4 0)), (8, ov (PTR gb_9 0)), (9, ov (S (rI .i64) i_11)), (34, ov (S (rU UInt64) v_17)), (35, ov (PTR gb_9 (0 + i_18.1 * 1)))], [cvar gb_4 (rV 16 (rU UInt64)) (Vector.replicate 16 (0 : UInt64)), cvar gb_9 (rV 16 (rU UInt64)) v_10], []⟩ rfl rfl rfl ?_
             replace hx := lt1_inv hx
             obtain ⟨v_19, hv_v_19, hx⟩ := hx
             refine jc (op_storeS (j := 1) tS23 (.tmp rfl) (.tmp rfl) rfl rfl (Upd.at (Comp.self (rV 16 (rU UInt64)) v_10) i_18.2 rfl (Upd.self (rV 16 (rU UInt64)) v_10 _)).R hv_v_19) ?_
             refine JL.nil ?_
             refine JQ.outNB ?_
             refine JQ.then ?_
             refine JC.region ?_
             refine jc (op_move lb (.tmp rfl)) ?_
             replace hx := lt1_inv hx
             obtain ⟨v_20, hv_v_20, hx⟩ := hx
             refine jc (op_arI lb (.tmp rfl) .cI (congrArg some hv_v_20)) ?_
             refine jc (op_assign lb (.tmp rfl)) ?_
             refine JL.nil ?_
             replace hx := Option.some.inj hx
             first | subst hx | clear hx
             exact JQ.next () rfl (Imp.norm (js := [0, 0]) rfl (.cons rfl (.cons rfl (.cons rfl (.cons rfl (.cons rfl (.cons rfl .nil)))))))
           · refine JC.condF (.tmp rfl) hc6 ?_
             refine JC.exit ?_
             refine JQ.outX ?_
             replace hx := Option.some.inj hx
             first | subst hx | clear hx
             have ht := hr _ rfl
             have hq5 := congrArg some ht
             clear hr ht
             refine JQ.outX ?_
             refine JQ.here ?_
             replace hq5 := Option.some.inj hq5
             first | subst hq5 | clear hq5
             exact JQ.join () (Imp.norm (js := [0, 0]) rfl (.cons rfl (.cons rfl (.cons rfl (.cons rfl (.cons rfl .nil))))))

theorem sim_cursor_Join (k : Nat) (a_1 : (Vector UInt64 16)) (b_2 : (Vector UInt64 16)) (r : (Vector UInt64 16)) (hm : cursor_Join k a_1 b_2 = some r) : Sim Try.prog 15 [A (rV 16 (rU UInt64)) a_1, A (rV 16 (rU UInt64)) b_2] [] (γ := Unit) (fun q => []) (fun q => .one (.val (A (rV 16 (rU UInt64)) r))) := by
 unfold cursor_Join at hm
 refine Sim.of Try.func15 rfl rfl (Nat.le_of_ble_eq_true rfl) (fun e0 w0 => ?_)
 refine JC.at ⟨[(0, ov (A (rV 16 (rU UInt64)) a_1)), (1, ov (A (rV 16 (rU UInt64)) b_2))], [], []⟩ ?_
 refine JC.seq ?_
 refine JC.region ?_
 refine jx (op_boxA lb (.tmp rfl)) (fun q => ?_)
 obtain ⟨gb_3, hqq⟩ : ∃ z, z = q := ⟨_, rfl⟩
 subst hqq
 refine jx (op_boxA lb (.tmp rfl)) (fun q => ?_)
 obtain ⟨gb_4, hqq⟩ : ∃ z, z = q := ⟨_, rfl⟩
 subst hqq
 refine jx (op_alloc lb tZ25 zr25) (fun q => ?_)
 obtain ⟨gb_5, hqq⟩ : ∃ z, z = q := ⟨_, rfl⟩
 subst hqq
 refine JL.nil ?_
 refine JQ.then ?_
 replace hm := bnd_inv hm
 obtain ⟨a_16, hx1, hq1⟩ := hm
 refine JC.seqJ (γ := Unit) (stj := fun q => ⟨[(2, ov (PTR gb_3 0)), (4, ov (PTR gb_5 0))], [cvar gb_3 (rV 16 (rU UInt64)) a_16, cvar gb_5 (rV 16 (rU UInt64)) (Vector.replicate 16 (0 : UInt64))], []⟩) (fun q => ?_) ?_
 · obtain _ := q
   refine JC.at ⟨[(2, ov (PTR gb_3 0)), (4, ov (PTR gb_5 0))], [cvar gb_3 (rV 16 (rU UInt64)) a_16, cvar gb_5 (rV 16 (rU UInt64)) (Vector.replicate 16 (0 : UInt64))], []⟩ ?_
   refine JC.seq ?_
   refine JC.region ?_
   refine jc (op_loadA (j := 0) lb tA25 (.tmp rfl) rfl (Comp.self (rV 16 (rU UInt64)) a_16) rfl) ?_
   refine jc (op_storeA (j := 1) tA25 (.tmp rfl) (.tmp rfl) rfl (UpdR.self (by rfl)) rfl) ?_
   refine JL.nil ?_
   refine JQ.then ?_
   refine JC.ret ?_
   replace hq1 := Option.some.inj hq1
   subst hq1
   exact JQ.done (js := []) (ss := [.val (A (rV 16 (rU UInt64)) a_16)]) () (.inl rfl) (.nil rfl) rfl (.cons (.cellA (j := 1) tA25 rfl rfl) .nil) rfl rfl rfl
 · refine JC.seq ?_
   refine JC.region ?_
   refine jc (op_loadA (j := 1) lb tA25 (.tmp rfl) rfl (Comp.self (rV 16 (rU UInt64)) b_2) rfl) ?_
   refine jc (op_move lb .cI) ?_
   refine JL.nil ?_
   refine JQ.then ?_
   refine JC.block ?_
   refine JC.pre ?_ (JC.loop (γ := Unit) (stf := fun s q => ⟨[(2, ov (PTR gb_3 0)), (4, ov (PTR gb_5 0)), (7, ov (A (rV 16 (rU UInt64)) b_2)), (8, ov (S (rI .i64) s.2))], [cvar gb_3 (rV 16 (rU UInt64)) s.1, cvar gb_5 (rV 16 (rU UInt64)) (Vector.replicate 16 (0 : UInt64))], []⟩) (q := ()) hx1 ?_)
   · exact (Imp.norm (js := [0, 1]) rfl (.cons rfl (.cons rfl (.cons rfl (.cons rfl .nil)))))
   · intro s q x hx hr
     obtain ⟨a_6, x_7⟩ := s
     obtain _ := q
     change cursor_Join.b1 k b_2 a_6 x_7 = some x at hx
     unfold cursor_Join.b1 at hx
     refine JC.at ⟨[(2, ov (PTR gb_3 0)), (4, ov (PTR gb_5 0)), (7, ov (A (rV 16 (rU UInt64)) b_2)), (8, ov (S (rI .i64) x_7))], [cvar gb_3 (rV 16 (rU UInt64)) a_6, cvar gb_5 (rV 16 (rU UInt64)) (Vector.replicate 16 (0 : UInt64))], []⟩ ?_
     refine JC.seq ?_
     refine JC.region ?_
     replace hx := lt1_inv hx
     obtain ⟨v_8, hv_v_8, hx⟩ := hx
     refine jc (op_cmpI lb (.tmp rfl) .cI (congrArg some hv_v_8)) ?_
     refine JL.nil ?_
     refine JQ.then ?_
     refine JC.seq ?_
     replace hx := iteB_inv hx
     rcases hx with ⟨hc3, hx⟩ | ⟨hc3, hx⟩
     · refine JC.condT (.tmp rfl) hc3 ?_
       refine JC.skip ?_
       refine JQ.then ?_
       refine JC.seq ?_
       refine JC.block ?_
       refine JC.seq ?_
       refine JC.region ?_
       refine jc (op_move lb (.tmp rfl)) ?_
       replace hx := bnd_inv hx
       obtain ⟨v_9, hv_v_9, hx⟩ := hx
       refine jc (op_indexSg lb tu25 tS23 rfl (.tmp rfl) (.tmp rfl) hv_v_9) ?_
       refine jc (op_assign lb (.tmp rfl)) ?_
       refine jc (op_assign lb (.tmp rfl)) ?_
       refine JL.nil ?_
       refine JQ.then ?_
       refine JC.region ?_
       refine jc (op_move lb (.tmp rfl)) ?_
       refine jc (op_move lb (.tmp rfl)) ?_
       replace hx := bnd_inv hx
       obtain ⟨i_10, hv_i_10, hx⟩ := hx
       refine jc (op_indexAddrIF lb tr25 (.tmp rfl) (.tmp rfl) hv_i_10) ?_
       replace hx := lt1_inv hx
       obtain ⟨v_11, hv_v_11, hx⟩ := hx
       refine jc (op_loadS (j := 0) lb tS23 (.tmp rfl) rfl (Comp.at (Comp.self (rV 16 (rU UInt64)) a_6) i_10.2 rfl) rfl hv_v_11) ?_
       refine jc (op_move lb (.tmp rfl)) ?_
       replace hx := lt1_inv hx
       obtain ⟨v_12, hv_v_12, hx⟩ := hx
       refine jc (op_maxU lb (.tmp rfl) (.tmp rfl) hv_v_12) ?_
       replace hx := bnd_inv hx
       obtain ⟨i_13, hv_i_13, hx⟩ := hx
       refine jc (op_indexAddrIF lb tr25 (.tmp rfl) (.tmp rfl) hv_i_13) ?_
       refine JL.sub ⟨[(2, ov (PTR gb_3 0)), (4, ov (PTR gb_5 0)), (7, ov (A (rV 16 (rU UInt64)) b_2)), (8, ov (S (rI .i64) x_7)), (17, ov (S (rU UInt64) v_12)), (18, ov (PTR gb_3 (0 + i_13.1 * 1)))], [cvar gb_3 (rV 16 (rU UInt64)) a_6, cvar gb_5 (rV 16 (rU UInt64)) (Vector.replicate 16 (0 : UInt64))], []⟩ rfl rfl rfl ?_
       replace hx := lt1_inv hx
       obtain ⟨a_14, hv_a_14, hx⟩ := hx
       refine jc (op_storeS (j := 0) tS23 (.tmp rfl) (.tmp rfl) rfl rfl (Upd.at (Comp.self (rV 16 (rU UInt64)) a_6) i_13.2 rfl (Upd.self (rV 16 (rU UInt64)) a_6 _)).R hv_a_14) ?_
       refine JL.nil ?_
       refine JQ.outNB ?_
       refine JQ.then ?_
       refine JC.region ?_
       replace hx := lt1_inv hx
       obtain ⟨v_15, hv_v_15, hx⟩ := hx
       refine jc (op_arI lb (.tmp rfl) .cI (congrArg some hv_v_15)) ?_
       refine jc (op_move lb (.tmp rfl)) ?_
       refine JL.nil ?_
       replace hx := Option.some.inj hx
       first | subst hx | clear hx
       exact JQ.next () rfl (Imp.norm (js := [0, 0]) rfl (.cons rfl (.cons rfl (.cons rfl (.cons rfl .nil)))))
     · refine JC.condF (.tmp rfl) hc3 ?_
       refine JC.exit ?_
       refine JQ.outX ?_
       replace hx := Option.some.inj hx
       first | subst hx | clear hx
       have ht := hr _ rfl
       have hq2 := congrArg some ht
       clear hr ht
       refine JQ.outX ?_
       refine JQ.here ?_
       replace hq2 := Option.some.inj hq2
       first | subst hq2 | clear hq2
       exact JQ.join () (Imp.norm (js := [0, 0]) rfl (.cons rfl (.cons rfl .nil)))

theorem sim_ref09_Join (k : Nat) (a_1 : (Vector UInt64 16)) (b_2 : (Vector UInt64 16)) (r : (Vector UInt64 16)) (hm : ref09_Join k a_1 b_2 = some r) : Sim Try.prog 16 [A (rV 16 (rU UInt64)) a_1, A (rV 16 (rU UInt64)) b_2] [] (γ := Unit) (fun q => []) (fun q => .one (.val (A (rV 16 (rU UInt64)) r))) := by
 unfold ref09_Join at hm
 refine Sim.of Try.func16 rfl rfl (Nat.le_of_ble_eq_true rfl) (fun e0 w0 => ?_)
 refine JC.at ⟨[(0, ov (A (rV 16 (rU UInt64)) a_1)), (1, ov (A (rV 16 (rU UInt64)) b_2))], [], []⟩ ?_
 refine JC.seq ?_
 refine JC.region ?_
 refine jx (op_boxA lb (.tmp rfl)) (fun q => ?_)
 obtain ⟨gb_3, hqq⟩ : ∃ z, z = q := ⟨_, rfl⟩
 subst hqq
 refine jx (op_boxA lb (.tmp rfl)) (fun q => ?_)
 obtain ⟨gb_4, hqq⟩ : ∃ z, z = q := ⟨_, rfl⟩
 subst hqq
 refine jx (op_alloc lb tZ25 zr25) (fun q => ?_)
 obtain ⟨gb_5, hqq⟩ : ∃ z, z = q := ⟨_, rfl⟩
 subst hqq
 refine JL.nil ?_
 refine JQ.then ?_
 replace hm := bnd_inv hm
 obtain ⟨a_20, hx1, hq1⟩ := hm
 refine JC.seqJ (γ := Unit) (stj := fun q => ⟨[(2, ov (PTR gb_3 0)), (4, ov (PTR gb_5 0))], [cvar gb_3 (rV 16 (rU UInt64)) a_20, cvar gb_5 (rV 16 (rU UInt64)) (Vector.replicate 16 (0 : UInt64))], []⟩) (fun q => ?_) ?_
 · obtain _ := q
   refine JC.at ⟨[(2, ov (PTR gb_3 0)), (4, ov (PTR gb_5 0))], [cvar gb_3 (rV 16 (rU UInt64)) a_20, cvar gb_5 (rV 16 (rU UInt64)) (Vector.replicate 16 (0 : UInt64))], []⟩ ?_
   refine JC.seq ?_
   refine JC.region ?_
   refine jc (op_loadA (j := 0) lb tA25 (.tmp rfl) rfl (Comp.self (rV 16 (rU UInt64)) a_20) rfl) ?_
   refine jc (op_storeA (j := 1) tA25 (.tmp rfl) (.tmp rfl) rfl (UpdR.self (by rfl)) rfl) ?_
   refine JL.nil ?_
   refine JQ.then ?_
   refine JC.ret ?_
   replace hq1 := Option.some.inj hq1
   subst hq1
   exact JQ.done (js := []) (ss := [.val (A (rV 16 (rU UInt64)) a_20)]) () (.inl rfl) (.nil rfl) rfl (.cons (.cellA (j := 1) tA25 rfl rfl) .nil) rfl rfl rfl
 · refine JC.seq ?_
   refine JC.region ?_
   refine jc (op_assign lb .cI) ?_
   refine JL.nil ?_
   refine JQ.then ?_
   refine JC.block ?_
   refine JC.pre ?_ (JC.loop (γ := Unit) (stf := fun s q => ⟨[(2, ov (PTR gb_3 0)), (3, ov (PTR gb_4 0)), (4, ov (PTR gb_5 0)), (5, ov (S (rI .i64) s.2))], [cvar gb_3 (rV 16 (rU UInt64)) s.1, cvar gb_4 (rV 16 (rU UInt64)) b_2, cvar gb_5 (rV 16 (rU UInt64)) (Vector.replicate 16 (0 : UInt64))], []⟩) (q := ()) hx1 ?_)
   · exact (Imp.norm (js := [0, 0, 0]) rfl (.cons rfl (.cons rfl (.cons rfl (.cons rfl .nil)))))
   · intro s q x hx hr
     obtain ⟨a_6, i_7⟩ := s
     obtain _ := q
     change ref09_Join.b1 k b_2 a_6 i_7 = some x at hx
     unfold ref09_Join.b1 at hx
     refine JC.at ⟨[(2, ov (PTR gb_3 0)), (3, ov (PTR gb_4 0)), (4, ov (PTR gb_5 0)), (5, ov (S (rI .i64) i_7))], [cvar gb_3 (rV 16 (rU UInt64)) a_6, cvar gb_4 (rV 16 (rU UInt64)) b_2, cvar gb_5 (rV 16 (rU UInt64)) (Vector.replicate 16 (0 : UInt64))], []⟩ ?_
     refine JC.seq ?_
     refine JC.seq ?_
     refine JC.region ?_
     refine jc (op_move lb (.tmp rfl)) ?_
     replace hx := lt1_inv hx
     obtain ⟨v_8, hv_v_8, hx⟩ := hx
     refine jc (op_cmpI lb (.tmp rfl) .cI (congrArg some hv_v_8)) ?_
     refine JL.nil ?_
     refine JQ.then ?_
     replace hx := iteB_inv hx
     rcases hx with ⟨hc3, hx⟩ | ⟨hc3, hx⟩
     · refine JC.condT (.tmp rfl) hc3 ?_
       refine JC.skip ?_
       refine JQ.then ?_
       replace hx := bnd_inv hx
       obtain ⟨a_18, hx4, hq4⟩ := hx
       refine JC.seqJ (γ := Unit) (stj := fun q => ⟨[(2, ov (PTR gb_3 0)), (3, ov (PTR gb_4 0)), (4, ov (PTR gb_5 0)), (5, ov (S (rI .i64) i_7))], [cvar gb_3 (rV 16 (rU UInt64)) a_18, cvar gb_4 (rV 16 (rU UInt64)) b_2, cvar gb_5 (rV 16 (rU UInt64)) (Vector.replicate 16 (0 : UInt64))], []⟩) (fun q => ?_) ?_
       · obtain _ := q
         refine JC.at ⟨[(2, ov (PTR gb_3 0)), (3, ov (PTR gb_4 0)), (4, ov (PTR gb_5 0)), (5, ov (S (rI .i64) i_7))], [cvar gb_3 (rV 16 (rU UInt64)) a_18, cvar gb_4 (rV 16 (rU UInt64)) b_2, cvar gb_5 (rV 16 (rU UInt64)) (Vector.replicate 16 (0 : UInt64))], []⟩ ?_
         refine JC.region ?_
         refine jc (op_move lb (.tmp rfl)) ?_
         replace hq4 := lt1_inv hq4
         obtain ⟨v_19, hv_v_19, hq4⟩ := hq4
         refine jc (op_arI lb (.tmp rfl) .cI (congrArg some hv_v_19)) ?_
         refine jc (op_assign lb (.tmp rfl)) ?_
         refine JL.nil ?_
         replace hq4 := Option.some.inj hq4
         first | subst hq4 | clear hq4
         exact JQ.next () rfl (Imp.norm (js := [0, 0, 0]) rfl (.cons rfl (.cons rfl (.cons rfl (.cons rfl .nil)))))
       · refine JC.block ?_
         refine JC.seq ?_
         replace hx4 := bnd_inv hx4
         obtain ⟨i_9, hv_i_9, hx4⟩ := hx4
         replace hx4 := lt1_inv hx4
         obtain ⟨v_10, hv_v_10, hx4⟩ := hx4
         replace hx4 := bnd_inv hx4
         obtain ⟨i_11, hv_i_11, hx4⟩ := hx4
         replace hx4 := lt1_inv hx4
         obtain ⟨v_12, hv_v_12, hx4⟩ := hx4
         replace hx4 := lt1_inv hx4
         obtain ⟨v_13, hv_v_13, hx4⟩ := hx4
         refine JC.anyE (kl := []) (kk := 0) (base := [(2, ov (PTR gb_3 0)), (3, ov (PTR gb_4 0)), (4, ov (PTR gb_5 0)), (5, ov (S (rI .i64) i_7))])
             (fs := fun γ => [⟨some 10, ov (S (rI .i64) i_7)⟩, ⟨some 11, ov (PTR gb_4 (0 + i_9.1 * 1))⟩, ⟨some 12, ov (S (rU UInt64) v_10)⟩, ⟨some 13, ov (S (rI .i64) i_7)⟩, ⟨some 14, ov (PTR gb_3 (0 + i_11.1 * 1))⟩, ⟨some 15, ov (S (rU UInt64) v_12)⟩, ⟨some 16, ov (S rB v_13)⟩])
             (rs := fun γ => [⟨cvar gb_3 (rV 16 (rU UInt64)) a_6, none, none, [5]⟩, ⟨cvar gb_4 (rV 16 (rU UInt64)) b_2, none, none, [2]⟩, ⟨cvar gb_5 (rV 16 (rU UInt64)) (Vector.replicate 16 (0 : UInt64)), none, none, []⟩])
             (ds := [10, 11, 12, 13, 14, 15, 16]) (bs := [2, 3, 4, 5]) (afts := [[], [], [], [], [], [], []]) (js := [0, 0, 0]) mixed (.cons rfl (.cons rfl (.cons rfl (.cons rfl .nil)))) (fun _ => rfl)
             (by
      refine dS 1 (fun γ ρ B hb hd => op_move lb (.tmp (hb 5 _ rfl))) ?_
      refine dS 2 (fun γ ρ B hb hd => op_indexAddrIF lb tr25 (.tmp (hb 3 _ rfl)) (.tmp (hl hd 0 10 rfl)) hv_i_9) ?_
      refine DSteps.cons (j := 3) rfl (fun _ => rfl) (.run (fun γ ρ B hb hd => ⟨.none, OpStep.at ⟨ρ, (cvar gb_4 (rV 16 (rU UInt64)) b_2) :: B, _⟩ (setO ⟨ρ, (cvar gb_4 (rV 16 (rU UInt64)) b_2) :: B, _⟩ _ _) (op_loadS (j := 0) lb tS23 (.tmp (hl hd 1 11 rfl)) rfl (Comp.at (Comp.self (rV 16 (rU UInt64)) b_2) i_9.2 rfl) rfl hv_v_10)⟩)) ?_
      refine dS 4 (fun γ ρ B hb hd => op_move lb (.tmp (hb 5 _ rfl))) ?_
      refine dS 5 (fun γ ρ B hb hd => op_indexAddrIF lb tr25 (.tmp (hb 2 _ rfl)) (.tmp (hl hd 3 13 rfl)) hv_i_11) ?_
      refine DSteps.cons (j := 6) rfl (fun _ => rfl) (.run (fun γ ρ B hb hd => ⟨.none, OpStep.at ⟨ρ, (cvar gb_3 (rV 16 (rU UInt64)) a_6) :: B, _⟩ (setO ⟨ρ, (cvar gb_3 (rV 16 (rU UInt64)) a_6) :: B, _⟩ _ _) (op_loadS (j := 0) lb tS23 (.tmp (hl hd 4 14 rfl)) rfl (Comp.at (Comp.self (rV 16 (rU UInt64)) a_6) i_11.2 rfl) rfl hv_v_12)⟩)) ?_
      refine dS 7 (fun γ ρ B hb hd => op_cmpU lb (.tmp (hl hd 2 12 rfl)) (.tmp (hl hd 5 15 rfl)) (congrArg some hv_v_13)) ?_
      exact DSteps.nil)
             (by decide +kernel) (fun _ => rfl) rfl (fun _ => rfl) (fun _ => rfl) rfl (by decide) (by decide) (by decide +kernel) (fun _ d h => by cases h)
             (ρ' := fun γ => [(2, ov (PTR gb_3 0)), (3, ov (PTR gb_4 0)), (4, ov (PTR gb_5 0)), (5, ov (S (rI .i64) i_7)), (16, ov (S rB v_13))])
             (X' := fun γ => [cvar gb_3 (rV 16 (rU UInt64)) a_6, cvar gb_4 (rV 16 (rU UInt64)) b_2, cvar gb_5 (rV 16 (rU UInt64)) (Vector.replicate 16 (0 : UInt64))])
             (fun γ ρ hb hd => (.cons (hb 2 _ rfl (by decide)) (.cons (hb 3 _ rfl (by decide)) (.cons (hb 4 _ rfl (by decide)) (.cons (hb 5 _ rfl (by decide)) (.cons (hdq hd 6 16 rfl) .nil)))))) (fun _ => rfl) (fun γ => ?_)
         refine JQ.at ⟨[(2, ov (PTR gb_3 0)), (3, ov (PTR gb_4 0)), (4, ov (PTR gb_5 0)), (5, ov (S (rI .i64) i_7)), (16, ov (S rB v_13))], [cvar gb_3 (rV 16 (rU UInt64)) a_6, cvar gb_4 (rV 16 (rU UInt64)) b_2, cvar gb_5 (rV 16 (rU UInt64)) (Vector.replicate 16 (0 : UInt64))], []⟩ ?_
         refine JQ.then ?_
         replace hx4 := iteB_inv hx4
         rcases hx4 with ⟨hc5, hx4⟩ | ⟨hc5, hx4⟩
         · refine JC.condT (.tmp rfl) hc5 ?_
           refine JC.region ?_
           refine jc (op_move lb (.tmp rfl)) ?_
           refine jc (op_move lb (.tmp rfl)) ?_
           replace hx4 := bnd_inv hx4
           obtain ⟨i_14, hv_i_14, hx4⟩ := hx4
           refine jc (op_indexAddrIF lb tr25 (.tmp rfl) (.tmp rfl) hv_i_14) ?_
           replace hx4 := lt1_inv hx4
           obtain ⟨v_15, hv_v_15, hx4⟩ := hx4
           refine jc (op_loadS (j := 1) lb tS23 (.tmp rfl) rfl (Comp.at (Comp.self (rV 16 (rU UInt64)) b_2) i_14.2 rfl) rfl hv_v_15) ?_
           replace hx4 := bnd_inv hx4
           obtain ⟨i_16, hv_i_16, hx4⟩ := hx4
           refine jc (op_indexAddrIF lb tr25 (.tmp rfl) (.tmp rfl) hv_i_16) ?_
           replace hx4 := lt1_inv hx4
           obtain ⟨a_17, hv_a_17, hx4⟩ := hx4
           refine jc (op_storeS (j := 0) tS23 (.tmp rfl) (.tmp rfl) rfl rfl (Upd.at (Comp.self (rV 16 (rU UInt64)) a_6) i_16.2 rfl (Upd.self (rV 16 (rU UInt64)) a_6 _)).R hv_a_17) ?_
           refine JL.nil ?_
           refine JQ.outNB ?_
           replace hx4 := Option.some.inj hx4
           first | subst hx4 | clear hx4
           exact JQ.join () (Imp.norm (js := [0, 0, 0]) rfl (.cons rfl (.cons rfl (.cons rfl (.cons rfl .nil)))))
         · refine JC.condF (.tmp rfl) hc5 ?_
           refine JC.skip ?_
           refine JQ.outNB ?_
           replace hx4 := Option.some.inj hx4
           first | subst hx4 | clear hx4
           exact JQ.join () (Imp.norm (js := [0, 0, 0]) rfl (.cons rfl (.cons rfl (.cons rfl (.cons rfl .nil)))))
     · refine JC.condF (.tmp rfl) hc3 ?_
       refine JC.exit ?_
       refine JQ.outX ?_
       replace hx := Option.some.inj hx
       first | subst hx | clear hx
       have ht := hr _ rfl
       have hq2 := congrArg some ht
       clear hr ht
       refine JQ.outX ?_
       refine JQ.here ?_
       replace hq2 := Option.some.inj hq2
       first | subst hq2 | clear hq2
       exact JQ.join () (Imp.norm (js := [0, 1]) rfl (.cons rfl (.cons rfl .nil)))

end Go.Proofs.Ytnhiiabdoichlaa
