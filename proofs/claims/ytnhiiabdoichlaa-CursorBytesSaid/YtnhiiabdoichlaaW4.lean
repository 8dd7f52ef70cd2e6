/- Walks. -/
import Derived.Test.YtnhiiabdoichlaaT
import Derived.Test.YtnhiiabdoichlaaW3
namespace Go.Proofs.Ytnhiiabdoichlaa
open Go Fw
set_option linter.unusedVariables false
set_option maxRecDepth 100000
set_option maxHeartbeats 4000000

theorem sim_sha_state_press (k : Nat) (a_1 : (List UInt8)) (t_2 : sha_state) (gb_3 : Nat) (r : sha_state) (hm : sha_state_press k a_1 t_2 = some r) : Sim Try.prog 50 [PTR gb_3 0, S (rL (rU UInt8)) a_1] [cvar gb_3 r_sha_state t_2] (γ := Unit) (fun q => [cvar gb_3 r_sha_state r]) (fun q => .tup []) := by
 unfold sha_state_press at hm
 refine Sim.of Try.func50 rfl rfl (Nat.le_of_ble_eq_true rfl) (fun e0 w0 => ?_)
 refine JC.at ⟨[(0, ov (PTR gb_3 0)), (1, ov (S (rL (rU UInt8)) a_1))], [cvar gb_3 r_sha_state t_2], []⟩ ?_
 refine JC.seq ?_
 refine JC.region ?_
 refine jc (op_assign lb .func) ?_
 refine JL.nil ?_
 refine JQ.then ?_
 refine JC.seq ?_
 refine JC.region ?_
 refine jx (op_alloc lb tZ68 zr68) (fun q => ?_)
 obtain ⟨gb_4, hqq⟩ : ∃ z, z = q := ⟨_, rfl⟩
 subst hqq
 refine JL.nil ?_
 refine JQ.then ?_
 replace hm := bnd_inv hm
 obtain ⟨x_26, hx1, hq1⟩ := hm
 refine JC.seqJ (γ := Unit) (stj := fun q => ⟨[(0, ov (PTR gb_3 0)), (4, ov (CLO 62 [])), (5, ov (PTR gb_4 0))], [cvar gb_3 r_sha_state t_2, cvar gb_4 (rV 64 (rU UInt32)) x_26], []⟩) (fun q => ?_) ?_
 · obtain _ := q
   refine JC.at ⟨[(0, ov (PTR gb_3 0)), (4, ov (CLO 62 [])), (5, ov (PTR gb_4 0))], [cvar gb_3 r_sha_state t_2, cvar gb_4 (rV 64 (rU UInt32)) x_26], []⟩ ?_
   replace hq1 := bnd_inv hq1
   obtain ⟨x_54, hx7, hq7⟩ := hq1
   refine JC.seqJ (γ := Unit) (stj := fun q => ⟨[(0, ov (PTR gb_3 0)), (4, ov (CLO 62 [])), (5, ov (PTR gb_4 0))], [cvar gb_3 r_sha_state t_2, cvar gb_4 (rV 64 (rU UInt32)) x_54], []⟩) (fun q => ?_) ?_
   · obtain _ := q
     refine JC.at ⟨[(0, ov (PTR gb_3 0)), (4, ov (CLO 62 [])), (5, ov (PTR gb_4 0))], [cvar gb_3 r_sha_state t_2, cvar gb_4 (rV 64 (rU UInt32)) x_54], []⟩ ?_
     refine JC.seq ?_
     replace hq7 := bnd_inv hq7
     obtain ⟨i_55, hv_i_55, hq7⟩ := hq7
     replace hq7 := lt1_inv hq7
     obtain ⟨v_56, hv_v_56, hq7⟩ := hq7
     replace hq7 := bnd_inv hq7
     obtain ⟨i_57, hv_i_57, hq7⟩ := hq7
     replace hq7 := lt1_inv hq7
     obtain ⟨v_58, hv_v_58, hq7⟩ := hq7
     replace hq7 := bnd_inv hq7
     obtain ⟨i_59, hv_i_59, hq7⟩ := hq7
     replace hq7 := lt1_inv hq7
     obtain ⟨v_60, hv_v_60, hq7⟩ := hq7
     replace hq7 := bnd_inv hq7
     obtain ⟨i_61, hv_i_61, hq7⟩ := hq7
     replace hq7 := lt1_inv hq7
     obtain ⟨v_62, hv_v_62, hq7⟩ := hq7
     replace hq7 := bnd_inv hq7
     obtain ⟨i_63, hv_i_63, hq7⟩ := hq7
     replace hq7 := lt1_inv hq7
     obtain ⟨v_64, hv_v_64, hq7⟩ := hq7
     replace hq7 := bnd_inv hq7
     obtain ⟨i_65, hv_i_65, hq7⟩ := hq7
     replace hq7 := lt1_inv hq7
     obtain ⟨v_66, hv_v_66, hq7⟩ := hq7
     replace hq7 := bnd_inv hq7
     obtain ⟨i_67, hv_i_67, hq7⟩ := hq7
     replace hq7 := lt1_inv hq7
     obtain ⟨v_68, hv_v_68, hq7⟩ := hq7
     replace hq7 := bnd_inv hq7
     obtain ⟨i_69, hv_i_69, hq7⟩ := hq7
     replace hq7 := lt1_inv hq7
     obtain ⟨v_70, hv_v_70, hq7⟩ := hq7
     refine JC.anyE (kl := []) (kk := 0) (base := [(0, ov (PTR gb_3 0)), (4, ov (CLO 62 [])), (5, ov (PTR gb_4 0))])
         (fs := fun γ => [⟨some 90, ov (PTR gb_3 0)⟩, ⟨some 91, ov (PTR gb_3 0)⟩, ⟨some 92, ov (PTR gb_3 (0 + 0))⟩, ⟨some 93, ov (PTR gb_3 ((0 + 0) + i_55.1 * 1))⟩, ⟨some 94, ov (S (rU UInt32) v_56)⟩, ⟨some 95, ov (PTR gb_3 0)⟩, ⟨some 96, ov (PTR gb_3 0)⟩, ⟨some 97, ov (PTR gb_3 (0 + 0))⟩, ⟨some 98, ov (PTR gb_3 ((0 + 0) + i_57.1 * 1))⟩, ⟨some 99, ov (S (rU UInt32) v_58)⟩, ⟨some 100, ov (PTR gb_3 0)⟩, ⟨some 101, ov (PTR gb_3 0)⟩, ⟨some 102, ov (PTR gb_3 (0 + 0))⟩, ⟨some 103, ov (PTR gb_3 ((0 + 0) + i_59.1 * 1))⟩, ⟨some 104, ov (S (rU UInt32) v_60)⟩, ⟨some 105, ov (PTR gb_3 0)⟩, ⟨some 106, ov (PTR gb_3 0)⟩, ⟨some 107, ov (PTR gb_3 (0 + 0))⟩, ⟨some 108, ov (PTR gb_3 ((0 + 0) + i_61.1 * 1))⟩, ⟨some 109, ov (S (rU UInt32) v_62)⟩, ⟨some 110, ov (PTR gb_3 0)⟩, ⟨some 111, ov (PTR gb_3 0)⟩, ⟨some 112, ov (PTR gb_3 (0 + 0))⟩, ⟨some 113, ov (PTR gb_3 ((0 + 0) + i_63.1 * 1))⟩, ⟨some 114, ov (S (rU UInt32) v_64)⟩, ⟨some 115, ov (PTR gb_3 0)⟩, ⟨some 116, ov (PTR gb_3 0)⟩, ⟨some 117, ov (PTR gb_3 (0 + 0))⟩, ⟨some 118, ov (PTR gb_3 ((0 + 0) + i_65.1 * 1))⟩, ⟨some 119, ov (S (rU UInt32) v_66)⟩, ⟨some 120, ov (PTR gb_3 0)⟩, ⟨some 121, ov (PTR gb_3 0)⟩, ⟨some 122, ov (PTR gb_3 (0 + 0))⟩, ⟨some 123, ov (PTR gb_3 ((0 + 0) + i_67.1 * 1))⟩, ⟨some 124, ov (S (rU UInt32) v_68)⟩, ⟨some 125, ov (PTR gb_3 0)⟩, ⟨some 126, ov (PTR gb_3 0)⟩, ⟨some 127, ov (PTR gb_3 (0 + 0))⟩, ⟨some 128, ov (PTR gb_3 ((0 + 0) + i_69.1 * 1))⟩, ⟨some 129, ov (S (rU UInt32) v_70)⟩, ⟨some 12, ov (S (rU UInt32) v_56)⟩, ⟨some 13, ov (S (rU UInt32) v_58)⟩, ⟨some 14, ov (S (rU UInt32) v_60)⟩, ⟨some 15, ov (S (rU UInt32) v_62)⟩, ⟨some 16, ov (S (rU UInt32) v_64)⟩, ⟨some 17, ov (S (rU UInt32) v_66)⟩, ⟨some 18, ov (S (rU UInt32) v_68)⟩, ⟨some 19, ov (S (rU UInt32) v_70)⟩])
         (rs := fun γ => [⟨cvar gb_3 r_sha_state t_2, none, none, [4, 9, 14, 19, 24, 29, 34, 39]⟩, ⟨cvar gb_4 (rV 64 (rU UInt32)) x_54, none, none, []⟩])
         (ds := [90, 91, 92, 93, 94, 95, 96, 97, 98, 99, 100, 101, 102, 103, 104, 105, 106, 107, 108, 109, 110, 111, 112, 113, 114, 115, 116, 117, 118, 119, 120, 121, 122, 123, 124, 125, 126, 127, 128, 129, 12, 13, 14, 15, 16, 17, 18, 19]) (bs := [0, 4, 5]) (afts := [[], [], [], [], [], [], [], [], [], [], [], [], [], [], [], [], [], [], [], [], [], [], [], [], [], [], [], [], [], [], [], [], [], [], [], [], [], [], [], [], [], [], [], [], [], [], [], []]) (js := [0, 0]) mixed (.cons rfl (.cons rfl (.cons rfl .nil))) (fun _ => rfl)
         (by
      refine dS 1 (fun γ ρ B hb hd => op_move lb (.tmp (hb 0 _ rfl))) ?_
      refine dS 2 (fun γ ρ B hb hd => op_nilCheck lb (.tmp (hl hd 0 90 rfl)) (fun e v h => by subst h; rfl)) ?_
      refine dS 3 (fun γ ρ B hb hd => op_fieldAddr (off := 0) lb tf70_0 (.tmp (hl hd 1 91 rfl))) ?_
      refine dS 4 (fun γ ρ B hb hd => op_indexAddrIF lb tr67 (.tmp (hl hd 2 92 rfl)) .cI hv_i_55) ?_
      refine DSteps.cons (j := 5) rfl (fun _ => rfl) (.run (fun γ ρ B hb hd => ⟨.none, OpStep.at ⟨ρ, (cvar gb_3 r_sha_state t_2) :: B, _⟩ (setO ⟨ρ, (cvar gb_3 r_sha_state t_2) :: B, _⟩ _ _) (op_loadS (j := 0) lb tS66 (.tmp (hl hd 3 93 rfl)) rfl (Comp.at (Comp.trans (Comp.self r_sha_state t_2) (comp_sha_state_h t_2) (Nat.le_of_ble_eq_true rfl)) i_55.2 rfl) rfl hv_v_56)⟩)) ?_
      refine dS 6 (fun γ ρ B hb hd => op_move lb (.tmp (hb 0 _ rfl))) ?_
      refine dS 7 (fun γ ρ B hb hd => op_nilCheck lb (.tmp (hl hd 5 95 rfl)) (fun e v h => by subst h; rfl)) ?_
      refine dS 8 (fun γ ρ B hb hd => op_fieldAddr (off := 0) lb tf70_0 (.tmp (hl hd 6 96 rfl))) ?_
      refine dS 9 (fun γ ρ B hb hd => op_indexAddrIF lb tr67 (.tmp (hl hd 7 97 rfl)) .cI hv_i_57) ?_
      refine DSteps.cons (j := 10) rfl (fun _ => rfl) (.run (fun γ ρ B hb hd => ⟨.none, OpStep.at ⟨ρ, (cvar gb_3 r_sha_state t_2) :: B, _⟩ (setO ⟨ρ, (cvar gb_3 r_sha_state t_2) :: B, _⟩ _ _) (op_loadS (j := 0) lb tS66 (.tmp (hl hd 8 98 rfl)) rfl (Comp.at (Comp.trans (Comp.self r_sha_state t_2) (comp_sha_state_h t_2) (Nat.le_of_ble_eq_true rfl)) i_57.2 rfl) rfl hv_v_58)⟩)) ?_
      refine dS 11 (fun γ ρ B hb hd => op_move lb (.tmp (hb 0 _ rfl))) ?_
      refine dS 12 (fun γ ρ B hb hd => op_nilCheck lb (.tmp (hl hd 10 100 rfl)) (fun e v h => by subst h; rfl)) ?_
      refine dS 13 (fun γ ρ B hb hd => op_fieldAddr (off := 0) lb tf70_0 (.tmp (hl hd 11 101 rfl))) ?_
      refine dS 14 (fun γ ρ B hb hd => op_indexAddrIF lb tr67 (.tmp (hl hd 12 102 rfl)) .cI hv_i_59) ?_
      refine DSteps.cons (j := 15) rfl (fun _ => rfl) (.run (fun γ ρ B hb hd => ⟨.none, OpStep.at ⟨ρ, (cvar gb_3 r_sha_state t_2) :: B, _⟩ (setO ⟨ρ, (cvar gb_3 r_sha_state t_2) :: B, _⟩ _ _) (op_loadS (j := 0) lb tS66 (.tmp (hl hd 13 103 rfl)) rfl (Comp.at (Comp.trans (Comp.self r_sha_state t_2) (comp_sha_state_h t_2) (Nat.le_of_ble_eq_true rfl)) i_59.2 rfl) rfl hv_v_60)⟩)) ?_
      refine dS 16 (fun γ ρ B hb hd => op_move lb (.tmp (hb 0 _ rfl))) ?_
      refine dS 17 (fun γ ρ B hb hd => op_nilCheck lb (.tmp (hl hd 15 105 rfl)) (fun e v h => by subst h; rfl)) ?_
      refine dS 18 (fun γ ρ B hb hd => op_fieldAddr (off := 0) lb tf70_0 (.tmp (hl hd 16 106 rfl))) ?_
      refine dS 19 (fun γ ρ B hb hd => op_indexAddrIF lb tr67 (.tmp (hl hd 17 107 rfl)) .cI hv_i_61) ?_
      refine DSteps.cons (j := 20) rfl (fun _ => rfl) (.run (fun γ ρ B hb hd => ⟨.none, OpStep.at ⟨ρ, (cvar gb_3 r_sha_state t_2) :: B, _⟩ (setO ⟨ρ, (cvar gb_3 r_sha_state t_2) :: B, _⟩ _ _) (op_loadS (j := 0) lb tS66 (.tmp (hl hd 18 108 rfl)) rfl (Comp.at (Comp.trans (Comp.self r_sha_state t_2) (comp_sha_state_h t_2) (Nat.le_of_ble_eq_true rfl)) i_61.2 rfl) rfl hv_v_62)⟩)) ?_
      refine dS 21 (fun γ ρ B hb hd => op_move lb (.tmp (hb 0 _ rfl))) ?_
      refine dS 22 (fun γ ρ B hb hd => op_nilCheck lb (.tmp (hl hd 20 110 rfl)) (fun e v h => by subst h; rfl)) ?_
      refine dS 23 (fun γ ρ B hb hd => op_fieldAddr (off := 0) lb tf70_0 (.tmp (hl hd 21 111 rfl))) ?_
      refine dS 24 (fun γ ρ B hb hd => op_indexAddrIF lb tr67 (.tmp (hl hd 22 112 rfl)) .cI hv_i_63) ?_
      refine DSteps.cons (j := 25) rfl (fun _ => rfl) (.run (fun γ ρ B hb hd => ⟨.none, OpStep.at ⟨ρ, (cvar gb_3 r_sha_state t_2) :: B, _⟩ (setO ⟨ρ, (cvar gb_3 r_sha_state t_2) :: B, _⟩ _ _) (op_loadS (j := 0) lb tS66 (.tmp (hl hd 23 113 rfl)) rfl (Comp.at (Comp.trans (Comp.self r_sha_state t_2) (comp_sha_state_h t_2) (Nat.le_of_ble_eq_true rfl)) i_63.2 rfl) rfl hv_v_64)⟩)) ?_
      refine dS 26 (fun γ ρ B hb hd => op_move lb (.tmp (hb 0 _ rfl))) ?_
      refine dS 27 (fun γ ρ B hb hd => op_nilCheck lb (.tmp (hl hd 25 115 rfl)) (fun e v h => by subst h; rfl)) ?_
      refine dS 28 (fun γ ρ B hb hd => op_fieldAddr (off := 0) lb tf70_0 (.tmp (hl hd 26 116 rfl))) ?_
      refine dS 29 (fun γ ρ B hb hd => op_indexAddrIF lb tr67 (.tmp (hl hd 27 117 rfl)) .cI hv_i_65) ?_
      refine DSteps.cons (j := 30) rfl (fun _ => rfl) (.run (fun γ ρ B hb hd => ⟨.none, OpStep.at ⟨ρ, (cvar gb_3 r_sha_state t_2) :: B, _⟩ (setO ⟨ρ, (cvar gb_3 r_sha_state t_2) :: B, _⟩ _ _) (op_loadS (j := 0) lb tS66 (.tmp (hl hd 28 118 rfl)) rfl (Comp.at (Comp.trans (Comp.self r_sha_state t_2) (comp_sha_state_h t_2) (Nat.le_of_ble_eq_true rfl)) i_65.2 rfl) rfl hv_v_66)⟩)) ?_
      refine dS 31 (fun γ ρ B hb hd => op_move lb (.tmp (hb 0 _ rfl))) ?_
      refine dS 32 (fun γ ρ B hb hd => op_nilCheck lb (.tmp (hl hd 30 120 rfl)) (fun e v h => by subst h; rfl)) ?_
      refine dS 33 (fun γ ρ B hb hd => op_fieldAddr (off := 0) lb tf70_0 (.tmp (hl hd 31 121 rfl))) ?_
      refine dS 34 (fun γ ρ B hb hd => op_indexAddrIF lb tr67 (.tmp (hl hd 32 122 rfl)) .cI hv_i_67) ?_
      refine DSteps.cons (j := 35) rfl (fun _ => rfl) (.run (fun γ ρ B hb hd => ⟨.none, OpStep.at ⟨ρ, (cvar gb_3 r_sha_state t_2) :: B, _⟩ (setO ⟨ρ, (cvar gb_3 r_sha_state t_2) :: B, _⟩ _ _) (op_loadS (j := 0) lb tS66 (.tmp (hl hd 33 123 rfl)) rfl (Comp.at (Comp.trans (Comp.self r_sha_state t_2) (comp_sha_state_h t_2) (Nat.le_of_ble_eq_true rfl)) i_67.2 rfl) rfl hv_v_68)⟩)) ?_
      refine dS 36 (fun γ ρ B hb hd => op_move lb (.tmp (hb 0 _ rfl))) ?_
      refine dS 37 (fun γ ρ B hb hd => op_nilCheck lb (.tmp (hl hd 35 125 rfl)) (fun e v h => by subst h; rfl)) ?_
      refine dS 38 (fun γ ρ B hb hd => op_fieldAddr (off := 0) lb tf70_0 (.tmp (hl hd 36 126 rfl))) ?_
      refine dS 39 (fun γ ρ B hb hd => op_indexAddrIF lb tr67 (.tmp (hl hd 37 127 rfl)) .cI hv_i_69) ?_
      refine DSteps.cons (j := 40) rfl (fun _ => rfl) (.run (fun γ ρ B hb hd => ⟨.none, OpStep.at ⟨ρ, (cvar gb_3 r_sha_state t_2) :: B, _⟩ (setO ⟨ρ, (cvar gb_3 r_sha_state t_2) :: B, _⟩ _ _) (op_loadS (j := 0) lb tS66 (.tmp (hl hd 38 128 rfl)) rfl (Comp.at (Comp.trans (Comp.self r_sha_state t_2) (comp_sha_state_h t_2) (Nat.le_of_ble_eq_true rfl)) i_69.2 rfl) rfl hv_v_70)⟩)) ?_
      refine dS 41 (fun γ ρ B hb hd => op_assign lb (.tmp (hl hd 4 94 rfl))) ?_
      refine dS 42 (fun γ ρ B hb hd => op_assign lb (.tmp (hl hd 9 99 rfl))) ?_
      refine dS 43 (fun γ ρ B hb hd => op_assign lb (.tmp (hl hd 14 104 rfl))) ?_
      refine dS 44 (fun γ ρ B hb hd => op_assign lb (.tmp (hl hd 19 109 rfl))) ?_
      refine dS 45 (fun γ ρ B hb hd => op_assign lb (.tmp (hl hd 24 114 rfl))) ?_
      refine dS 46 (fun γ ρ B hb hd => op_assign lb (.tmp (hl hd 29 119 rfl))) ?_
      refine dS 47 (fun γ ρ B hb hd => op_assign lb (.tmp (hl hd 34 124 rfl))) ?_
      refine dS 48 (fun γ ρ B hb hd => op_assign lb (.tmp (hl hd 39 129 rfl))) ?_
      exact DSteps.nil)
         (by decide +kernel) (fun _ => rfl) rfl (fun _ => rfl) (fun _ => rfl) rfl (by decide) (by decide) (by decide +kernel) (fun _ d h => by cases h)
         (ρ' := fun γ => [(0, ov (PTR gb_3 0)), (4, ov (CLO 62 [])), (5, ov (PTR gb_4 0)), (12, ov (S (rU UInt32) v_56)), (13, ov (S (rU UInt32) v_58)), (14, ov (S (rU UInt32) v_60)), (15, ov (S (rU UInt32) v_62)), (16, ov (S (rU UInt32) v_64)), (17, ov (S (rU UInt32) v_66)), (18, ov (S (rU UInt32) v_68)), (19, ov (S (rU UInt32) v_70))])
         (X' := fun γ => [cvar gb_3 r_sha_state t_2, cvar gb_4 (rV 64 (rU UInt32)) x_54])
         (fun γ ρ hb hd => (.cons (hb 0 _ rfl (by decide)) (.cons (hb 4 _ rfl (by decide)) (.cons (hb 5 _ rfl (by decide)) (.cons (hdq hd 40 12 rfl) (.cons (hdq hd 41 13 rfl) (.cons (hdq hd 42 14 rfl) (.cons (hdq hd 43 15 rfl) (.cons (hdq hd 44 16 rfl) (.cons (hdq hd 45 17 rfl) (.cons (hdq hd 46 18 rfl) (.cons (hdq hd 47 19 rfl) .nil)))))))))))) (fun _ => rfl) (fun γ => ?_)
     refine JQ.at ⟨[(0, ov (PTR gb_3 0)), (4, ov (CLO 62 [])), (5, ov (PTR gb_4 0)), (12, ov (S (rU UInt32) v_56)), (13, ov (S (rU UInt32) v_58)), (14, ov (S (rU UInt32) v_60)), (15, ov (S (rU UInt32) v_62)), (16, ov (S (rU UInt32) v_64)), (17, ov (S (rU UInt32) v_66)), (18, ov (S (rU UInt32) v_68)), (19, ov (S (rU UInt32) v_70))], [cvar gb_3 r_sha_state t_2, cvar gb_4 (rV 64 (rU UInt32)) x_54], []⟩ ?_
     refine JQ.then ?_
     replace hq7 := bnd_inv hq7
     obtain ⟨⟨x_104, x_105, x_106, x_107, x_108, x_109, x_110, x_111⟩, hx10, hq10⟩ := hq7
     refine JC.seqJ (γ := Unit) (stj := fun q => ⟨[(0, ov (PTR gb_3 0)), (12, ov (S (rU UInt32) x_104)), (13, ov (S (rU UInt32) x_105)), (14, ov (S (rU UInt32) x_106)), (15, ov (S (rU UInt32) x_107)), (16, ov (S (rU UInt32) x_108)), (17, ov (S (rU UInt32) x_109)), (18, ov (S (rU UInt32) x_110)), (19, ov (S (rU UInt32) x_111))], [cvar gb_3 r_sha_state t_2], []⟩) (fun q => ?_) ?_
     · obtain _ := q
       refine JC.at ⟨[(0, ov (PTR gb_3 0)), (12, ov (S (rU UInt32) x_104)), (13, ov (S (rU UInt32) x_105)), (14, ov (S (rU UInt32) x_106)), (15, ov (S (rU UInt32) x_107)), (16, ov (S (rU UInt32) x_108)), (17, ov (S (rU UInt32) x_109)), (18, ov (S (rU UInt32) x_110)), (19, ov (S (rU UInt32) x_111))], [cvar gb_3 r_sha_state t_2], []⟩ ?_
       refine JC.seq ?_
       refine JC.region ?_
       refine jc (op_move lb (.tmp rfl)) ?_
       refine jc (op_move lb (.tmp rfl)) ?_
       refine jc (op_move lb (.tmp rfl)) ?_
       refine jc (op_move lb (.tmp rfl)) ?_
       refine jc (op_move lb (.tmp rfl)) ?_
       refine jc (op_move lb (.tmp rfl)) ?_
       refine jc (op_move lb (.tmp rfl)) ?_
       refine jc (op_move lb (.tmp rfl)) ?_
       refine jc (op_build lb tZ67 zv67 tp67 (.S (off := 0) rfl (.tmp rfl) rfl ((Upd.at (off := 0) (i := 0) (Comp.self (rV 8 (rU UInt32)) (Vector.replicate 8 (0 : UInt32))) (by decide) rfl (Upd.self (rV 8 (rU UInt32)) (Vector.replicate 8 (0 : UInt32)) _)).R.at rfl) (.S (off := 1) rfl (.tmp rfl) rfl ((Upd.at (off := 0) (i := 1) (Comp.self (rV 8 (rU UInt32)) (Vector.set (Vector.replicate 8 (0 : UInt32)) 0 x_104 (by decide))) (by decide) rfl (Upd.self (rV 8 (rU UInt32)) (Vector.set (Vector.replicate 8 (0 : UInt32)) 0 x_104 (by decide)) _)).R.at rfl) (.S (off := 2) rfl (.tmp rfl) rfl ((Upd.at (off := 0) (i := 2) (Comp.self (rV 8 (rU UInt32)) (Vector.set (Vector.set (Vector.replicate 8 (0 : UInt32)) 0 x_104 (by decide)) 1 x_105 (by decide))) (by decide) rfl (Upd.self (rV 8 (rU UInt32)) (Vector.set (Vector.set (Vector.replicate 8 (0 : UInt32)) 0 x_104 (by decide)) 1 x_105 (by decide)) _)).R.at rfl) (.S (off := 3) rfl (.tmp rfl) rfl ((Upd.at (off := 0) (i := 3) (Comp.self (rV 8 (rU UInt32)) (Vector.set (Vector.set (Vector.set (Vector.replicate 8 (0 : UInt32)) 0 x_104 (by decide)) 1 x_105 (by decide)) 2 x_106 (by decide))) (by decide) rfl (Upd.self (rV 8 (rU UInt32)) (Vector.set (Vector.set (Vector.set (Vector.replicate 8 (0 : UInt32)) 0 x_104 (by decide)) 1 x_105 (by decide)) 2 x_106 (by decide)) _)).R.at rfl) (.S (off := 4) rfl (.tmp rfl) rfl ((Upd.at (off := 0) (i := 4) (Comp.self (rV 8 (rU UInt32)) (Vector.set (Vector.set (Vector.set (Vector.set (Vector.replicate 8 (0 : UInt32)) 0 x_104 (by decide)) 1 x_105 (by decide)) 2 x_106 (by decide)) 3 x_107 (by decide))) (by decide) rfl (Upd.self (rV 8 (rU UInt32)) (Vector.set (Vector.set (Vector.set (Vector.set (Vector.replicate 8 (0 : UInt32)) 0 x_104 (by decide)) 1 x_105 (by decide)) 2 x_106 (by decide)) 3 x_107 (by decide)) _)).R.at rfl) (.S (off := 5) rfl (.tmp rfl) rfl ((Upd.at (off := 0) (i := 5) (Comp.self (rV 8 (rU UInt32)) (Vector.set (Vector.set (Vector.set (Vector.set (Vector.set (Vector.replicate 8 (0 : UInt32)) 0 x_104 (by decide)) 1 x_105 (by decide)) 2 x_106 (by decide)) 3 x_107 (by decide)) 4 x_108 (by decide))) (by decide) rfl (Upd.self (rV 8 (rU UInt32)) (Vector.set (Vector.set (Vector.set (Vector.set (Vector.set (Vector.replicate 8 (0 : UInt32)) 0 x_104 (by decide)) 1 x_105 (by decide)) 2 x_106 (by decide)) 3 x_107 (by decide)) 4 x_108 (by decide)) _)).R.at rfl) (.S (off := 6) rfl (.tmp rfl) rfl ((Upd.at (off := 0) (i := 6) (Comp.self (rV 8 (rU UInt32)) (Vector.set (Vector.set (Vector.set (Vector.set (Vector.set (Vector.set (Vector.replicate 8 (0 : UInt32)) 0 x_104 (by decide)) 1 x_105 (by decide)) 2 x_106 (by decide)) 3 x_107 (by decide)) 4 x_108 (by decide)) 5 x_109 (by decide))) (by decide) rfl (Upd.self (rV 8 (rU UInt32)) (Vector.set (Vector.set (Vector.set (Vector.set (Vector.set (Vector.set (Vector.replicate 8 (0 : UInt32)) 0 x_104 (by decide)) 1 x_105 (by decide)) 2 x_106 (by decide)) 3 x_107 (by decide)) 4 x_108 (by decide)) 5 x_109 (by decide)) _)).R.at rfl) (.S (off := 7) rfl (.tmp rfl) rfl ((Upd.at (off := 0) (i := 7) (Comp.self (rV 8 (rU UInt32)) (Vector.set (Vector.set (Vector.set (Vector.set (Vector.set (Vector.set (Vector.set (Vector.replicate 8 (0 : UInt32)) 0 x_104 (by decide)) 1 x_105 (by decide)) 2 x_106 (by decide)) 3 x_107 (by decide)) 4 x_108 (by decide)) 5 x_109 (by decide)) 6 x_110 (by decide))) (by decide) rfl (Upd.self (rV 8 (rU UInt32)) (Vector.set (Vector.set (Vector.set (Vector.set (Vector.set (Vector.set (Vector.set (Vector.replicate 8 (0 : UInt32)) 0 x_104 (by decide)) 1 x_105 (by decide)) 2 x_106 (by decide)) 3 x_107 (by decide)) 4 x_108 (by decide)) 5 x_109 (by decide)) 6 x_110 (by decide)) _)).R.at rfl) .nil)))))))) rfl) ?_
       refine jc (op_move lb .cI) ?_
       refine JL.nil ?_
       refine JQ.then ?_
       refine JC.block ?_
       refine JC.pre ?_ (JC.loop (γ := Unit) (stf := fun s q => ⟨[(0, ov (PTR gb_3 0)), (196, ov (A (rV 8 (rU UInt32)) (#v[x_104, x_105, x_106, x_107, x_108, x_109, x_110, x_111] : (Vector UInt32 8)))), (197, ov (S (rI .i64) s.2))], [cvar gb_3 r_sha_state s.1], []⟩) (q := ()) hq10 ?_)
       · exact (Imp.norm (js := [0]) rfl (.cons rfl (.cons rfl (.cons rfl .nil))))
       · intro s q x hx hr
         obtain ⟨t_112, x_113⟩ := s
         obtain _ := q
         change sha_state_press.b5 k x_104 x_105 x_106 x_107 x_108 x_109 x_110 x_111 t_112 x_113 = some x at hx
         unfold sha_state_press.b5 at hx
         refine JC.at ⟨[(0, ov (PTR gb_3 0)), (196, ov (A (rV 8 (rU UInt32)) (#v[x_104, x_105, x_106, x_107, x_108, x_109, x_110, x_111] : (Vector UInt32 8)))), (197, ov (S (rI .i64) x_113))], [cvar gb_3 r_sha_state t_112], []⟩ ?_
         refine JC.seq ?_
         refine JC.region ?_
         replace hx := lt1_inv hx
         obtain ⟨v_114, hv_v_114, hx⟩ := hx
         refine jc (op_cmpI lb (.tmp rfl) .cI (congrArg some hv_v_114)) ?_
         refine JL.nil ?_
         refine JQ.then ?_
         refine JC.seq ?_
         replace hx := iteB_inv hx
         rcases hx with ⟨hc14, hx⟩ | ⟨hc14, hx⟩
         · refine JC.condT (.tmp rfl) hc14 ?_
           refine JC.skip ?_
           refine JQ.then ?_
           refine JC.seq ?_
           refine JC.block ?_
           refine JC.seq ?_
           refine JC.region ?_
           refine jc (op_move lb (.tmp rfl)) ?_
           replace hx := bnd_inv hx
           obtain ⟨v_115, hv_v_115, hx⟩ := hx
           refine jc (op_indexSg lb tu67 tS66 rfl (.tmp rfl) (.tmp rfl) hv_v_115) ?_
           refine jc (op_assign lb (.tmp rfl)) ?_
           refine jc (op_assign lb (.tmp rfl)) ?_
           refine JL.nil ?_
           refine JQ.then ?_
           replace hx := bnd_inv hx
           obtain ⟨i_116, hv_i_116, hx⟩ := hx
           replace hx := lt1_inv hx
           obtain ⟨v_117, hv_v_117, hx⟩ := hx
           replace hx := lt1_inv hx
           obtain ⟨v_118, hv_v_118, hx⟩ := hx
           replace hx := bnd_inv hx
           obtain ⟨i_119, hv_i_119, hx⟩ := hx
           replace hx := lt1_inv hx
           obtain ⟨t_120, hv_t_120, hx⟩ := hx
           refine JC.anyE (kl := []) (kk := 0) (base := [(0, ov (PTR gb_3 0)), (23, ov (S (rI .i64) x_113)), (24, ov (S (rU UInt32) v_115)), (196, ov (A (rV 8 (rU UInt32)) (#v[x_104, x_105, x_106, x_107, x_108, x_109, x_110, x_111] : (Vector UInt32 8)))), (197, ov (S (rI .i64) x_113))])
               (fs := fun γ => [⟨some 201, ov (PTR gb_3 0)⟩, ⟨some 202, ov (S (rI .i64) x_113)⟩, ⟨some 203, ov (PTR gb_3 0)⟩, ⟨some 204, ov (PTR gb_3 (0 + 0))⟩, ⟨some 205, ov (PTR gb_3 ((0 + 0) + i_116.1 * 1))⟩, ⟨some 206, ov (S (rU UInt32) v_117)⟩, ⟨some 207, ov (S (rU UInt32) v_115)⟩, ⟨some 208, ov (S (rU UInt32) v_118)⟩, ⟨some 209, ov (PTR gb_3 0)⟩, ⟨some 210, ov (PTR gb_3 (0 + 0))⟩, ⟨some 211, ov (PTR gb_3 ((0 + 0) + i_119.1 * 1))⟩, ⟨none, .one .any⟩])
               (rs := fun γ => [⟨cvar gb_3 r_sha_state t_112, none, (some 11), [5]⟩, ⟨cvar gb_3 r_sha_state t_120, (some 11), none, []⟩])
               (ds := [201, 202, 203, 204, 205, 206, 207, 208, 209, 210, 211]) (bs := [0, 23, 24, 196, 197]) (afts := [[], [], [], [], [], [], [], [], [], [], [], []]) (js := [0]) mixed (.cons rfl (.cons rfl (.cons rfl (.cons rfl (.cons rfl .nil))))) (fun _ => rfl)
               (by
      refine dS 1 (fun γ ρ B hb hd => op_move lb (.tmp (hb 0 _ rfl))) ?_
      refine dS 2 (fun γ ρ B hb hd => op_move lb (.tmp (hb 23 _ rfl))) ?_
      refine dS 3 (fun γ ρ B hb hd => op_nilCheck lb (.tmp (hl hd 0 201 rfl)) (fun e v h => by subst h; rfl)) ?_
      refine dS 4 (fun γ ρ B hb hd => op_fieldAddr (off := 0) lb tf70_0 (.tmp (hl hd 2 203 rfl))) ?_
      refine dS 5 (fun γ ρ B hb hd => op_indexAddrIF lb tr67 (.tmp (hl hd 3 204 rfl)) (.tmp (hl hd 1 202 rfl)) hv_i_116) ?_
      refine DSteps.cons (j := 6) rfl (fun _ => rfl) (.run (fun γ ρ B hb hd => ⟨.none, OpStep.at ⟨ρ, (cvar gb_3 r_sha_state t_112) :: B, _⟩ (setO ⟨ρ, (cvar gb_3 r_sha_state t_112) :: B, _⟩ _ _) (op_loadS (j := 0) lb tS66 (.tmp (hl hd 4 205 rfl)) rfl (Comp.at (Comp.trans (Comp.self r_sha_state t_112) (comp_sha_state_h t_112) (Nat.le_of_ble_eq_true rfl)) i_116.2 rfl) rfl hv_v_117)⟩)) ?_
      refine dS 7 (fun γ ρ B hb hd => op_move lb (.tmp (hb 24 _ rfl))) ?_
      refine dS 8 (fun γ ρ B hb hd => op_arU lb (.tmp (hl hd 5 206 rfl)) (.tmp (hl hd 6 207 rfl)) (congrArg some hv_v_118)) ?_
      refine dS 9 (fun γ ρ B hb hd => op_nilCheck lb (.tmp (hl hd 0 201 rfl)) (fun e v h => by subst h; rfl)) ?_
      refine dS 10 (fun γ ρ B hb hd => op_fieldAddr (off := 0) lb tf70_0 (.tmp (hl hd 8 209 rfl))) ?_
      refine dS 11 (fun γ ρ B hb hd => op_indexAddrIF lb tr67 (.tmp (hl hd 9 210 rfl)) (.tmp (hl hd 1 202 rfl)) hv_i_119) ?_
      refine DSteps.cons (j := 12) rfl (fun _ => rfl) (.run (fun γ ρ B hb hd => ⟨.none, OpStep.at ⟨ρ, (cvar gb_3 r_sha_state t_112) :: B, _⟩ (setO ⟨ρ, (cvar gb_3 r_sha_state t_120) :: B, _⟩ _ _) (op_storeS (j := 0) tS66 (.tmp (hl hd 10 211 rfl)) (.tmp (hl hd 7 208 rfl)) rfl rfl (Upd.at (Comp.trans (Comp.self r_sha_state t_112) (comp_sha_state_h t_112) (Nat.le_of_ble_eq_true rfl)) i_119.2 rfl (Upd.trans (Comp.self r_sha_state t_112) (Upd.self r_sha_state t_112 _) (upd_sha_state_h t_112 (putV t_112.h i_119 v_118)))).R hv_t_120)⟩)) ?_
      exact DSteps.nil)
               (by decide +kernel) (fun _ => rfl) rfl (fun _ => rfl) (fun _ => rfl) rfl (by decide) (by decide) (by decide +kernel) (fun _ d h => by cases h)
               (ρ' := fun γ => [(0, ov (PTR gb_3 0)), (196, ov (A (rV 8 (rU UInt32)) (#v[x_104, x_105, x_106, x_107, x_108, x_109, x_110, x_111] : (Vector UInt32 8)))), (197, ov (S (rI .i64) x_113))])
               (X' := fun γ => [cvar gb_3 r_sha_state t_120])
               (fun γ ρ hb hd => (.cons (hb 0 _ rfl (by decide)) (.cons (hb 196 _ rfl (by decide)) (.cons (hb 197 _ rfl (by decide)) .nil)))) (fun _ => rfl) (fun γ => ?_)
           refine JQ.at ⟨[(0, ov (PTR gb_3 0)), (196, ov (A (rV 8 (rU UInt32)) (#v[x_104, x_105, x_106, x_107, x_108, x_109, x_110, x_111] : (Vector UInt32 8)))), (197, ov (S (rI .i64) x_113))], [cvar gb_3 r_sha_state t_120], []⟩ ?_
           refine JQ.outNB ?_
           refine JQ.then ?_
           refine JC.region ?_
           replace hx := lt1_inv hx
           obtain ⟨v_121, hv_v_121, hx⟩ := hx
           refine jc (op_arI lb (.tmp rfl) .cI (congrArg some hv_v_121)) ?_
           refine jc (op_move lb (.tmp rfl)) ?_
           refine JL.nil ?_
           replace hx := Option.some.inj hx
           first | subst hx | clear hx
           exact JQ.next () rfl (Imp.norm (js := [0]) rfl (.cons rfl (.cons rfl (.cons rfl .nil))))
         · refine JC.condF (.tmp rfl) hc14 ?_
           refine JC.exit ?_
           refine JQ.outX ?_
           replace hx := Option.some.inj hx
           first | subst hx | clear hx
           have ht := hr _ rfl
           have hq13 := congrArg some ht
           clear hr ht
           refine JQ.outX ?_
           refine JQ.here ?_
           replace hq13 := Option.some.inj hq13
           subst hq13
           exact JQ.done (js := [0]) (ss := []) () (.inr rfl) (.nil rfl) rfl .nil rfl rfl rfl
     · refine JC.seq ?_
       refine JC.region ?_
       refine jc (op_move lb .cI) ?_
       refine JL.nil ?_
       refine JQ.then ?_
       refine JC.block ?_
       refine JC.pre ?_ (JC.loop (γ := Unit) (stf := fun s q => ⟨[(0, ov (PTR gb_3 0)), (4, ov (CLO 62 [])), (5, ov (PTR gb_4 0)), (12, ov (S (rU UInt32) s.1)), (13, ov (S (rU UInt32) s.2.1)), (14, ov (S (rU UInt32) s.2.2.1)), (15, ov (S (rU UInt32) s.2.2.2.1)), (16, ov (S (rU UInt32) s.2.2.2.2.1)), (17, ov (S (rU UInt32) s.2.2.2.2.2.1)), (18, ov (S (rU UInt32) s.2.2.2.2.2.2.1)), (19, ov (S (rU UInt32) s.2.2.2.2.2.2.2.1)), (130, ov (S (rI .i64) s.2.2.2.2.2.2.2.2))], [cvar gb_3 r_sha_state t_2, cvar gb_4 (rV 64 (rU UInt32)) x_54], []⟩) (q := ()) hx10 ?_)
       · exact (Imp.norm (js := [0, 0]) rfl (.cons rfl (.cons rfl (.cons rfl (.cons rfl (.cons rfl (.cons rfl (.cons rfl (.cons rfl (.cons rfl (.cons rfl (.cons rfl (.cons rfl .nil)))))))))))))
       · intro s q x hx hr
         obtain ⟨x_71, x_72, x_73, x_74, x_75, x_76, x_77, x_78, x_79⟩ := s
         obtain _ := q
         change sha_state_press.b4 k t_2 x_54 x_71 x_72 x_73 x_74 x_75 x_76 x_77 x_78 x_79 = some x at hx
         unfold sha_state_press.b4 at hx
         refine JC.at ⟨[(0, ov (PTR gb_3 0)), (4, ov (CLO 62 [])), (5, ov (PTR gb_4 0)), (12, ov (S (rU UInt32) x_71)), (13, ov (S (rU UInt32) x_72)), (14, ov (S (rU UInt32) x_73)), (15, ov (S (rU UInt32) x_74)), (16, ov (S (rU UInt32) x_75)), (17, ov (S (rU UInt32) x_76)), (18, ov (S (rU UInt32) x_77)), (19, ov (S (rU UInt32) x_78)), (130, ov (S (rI .i64) x_79))], [cvar gb_3 r_sha_state t_2, cvar gb_4 (rV 64 (rU UInt32)) x_54], []⟩ ?_
         refine JC.seq ?_
         refine JC.region ?_
         replace hx := lt1_inv hx
         obtain ⟨v_80, hv_v_80, hx⟩ := hx
         refine jc (op_cmpI lb (.tmp rfl) .cI (congrArg some hv_v_80)) ?_
         refine JL.nil ?_
         refine JQ.then ?_
         refine JC.seq ?_
         replace hx := iteB_inv hx
         rcases hx with ⟨hc12, hx⟩ | ⟨hc12, hx⟩
         · refine JC.condT (.tmp rfl) hc12 ?_
           refine JC.skip ?_
           refine JQ.then ?_
           refine JC.seq ?_
           refine JC.block ?_
           refine JC.seq ?_
           refine JC.region ?_
           refine jc (op_move lb (.tmp rfl)) ?_
           refine jc (op_assign lb (.tmp rfl)) ?_
           refine JL.nil ?_
           refine JQ.then ?_
           refine JC.seq ?_
           replace hx := bnd_inv hx
           obtain ⟨v_81, hv_v_81, hx⟩ := hx
           replace hx := lt1_inv hx
           obtain ⟨v_82, hv_v_82, hx⟩ := hx
           replace hx := lt1_inv hx
           obtain ⟨v_83, hv_v_83, hx⟩ := hx
           replace hx := lt1_inv hx
           obtain ⟨v_84, hv_v_84, hx⟩ := hx
           replace hx := lt1_inv hx
           obtain ⟨v_85, hv_v_85, hx⟩ := hx
           replace hx := lt1_inv hx
           obtain ⟨v_86, hv_v_86, hx⟩ := hx
           replace hx := lt1_inv hx
           obtain ⟨v_87, hv_v_87, hx⟩ := hx
           replace hx := bnd_inv hx
           obtain ⟨i_88, hv_i_88, hx⟩ := hx
           replace hx := lt1_inv hx
           obtain ⟨v_89, hv_v_89, hx⟩ := hx
           replace hx := lt1_inv hx
           obtain ⟨v_90, hv_v_90, hx⟩ := hx
           replace hx := bnd_inv hx
           obtain ⟨i_91, hv_i_91, hx⟩ := hx
           replace hx := lt1_inv hx
           obtain ⟨v_92, hv_v_92, hx⟩ := hx
           replace hx := lt1_inv hx
           obtain ⟨v_93, hv_v_93, hx⟩ := hx
           refine JC.anyE (kl := []) (kk := 0) (base := [(0, ov (PTR gb_3 0)), (4, ov (CLO 62 [])), (5, ov (PTR gb_4 0)), (12, ov (S (rU UInt32) x_71)), (13, ov (S (rU UInt32) x_72)), (14, ov (S (rU UInt32) x_73)), (15, ov (S (rU UInt32) x_74)), (16, ov (S (rU UInt32) x_75)), (17, ov (S (rU UInt32) x_76)), (18, ov (S (rU UInt32) x_77)), (19, ov (S (rU UInt32) x_78)), (20, ov (S (rI .i64) x_79)), (130, ov (S (rI .i64) x_79))])
               (fs := fun γ => [⟨some 133, ov (S (rU UInt32) x_78)⟩, ⟨some 134, ov (CLO 62 [])⟩, ⟨some 135, ov (S (rU UInt32) x_75)⟩, ⟨some 136, ov (S (rL (rI .i64)) ([(6 : Int), (11 : Int), (25 : Int)] : (List Int)))⟩, ⟨some 137, ov (S (rU UInt32) v_81)⟩, ⟨some 138, ov (S (rU UInt32) v_82)⟩, ⟨some 139, ov (S (rU UInt32) x_75)⟩, ⟨some 140, ov (S (rU UInt32) x_76)⟩, ⟨some 141, ov (S (rU UInt32) v_83)⟩, ⟨some 142, ov (S (rU UInt32) x_75)⟩, ⟨some 143, ov (S (rU UInt32) v_84)⟩, ⟨some 144, ov (S (rU UInt32) x_77)⟩, ⟨some 145, ov (S (rU UInt32) v_85)⟩, ⟨some 146, ov (S (rU UInt32) v_86)⟩, ⟨some 147, ov (S (rU UInt32) v_87)⟩, ⟨some 148, ov (PTR gb_3 0)⟩, ⟨some 149, ov (S (rI .i64) x_79)⟩, ⟨some 150, ov (PTR gb_3 0)⟩, ⟨some 151, ov (PTR gb_3 (0 + 8))⟩, ⟨some 152, ov (PTR gb_3 ((0 + 8) + i_88.1 * 1))⟩, ⟨some 153, ov (S (rU UInt32) v_89)⟩, ⟨some 154, ov (S (rU UInt32) v_90)⟩, ⟨some 155, ov (S (rI .i64) x_79)⟩, ⟨some 156, ov (PTR gb_4 (0 + i_91.1 * 1))⟩, ⟨some 157, ov (S (rU UInt32) v_92)⟩, ⟨some 158, ov (S (rU UInt32) v_93)⟩, ⟨some 21, ov (S (rU UInt32) v_93)⟩])
               (rs := fun γ => [⟨cvar gb_3 r_sha_state t_2, none, none, [20]⟩, ⟨cvar gb_4 (rV 64 (rU UInt32)) x_54, none, none, [24]⟩])
               (ds := [133, 134, 135, 136, 137, 138, 139, 140, 141, 142, 143, 144, 145, 146, 147, 148, 149, 150, 151, 152, 153, 154, 155, 156, 157, 158, 21]) (bs := [0, 4, 5, 12, 13, 14, 15, 16, 17, 18, 19, 20, 130]) (afts := [[], [], [], [], [], [], [], [], [], [], [], [], [], [], [], [], [], [], [], [], [], [], [], [], [], [], []]) (js := [0, 0]) mixed (.cons rfl (.cons rfl (.cons rfl (.cons rfl (.cons rfl (.cons rfl (.cons rfl (.cons rfl (.cons rfl (.cons rfl (.cons rfl (.cons rfl (.cons rfl .nil))))))))))))) (fun _ => rfl)
               (by
      refine dS 1 (fun γ ρ B hb hd => op_move lb (.tmp (hb 19 _ rfl))) ?_
      refine dS 2 (fun γ ρ B hb hd => op_move lb (.tmp (hb 4 _ rfl))) ?_
      refine dS 3 (fun γ ρ B hb hd => op_move lb (.tmp (hb 16 _ rfl))) ?_
      refine dS 4 (fun γ ρ B hb hd => op_buildF (r := (rI .i64)) lb tu98 tz3 tZ3 rfl (Nat.le_of_ble_eq_true rfl) (.S rfl .cI (.S rfl .cI (.S rfl .cI .nil))) rfl) ?_
      refine dS 5 (fun γ ρ B hb hd => (op_call (js := []) ld cl62 (sim_sha_state_press_1 k x_75 ([(6 : Int), (11 : Int), (25 : Int)] : (List Int)) v_81 hv_v_81) (.tmp (hl hd 1 134 rfl)) (.cons (.tmp (hl hd 2 135 rfl)) (.cons (.tmp (hl hd 3 136 rfl)) .nil)) rfl).post (fun _ => Imp.refl)) ?_
      refine dS 6 (fun γ ρ B hb hd => op_arU lb (.tmp (hl hd 0 133 rfl)) (.tmp (hl hd 4 137 rfl)) (congrArg some hv_v_82)) ?_
      refine dS 7 (fun γ ρ B hb hd => op_move lb (.tmp (hb 16 _ rfl))) ?_
      refine dS 8 (fun γ ρ B hb hd => op_move lb (.tmp (hb 17 _ rfl))) ?_
      refine dS 9 (fun γ ρ B hb hd => op_arU lb (.tmp (hl hd 6 139 rfl)) (.tmp (hl hd 7 140 rfl)) (congrArg some hv_v_83)) ?_
      refine dS 10 (fun γ ρ B hb hd => op_move lb (.tmp (hb 16 _ rfl))) ?_
      refine dS 11 (fun γ ρ B hb hd => op_com lb (.tmp (hl hd 9 142 rfl)) hv_v_84) ?_
      refine dS 12 (fun γ ρ B hb hd => op_move lb (.tmp (hb 18 _ rfl))) ?_
      refine dS 13 (fun γ ρ B hb hd => op_arU lb (.tmp (hl hd 10 143 rfl)) (.tmp (hl hd 11 144 rfl)) (congrArg some hv_v_85)) ?_
      refine dS 14 (fun γ ρ B hb hd => op_arU lb (.tmp (hl hd 8 141 rfl)) (.tmp (hl hd 12 145 rfl)) (congrArg some hv_v_86)) ?_
      refine dS 15 (fun γ ρ B hb hd => op_arU lb (.tmp (hl hd 5 138 rfl)) (.tmp (hl hd 13 146 rfl)) (congrArg some hv_v_87)) ?_
      refine dS 16 (fun γ ρ B hb hd => op_move lb (.tmp (hb 0 _ rfl))) ?_
      refine dS 17 (fun γ ρ B hb hd => op_move lb (.tmp (hb 20 _ rfl))) ?_
      refine dS 18 (fun γ ρ B hb hd => op_nilCheck lb (.tmp (hl hd 15 148 rfl)) (fun e v h => by subst h; rfl)) ?_
      refine dS 19 (fun γ ρ B hb hd => op_fieldAddr (off := 8) lb tf70_1 (.tmp (hl hd 17 150 rfl))) ?_
      refine dS 20 (fun γ ρ B hb hd => op_indexAddrIF lb tr68 (.tmp (hl hd 18 151 rfl)) (.tmp (hl hd 16 149 rfl)) hv_i_88) ?_
      refine DSteps.cons (j := 21) rfl (fun _ => rfl) (.run (fun γ ρ B hb hd => ⟨.none, OpStep.at ⟨ρ, (cvar gb_3 r_sha_state t_2) :: B, _⟩ (setO ⟨ρ, (cvar gb_3 r_sha_state t_2) :: B, _⟩ _ _) (op_loadS (j := 0) lb tS66 (.tmp (hl hd 19 152 rfl)) rfl (Comp.at (Comp.trans (Comp.self r_sha_state t_2) (comp_sha_state_k t_2) (Nat.le_of_ble_eq_true rfl)) i_88.2 rfl) rfl hv_v_89)⟩)) ?_
      refine dS 22 (fun γ ρ B hb hd => op_arU lb (.tmp (hl hd 14 147 rfl)) (.tmp (hl hd 20 153 rfl)) (congrArg some hv_v_90)) ?_
      refine dS 23 (fun γ ρ B hb hd => op_move lb (.tmp (hb 20 _ rfl))) ?_
      refine dS 24 (fun γ ρ B hb hd => op_indexAddrIF lb tr68 (.tmp (hb 5 _ rfl)) (.tmp (hl hd 22 155 rfl)) hv_i_91) ?_
      refine DSteps.cons (j := 25) rfl (fun _ => rfl) (.run (fun γ ρ B hb hd => ⟨.none, OpStep.at ⟨ρ, (cvar gb_4 (rV 64 (rU UInt32)) x_54) :: B, _⟩ (setO ⟨ρ, (cvar gb_4 (rV 64 (rU UInt32)) x_54) :: B, _⟩ _ _) (op_loadS (j := 0) lb tS66 (.tmp (hl hd 23 156 rfl)) rfl (Comp.at (Comp.self (rV 64 (rU UInt32)) x_54) i_91.2 rfl) rfl hv_v_92)⟩)) ?_
      refine dS 26 (fun γ ρ B hb hd => op_arU lb (.tmp (hl hd 21 154 rfl)) (.tmp (hl hd 24 157 rfl)) (congrArg some hv_v_93)) ?_
      refine dS 27 (fun γ ρ B hb hd => op_assign lb (.tmp (hl hd 25 158 rfl))) ?_
      exact DSteps.nil)
               (by decide +kernel) (fun _ => rfl) rfl (fun _ => rfl) (fun _ => rfl) rfl (by decide) (by decide) (by decide +kernel) (fun _ d h => by cases h)
               (ρ' := fun γ => [(0, ov (PTR gb_3 0)), (4, ov (CLO 62 [])), (5, ov (PTR gb_4 0)), (12, ov (S (rU UInt32) x_71)), (13, ov (S (rU UInt32) x_72)), (14, ov (S (rU UInt32) x_73)), (15, ov (S (rU UInt32) x_74)), (16, ov (S (rU UInt32) x_75)), (17, ov (S (rU UInt32) x_76)), (18, ov (S (rU UInt32) x_77)), (21, ov (S (rU UInt32) v_93)), (130, ov (S (rI .i64) x_79))])
               (X' := fun γ => [cvar gb_3 r_sha_state t_2, cvar gb_4 (rV 64 (rU UInt32)) x_54])
               (fun γ ρ hb hd => (.cons (hb 0 _ rfl (by decide)) (.cons (hb 4 _ rfl (by decide)) (.cons (hb 5 _ rfl (by decide)) (.cons (hb 12 _ rfl (by decide)) (.cons (hb 13 _ rfl (by decide)) (.cons (hb 14 _ rfl (by decide)) (.cons (hb 15 _ rfl (by decide)) (.cons (hb 16 _ rfl (by decide)) (.cons (hb 17 _ rfl (by decide)) (.cons (hb 18 _ rfl (by decide)) (.cons (hdq hd 26 21 rfl) (.cons (hb 130 _ rfl (by decide)) .nil))))))))))))) (fun _ => rfl) (fun γ => ?_)
           refine JQ.at ⟨[(0, ov (PTR gb_3 0)), (4, ov (CLO 62 [])), (5, ov (PTR gb_4 0)), (12, ov (S (rU UInt32) x_71)), (13, ov (S (rU UInt32) x_72)), (14, ov (S (rU UInt32) x_73)), (15, ov (S (rU UInt32) x_74)), (16, ov (S (rU UInt32) x_75)), (17, ov (S (rU UInt32) x_76)), (18, ov (S (rU UInt32) x_77)), (21, ov (S (rU UInt32) v_93)), (130, ov (S (rI .i64) x_79))], [cvar gb_3 r_sha_state t_2, cvar gb_4 (rV 64 (rU UInt32)) x_54], []⟩ ?_
           refine JQ.then ?_
           refine JC.seq ?_
           refine JC.region ?_
           refine jc (op_move lb (.tmp rfl)) ?_
           refine jc (op_move lb (.tmp rfl)) ?_
           refine jc (op_buildF (r := (rI .i64)) lb tu98 tz3 tZ3 rfl (Nat.le_of_ble_eq_true rfl) (.S rfl .cI (.S rfl .cI (.S rfl .cI .nil))) rfl) ?_
           replace hx := bnd_inv hx
           obtain ⟨v_94, hv_v_94, hx⟩ := hx
           refine jx (op_call (js := []) ld cl62 (sim_sha_state_press_1 k x_71 ([(2 : Int), (13 : Int), (22 : Int)] : (List Int)) v_94 hv_v_94) (.tmp rfl) (.cons (.tmp rfl) (.cons (.tmp rfl) .nil)) rfl) (fun _ => ?_)
           refine jc (op_move lb (.tmp rfl)) ?_
           refine jc (op_move lb (.tmp rfl)) ?_
           replace hx := lt1_inv hx
           obtain ⟨v_95, hv_v_95, hx⟩ := hx
           refine jc (op_arU lb (.tmp rfl) (.tmp rfl) (congrArg some hv_v_95)) ?_
           refine jc (op_move lb (.tmp rfl)) ?_
           refine jc (op_move lb (.tmp rfl)) ?_
           replace hx := lt1_inv hx
           obtain ⟨v_96, hv_v_96, hx⟩ := hx
           refine jc (op_arU lb (.tmp rfl) (.tmp rfl) (congrArg some hv_v_96)) ?_
           replace hx := lt1_inv hx
           obtain ⟨v_97, hv_v_97, hx⟩ := hx
           refine jc (op_arU lb (.tmp rfl) (.tmp rfl) (congrArg some hv_v_97)) ?_
           refine jc (op_move lb (.tmp rfl)) ?_
           refine JL.sub ⟨[(0, ov (PTR gb_3 0)), (4, ov (CLO 62 [])), (5, ov (PTR gb_4 0)), (12, ov (S (rU UInt32) x_71)), (13, ov (S (rU UInt32) x_72)), (14, ov (S (rU UInt32) x_73)), (15, ov (S (rU UInt32) x_74)), (16, ov (S (rU UInt32) x_75)), (17, ov (S (rU UInt32) x_76)), (18, ov (S (rU UInt32) x_77)), (21, ov (S (rU UInt32) v_93)), (130, ov (S (rI .i64) x_79)), (162, ov (S (rU UInt32) v_94)), (169, ov (S (rU UInt32) v_97)), (170, ov (S (rU UInt32) x_72))], [cvar gb_3 r_sha_state t_2, cvar gb_4 (rV 64 (rU UInt32)) x_54], []⟩ rfl rfl rfl ?_
           refine jc (op_move lb (.tmp rfl)) ?_
           replace hx := lt1_inv hx
           obtain ⟨v_98, hv_v_98, hx⟩ := hx
           refine jc (op_arU lb (.tmp rfl) (.tmp rfl) (congrArg some hv_v_98)) ?_
           replace hx := lt1_inv hx
           obtain ⟨v_99, hv_v_99, hx⟩ := hx
           refine jc (op_arU lb (.tmp rfl) (.tmp rfl) (congrArg some hv_v_99)) ?_
           replace hx := lt1_inv hx
           obtain ⟨v_100, hv_v_100, hx⟩ := hx
           refine jc (op_arU lb (.tmp rfl) (.tmp rfl) (congrArg some hv_v_100)) ?_
           refine jc (op_assign lb (.tmp rfl)) ?_
           refine JL.nil ?_
           refine JQ.then ?_
           refine JC.region ?_
           refine jc (op_move lb (.tmp rfl)) ?_
           refine jc (op_move lb (.tmp rfl)) ?_
           replace hx := lt1_inv hx
           obtain ⟨v_101, hv_v_101, hx⟩ := hx
           refine jc (op_arU lb (.tmp rfl) (.tmp rfl) (congrArg some hv_v_101)) ?_
           refine jc (op_move lb (.tmp rfl)) ?_
           refine jc (op_move lb (.tmp rfl)) ?_
           refine jc (op_move lb (.tmp rfl)) ?_
           refine jc (op_move lb (.tmp rfl)) ?_
           refine JL.sub ⟨[(0, ov (PTR gb_3 0)), (4, ov (CLO 62 [])), (5, ov (PTR gb_4 0)), (12, ov (S (rU UInt32) x_71)), (13, ov (S (rU UInt32) x_72)), (14, ov (S (rU UInt32) x_73)), (15, ov (S (rU UInt32) x_74)), (16, ov (S (rU UInt32) x_75)), (17, ov (S (rU UInt32) x_76)), (18, ov (S (rU UInt32) x_77)), (21, ov (S (rU UInt32) v_93)), (130, ov (S (rI .i64) x_79)), (177, ov (S (rU UInt32) v_101)), (178, ov (S (rU UInt32) x_71)), (179, ov (S (rU UInt32) x_72)), (180, ov (S (rU UInt32) x_73)), (181, ov (S (rU UInt32) x_74))], [cvar gb_3 r_sha_state t_2, cvar gb_4 (rV 64 (rU UInt32)) x_54], []⟩ rfl rfl rfl ?_
           refine jc (op_move lb (.tmp rfl)) ?_
           replace hx := lt1_inv hx
           obtain ⟨v_102, hv_v_102, hx⟩ := hx
           refine jc (op_arU lb (.tmp rfl) (.tmp rfl) (congrArg some hv_v_102)) ?_
           refine jc (op_move lb (.tmp rfl)) ?_
           refine jc (op_move lb (.tmp rfl)) ?_
           refine jc (op_move lb (.tmp rfl)) ?_
           refine jc (op_assign lb (.tmp rfl)) ?_
           refine jc (op_assign lb (.tmp rfl)) ?_
           refine jc (op_assign lb (.tmp rfl)) ?_
           refine jc (op_assign lb (.tmp rfl)) ?_
           refine jc (op_assign lb (.tmp rfl)) ?_
           refine jc (op_assign lb (.tmp rfl)) ?_
           refine jc (op_assign lb (.tmp rfl)) ?_
           refine JL.sub ⟨[(0, ov (PTR gb_3 0)), (4, ov (CLO 62 [])), (5, ov (PTR gb_4 0)), (12, ov (S (rU UInt32) v_101)), (13, ov (S (rU UInt32) x_71)), (14, ov (S (rU UInt32) x_72)), (15, ov (S (rU UInt32) x_73)), (16, ov (S (rU UInt32) v_102)), (17, ov (S (rU UInt32) x_75)), (18, ov (S (rU UInt32) x_76)), (130, ov (S (rI .i64) x_79)), (186, ov (S (rU UInt32) x_77))], [cvar gb_3 r_sha_state t_2, cvar gb_4 (rV 64 (rU UInt32)) x_54], []⟩ rfl rfl rfl ?_
           refine jc (op_assign lb (.tmp rfl)) ?_
           refine JL.nil ?_
           refine JQ.outNB ?_
           refine JQ.then ?_
           refine JC.region ?_
           replace hx := lt1_inv hx
           obtain ⟨v_103, hv_v_103, hx⟩ := hx
           refine jc (op_arI lb (.tmp rfl) .cI (congrArg some hv_v_103)) ?_
           refine jc (op_move lb (.tmp rfl)) ?_
           refine JL.nil ?_
           replace hx := Option.some.inj hx
           first | subst hx | clear hx
           exact JQ.next () rfl (Imp.norm (js := [0, 0]) rfl (.cons rfl (.cons rfl (.cons rfl (.cons rfl (.cons rfl (.cons rfl (.cons rfl (.cons rfl (.cons rfl (.cons rfl (.cons rfl (.cons rfl .nil)))))))))))))
         · refine JC.condF (.tmp rfl) hc12 ?_
           refine JC.exit ?_
           refine JQ.outX ?_
           replace hx := Option.some.inj hx
           first | subst hx | clear hx
           have ht := hr _ rfl
           have hq11 := congrArg some ht
           clear hr ht
           refine JQ.outX ?_
           refine JQ.here ?_
           replace hq11 := Option.some.inj hq11
           replace hq11 := Prod.mk.inj hq11
           obtain ⟨hq11_a, hq11⟩ := hq11
           first | subst hq11_a | clear hq11_a
           replace hq11 := Prod.mk.inj hq11
           obtain ⟨hq11_a, hq11⟩ := hq11
           first | subst hq11_a | clear hq11_a
           replace hq11 := Prod.mk.inj hq11
           obtain ⟨hq11_a, hq11⟩ := hq11
           first | subst hq11_a | clear hq11_a
           replace hq11 := Prod.mk.inj hq11
           obtain ⟨hq11_a, hq11⟩ := hq11
           first | subst hq11_a | clear hq11_a
           replace hq11 := Prod.mk.inj hq11
           obtain ⟨hq11_a, hq11⟩ := hq11
           first | subst hq11_a | clear hq11_a
           replace hq11 := Prod.mk.inj hq11
           obtain ⟨hq11_a, hq11⟩ := hq11
           first | subst hq11_a | clear hq11_a
           replace hq11 := Prod.mk.inj hq11
           obtain ⟨hq11_a, hq11⟩ := hq11
           first | subst hq11_a | clear hq11_a
           first | subst hq11 | clear hq11
           exact JQ.join () (Imp.norm (js := [0]) rfl (.cons rfl (.cons rfl (.cons rfl (.cons rfl (.cons rfl (.cons rfl (.cons rfl (.cons rfl (.cons rfl .nil))))))))))
   · refine JC.seq ?_
     refine JC.region ?_
     refine jc (op_assign lb .cI) ?_
     refine JL.nil ?_
     refine JQ.then ?_
     refine JC.block ?_
     refine JC.pre ?_ (JC.loop (γ := Unit) (stf := fun s q => ⟨[(0, ov (PTR gb_3 0)), (4, ov (CLO 62 [])), (5, ov (PTR gb_4 0)), (9, ov (S (rI .i64) s.2))], [cvar gb_3 r_sha_state t_2, cvar gb_4 (rV 64 (rU UInt32)) s.1], []⟩) (q := ()) hx7 ?_)
     · exact (Imp.norm (js := [0, 0]) rfl (.cons rfl (.cons rfl (.cons rfl (.cons rfl .nil)))))
     · intro s q x hx hr
       obtain ⟨x_27, x_28⟩ := s
       obtain _ := q
       change sha_state_press.b3 k x_27 x_28 = some x at hx
       unfold sha_state_press.b3 at hx
       refine JC.at ⟨[(0, ov (PTR gb_3 0)), (4, ov (CLO 62 [])), (5, ov (PTR gb_4 0)), (9, ov (S (rI .i64) x_28))], [cvar gb_3 r_sha_state t_2, cvar gb_4 (rV 64 (rU UInt32)) x_27], []⟩ ?_
       refine JC.seq ?_
       refine JC.seq ?_
       refine JC.region ?_
       refine jc (op_move lb (.tmp rfl)) ?_
       replace hx := lt1_inv hx
       obtain ⟨v_29, hv_v_29, hx⟩ := hx
       refine jc (op_cmpI lb (.tmp rfl) .cI (congrArg some hv_v_29)) ?_
       refine JL.nil ?_
       refine JQ.then ?_
       replace hx := iteB_inv hx
       rcases hx with ⟨hc9, hx⟩ | ⟨hc9, hx⟩
       · refine JC.condT (.tmp rfl) hc9 ?_
         refine JC.skip ?_
         refine JQ.then ?_
         refine JC.seq ?_
         refine JC.block ?_
         refine JC.seq ?_
         replace hx := lt1_inv hx
         obtain ⟨v_30, hv_v_30, hx⟩ := hx
         replace hx := bnd_inv hx
         obtain ⟨i_31, hv_i_31, hx⟩ := hx
         replace hx := lt1_inv hx
         obtain ⟨v_32, hv_v_32, hx⟩ := hx
         replace hx := lt1_inv hx
         obtain ⟨v_33, hv_v_33, hx⟩ := hx
         replace hx := bnd_inv hx
         obtain ⟨i_34, hv_i_34, hx⟩ := hx
         replace hx := lt1_inv hx
         obtain ⟨v_35, hv_v_35, hx⟩ := hx
         refine JC.anyE (kl := []) (kk := 0) (base := [(0, ov (PTR gb_3 0)), (4, ov (CLO 62 [])), (5, ov (PTR gb_4 0)), (9, ov (S (rI .i64) x_28))])
             (fs := fun γ => [⟨some 55, ov (S (rI .i64) x_28)⟩, ⟨some 56, ov (S (rI .i64) v_30)⟩, ⟨some 57, ov (PTR gb_4 (0 + i_31.1 * 1))⟩, ⟨some 58, ov (S (rU UInt32) v_32)⟩, ⟨some 59, ov (S (rI .i64) x_28)⟩, ⟨some 60, ov (S (rI .i64) v_33)⟩, ⟨some 61, ov (PTR gb_4 (0 + i_34.1 * 1))⟩, ⟨some 62, ov (S (rU UInt32) v_35)⟩, ⟨some 10, ov (S (rU UInt32) v_32)⟩, ⟨some 11, ov (S (rU UInt32) v_35)⟩])
             (rs := fun γ => [⟨cvar gb_3 r_sha_state t_2, none, none, []⟩, ⟨cvar gb_4 (rV 64 (rU UInt32)) x_27, none, none, [3, 7]⟩])
             (ds := [55, 56, 57, 58, 59, 60, 61, 62, 10, 11]) (bs := [0, 4, 5, 9]) (afts := [[], [], [], [], [], [], [], [], [], []]) (js := [0, 0]) mixed (.cons rfl (.cons rfl (.cons rfl (.cons rfl .nil)))) (fun _ => rfl)
             (by
      refine dS 1 (fun γ ρ B hb hd => op_move lb (.tmp (hb 9 _ rfl))) ?_
      refine dS 2 (fun γ ρ B hb hd => op_arI lb (.tmp (hl hd 0 55 rfl)) .cI (congrArg some hv_v_30)) ?_
      refine dS 3 (fun γ ρ B hb hd => op_indexAddrIF lb tr68 (.tmp (hb 5 _ rfl)) (.tmp (hl hd 1 56 rfl)) hv_i_31) ?_
      refine DSteps.cons (j := 4) rfl (fun _ => rfl) (.run (fun γ ρ B hb hd => ⟨.none, OpStep.at ⟨ρ, (cvar gb_4 (rV 64 (rU UInt32)) x_27) :: B, _⟩ (setO ⟨ρ, (cvar gb_4 (rV 64 (rU UInt32)) x_27) :: B, _⟩ _ _) (op_loadS (j := 0) lb tS66 (.tmp (hl hd 2 57 rfl)) rfl (Comp.at (Comp.self (rV 64 (rU UInt32)) x_27) i_31.2 rfl) rfl hv_v_32)⟩)) ?_
      refine dS 5 (fun γ ρ B hb hd => op_move lb (.tmp (hb 9 _ rfl))) ?_
      refine dS 6 (fun γ ρ B hb hd => op_arI lb (.tmp (hl hd 4 59 rfl)) .cI (congrArg some hv_v_33)) ?_
      refine dS 7 (fun γ ρ B hb hd => op_indexAddrIF lb tr68 (.tmp (hb 5 _ rfl)) (.tmp (hl hd 5 60 rfl)) hv_i_34) ?_
      refine DSteps.cons (j := 8) rfl (fun _ => rfl) (.run (fun γ ρ B hb hd => ⟨.none, OpStep.at ⟨ρ, (cvar gb_4 (rV 64 (rU UInt32)) x_27) :: B, _⟩ (setO ⟨ρ, (cvar gb_4 (rV 64 (rU UInt32)) x_27) :: B, _⟩ _ _) (op_loadS (j := 0) lb tS66 (.tmp (hl hd 6 61 rfl)) rfl (Comp.at (Comp.self (rV 64 (rU UInt32)) x_27) i_34.2 rfl) rfl hv_v_35)⟩)) ?_
      refine dS 9 (fun γ ρ B hb hd => op_assign lb (.tmp (hl hd 3 58 rfl))) ?_
      refine dS 10 (fun γ ρ B hb hd => op_assign lb (.tmp (hl hd 7 62 rfl))) ?_
      exact DSteps.nil)
             (by decide +kernel) (fun _ => rfl) rfl (fun _ => rfl) (fun _ => rfl) rfl (by decide) (by decide) (by decide +kernel) (fun _ d h => by cases h)
             (ρ' := fun γ => [(0, ov (PTR gb_3 0)), (4, ov (CLO 62 [])), (5, ov (PTR gb_4 0)), (9, ov (S (rI .i64) x_28)), (10, ov (S (rU UInt32) v_32)), (11, ov (S (rU UInt32) v_35))])
             (X' := fun γ => [cvar gb_3 r_sha_state t_2, cvar gb_4 (rV 64 (rU UInt32)) x_27])
             (fun γ ρ hb hd => (.cons (hb 0 _ rfl (by decide)) (.cons (hb 4 _ rfl (by decide)) (.cons (hb 5 _ rfl (by decide)) (.cons (hb 9 _ rfl (by decide)) (.cons (hdq hd 8 10 rfl) (.cons (hdq hd 9 11 rfl) .nil))))))) (fun _ => rfl) (fun γ => ?_)
         refine JQ.at ⟨[(0, ov (PTR gb_3 0)), (4, ov (CLO 62 [])), (5, ov (PTR gb_4 0)), (9, ov (S (rI .i64) x_28)), (10, ov (S (rU UInt32) v_32)), (11, ov (S (rU UInt32) v_35))], [cvar gb_3 r_sha_state t_2, cvar gb_4 (rV 64 (rU UInt32)) x_27], []⟩ ?_
         refine JQ.then ?_
         replace hx := lt1_inv hx
         obtain ⟨v_36, hv_v_36, hx⟩ := hx
         replace hx := bnd_inv hx
         obtain ⟨i_37, hv_i_37, hx⟩ := hx
         replace hx := lt1_inv hx
         obtain ⟨v_38, hv_v_38, hx⟩ := hx
         replace hx := bnd_inv hx
         obtain ⟨v_39, hv_v_39, hx⟩ := hx
         replace hx := lt1_inv hx
         obtain ⟨v_40, hv_v_40, hx⟩ := hx
         replace hx := lt1_inv hx
         obtain ⟨v_41, hv_v_41, hx⟩ := hx
         replace hx := lt1_inv hx
         obtain ⟨v_42, hv_v_42, hx⟩ := hx
         replace hx := lt1_inv hx
         obtain ⟨v_43, hv_v_43, hx⟩ := hx
         replace hx := bnd_inv hx
         obtain ⟨i_44, hv_i_44, hx⟩ := hx
         replace hx := lt1_inv hx
         obtain ⟨v_45, hv_v_45, hx⟩ := hx
         replace hx := lt1_inv hx
         obtain ⟨v_46, hv_v_46, hx⟩ := hx
         replace hx := bnd_inv hx
         obtain ⟨v_47, hv_v_47, hx⟩ := hx
         replace hx := lt1_inv hx
         obtain ⟨v_48, hv_v_48, hx⟩ := hx
         replace hx := lt1_inv hx
         obtain ⟨v_49, hv_v_49, hx⟩ := hx
         replace hx := lt1_inv hx
         obtain ⟨v_50, hv_v_50, hx⟩ := hx
         replace hx := bnd_inv hx
         obtain ⟨i_51, hv_i_51, hx⟩ := hx
         replace hx := lt1_inv hx
         obtain ⟨x_52, hv_x_52, hx⟩ := hx
         refine JC.anyE (kl := []) (kk := 0) (base := [(0, ov (PTR gb_3 0)), (4, ov (CLO 62 [])), (5, ov (PTR gb_4 0)), (9, ov (S (rI .i64) x_28)), (10, ov (S (rU UInt32) v_32)), (11, ov (S (rU UInt32) v_35))])
             (fs := fun γ => [⟨some 63, ov (S (rI .i64) x_28)⟩, ⟨some 64, ov (S (rI .i64) x_28)⟩, ⟨some 65, ov (S (rI .i64) v_36)⟩, ⟨some 66, ov (PTR gb_4 (0 + i_37.1 * 1))⟩, ⟨some 67, ov (S (rU UInt32) v_38)⟩, ⟨some 68, ov (CLO 62 [])⟩, ⟨some 69, ov (S (rU UInt32) v_32)⟩, ⟨some 70, ov (S (rL (rI .i64)) ([(7 : Int), (18 : Int)] : (List Int)))⟩, ⟨some 71, ov (S (rU UInt32) v_39)⟩, ⟨some 72, ov (S (rU UInt32) v_32)⟩, ⟨some 73, ov (S (rU UInt32) v_40)⟩, ⟨some 74, ov (S (rU UInt32) v_41)⟩, ⟨some 75, ov (S (rU UInt32) v_42)⟩, ⟨some 76, ov (S (rI .i64) x_28)⟩, ⟨some 77, ov (S (rI .i64) v_43)⟩, ⟨some 78, ov (PTR gb_4 (0 + i_44.1 * 1))⟩, ⟨some 79, ov (S (rU UInt32) v_45)⟩, ⟨some 80, ov (S (rU UInt32) v_46)⟩, ⟨some 81, ov (CLO 62 [])⟩, ⟨some 82, ov (S (rU UInt32) v_35)⟩, ⟨some 83, ov (S (rL (rI .i64)) ([(17 : Int), (19 : Int)] : (List Int)))⟩, ⟨some 84, ov (S (rU UInt32) v_47)⟩, ⟨some 85, ov (S (rU UInt32) v_35)⟩, ⟨some 86, ov (S (rU UInt32) v_48)⟩, ⟨some 87, ov (S (rU UInt32) v_49)⟩, ⟨some 88, ov (S (rU UInt32) v_50)⟩, ⟨some 89, ov (PTR gb_4 (0 + i_51.1 * 1))⟩, ⟨none, .one .any⟩])
             (rs := fun γ => [⟨cvar gb_3 r_sha_state t_2, none, none, []⟩, ⟨cvar gb_4 (rV 64 (rU UInt32)) x_27, none, (some 27), [4, 16]⟩, ⟨cvar gb_4 (rV 64 (rU UInt32)) x_52, (some 27), none, []⟩])
             (ds := [63, 64, 65, 66, 67, 68, 69, 70, 71, 72, 73, 74, 75, 76, 77, 78, 79, 80, 81, 82, 83, 84, 85, 86, 87, 88, 89]) (bs := [0, 4, 5, 9, 10, 11]) (afts := [[], [], [], [], [], [], [], [], [], [], [], [], [], [], [], [], [], [], [], [], [], [], [], [], [], [], [], []]) (js := [0, 0]) mixed (.cons rfl (.cons rfl (.cons rfl (.cons rfl (.cons rfl (.cons rfl .nil)))))) (fun _ => rfl)
             (by
      refine dS 1 (fun γ ρ B hb hd => op_move lb (.tmp (hb 9 _ rfl))) ?_
      refine dS 2 (fun γ ρ B hb hd => op_move lb (.tmp (hb 9 _ rfl))) ?_
      refine dS 3 (fun γ ρ B hb hd => op_arI lb (.tmp (hl hd 1 64 rfl)) .cI (congrArg some hv_v_36)) ?_
      refine dS 4 (fun γ ρ B hb hd => op_indexAddrIF lb tr68 (.tmp (hb 5 _ rfl)) (.tmp (hl hd 2 65 rfl)) hv_i_37) ?_
      refine DSteps.cons (j := 5) rfl (fun _ => rfl) (.run (fun γ ρ B hb hd => ⟨.none, OpStep.at ⟨ρ, (cvar gb_4 (rV 64 (rU UInt32)) x_27) :: B, _⟩ (setO ⟨ρ, (cvar gb_4 (rV 64 (rU UInt32)) x_27) :: B, _⟩ _ _) (op_loadS (j := 0) lb tS66 (.tmp (hl hd 3 66 rfl)) rfl (Comp.at (Comp.self (rV 64 (rU UInt32)) x_27) i_37.2 rfl) rfl hv_v_38)⟩)) ?_
      refine dS 6 (fun γ ρ B hb hd => op_move lb (.tmp (hb 4 _ rfl))) ?_
      refine dS 7 (fun γ ρ B hb hd => op_move lb (.tmp (hb 10 _ rfl))) ?_
      refine dS 8 (fun γ ρ B hb hd => op_buildF (r := (rI .i64)) lb tu98 tz3 tZ3 rfl (Nat.le_of_ble_eq_true rfl) (.S rfl .cI (.S rfl .cI .nil)) rfl) ?_
      refine dS 9 (fun γ ρ B hb hd => (op_call (js := []) ld cl62 (sim_sha_state_press_1 k v_32 ([(7 : Int), (18 : Int)] : (List Int)) v_39 hv_v_39) (.tmp (hl hd 5 68 rfl)) (.cons (.tmp (hl hd 6 69 rfl)) (.cons (.tmp (hl hd 7 70 rfl)) .nil)) rfl).post (fun _ => Imp.refl)) ?_
      refine dS 10 (fun γ ρ B hb hd => op_move lb (.tmp (hb 10 _ rfl))) ?_
      refine dS 11 (fun γ ρ B hb hd => op_shrUU lb (.tmp (hl hd 9 72 rfl)) (HasO.cU (x := (3 : UInt64)) rfl (by decide)) hv_v_40) ?_
      refine dS 12 (fun γ ρ B hb hd => op_arU lb (.tmp (hl hd 8 71 rfl)) (.tmp (hl hd 10 73 rfl)) (congrArg some hv_v_41)) ?_
      refine dS 13 (fun γ ρ B hb hd => op_arU lb (.tmp (hl hd 4 67 rfl)) (.tmp (hl hd 11 74 rfl)) (congrArg some hv_v_42)) ?_
      refine dS 14 (fun γ ρ B hb hd => op_move lb (.tmp (hb 9 _ rfl))) ?_
      refine dS 15 (fun γ ρ B hb hd => op_arI lb (.tmp (hl hd 13 76 rfl)) .cI (congrArg some hv_v_43)) ?_
      refine dS 16 (fun γ ρ B hb hd => op_indexAddrIF lb tr68 (.tmp (hb 5 _ rfl)) (.tmp (hl hd 14 77 rfl)) hv_i_44) ?_
      refine DSteps.cons (j := 17) rfl (fun _ => rfl) (.run (fun γ ρ B hb hd => ⟨.none, OpStep.at ⟨ρ, (cvar gb_4 (rV 64 (rU UInt32)) x_27) :: B, _⟩ (setO ⟨ρ, (cvar gb_4 (rV 64 (rU UInt32)) x_27) :: B, _⟩ _ _) (op_loadS (j := 0) lb tS66 (.tmp (hl hd 15 78 rfl)) rfl (Comp.at (Comp.self (rV 64 (rU UInt32)) x_27) i_44.2 rfl) rfl hv_v_45)⟩)) ?_
      refine dS 18 (fun γ ρ B hb hd => op_arU lb (.tmp (hl hd 12 75 rfl)) (.tmp (hl hd 16 79 rfl)) (congrArg some hv_v_46)) ?_
      refine dS 19 (fun γ ρ B hb hd => op_move lb (.tmp (hb 4 _ rfl))) ?_
      refine dS 20 (fun γ ρ B hb hd => op_move lb (.tmp (hb 11 _ rfl))) ?_
      refine dS 21 (fun γ ρ B hb hd => op_buildF (r := (rI .i64)) lb tu98 tz3 tZ3 rfl (Nat.le_of_ble_eq_true rfl) (.S rfl .cI (.S rfl .cI .nil)) rfl) ?_
      refine dS 22 (fun γ ρ B hb hd => (op_call (js := []) ld cl62 (sim_sha_state_press_1 k v_35 ([(17 : Int), (19 : Int)] : (List Int)) v_47 hv_v_47) (.tmp (hl hd 18 81 rfl)) (.cons (.tmp (hl hd 19 82 rfl)) (.cons (.tmp (hl hd 20 83 rfl)) .nil)) rfl).post (fun _ => Imp.refl)) ?_
      refine dS 23 (fun γ ρ B hb hd => op_move lb (.tmp (hb 11 _ rfl))) ?_
      refine dS 24 (fun γ ρ B hb hd => op_shrUU lb (.tmp (hl hd 22 85 rfl)) (HasO.cU (x := (10 : UInt64)) rfl (by decide)) hv_v_48) ?_
      refine dS 25 (fun γ ρ B hb hd => op_arU lb (.tmp (hl hd 21 84 rfl)) (.tmp (hl hd 23 86 rfl)) (congrArg some hv_v_49)) ?_
      refine dS 26 (fun γ ρ B hb hd => op_arU lb (.tmp (hl hd 17 80 rfl)) (.tmp (hl hd 24 87 rfl)) (congrArg some hv_v_50)) ?_
      refine dS 27 (fun γ ρ B hb hd => op_indexAddrIF lb tr68 (.tmp (hb 5 _ rfl)) (.tmp (hl hd 0 63 rfl)) hv_i_51) ?_
      refine DSteps.cons (j := 28) rfl (fun _ => rfl) (.run (fun γ ρ B hb hd => ⟨.none, OpStep.at ⟨ρ, (cvar gb_4 (rV 64 (rU UInt32)) x_27) :: B, _⟩ (setO ⟨ρ, (cvar gb_4 (rV 64 (rU UInt32)) x_52) :: B, _⟩ _ _) (op_storeS (j := 0) tS66 (.tmp (hl hd 26 89 rfl)) (.tmp (hl hd 25 88 rfl)) rfl rfl (Upd.at (Comp.self (rV 64 (rU UInt32)) x_27) i_51.2 rfl (Upd.self (rV 64 (rU UInt32)) x_27 _)).R hv_x_52)⟩)) ?_
      exact DSteps.nil)
             (by decide +kernel) (fun _ => rfl) rfl (fun _ => rfl) (fun _ => rfl) rfl (by decide) (by decide) (by decide +kernel) (fun _ d h => by cases h)
             (ρ' := fun γ => [(0, ov (PTR gb_3 0)), (4, ov (CLO 62 [])), (5, ov (PTR gb_4 0)), (9, ov (S (rI .i64) x_28))])
             (X' := fun γ => [cvar gb_3 r_sha_state t_2, cvar gb_4 (rV 64 (rU UInt32)) x_52])
             (fun γ ρ hb hd => (.cons (hb 0 _ rfl (by decide)) (.cons (hb 4 _ rfl (by decide)) (.cons (hb 5 _ rfl (by decide)) (.cons (hb 9 _ rfl (by decide)) .nil))))) (fun _ => rfl) (fun γ => ?_)
         refine JQ.at ⟨[(0, ov (PTR gb_3 0)), (4, ov (CLO 62 [])), (5, ov (PTR gb_4 0)), (9, ov (S (rI .i64) x_28))], [cvar gb_3 r_sha_state t_2, cvar gb_4 (rV 64 (rU UInt32)) x_52], []⟩ ?_
         refine JQ.outNB ?_
         refine JQ.then ?_
         refine JC.region ?_
         refine jc (op_move lb (.tmp rfl)) ?_
         replace hx := lt1_inv hx
         obtain ⟨v_53, hv_v_53, hx⟩ := hx
         refine jc (op_arI lb (.tmp rfl) .cI (congrArg some hv_v_53)) ?_
         refine jc (op_assign lb (.tmp rfl)) ?_
         refine JL.nil ?_
         replace hx := Option.some.inj hx
         first | subst hx | clear hx
         exact JQ.next () rfl (Imp.norm (js := [0, 0]) rfl (.cons rfl (.cons rfl (.cons rfl (.cons rfl .nil)))))
       · refine JC.condF (.tmp rfl) hc9 ?_
         refine JC.exit ?_
         refine JQ.outX ?_
         replace hx := Option.some.inj hx
         first | subst hx | clear hx
         have ht := hr _ rfl
         have hq8 := congrArg some ht
         clear hr ht
         refine JQ.outX ?_
         refine JQ.here ?_
         replace hq8 := Option.some.inj hq8
         first | subst hq8 | clear hq8
         exact JQ.join () (Imp.norm (js := [0, 0]) rfl (.cons rfl (.cons rfl (.cons rfl .nil))))
 · refine JC.seq ?_
   refine JC.region ?_
   refine jc (op_move lb .cI) ?_
   refine JL.nil ?_
   refine JQ.then ?_
   refine JC.block ?_
   refine JC.pre ?_ (JC.loop (γ := Unit) (stf := fun s q => ⟨[(0, ov (PTR gb_3 0)), (1, ov (S (rL (rU UInt8)) a_1)), (4, ov (CLO 62 [])), (5, ov (PTR gb_4 0)), (25, ov (S (rI .i64) s.2))], [cvar gb_3 r_sha_state t_2, cvar gb_4 (rV 64 (rU UInt32)) s.1], []⟩) (q := ()) hx1 ?_)
   · exact (Imp.norm (js := [0, 0]) rfl (.cons rfl (.cons rfl (.cons rfl (.cons rfl (.cons rfl .nil))))))
   · intro s q x hx hr
     obtain ⟨x_5, x_6⟩ := s
     obtain _ := q
     change sha_state_press.b1 k a_1 x_5 x_6 = some x at hx
     unfold sha_state_press.b1 at hx
     refine JC.at ⟨[(0, ov (PTR gb_3 0)), (1, ov (S (rL (rU UInt8)) a_1)), (4, ov (CLO 62 [])), (5, ov (PTR gb_4 0)), (25, ov (S (rI .i64) x_6))], [cvar gb_3 r_sha_state t_2, cvar gb_4 (rV 64 (rU UInt32)) x_5], []⟩ ?_
     refine JC.seq ?_
     refine JC.region ?_
     replace hx := lt1_inv hx
     obtain ⟨v_7, hv_v_7, hx⟩ := hx
     refine jc (op_cmpI lb (.tmp rfl) .cI (congrArg some hv_v_7)) ?_
     refine JL.nil ?_
     refine JQ.then ?_
     refine JC.seq ?_
     replace hx := iteB_inv hx
     rcases hx with ⟨hc3, hx⟩ | ⟨hc3, hx⟩
     · refine JC.condT (.tmp rfl) hc3 ?_
       refine JC.skip ?_
       refine JQ.then ?_
       replace hx := bnd_inv hx
       obtain ⟨x_24, hx4, hq4⟩ := hx
       refine JC.seqJ (γ := Unit) (stj := fun q => ⟨[(0, ov (PTR gb_3 0)), (1, ov (S (rL (rU UInt8)) a_1)), (4, ov (CLO 62 [])), (5, ov (PTR gb_4 0)), (25, ov (S (rI .i64) x_6))], [cvar gb_3 r_sha_state t_2, cvar gb_4 (rV 64 (rU UInt32)) x_24], []⟩) (fun q => ?_) ?_
       · obtain _ := q
         refine JC.at ⟨[(0, ov (PTR gb_3 0)), (1, ov (S (rL (rU UInt8)) a_1)), (4, ov (CLO 62 [])), (5, ov (PTR gb_4 0)), (25, ov (S (rI .i64) x_6))], [cvar gb_3 r_sha_state t_2, cvar gb_4 (rV 64 (rU UInt32)) x_24], []⟩ ?_
         refine JC.region ?_
         replace hq4 := lt1_inv hq4
         obtain ⟨v_25, hv_v_25, hq4⟩ := hq4
         refine jc (op_arI lb (.tmp rfl) .cI (congrArg some hv_v_25)) ?_
         refine jc (op_move lb (.tmp rfl)) ?_
         refine JL.nil ?_
         replace hq4 := Option.some.inj hq4
         first | subst hq4 | clear hq4
         exact JQ.next () rfl (Imp.norm (js := [0, 0]) rfl (.cons rfl (.cons rfl (.cons rfl (.cons rfl (.cons rfl .nil))))))
       · refine JC.block ?_
         refine JC.seq ?_
         refine JC.region ?_
         refine jc (op_move lb (.tmp rfl)) ?_
         refine jc (op_assign lb (.tmp rfl)) ?_
         refine JL.nil ?_
         refine JQ.then ?_
         refine JC.seq ?_
         refine JC.region ?_
         refine jc (op_move lb (.tmp rfl)) ?_
         refine jc (op_move lb (.tmp rfl)) ?_
         replace hx4 := lt1_inv hx4
         obtain ⟨v_8, hv_v_8, hx4⟩ := hx4
         refine jc (op_arI lb .cI (.tmp rfl) (congrArg some hv_v_8)) ?_
         refine jc (op_move lb (.tmp rfl)) ?_
         replace hx4 := lt1_inv hx4
         obtain ⟨v_9, hv_v_9, hx4⟩ := hx4
         refine jc (op_arI lb .cI (.tmp rfl) (congrArg some hv_v_9)) ?_
         replace hx4 := lt1_inv hx4
         obtain ⟨v_10, hv_v_10, hx4⟩ := hx4
         refine jc (op_arI lb (.tmp rfl) .cI (congrArg some hv_v_10)) ?_
         replace hx4 := bnd_inv hx4
         obtain ⟨v_11, hv_v_11, hx4⟩ := hx4
         refine jc (op_sliceLg lb tu22 tz5 (.tmp rfl) (.some (.tmp rfl)) (.some (.tmp rfl)) hv_v_11) ?_
         refine jc (op_lenL lb tu22 (.tmp rfl)) ?_
         refine jc (op_move lb .cI) ?_
         refine JL.sub ⟨[(0, ov (PTR gb_3 0)), (1, ov (S (rL (rU UInt8)) a_1)), (4, ov (CLO 62 [])), (5, ov (PTR gb_4 0)), (6, ov (S (rI .i64) x_6)), (25, ov (S (rI .i64) x_6)), (34, ov (S (rL (rU UInt8)) v_11)), (35, ov (S (rI .i64) (List.length v_11 : Int))), (36, ov (S (rI .i64) (0 : Int)))], [cvar gb_3 r_sha_state t_2, cvar gb_4 (rV 64 (rU UInt32)) x_5], []⟩ rfl rfl rfl ?_
         refine JL.nil ?_
         refine JQ.then ?_
         refine JC.block ?_
         refine JC.pre ?_ (JC.loop (γ := Unit) (stf := fun s q => ⟨[(0, ov (PTR gb_3 0)), (1, ov (S (rL (rU UInt8)) a_1)), (4, ov (CLO 62 [])), (5, ov (PTR gb_4 0)), (6, ov (S (rI .i64) x_6)), (25, ov (S (rI .i64) x_6)), (34, ov (S (rL (rU UInt8)) v_11)), (35, ov (S (rI .i64) (List.length v_11 : Int))), (36, ov (S (rI .i64) s.2))], [cvar gb_3 r_sha_state t_2, cvar gb_4 (rV 64 (rU UInt32)) s.1], []⟩) (q := ()) hx4 ?_)
         · exact (Imp.norm (js := [0, 0]) rfl (.cons rfl (.cons rfl (.cons rfl (.cons rfl (.cons rfl (.cons rfl (.cons rfl (.cons rfl (.cons rfl .nil))))))))))
         · intro s q x hx hr
           obtain ⟨x_12, x_13⟩ := s
           obtain _ := q
           change sha_state_press.b2 k v_11 x_6 x_12 x_13 = some x at hx
           unfold sha_state_press.b2 at hx
           refine JC.at ⟨[(0, ov (PTR gb_3 0)), (1, ov (S (rL (rU UInt8)) a_1)), (4, ov (CLO 62 [])), (5, ov (PTR gb_4 0)), (6, ov (S (rI .i64) x_6)), (25, ov (S (rI .i64) x_6)), (34, ov (S (rL (rU UInt8)) v_11)), (35, ov (S (rI .i64) (List.length v_11 : Int))), (36, ov (S (rI .i64) x_13))], [cvar gb_3 r_sha_state t_2, cvar gb_4 (rV 64 (rU UInt32)) x_12], []⟩ ?_
           refine JC.seq ?_
           refine JC.region ?_
           replace hx := lt1_inv hx
           obtain ⟨v_14, hv_v_14, hx⟩ := hx
           refine jc (op_cmpI lb (.tmp rfl) (.tmp rfl) (congrArg some hv_v_14)) ?_
           refine JL.nil ?_
           refine JQ.then ?_
           refine JC.seq ?_
           replace hx := iteB_inv hx
           rcases hx with ⟨hc6, hx⟩ | ⟨hc6, hx⟩
           · refine JC.condT (.tmp rfl) hc6 ?_
             refine JC.skip ?_
             refine JQ.then ?_
             refine JC.seq ?_
             refine JC.block ?_
             refine JC.seq ?_
             refine JC.region ?_
             replace hx := bnd_inv hx
             obtain ⟨v_15, hv_v_15, hx⟩ := hx
             refine jc (op_indexAddrLg lb tu22 tz5 (.tmp rfl) (.tmp rfl) hv_v_15) ?_
             refine jc (op_loadPSg lb tS5 rfl (.tmp rfl) rfl) ?_
             refine jc (op_assign lb (.tmp rfl)) ?_
             refine JL.nil ?_
             refine JQ.then ?_
             refine JC.region ?_
             refine jc (op_move lb (.tmp rfl)) ?_
             refine jc (op_move lb (.tmp rfl)) ?_
             replace hx := bnd_inv hx
             obtain ⟨i_16, hv_i_16, hx⟩ := hx
             refine jc (op_indexAddrIF lb tr68 (.tmp rfl) (.tmp rfl) hv_i_16) ?_
             replace hx := lt1_inv hx
             obtain ⟨v_17, hv_v_17, hx⟩ := hx
             refine jc (op_loadS (j := 1) lb tS66 (.tmp rfl) rfl (Comp.at (Comp.self (rV 64 (rU UInt32)) x_12) i_16.2 rfl) rfl hv_v_17) ?_
             replace hx := lt1_inv hx
             obtain ⟨v_18, hv_v_18, hx⟩ := hx
             refine jc (op_shlUU lb (.tmp rfl) (HasO.cU (x := (8 : UInt64)) rfl (by decide)) hv_v_18) ?_
             refine jc (op_move lb (.tmp rfl)) ?_
             replace hx := lt1_inv hx
             obtain ⟨v_19, hv_v_19, hx⟩ := hx
             refine jc (op_convUU lb tu5 tu66 (.tmp rfl) hv_v_19) ?_
             replace hx := lt1_inv hx
             obtain ⟨v_20, hv_v_20, hx⟩ := hx
             refine jc (op_arU lb (.tmp rfl) (.tmp rfl) (congrArg some hv_v_20)) ?_
             refine JL.sub ⟨[(0, ov (PTR gb_3 0)), (1, ov (S (rL (rU UInt8)) a_1)), (4, ov (CLO 62 [])), (5, ov (PTR gb_4 0)), (6, ov (S (rI .i64) x_6)), (25, ov (S (rI .i64) x_6)), (34, ov (S (rL (rU UInt8)) v_11)), (35, ov (S (rI .i64) (List.length v_11 : Int))), (36, ov (S (rI .i64) x_13)), (40, ov (S (rI .i64) x_6)), (47, ov (S (rU UInt32) v_20))], [cvar gb_3 r_sha_state t_2, cvar gb_4 (rV 64 (rU UInt32)) x_12], []⟩ rfl rfl rfl ?_
             replace hx := bnd_inv hx
             obtain ⟨i_21, hv_i_21, hx⟩ := hx
             refine jc (op_indexAddrIF lb tr68 (.tmp rfl) (.tmp rfl) hv_i_21) ?_
             replace hx := lt1_inv hx
             obtain ⟨x_22, hv_x_22, hx⟩ := hx
             refine jc (op_storeS (j := 1) tS66 (.tmp rfl) (.tmp rfl) rfl rfl (Upd.at (Comp.self (rV 64 (rU UInt32)) x_12) i_21.2 rfl (Upd.self (rV 64 (rU UInt32)) x_12 _)).R hv_x_22) ?_
             refine JL.nil ?_
             refine JQ.outNB ?_
             refine JQ.then ?_
             refine JC.region ?_
             replace hx := lt1_inv hx
             obtain ⟨v_23, hv_v_23, hx⟩ := hx
             refine jc (op_arI lb (.tmp rfl) .cI (congrArg some hv_v_23)) ?_
             refine jc (op_move lb (.tmp rfl)) ?_
             refine JL.nil ?_
             replace hx := Option.some.inj hx
             first | subst hx | clear hx
             exact JQ.next () rfl (Imp.norm (js := [0, 0]) rfl (.cons rfl (.cons rfl (.cons rfl (.cons rfl (.cons rfl (.cons rfl (.cons rfl (.cons rfl (.cons rfl .nil))))))))))
           · refine JC.condF (.tmp rfl) hc6 ?_
             refine JC.exit ?_
             refine JQ.outX ?_
             replace hx := Option.some.inj hx
             first | subst hx | clear hx
             have ht := hr _ rfl
             have hq5 := congrArg some ht
             clear hr ht
             refine JQ.outX ?_
             refine JQ.here ?_
             refine JQ.outNB ?_
             replace hq5 := Option.some.inj hq5
             first | subst hq5 | clear hq5
             exact JQ.join () (Imp.norm (js := [0, 0]) rfl (.cons rfl (.cons rfl (.cons rfl (.cons rfl (.cons rfl .nil))))))
     · refine JC.condF (.tmp rfl) hc3 ?_
       refine JC.exit ?_
       refine JQ.outX ?_
       replace hx := Option.some.inj hx
       first | subst hx | clear hx
       have ht := hr _ rfl
       have hq2 := congrArg some ht
       clear hr ht
       refine JQ.outX ?_
       refine JQ.here ?_
       replace hq2 := Option.some.inj hq2
       first | subst hq2 | clear hq2
       exact JQ.join () (Imp.norm (js := [0, 0]) rfl (.cons rfl (.cons rfl (.cons rfl .nil))))

end Go.Proofs.Ytnhiiabdoichlaa
