/- Walks. -/
import Derived.Test.YtnhiiabdoichlaaT
import Derived.Test.YtnhiiabdoichlaaW12
namespace Go.Proofs.Ytnhiiabdoichlaa
open Go Fw
set_option linter.unusedVariables false
set_option maxRecDepth 100000
set_option maxHeartbeats 4000000

theorem sim_ref03_press (k : Nat) (t_1 : (Vector UInt32 8)) (a_2 : (List UInt8)) (a_3 : (List UInt32)) (r : (Vector UInt32 8)) (hm : ref03_press k t_1 a_2 a_3 = some r) : Sim Try.prog 45 [A (rV 8 (rU UInt32)) t_1, S (rL (rU UInt8)) a_2, S (rL (rU UInt32)) a_3] [] (γ := Unit) (fun q => []) (fun q => .one (.val (A (rV 8 (rU UInt32)) r))) := by
 unfold ref03_press at hm
 refine Sim.of Try.func45 rfl rfl (Nat.le_of_ble_eq_true rfl) (fun e0 w0 => ?_)
 refine JC.at ⟨[(0, ov (A (rV 8 (rU UInt32)) t_1)), (1, ov (S (rL (rU UInt8)) a_2)), (2, ov (S (rL (rU UInt32)) a_3))], [], []⟩ ?_
 refine JC.seq ?_
 refine JC.region ?_
 refine jx (op_boxA lb (.tmp rfl)) (fun q => ?_)
 obtain ⟨gb_4, hqq⟩ : ∃ z, z = q := ⟨_, rfl⟩
 subst hqq
 refine jx (op_alloc lb tZ67 zr67) (fun q => ?_)
 obtain ⟨gb_5, hqq⟩ : ∃ z, z = q := ⟨_, rfl⟩
 subst hqq
 refine JL.nil ?_
 refine JQ.then ?_
 refine JC.seq ?_
 refine JC.region ?_
 refine jc (op_assign lb HasO.nilH) ?_
 refine JL.nil ?_
 refine JQ.then ?_
 replace hm := bnd_inv hm
 obtain ⟨x_21, hx1, hq1⟩ := hm
 refine JC.seqJ (γ := Option Nat × Nat) (stj := fun q => ⟨[(2, ov (S (rL (rU UInt32)) a_3)), (3, ov (PTR gb_4 0)), (6, ov (PTR gb_5 0)), (7, ov (HDR q.1 0 (List.length x_21) q.2))], [cvar gb_4 (rV 8 (rU UInt32)) t_1, cvar gb_5 (rV 8 (rU UInt32)) (Vector.replicate 8 (0 : UInt32)), cown q.1 (rU UInt32) x_21 0 q.2], []⟩) (fun q => ?_) ?_
 · obtain ⟨go_22, gc_23⟩ := q
   refine JC.at ⟨[(2, ov (S (rL (rU UInt32)) a_3)), (3, ov (PTR gb_4 0)), (6, ov (PTR gb_5 0)), (7, ov (HDR go_22 0 (List.length x_21) gc_23))], [cvar gb_4 (rV 8 (rU UInt32)) t_1, cvar gb_5 (rV 8 (rU UInt32)) (Vector.replicate 8 (0 : UInt32)), cown go_22 (rU UInt32) x_21 0 gc_23], []⟩ ?_
   replace hq1 := bnd_inv hq1
   obtain ⟨x_58, hx4, hq4⟩ := hq1
   refine JC.seqJ (γ := Option Nat × Nat) (stj := fun q => ⟨[(2, ov (S (rL (rU UInt32)) a_3)), (3, ov (PTR gb_4 0)), (6, ov (PTR gb_5 0)), (7, ov (HDR q.1 0 (List.length x_58) q.2))], [cvar gb_4 (rV 8 (rU UInt32)) t_1, cvar gb_5 (rV 8 (rU UInt32)) (Vector.replicate 8 (0 : UInt32)), cown q.1 (rU UInt32) x_58 0 q.2], []⟩) (fun q => ?_) ?_
   · obtain ⟨go_59, gc_60⟩ := q
     refine JC.at ⟨[(2, ov (S (rL (rU UInt32)) a_3)), (3, ov (PTR gb_4 0)), (6, ov (PTR gb_5 0)), (7, ov (HDR go_59 0 (List.length x_58) gc_60))], [cvar gb_4 (rV 8 (rU UInt32)) t_1, cvar gb_5 (rV 8 (rU UInt32)) (Vector.replicate 8 (0 : UInt32)), cown go_59 (rU UInt32) x_58 0 gc_60], []⟩ ?_
     refine JC.seq ?_
     refine JC.region ?_
     refine jc (op_loadA (j := 0) lb tA67 (.tmp rfl) rfl (Comp.self (rV 8 (rU UInt32)) t_1) rfl) ?_
     refine jx (op_alloc lb tZ67 zr67) (fun q => ?_)
     obtain ⟨gb_61, hqq⟩ : ∃ z, z = q := ⟨_, rfl⟩
     subst hqq
     refine jc (op_storeA (j := 3) tA67 (.tmp rfl) (.tmp rfl) rfl (UpdR.self (by rfl)) rfl) ?_
     refine JL.nil ?_
     refine JQ.then ?_
     replace hq4 := bnd_inv hq4
     obtain ⟨x_111, hx7, hq7⟩ := hq4
     refine JC.seqJ (γ := Unit) (stj := fun q => ⟨[(3, ov (PTR gb_4 0)), (6, ov (PTR gb_5 0)), (14, ov (PTR gb_61 0))], [cvar gb_4 (rV 8 (rU UInt32)) t_1, cvar gb_5 (rV 8 (rU UInt32)) (Vector.replicate 8 (0 : UInt32)), cvar gb_61 (rV 8 (rU UInt32)) x_111], []⟩) (fun q => ?_) ?_
     · obtain _ := q
       refine JC.at ⟨[(3, ov (PTR gb_4 0)), (6, ov (PTR gb_5 0)), (14, ov (PTR gb_61 0))], [cvar gb_4 (rV 8 (rU UInt32)) t_1, cvar gb_5 (rV 8 (rU UInt32)) (Vector.replicate 8 (0 : UInt32)), cvar gb_61 (rV 8 (rU UInt32)) x_111], []⟩ ?_
       replace hq7 := bnd_inv hq7
       obtain ⟨x_123, hx10, hq10⟩ := hq7
       refine JC.seqJ (γ := Unit) (stj := fun q => ⟨[(6, ov (PTR gb_5 0)), (14, ov (PTR gb_61 0))], [cvar gb_5 (rV 8 (rU UInt32)) (Vector.replicate 8 (0 : UInt32)), cvar gb_61 (rV 8 (rU UInt32)) x_123], []⟩) (fun q => ?_) ?_
       · obtain _ := q
         refine JC.at ⟨[(6, ov (PTR gb_5 0)), (14, ov (PTR gb_61 0))], [cvar gb_5 (rV 8 (rU UInt32)) (Vector.replicate 8 (0 : UInt32)), cvar gb_61 (rV 8 (rU UInt32)) x_123], []⟩ ?_
         refine JC.seq ?_
         refine JC.region ?_
         refine jc (op_loadA (j := 1) lb tA67 (.tmp rfl) rfl (Comp.self (rV 8 (rU UInt32)) x_123) rfl) ?_
         refine jc (op_storeA (j := 0) tA67 (.tmp rfl) (.tmp rfl) rfl (UpdR.self (by rfl)) rfl) ?_
         refine JL.nil ?_
         refine JQ.then ?_
         refine JC.ret ?_
         replace hq10 := Option.some.inj hq10
         subst hq10
         exact JQ.done (js := []) (ss := [.val (A (rV 8 (rU UInt32)) x_123)]) () (.inl rfl) (.nil rfl) rfl (.cons (.cellA (j := 0) tA67 rfl rfl) .nil) rfl rfl rfl
       · refine JC.seq ?_
         refine JC.region ?_
         refine jc (op_assign lb .cI) ?_
         refine JL.nil ?_
         refine JQ.then ?_
         refine JC.block ?_
         refine JC.pre ?_ (JC.loop (γ := Unit) (stf := fun s q => ⟨[(3, ov (PTR gb_4 0)), (6, ov (PTR gb_5 0)), (14, ov (PTR gb_61 0)), (24, ov (S (rI .i64) s.2))], [cvar gb_4 (rV 8 (rU UInt32)) t_1, cvar gb_5 (rV 8 (rU UInt32)) (Vector.replicate 8 (0 : UInt32)), cvar gb_61 (rV 8 (rU UInt32)) s.1], []⟩) (q := ()) hx10 ?_)
         · exact (Imp.norm (js := [0, 0, 0]) rfl (.cons rfl (.cons rfl (.cons rfl (.cons rfl .nil)))))
         · intro s q x hx hr
           obtain ⟨x_112, x_113⟩ := s
           obtain _ := q
           change ref03_press.b4 k t_1 x_112 x_113 = some x at hx
           unfold ref03_press.b4 at hx
           refine JC.at ⟨[(3, ov (PTR gb_4 0)), (6, ov (PTR gb_5 0)), (14, ov (PTR gb_61 0)), (24, ov (S (rI .i64) x_113))], [cvar gb_4 (rV 8 (rU UInt32)) t_1, cvar gb_5 (rV 8 (rU UInt32)) (Vector.replicate 8 (0 : UInt32)), cvar gb_61 (rV 8 (rU UInt32)) x_112], []⟩ ?_
           refine JC.seq ?_
           refine JC.seq ?_
           refine JC.region ?_
           refine jc (op_move lb (.tmp rfl)) ?_
           replace hx := lt1_inv hx
           obtain ⟨v_114, hv_v_114, hx⟩ := hx
           refine jc (op_cmpI lb (.tmp rfl) .cI (congrArg some hv_v_114)) ?_
           refine JL.nil ?_
           refine JQ.then ?_
           replace hx := iteB_inv hx
           rcases hx with ⟨hc12, hx⟩ | ⟨hc12, hx⟩
           · refine JC.condT (.tmp rfl) hc12 ?_
             refine JC.skip ?_
             refine JQ.then ?_
             refine JC.seq ?_
             refine JC.block ?_
             replace hx := bnd_inv hx
             obtain ⟨i_115, hv_i_115, hx⟩ := hx
             replace hx := lt1_inv hx
             obtain ⟨v_116, hv_v_116, hx⟩ := hx
             replace hx := bnd_inv hx
             obtain ⟨i_117, hv_i_117, hx⟩ := hx
             replace hx := lt1_inv hx
             obtain ⟨v_118, hv_v_118, hx⟩ := hx
             replace hx := lt1_inv hx
             obtain ⟨v_119, hv_v_119, hx⟩ := hx
             replace hx := bnd_inv hx
             obtain ⟨i_120, hv_i_120, hx⟩ := hx
             replace hx := lt1_inv hx
             obtain ⟨x_121, hv_x_121, hx⟩ := hx
             refine JC.anyE (kl := []) (kk := 0) (base := [(3, ov (PTR gb_4 0)), (6, ov (PTR gb_5 0)), (14, ov (PTR gb_61 0)), (24, ov (S (rI .i64) x_113))])
                 (fs := fun γ => [⟨some 174, ov (S (rI .i64) x_113)⟩, ⟨some 175, ov (S (rI .i64) x_113)⟩, ⟨some 176, ov (PTR gb_61 (0 + i_115.1 * 1))⟩, ⟨some 177, ov (S (rU UInt32) v_116)⟩, ⟨some 178, ov (S (rI .i64) x_113)⟩, ⟨some 179, ov (PTR gb_4 (0 + i_117.1 * 1))⟩, ⟨some 180, ov (S (rU UInt32) v_118)⟩, ⟨some 181, ov (S (rU UInt32) v_119)⟩, ⟨some 182, ov (PTR gb_61 (0 + i_120.1 * 1))⟩, ⟨none, .one .any⟩])
                 (rs := fun γ => [⟨cvar gb_4 (rV 8 (rU UInt32)) t_1, none, none, [6]⟩, ⟨cvar gb_5 (rV 8 (rU UInt32)) (Vector.replicate 8 (0 : UInt32)), none, none, []⟩, ⟨cvar gb_61 (rV 8 (rU UInt32)) x_112, none, (some 9), [3]⟩, ⟨cvar gb_61 (rV 8 (rU UInt32)) x_121, (some 9), none, []⟩])
                 (ds := [174, 175, 176, 177, 178, 179, 180, 181, 182]) (bs := [3, 6, 14, 24]) (afts := [[], [], [], [], [], [], [], [], [], []]) (js := [0, 0, 0]) mixed (.cons rfl (.cons rfl (.cons rfl (.cons rfl .nil)))) (fun _ => rfl)
                 (by
      refine dS 1 (fun γ ρ B hb hd => op_move lb (.tmp (hb 24 _ rfl))) ?_
      refine dS 2 (fun γ ρ B hb hd => op_move lb (.tmp (hb 24 _ rfl))) ?_
      refine dS 3 (fun γ ρ B hb hd => op_indexAddrIF lb tr67 (.tmp (hb 14 _ rfl)) (.tmp (hl hd 1 175 rfl)) hv_i_115) ?_
      refine DSteps.cons (j := 4) rfl (fun _ => rfl) (.run (fun γ ρ B hb hd => ⟨.none, OpStep.at ⟨ρ, (cvar gb_61 (rV 8 (rU UInt32)) x_112) :: B, _⟩ (setO ⟨ρ, (cvar gb_61 (rV 8 (rU UInt32)) x_112) :: B, _⟩ _ _) (op_loadS (j := 0) lb tS66 (.tmp (hl hd 2 176 rfl)) rfl (Comp.at (Comp.self (rV 8 (rU UInt32)) x_112) i_115.2 rfl) rfl hv_v_116)⟩)) ?_
      refine dS 5 (fun γ ρ B hb hd => op_move lb (.tmp (hb 24 _ rfl))) ?_
      refine dS 6 (fun γ ρ B hb hd => op_indexAddrIF lb tr67 (.tmp (hb 3 _ rfl)) (.tmp (hl hd 4 178 rfl)) hv_i_117) ?_
      refine DSteps.cons (j := 7) rfl (fun _ => rfl) (.run (fun γ ρ B hb hd => ⟨.none, OpStep.at ⟨ρ, (cvar gb_4 (rV 8 (rU UInt32)) t_1) :: B, _⟩ (setO ⟨ρ, (cvar gb_4 (rV 8 (rU UInt32)) t_1) :: B, _⟩ _ _) (op_loadS (j := 0) lb tS66 (.tmp (hl hd 5 179 rfl)) rfl (Comp.at (Comp.self (rV 8 (rU UInt32)) t_1) i_117.2 rfl) rfl hv_v_118)⟩)) ?_
      refine dS 8 (fun γ ρ B hb hd => op_arU lb (.tmp (hl hd 3 177 rfl)) (.tmp (hl hd 6 180 rfl)) (congrArg some hv_v_119)) ?_
      refine dS 9 (fun γ ρ B hb hd => op_indexAddrIF lb tr67 (.tmp (hb 14 _ rfl)) (.tmp (hl hd 0 174 rfl)) hv_i_120) ?_
      refine DSteps.cons (j := 10) rfl (fun _ => rfl) (.run (fun γ ρ B hb hd => ⟨.none, OpStep.at ⟨ρ, (cvar gb_61 (rV 8 (rU UInt32)) x_112) :: B, _⟩ (setO ⟨ρ, (cvar gb_61 (rV 8 (rU UInt32)) x_121) :: B, _⟩ _ _) (op_storeS (j := 0) tS66 (.tmp (hl hd 8 182 rfl)) (.tmp (hl hd 7 181 rfl)) rfl rfl (Upd.at (Comp.self (rV 8 (rU UInt32)) x_112) i_120.2 rfl (Upd.self (rV 8 (rU UInt32)) x_112 _)).R hv_x_121)⟩)) ?_
      exact DSteps.nil)
                 (by decide +kernel) (fun _ => rfl) rfl (fun _ => rfl) (fun _ => rfl) rfl (by decide) (by decide) (by decide +kernel) (fun _ d h => by cases h)
                 (ρ' := fun γ => [(3, ov (PTR gb_4 0)), (6, ov (PTR gb_5 0)), (14, ov (PTR gb_61 0)), (24, ov (S (rI .i64) x_113))])
                 (X' := fun γ => [cvar gb_4 (rV 8 (rU UInt32)) t_1, cvar gb_5 (rV 8 (rU UInt32)) (Vector.replicate 8 (0 : UInt32)), cvar gb_61 (rV 8 (rU UInt32)) x_121])
                 (fun γ ρ hb hd => (.cons (hb 3 _ rfl (by decide)) (.cons (hb 6 _ rfl (by decide)) (.cons (hb 14 _ rfl (by decide)) (.cons (hb 24 _ rfl (by decide)) .nil))))) (fun _ => rfl) (fun γ => ?_)
             refine JQ.at ⟨[(3, ov (PTR gb_4 0)), (6, ov (PTR gb_5 0)), (14, ov (PTR gb_61 0)), (24, ov (S (rI .i64) x_113))], [cvar gb_4 (rV 8 (rU UInt32)) t_1, cvar gb_5 (rV 8 (rU UInt32)) (Vector.replicate 8 (0 : UInt32)), cvar gb_61 (rV 8 (rU UInt32)) x_121], []⟩ ?_
             refine JQ.outNB ?_
             refine JQ.then ?_
             refine JC.region ?_
             refine jc (op_move lb (.tmp rfl)) ?_
             replace hx := lt1_inv hx
             obtain ⟨v_122, hv_v_122, hx⟩ := hx
             refine jc (op_arI lb (.tmp rfl) .cI (congrArg some hv_v_122)) ?_
             refine jc (op_assign lb (.tmp rfl)) ?_
             refine JL.nil ?_
             replace hx := Option.some.inj hx
             first | subst hx | clear hx
             exact JQ.next () rfl (Imp.norm (js := [0, 0, 0]) rfl (.cons rfl (.cons rfl (.cons rfl (.cons rfl .nil)))))
           · refine JC.condF (.tmp rfl) hc12 ?_
             refine JC.exit ?_
             refine JQ.outX ?_
             replace hx := Option.some.inj hx
             first | subst hx | clear hx
             have ht := hr _ rfl
             have hq11 := congrArg some ht
             clear hr ht
             refine JQ.outX ?_
             refine JQ.here ?_
             replace hq11 := Option.some.inj hq11
             first | subst hq11 | clear hq11
             exact JQ.join () (Imp.norm (js := [1, 1]) rfl (.cons rfl (.cons rfl .nil)))
     · refine JC.seq ?_
       refine JC.region ?_
       refine jc (op_assign lb .cI) ?_
       refine JL.nil ?_
       refine JQ.then ?_
       refine JC.block ?_
       refine JC.pre ?_ (JC.loop (γ := Unit) (stf := fun s q => ⟨[(2, ov (S (rL (rU UInt32)) a_3)), (3, ov (PTR gb_4 0)), (6, ov (PTR gb_5 0)), (7, ov (HDR go_59 0 (List.length x_58) gc_60)), (14, ov (PTR gb_61 0)), (15, ov (S (rI .i64) s.2))], [cvar gb_4 (rV 8 (rU UInt32)) t_1, cvar gb_5 (rV 8 (rU UInt32)) (Vector.replicate 8 (0 : UInt32)), cown go_59 (rU UInt32) x_58 0 gc_60, cvar gb_61 (rV 8 (rU UInt32)) s.1], []⟩) (q := ()) hx7 ?_)
       · exact (Imp.norm (js := [0, 0, 0, 0]) rfl (.cons rfl (.cons rfl (.cons rfl (.cons rfl (.cons rfl (.cons rfl .nil)))))))
       · intro s q x hx hr
         obtain ⟨x_62, x_63⟩ := s
         obtain _ := q
         change ref03_press.b3 k a_3 x_58 x_62 x_63 = some x at hx
         unfold ref03_press.b3 at hx
         refine JC.at ⟨[(2, ov (S (rL (rU UInt32)) a_3)), (3, ov (PTR gb_4 0)), (6, ov (PTR gb_5 0)), (7, ov (HDR go_59 0 (List.length x_58) gc_60)), (14, ov (PTR gb_61 0)), (15, ov (S (rI .i64) x_63))], [cvar gb_4 (rV 8 (rU UInt32)) t_1, cvar gb_5 (rV 8 (rU UInt32)) (Vector.replicate 8 (0 : UInt32)), cown go_59 (rU UInt32) x_58 0 gc_60, cvar gb_61 (rV 8 (rU UInt32)) x_62], []⟩ ?_
         refine JC.seq ?_
         refine JC.seq ?_
         refine JC.region ?_
         refine jc (op_move lb (.tmp rfl)) ?_
         replace hx := lt1_inv hx
         obtain ⟨v_64, hv_v_64, hx⟩ := hx
         refine jc (op_cmpI lb (.tmp rfl) .cI (congrArg some hv_v_64)) ?_
         refine JL.nil ?_
         refine JQ.then ?_
         replace hx := iteB_inv hx
         rcases hx with ⟨hc9, hx⟩ | ⟨hc9, hx⟩
         · refine JC.condT (.tmp rfl) hc9 ?_
           refine JC.skip ?_
           refine JQ.then ?_
           refine JC.seq ?_
           refine JC.block ?_
           refine JC.seq ?_
           replace hx := bnd_inv hx
           obtain ⟨i_65, hv_i_65, hx⟩ := hx
           replace hx := lt1_inv hx
           obtain ⟨v_66, hv_v_66, hx⟩ := hx
           replace hx := bnd_inv hx
           obtain ⟨i_67, hv_i_67, hx⟩ := hx
           replace hx := lt1_inv hx
           obtain ⟨v_68, hv_v_68, hx⟩ := hx
           replace hx := bnd_inv hx
           obtain ⟨i_69, hv_i_69, hx⟩ := hx
           replace hx := lt1_inv hx
           obtain ⟨v_70, hv_v_70, hx⟩ := hx
           replace hx := bnd_inv hx
           obtain ⟨i_71, hv_i_71, hx⟩ := hx
           replace hx := lt1_inv hx
           obtain ⟨v_72, hv_v_72, hx⟩ := hx
           replace hx := bnd_inv hx
           obtain ⟨i_73, hv_i_73, hx⟩ := hx
           replace hx := lt1_inv hx
           obtain ⟨v_74, hv_v_74, hx⟩ := hx
           replace hx := bnd_inv hx
           obtain ⟨i_75, hv_i_75, hx⟩ := hx
           replace hx := lt1_inv hx
           obtain ⟨v_76, hv_v_76, hx⟩ := hx
           refine JC.anyE (kl := []) (kk := 0) (base := [(2, ov (S (rL (rU UInt32)) a_3)), (3, ov (PTR gb_4 0)), (6, ov (PTR gb_5 0)), (7, ov (HDR go_59 0 (List.length x_58) gc_60)), (14, ov (PTR gb_61 0)), (15, ov (S (rI .i64) x_63))])
               (fs := fun γ => [⟨some 94, ov (PTR gb_61 (0 + i_65.1 * 1))⟩, ⟨some 95, ov (S (rU UInt32) v_66)⟩, ⟨some 96, ov (PTR gb_61 (0 + i_67.1 * 1))⟩, ⟨some 97, ov (S (rU UInt32) v_68)⟩, ⟨some 98, ov (PTR gb_61 (0 + i_69.1 * 1))⟩, ⟨some 99, ov (S (rU UInt32) v_70)⟩, ⟨some 100, ov (PTR gb_61 (0 + i_71.1 * 1))⟩, ⟨some 101, ov (S (rU UInt32) v_72)⟩, ⟨some 102, ov (PTR gb_61 (0 + i_73.1 * 1))⟩, ⟨some 103, ov (S (rU UInt32) v_74)⟩, ⟨some 104, ov (PTR gb_61 (0 + i_75.1 * 1))⟩, ⟨some 105, ov (S (rU UInt32) v_76)⟩, ⟨some 16, ov (S (rU UInt32) v_66)⟩, ⟨some 17, ov (S (rU UInt32) v_68)⟩, ⟨some 18, ov (S (rU UInt32) v_70)⟩, ⟨some 19, ov (S (rU UInt32) v_72)⟩, ⟨some 20, ov (S (rU UInt32) v_74)⟩, ⟨some 21, ov (S (rU UInt32) v_76)⟩])
               (rs := fun γ => [⟨cvar gb_4 (rV 8 (rU UInt32)) t_1, none, none, []⟩, ⟨cvar gb_5 (rV 8 (rU UInt32)) (Vector.replicate 8 (0 : UInt32)), none, none, []⟩, ⟨cown go_59 (rU UInt32) x_58 0 gc_60, none, none, []⟩, ⟨cvar gb_61 (rV 8 (rU UInt32)) x_62, none, none, [1, 3, 5, 7, 9, 11]⟩])
               (ds := [94, 95, 96, 97, 98, 99, 100, 101, 102, 103, 104, 105, 16, 17, 18, 19, 20, 21]) (bs := [2, 3, 6, 7, 14, 15]) (afts := [[], [], [], [], [], [], [], [], [], [], [], [], [], [], [], [], [], []]) (js := [0, 0, 0, 0]) mixed (.cons rfl (.cons rfl (.cons rfl (.cons rfl (.cons rfl (.cons rfl .nil)))))) (fun _ => rfl)
               (by
      refine dS 1 (fun γ ρ B hb hd => op_indexAddrIF lb tr67 (.tmp (hb 14 _ rfl)) .cI hv_i_65) ?_
      refine DSteps.cons (j := 2) rfl (fun _ => rfl) (.run (fun γ ρ B hb hd => ⟨.none, OpStep.at ⟨ρ, (cvar gb_61 (rV 8 (rU UInt32)) x_62) :: B, _⟩ (setO ⟨ρ, (cvar gb_61 (rV 8 (rU UInt32)) x_62) :: B, _⟩ _ _) (op_loadS (j := 0) lb tS66 (.tmp (hl hd 0 94 rfl)) rfl (Comp.at (Comp.self (rV 8 (rU UInt32)) x_62) i_65.2 rfl) rfl hv_v_66)⟩)) ?_
      refine dS 3 (fun γ ρ B hb hd => op_indexAddrIF lb tr67 (.tmp (hb 14 _ rfl)) .cI hv_i_67) ?_
      refine DSteps.cons (j := 4) rfl (fun _ => rfl) (.run (fun γ ρ B hb hd => ⟨.none, OpStep.at ⟨ρ, (cvar gb_61 (rV 8 (rU UInt32)) x_62) :: B, _⟩ (setO ⟨ρ, (cvar gb_61 (rV 8 (rU UInt32)) x_62) :: B, _⟩ _ _) (op_loadS (j := 0) lb tS66 (.tmp (hl hd 2 96 rfl)) rfl (Comp.at (Comp.self (rV 8 (rU UInt32)) x_62) i_67.2 rfl) rfl hv_v_68)⟩)) ?_
      refine dS 5 (fun γ ρ B hb hd => op_indexAddrIF lb tr67 (.tmp (hb 14 _ rfl)) .cI hv_i_69) ?_
      refine DSteps.cons (j := 6) rfl (fun _ => rfl) (.run (fun γ ρ B hb hd => ⟨.none, OpStep.at ⟨ρ, (cvar gb_61 (rV 8 (rU UInt32)) x_62) :: B, _⟩ (setO ⟨ρ, (cvar gb_61 (rV 8 (rU UInt32)) x_62) :: B, _⟩ _ _) (op_loadS (j := 0) lb tS66 (.tmp (hl hd 4 98 rfl)) rfl (Comp.at (Comp.self (rV 8 (rU UInt32)) x_62) i_69.2 rfl) rfl hv_v_70)⟩)) ?_
      refine dS 7 (fun γ ρ B hb hd => op_indexAddrIF lb tr67 (.tmp (hb 14 _ rfl)) .cI hv_i_71) ?_
      refine DSteps.cons (j := 8) rfl (fun _ => rfl) (.run (fun γ ρ B hb hd => ⟨.none, OpStep.at ⟨ρ, (cvar gb_61 (rV 8 (rU UInt32)) x_62) :: B, _⟩ (setO ⟨ρ, (cvar gb_61 (rV 8 (rU UInt32)) x_62) :: B, _⟩ _ _) (op_loadS (j := 0) lb tS66 (.tmp (hl hd 6 100 rfl)) rfl (Comp.at (Comp.self (rV 8 (rU UInt32)) x_62) i_71.2 rfl) rfl hv_v_72)⟩)) ?_
      refine dS 9 (fun γ ρ B hb hd => op_indexAddrIF lb tr67 (.tmp (hb 14 _ rfl)) .cI hv_i_73) ?_
      refine DSteps.cons (j := 10) rfl (fun _ => rfl) (.run (fun γ ρ B hb hd => ⟨.none, OpStep.at ⟨ρ, (cvar gb_61 (rV 8 (rU UInt32)) x_62) :: B, _⟩ (setO ⟨ρ, (cvar gb_61 (rV 8 (rU UInt32)) x_62) :: B, _⟩ _ _) (op_loadS (j := 0) lb tS66 (.tmp (hl hd 8 102 rfl)) rfl (Comp.at (Comp.self (rV 8 (rU UInt32)) x_62) i_73.2 rfl) rfl hv_v_74)⟩)) ?_
      refine dS 11 (fun γ ρ B hb hd => op_indexAddrIF lb tr67 (.tmp (hb 14 _ rfl)) .cI hv_i_75) ?_
      refine DSteps.cons (j := 12) rfl (fun _ => rfl) (.run (fun γ ρ B hb hd => ⟨.none, OpStep.at ⟨ρ, (cvar gb_61 (rV 8 (rU UInt32)) x_62) :: B, _⟩ (setO ⟨ρ, (cvar gb_61 (rV 8 (rU UInt32)) x_62) :: B, _⟩ _ _) (op_loadS (j := 0) lb tS66 (.tmp (hl hd 10 104 rfl)) rfl (Comp.at (Comp.self (rV 8 (rU UInt32)) x_62) i_75.2 rfl) rfl hv_v_76)⟩)) ?_
      refine dS 13 (fun γ ρ B hb hd => op_assign lb (.tmp (hl hd 1 95 rfl))) ?_
      refine dS 14 (fun γ ρ B hb hd => op_assign lb (.tmp (hl hd 3 97 rfl))) ?_
      refine dS 15 (fun γ ρ B hb hd => op_assign lb (.tmp (hl hd 5 99 rfl))) ?_
      refine dS 16 (fun γ ρ B hb hd => op_assign lb (.tmp (hl hd 7 101 rfl))) ?_
      refine dS 17 (fun γ ρ B hb hd => op_assign lb (.tmp (hl hd 9 103 rfl))) ?_
      refine dS 18 (fun γ ρ B hb hd => op_assign lb (.tmp (hl hd 11 105 rfl))) ?_
      exact DSteps.nil)
               (by decide +kernel) (fun _ => rfl) rfl (fun _ => rfl) (fun _ => rfl) rfl (by decide) (by decide) (by decide +kernel) (fun _ d h => by cases h)
               (ρ' := fun γ => [(2, ov (S (rL (rU UInt32)) a_3)), (3, ov (PTR gb_4 0)), (6, ov (PTR gb_5 0)), (7, ov (HDR go_59 0 (List.length x_58) gc_60)), (14, ov (PTR gb_61 0)), (15, ov (S (rI .i64) x_63)), (16, ov (S (rU UInt32) v_66)), (17, ov (S (rU UInt32) v_68)), (18, ov (S (rU UInt32) v_70)), (19, ov (S (rU UInt32) v_72)), (20, ov (S (rU UInt32) v_74)), (21, ov (S (rU UInt32) v_76))])
               (X' := fun γ => [cvar gb_4 (rV 8 (rU UInt32)) t_1, cvar gb_5 (rV 8 (rU UInt32)) (Vector.replicate 8 (0 : UInt32)), cown go_59 (rU UInt32) x_58 0 gc_60, cvar gb_61 (rV 8 (rU UInt32)) x_62])
               (fun γ ρ hb hd => (.cons (hb 2 _ rfl (by decide)) (.cons (hb 3 _ rfl (by decide)) (.cons (hb 6 _ rfl (by decide)) (.cons (hb 7 _ rfl (by decide)) (.cons (hb 14 _ rfl (by decide)) (.cons (hb 15 _ rfl (by decide)) (.cons (hdq hd 12 16 rfl) (.cons (hdq hd 13 17 rfl) (.cons (hdq hd 14 18 rfl) (.cons (hdq hd 15 19 rfl) (.cons (hdq hd 16 20 rfl) (.cons (hdq hd 17 21 rfl) .nil))))))))))))) (fun _ => rfl) (fun γ => ?_)
           refine JQ.at ⟨[(2, ov (S (rL (rU UInt32)) a_3)), (3, ov (PTR gb_4 0)), (6, ov (PTR gb_5 0)), (7, ov (HDR go_59 0 (List.length x_58) gc_60)), (14, ov (PTR gb_61 0)), (15, ov (S (rI .i64) x_63)), (16, ov (S (rU UInt32) v_66)), (17, ov (S (rU UInt32) v_68)), (18, ov (S (rU UInt32) v_70)), (19, ov (S (rU UInt32) v_72)), (20, ov (S (rU UInt32) v_74)), (21, ov (S (rU UInt32) v_76))], [cvar gb_4 (rV 8 (rU UInt32)) t_1, cvar gb_5 (rV 8 (rU UInt32)) (Vector.replicate 8 (0 : UInt32)), cown go_59 (rU UInt32) x_58 0 gc_60, cvar gb_61 (rV 8 (rU UInt32)) x_62], []⟩ ?_
           refine JQ.then ?_
           refine JC.seq ?_
           replace hx := bnd_inv hx
           obtain ⟨i_77, hv_i_77, hx⟩ := hx
           replace hx := lt1_inv hx
           obtain ⟨v_78, hv_v_78, hx⟩ := hx
           replace hx := bnd_inv hx
           obtain ⟨v_79, hv_v_79, hx⟩ := hx
           replace hx := bnd_inv hx
           obtain ⟨v_80, hv_v_80, hx⟩ := hx
           replace hx := lt1_inv hx
           obtain ⟨v_81, hv_v_81, hx⟩ := hx
           replace hx := bnd_inv hx
           obtain ⟨v_82, hv_v_82, hx⟩ := hx
           replace hx := lt1_inv hx
           obtain ⟨v_83, hv_v_83, hx⟩ := hx
           replace hx := lt1_inv hx
           obtain ⟨v_84, hv_v_84, hx⟩ := hx
           replace hx := lt1_inv hx
           obtain ⟨v_85, hv_v_85, hx⟩ := hx
           replace hx := lt1_inv hx
           obtain ⟨v_86, hv_v_86, hx⟩ := hx
           replace hx := lt1_inv hx
           obtain ⟨v_87, hv_v_87, hx⟩ := hx
           replace hx := lt1_inv hx
           obtain ⟨v_88, hv_v_88, hx⟩ := hx
           replace hx := lt1_inv hx
           obtain ⟨v_89, hv_v_89, hx⟩ := hx
           replace hx := bnd_inv hx
           obtain ⟨v_90, hv_v_90, hx⟩ := hx
           replace hx := lt1_inv hx
           obtain ⟨v_91, hv_v_91, hx⟩ := hx
           replace hx := bnd_inv hx
           obtain ⟨i_92, hv_i_92, hx⟩ := hx
           replace hx := bnd_inv hx
           obtain ⟨v_93, hv_v_93, hx⟩ := hx
           replace hx := lt1_inv hx
           obtain ⟨v_94, hv_v_94, hx⟩ := hx
           refine JC.anyE (kl := []) (kk := 0) (base := [(2, ov (S (rL (rU UInt32)) a_3)), (3, ov (PTR gb_4 0)), (6, ov (PTR gb_5 0)), (7, ov (HDR go_59 0 (List.length x_58) gc_60)), (14, ov (PTR gb_61 0)), (15, ov (S (rI .i64) x_63)), (16, ov (S (rU UInt32) v_66)), (17, ov (S (rU UInt32) v_68)), (18, ov (S (rU UInt32) v_70)), (19, ov (S (rU UInt32) v_72)), (20, ov (S (rU UInt32) v_74)), (21, ov (S (rU UInt32) v_76))])
               (fs := fun γ => [⟨some 106, ov (PTR gb_61 (0 + i_77.1 * 1))⟩, ⟨some 107, ov (S (rU UInt32) v_78)⟩, ⟨some 108, ov (S (rU UInt32) v_72)⟩, ⟨some 109, ov (S (rU UInt32) v_79)⟩, ⟨some 110, ov (S (rU UInt32) v_72)⟩, ⟨some 111, ov (S (rU UInt32) v_80)⟩, ⟨some 112, ov (S (rU UInt32) v_81)⟩, ⟨some 113, ov (S (rU UInt32) v_72)⟩, ⟨some 114, ov (S (rU UInt32) v_82)⟩, ⟨some 115, ov (S (rU UInt32) v_83)⟩, ⟨some 116, ov (S (rU UInt32) v_84)⟩, ⟨some 117, ov (S (rU UInt32) v_72)⟩, ⟨some 118, ov (S (rU UInt32) v_74)⟩, ⟨some 119, ov (S (rU UInt32) v_85)⟩, ⟨some 120, ov (S (rU UInt32) v_72)⟩, ⟨some 121, ov (S (rU UInt32) v_86)⟩, ⟨some 122, ov (S (rU UInt32) v_76)⟩, ⟨some 123, ov (S (rU UInt32) v_87)⟩, ⟨some 124, ov (S (rU UInt32) v_88)⟩, ⟨some 125, ov (S (rU UInt32) v_89)⟩, ⟨some 126, ov (S (rL (rU UInt32)) a_3)⟩, ⟨some 127, ov (S (rI .i64) x_63)⟩, ⟨some 128, ov (PT (rU UInt32) v_90)⟩, ⟨some 129, ov (S (rU UInt32) v_90)⟩, ⟨some 130, ov (S (rU UInt32) v_91)⟩, ⟨some 131, ov (HDR go_59 0 (List.length x_58) gc_60)⟩, ⟨some 132, ov (S (rI .i64) x_63)⟩, ⟨some 133, ov (EPT go_59 (i_92 * 1))⟩, ⟨some 134, ov (S (rU UInt32) v_93)⟩, ⟨some 135, ov (S (rU UInt32) v_94)⟩, ⟨some 22, ov (S (rU UInt32) v_94)⟩])
               (rs := fun γ => [⟨cvar gb_4 (rV 8 (rU UInt32)) t_1, none, none, []⟩, ⟨cvar gb_5 (rV 8 (rU UInt32)) (Vector.replicate 8 (0 : UInt32)), none, none, []⟩, ⟨cown go_59 (rU UInt32) x_58 0 gc_60, none, none, [27, 28]⟩, ⟨cvar gb_61 (rV 8 (rU UInt32)) x_62, none, none, [1]⟩])
               (ds := [106, 107, 108, 109, 110, 111, 112, 113, 114, 115, 116, 117, 118, 119, 120, 121, 122, 123, 124, 125, 126, 127, 128, 129, 130, 131, 132, 133, 134, 135, 22]) (bs := [2, 3, 6, 7, 14, 15, 16, 17, 18, 19, 20, 21]) (afts := [[], [], [], [], [], [], [], [], [], [], [], [], [], [], [], [], [], [], [], [], [], [], [], [], [], [], [], [], [], [], []]) (js := [0, 0, 0, 0]) mixed (.cons rfl (.cons rfl (.cons rfl (.cons rfl (.cons rfl (.cons rfl (.cons rfl (.cons rfl (.cons rfl (.cons rfl (.cons rfl (.cons rfl .nil)))))))))))) (fun _ => rfl)
               (by
      refine dS 1 (fun γ ρ B hb hd => op_indexAddrIF lb tr67 (.tmp (hb 14 _ rfl)) .cI hv_i_77) ?_
      refine DSteps.cons (j := 2) rfl (fun _ => rfl) (.run (fun γ ρ B hb hd => ⟨.none, OpStep.at ⟨ρ, (cvar gb_61 (rV 8 (rU UInt32)) x_62) :: B, _⟩ (setO ⟨ρ, (cvar gb_61 (rV 8 (rU UInt32)) x_62) :: B, _⟩ _ _) (op_loadS (j := 0) lb tS66 (.tmp (hl hd 0 106 rfl)) rfl (Comp.at (Comp.self (rV 8 (rU UInt32)) x_62) i_77.2 rfl) rfl hv_v_78)⟩)) ?_
      refine dS 3 (fun γ ρ B hb hd => op_move lb (.tmp (hb 19 _ rfl))) ?_
      refine dS 4 (fun γ ρ B hb hd => (op_call (js := []) ld cl52 (sim_ref03_ror k v_72 (6 : UInt64) v_79 hv_v_79) .func (.cons (.tmp (hl hd 2 108 rfl)) (.cons (HasO.cU (x := (6 : UInt64)) rfl (by decide)) .nil)) rfl).post (fun _ => Imp.refl)) ?_
      refine dS 5 (fun γ ρ B hb hd => op_move lb (.tmp (hb 19 _ rfl))) ?_
      refine dS 6 (fun γ ρ B hb hd => (op_call (js := []) ld cl52 (sim_ref03_ror k v_72 (11 : UInt64) v_80 hv_v_80) .func (.cons (.tmp (hl hd 4 110 rfl)) (.cons (HasO.cU (x := (11 : UInt64)) rfl (by decide)) .nil)) rfl).post (fun _ => Imp.refl)) ?_
      refine dS 7 (fun γ ρ B hb hd => op_arU lb (.tmp (hl hd 3 109 rfl)) (.tmp (hl hd 5 111 rfl)) (congrArg some hv_v_81)) ?_
      refine dS 8 (fun γ ρ B hb hd => op_move lb (.tmp (hb 19 _ rfl))) ?_
      refine dS 9 (fun γ ρ B hb hd => (op_call (js := []) ld cl52 (sim_ref03_ror k v_72 (25 : UInt64) v_82 hv_v_82) .func (.cons (.tmp (hl hd 7 113 rfl)) (.cons (HasO.cU (x := (25 : UInt64)) rfl (by decide)) .nil)) rfl).post (fun _ => Imp.refl)) ?_
      refine dS 10 (fun γ ρ B hb hd => op_arU lb (.tmp (hl hd 6 112 rfl)) (.tmp (hl hd 8 114 rfl)) (congrArg some hv_v_83)) ?_
      refine dS 11 (fun γ ρ B hb hd => op_arU lb (.tmp (hl hd 1 107 rfl)) (.tmp (hl hd 9 115 rfl)) (congrArg some hv_v_84)) ?_
      refine dS 12 (fun γ ρ B hb hd => op_move lb (.tmp (hb 19 _ rfl))) ?_
      refine dS 13 (fun γ ρ B hb hd => op_move lb (.tmp (hb 20 _ rfl))) ?_
      refine dS 14 (fun γ ρ B hb hd => op_arU lb (.tmp (hl hd 11 117 rfl)) (.tmp (hl hd 12 118 rfl)) (congrArg some hv_v_85)) ?_
      refine dS 15 (fun γ ρ B hb hd => op_move lb (.tmp (hb 19 _ rfl))) ?_
      refine dS 16 (fun γ ρ B hb hd => op_com lb (.tmp (hl hd 14 120 rfl)) hv_v_86) ?_
      refine dS 17 (fun γ ρ B hb hd => op_move lb (.tmp (hb 21 _ rfl))) ?_
      refine dS 18 (fun γ ρ B hb hd => op_arU lb (.tmp (hl hd 15 121 rfl)) (.tmp (hl hd 16 122 rfl)) (congrArg some hv_v_87)) ?_
      refine dS 19 (fun γ ρ B hb hd => op_arU lb (.tmp (hl hd 13 119 rfl)) (.tmp (hl hd 17 123 rfl)) (congrArg some hv_v_88)) ?_
      refine dS 20 (fun γ ρ B hb hd => op_arU lb (.tmp (hl hd 10 116 rfl)) (.tmp (hl hd 18 124 rfl)) (congrArg some hv_v_89)) ?_
      refine dS 21 (fun γ ρ B hb hd => op_move lb (.tmp (hb 2 _ rfl))) ?_
      refine dS 22 (fun γ ρ B hb hd => op_move lb (.tmp (hb 15 _ rfl))) ?_
      refine dS 23 (fun γ ρ B hb hd => op_indexAddrLg lb tu76 tz66 (.tmp (hl hd 20 126 rfl)) (.tmp (hl hd 21 127 rfl)) hv_v_90) ?_
      refine dS 24 (fun γ ρ B hb hd => op_loadPSg lb tS66 rfl (.tmp (hl hd 22 128 rfl)) rfl) ?_
      refine dS 25 (fun γ ρ B hb hd => op_arU lb (.tmp (hl hd 19 125 rfl)) (.tmp (hl hd 23 129 rfl)) (congrArg some hv_v_91)) ?_
      refine dS 26 (fun γ ρ B hb hd => op_move lb (.tmp (hb 7 _ rfl))) ?_
      refine dS 27 (fun γ ρ B hb hd => op_move lb (.tmp (hb 15 _ rfl))) ?_
      refine DSteps.cons (j := 28) rfl (fun _ => rfl) (.run (fun γ ρ B hb hd => ⟨.none, OpStep.at ⟨ρ, (cown go_59 (rU UInt32) x_58 0 gc_60) :: B, _⟩ (setO ⟨ρ, (cown go_59 (rU UInt32) x_58 0 gc_60) :: B, _⟩ _ _) (op_indexAddrOF (r := (rU UInt32)) (j := 0) lb tu76 tz66 rfl (.tmp (hl hd 25 131 rfl)) (.tmp (hl hd 26 132 rfl)) hv_i_92)⟩)) ?_
      refine DSteps.cons (j := 29) rfl (fun _ => rfl) (.run (fun γ ρ B hb hd => ⟨.none, OpStep.at ⟨ρ, (cown go_59 (rU UInt32) x_58 0 gc_60) :: B, _⟩ (setO ⟨ρ, (cown go_59 (rU UInt32) x_58 0 gc_60) :: B, _⟩ _ _) (op_loadOS (r := (rU UInt32)) (i := i_92) (off := 0) (j := 0) lb tS66 rfl rfl (.tmp (hl hd 27 133 rfl)) hv_v_93 (Comp.self (rU UInt32) v_93) (by decide))⟩)) ?_
      refine dS 30 (fun γ ρ B hb hd => op_arU lb (.tmp (hl hd 24 130 rfl)) (.tmp (hl hd 28 134 rfl)) (congrArg some hv_v_94)) ?_
      refine dS 31 (fun γ ρ B hb hd => op_assign lb (.tmp (hl hd 29 135 rfl))) ?_
      exact DSteps.nil)
               (by decide +kernel) (fun _ => rfl) rfl (fun _ => rfl) (fun _ => rfl) rfl (by decide) (by decide) (by decide +kernel) (fun _ d h => by cases h)
               (ρ' := fun γ => [(2, ov (S (rL (rU UInt32)) a_3)), (3, ov (PTR gb_4 0)), (6, ov (PTR gb_5 0)), (7, ov (HDR go_59 0 (List.length x_58) gc_60)), (14, ov (PTR gb_61 0)), (15, ov (S (rI .i64) x_63)), (16, ov (S (rU UInt32) v_66)), (17, ov (S (rU UInt32) v_68)), (18, ov (S (rU UInt32) v_70)), (19, ov (S (rU UInt32) v_72)), (20, ov (S (rU UInt32) v_74)), (21, ov (S (rU UInt32) v_76)), (22, ov (S (rU UInt32) v_94))])
               (X' := fun γ => [cvar gb_4 (rV 8 (rU UInt32)) t_1, cvar gb_5 (rV 8 (rU UInt32)) (Vector.replicate 8 (0 : UInt32)), cown go_59 (rU UInt32) x_58 0 gc_60, cvar gb_61 (rV 8 (rU UInt32)) x_62])
               (fun γ ρ hb hd => (.cons (hb 2 _ rfl (by decide)) (.cons (hb 3 _ rfl (by decide)) (.cons (hb 6 _ rfl (by decide)) (.cons (hb 7 _ rfl (by decide)) (.cons (hb 14 _ rfl (by decide)) (.cons (hb 15 _ rfl (by decide)) (.cons (hb 16 _ rfl (by decide)) (.cons (hb 17 _ rfl (by decide)) (.cons (hb 18 _ rfl (by decide)) (.cons (hb 19 _ rfl (by decide)) (.cons (hb 20 _ rfl (by decide)) (.cons (hb 21 _ rfl (by decide)) (.cons (hdq hd 30 22 rfl) .nil)))))))))))))) (fun _ => rfl) (fun γ => ?_)
           refine JQ.at ⟨[(2, ov (S (rL (rU UInt32)) a_3)), (3, ov (PTR gb_4 0)), (6, ov (PTR gb_5 0)), (7, ov (HDR go_59 0 (List.length x_58) gc_60)), (14, ov (PTR gb_61 0)), (15, ov (S (rI .i64) x_63)), (16, ov (S (rU UInt32) v_66)), (17, ov (S (rU UInt32) v_68)), (18, ov (S (rU UInt32) v_70)), (19, ov (S (rU UInt32) v_72)), (20, ov (S (rU UInt32) v_74)), (21, ov (S (rU UInt32) v_76)), (22, ov (S (rU UInt32) v_94))], [cvar gb_4 (rV 8 (rU UInt32)) t_1, cvar gb_5 (rV 8 (rU UInt32)) (Vector.replicate 8 (0 : UInt32)), cown go_59 (rU UInt32) x_58 0 gc_60, cvar gb_61 (rV 8 (rU UInt32)) x_62], []⟩ ?_
           refine JQ.then ?_
           refine JC.seq ?_
           refine JC.region ?_
           refine jc (op_move lb (.tmp rfl)) ?_
           replace hx := bnd_inv hx
           obtain ⟨v_95, hv_v_95, hx⟩ := hx
           refine jx (op_call (js := []) ld cl52 (sim_ref03_ror k v_66 (2 : UInt64) v_95 hv_v_95) .func (.cons (.tmp rfl) (.cons (HasO.cU (x := (2 : UInt64)) rfl (by decide)) .nil)) rfl) (fun _ => ?_)
           refine jc (op_move lb (.tmp rfl)) ?_
           replace hx := bnd_inv hx
           obtain ⟨v_96, hv_v_96, hx⟩ := hx
           refine jx (op_call (js := []) ld cl52 (sim_ref03_ror k v_66 (13 : UInt64) v_96 hv_v_96) .func (.cons (.tmp rfl) (.cons (HasO.cU (x := (13 : UInt64)) rfl (by decide)) .nil)) rfl) (fun _ => ?_)
           replace hx := lt1_inv hx
           obtain ⟨v_97, hv_v_97, hx⟩ := hx
           refine jc (op_arU lb (.tmp rfl) (.tmp rfl) (congrArg some hv_v_97)) ?_
           refine jc (op_move lb (.tmp rfl)) ?_
           replace hx := bnd_inv hx
           obtain ⟨v_98, hv_v_98, hx⟩ := hx
           refine jx (op_call (js := []) ld cl52 (sim_ref03_ror k v_66 (22 : UInt64) v_98 hv_v_98) .func (.cons (.tmp rfl) (.cons (HasO.cU (x := (22 : UInt64)) rfl (by decide)) .nil)) rfl) (fun _ => ?_)
           replace hx := lt1_inv hx
           obtain ⟨v_99, hv_v_99, hx⟩ := hx
           refine jc (op_arU lb (.tmp rfl) (.tmp rfl) (congrArg some hv_v_99)) ?_
           refine jc (op_move lb (.tmp rfl)) ?_
           refine jc (op_move lb (.tmp rfl)) ?_
           replace hx := lt1_inv hx
           obtain ⟨v_100, hv_v_100, hx⟩ := hx
           refine jc (op_arU lb (.tmp rfl) (.tmp rfl) (congrArg some hv_v_100)) ?_
           refine jc (op_move lb (.tmp rfl)) ?_
           refine JL.sub ⟨[(2, ov (S (rL (rU UInt32)) a_3)), (3, ov (PTR gb_4 0)), (6, ov (PTR gb_5 0)), (7, ov (HDR go_59 0 (List.length x_58) gc_60)), (14, ov (PTR gb_61 0)), (15, ov (S (rI .i64) x_63)), (16, ov (S (rU UInt32) v_66)), (17, ov (S (rU UInt32) v_68)), (18, ov (S (rU UInt32) v_70)), (19, ov (S (rU UInt32) v_72)), (20, ov (S (rU UInt32) v_74)), (21, ov (S (rU UInt32) v_76)), (22, ov (S (rU UInt32) v_94)), (143, ov (S (rU UInt32) v_99)), (146, ov (S (rU UInt32) v_100)), (147, ov (S (rU UInt32) v_66))], [cvar gb_4 (rV 8 (rU UInt32)) t_1, cvar gb_5 (rV 8 (rU UInt32)) (Vector.replicate 8 (0 : UInt32)), cown go_59 (rU UInt32) x_58 0 gc_60, cvar gb_61 (rV 8 (rU UInt32)) x_62], []⟩ rfl rfl rfl ?_
           refine jc (op_move lb (.tmp rfl)) ?_
           replace hx := lt1_inv hx
           obtain ⟨v_101, hv_v_101, hx⟩ := hx
           refine jc (op_arU lb (.tmp rfl) (.tmp rfl) (congrArg some hv_v_101)) ?_
           replace hx := lt1_inv hx
           obtain ⟨v_102, hv_v_102, hx⟩ := hx
           refine jc (op_arU lb (.tmp rfl) (.tmp rfl) (congrArg some hv_v_102)) ?_
           refine jc (op_move lb (.tmp rfl)) ?_
           refine jc (op_move lb (.tmp rfl)) ?_
           replace hx := lt1_inv hx
           obtain ⟨v_103, hv_v_103, hx⟩ := hx
           refine jc (op_arU lb (.tmp rfl) (.tmp rfl) (congrArg some hv_v_103)) ?_
           replace hx := lt1_inv hx
           obtain ⟨v_104, hv_v_104, hx⟩ := hx
           refine jc (op_arU lb (.tmp rfl) (.tmp rfl) (congrArg some hv_v_104)) ?_
           replace hx := lt1_inv hx
           obtain ⟨v_105, hv_v_105, hx⟩ := hx
           refine jc (op_arU lb (.tmp rfl) (.tmp rfl) (congrArg some hv_v_105)) ?_
           refine jc (op_assign lb (.tmp rfl)) ?_
           refine JL.nil ?_
           refine JQ.then ?_
           refine JC.region ?_
           refine jc (op_move lb (.tmp rfl)) ?_
           refine jc (op_move lb (.tmp rfl)) ?_
           replace hx := lt1_inv hx
           obtain ⟨v_106, hv_v_106, hx⟩ := hx
           refine jc (op_arU lb (.tmp rfl) (.tmp rfl) (congrArg some hv_v_106)) ?_
           refine JL.sub ⟨[(2, ov (S (rL (rU UInt32)) a_3)), (3, ov (PTR gb_4 0)), (6, ov (PTR gb_5 0)), (7, ov (HDR go_59 0 (List.length x_58) gc_60)), (14, ov (PTR gb_61 0)), (15, ov (S (rI .i64) x_63)), (16, ov (S (rU UInt32) v_66)), (17, ov (S (rU UInt32) v_68)), (18, ov (S (rU UInt32) v_70)), (19, ov (S (rU UInt32) v_72)), (20, ov (S (rU UInt32) v_74)), (21, ov (S (rU UInt32) v_76)), (22, ov (S (rU UInt32) v_94)), (158, ov (S (rU UInt32) v_106))], [cvar gb_4 (rV 8 (rU UInt32)) t_1, cvar gb_5 (rV 8 (rU UInt32)) (Vector.replicate 8 (0 : UInt32)), cown go_59 (rU UInt32) x_58 0 gc_60, cvar gb_61 (rV 8 (rU UInt32)) x_62], []⟩ rfl rfl rfl ?_
           refine jc (op_move lb (.tmp rfl)) ?_
           refine jc (op_move lb (.tmp rfl)) ?_
           refine jc (op_move lb (.tmp rfl)) ?_
           replace hx := bnd_inv hx
           obtain ⟨i_107, hv_i_107, hx⟩ := hx
           refine jc (op_indexAddrIF lb tr67 (.tmp rfl) .cI hv_i_107) ?_
           replace hx := lt1_inv hx
           obtain ⟨v_108, hv_v_108, hx⟩ := hx
           refine jc (op_loadS (j := 3) lb tS66 (.tmp rfl) rfl (Comp.at (Comp.self (rV 8 (rU UInt32)) x_62) i_107.2 rfl) rfl hv_v_108) ?_
           refine jc (op_move lb (.tmp rfl)) ?_
           replace hx := lt1_inv hx
           obtain ⟨v_109, hv_v_109, hx⟩ := hx
           refine jc (op_arU lb (.tmp rfl) (.tmp rfl) (congrArg some hv_v_109)) ?_
           refine jc (op_move lb (.tmp rfl)) ?_
           refine jc (op_move lb (.tmp rfl)) ?_
           refine jc (op_move lb (.tmp rfl)) ?_
           refine jc (op_build lb tZ67 zv67 tp67 (.S (off := 0) rfl (.tmp rfl) rfl ((Upd.at (off := 0) (i := 0) (Comp.self (rV 8 (rU UInt32)) (Vector.replicate 8 (0 : UInt32))) (by decide) rfl (Upd.self (rV 8 (rU UInt32)) (Vector.replicate 8 (0 : UInt32)) _)).R.at rfl) (.S (off := 1) rfl (.tmp rfl) rfl ((Upd.at (off := 0) (i := 1) (Comp.self (rV 8 (rU UInt32)) (Vector.set (Vector.replicate 8 (0 : UInt32)) 0 v_106 (by decide))) (by decide) rfl (Upd.self (rV 8 (rU UInt32)) (Vector.set (Vector.replicate 8 (0 : UInt32)) 0 v_106 (by decide)) _)).R.at rfl) (.S (off := 2) rfl (.tmp rfl) rfl ((Upd.at (off := 0) (i := 2) (Comp.self (rV 8 (rU UInt32)) (Vector.set (Vector.set (Vector.replicate 8 (0 : UInt32)) 0 v_106 (by decide)) 1 v_66 (by decide))) (by decide) rfl (Upd.self (rV 8 (rU UInt32)) (Vector.set (Vector.set (Vector.replicate 8 (0 : UInt32)) 0 v_106 (by decide)) 1 v_66 (by decide)) _)).R.at rfl) (.S (off := 3) rfl (.tmp rfl) rfl ((Upd.at (off := 0) (i := 3) (Comp.self (rV 8 (rU UInt32)) (Vector.set (Vector.set (Vector.set (Vector.replicate 8 (0 : UInt32)) 0 v_106 (by decide)) 1 v_66 (by decide)) 2 v_68 (by decide))) (by decide) rfl (Upd.self (rV 8 (rU UInt32)) (Vector.set (Vector.set (Vector.set (Vector.replicate 8 (0 : UInt32)) 0 v_106 (by decide)) 1 v_66 (by decide)) 2 v_68 (by decide)) _)).R.at rfl) (.S (off := 4) rfl (.tmp rfl) rfl ((Upd.at (off := 0) (i := 4) (Comp.self (rV 8 (rU UInt32)) (Vector.set (Vector.set (Vector.set (Vector.set (Vector.replicate 8 (0 : UInt32)) 0 v_106 (by decide)) 1 v_66 (by decide)) 2 v_68 (by decide)) 3 v_70 (by decide))) (by decide) rfl (Upd.self (rV 8 (rU UInt32)) (Vector.set (Vector.set (Vector.set (Vector.set (Vector.replicate 8 (0 : UInt32)) 0 v_106 (by decide)) 1 v_66 (by decide)) 2 v_68 (by decide)) 3 v_70 (by decide)) _)).R.at rfl) (.S (off := 5) rfl (.tmp rfl) rfl ((Upd.at (off := 0) (i := 5) (Comp.self (rV 8 (rU UInt32)) (Vector.set (Vector.set (Vector.set (Vector.set (Vector.set (Vector.replicate 8 (0 : UInt32)) 0 v_106 (by decide)) 1 v_66 (by decide)) 2 v_68 (by decide)) 3 v_70 (by decide)) 4 v_109 (by decide))) (by decide) rfl (Upd.self (rV 8 (rU UInt32)) (Vector.set (Vector.set (Vector.set (Vector.set (Vector.set (Vector.replicate 8 (0 : UInt32)) 0 v_106 (by decide)) 1 v_66 (by decide)) 2 v_68 (by decide)) 3 v_70 (by decide)) 4 v_109 (by decide)) _)).R.at rfl) (.S (off := 6) rfl (.tmp rfl) rfl ((Upd.at (off := 0) (i := 6) (Comp.self (rV 8 (rU UInt32)) (Vector.set (Vector.set (Vector.set (Vector.set (Vector.set (Vector.set (Vector.replicate 8 (0 : UInt32)) 0 v_106 (by decide)) 1 v_66 (by decide)) 2 v_68 (by decide)) 3 v_70 (by decide)) 4 v_109 (by decide)) 5 v_72 (by decide))) (by decide) rfl (Upd.self (rV 8 (rU UInt32)) (Vector.set (Vector.set (Vector.set (Vector.set (Vector.set (Vector.set (Vector.replicate 8 (0 : UInt32)) 0 v_106 (by decide)) 1 v_66 (by decide)) 2 v_68 (by decide)) 3 v_70 (by decide)) 4 v_109 (by decide)) 5 v_72 (by decide)) _)).R.at rfl) (.S (off := 7) rfl (.tmp rfl) rfl ((Upd.at (off := 0) (i := 7) (Comp.self (rV 8 (rU UInt32)) (Vector.set (Vector.set (Vector.set (Vector.set (Vector.set (Vector.set (Vector.set (Vector.replicate 8 (0 : UInt32)) 0 v_106 (by decide)) 1 v_66 (by decide)) 2 v_68 (by decide)) 3 v_70 (by decide)) 4 v_109 (by decide)) 5 v_72 (by decide)) 6 v_74 (by decide))) (by decide) rfl (Upd.self (rV 8 (rU UInt32)) (Vector.set (Vector.set (Vector.set (Vector.set (Vector.set (Vector.set (Vector.set (Vector.replicate 8 (0 : UInt32)) 0 v_106 (by decide)) 1 v_66 (by decide)) 2 v_68 (by decide)) 3 v_70 (by decide)) 4 v_109 (by decide)) 5 v_72 (by decide)) 6 v_74 (by decide)) _)).R.at rfl) .nil)))))))) rfl) ?_
           refine jc (op_storeA (j := 3) tA67 (.tmp rfl) (.tmp rfl) rfl (UpdR.self (by rfl)) rfl) ?_
           refine JL.sub ⟨[(2, ov (S (rL (rU UInt32)) a_3)), (3, ov (PTR gb_4 0)), (6, ov (PTR gb_5 0)), (7, ov (HDR go_59 0 (List.length x_58) gc_60)), (14, ov (PTR gb_61 0)), (15, ov (S (rI .i64) x_63))], [cvar gb_4 (rV 8 (rU UInt32)) t_1, cvar gb_5 (rV 8 (rU UInt32)) (Vector.replicate 8 (0 : UInt32)), cown go_59 (rU UInt32) x_58 0 gc_60, cvar gb_61 (rV 8 (rU UInt32)) (#v[v_106, v_66, v_68, v_70, v_109, v_72, v_74, v_76] : (Vector UInt32 8))], []⟩ rfl rfl rfl ?_
           refine JL.nil ?_
           refine JQ.outNB ?_
           refine JQ.then ?_
           refine JC.region ?_
           refine jc (op_move lb (.tmp rfl)) ?_
           replace hx := lt1_inv hx
           obtain ⟨v_110, hv_v_110, hx⟩ := hx
           refine jc (op_arI lb (.tmp rfl) .cI (congrArg some hv_v_110)) ?_
           refine jc (op_assign lb (.tmp rfl)) ?_
           refine JL.nil ?_
           replace hx := Option.some.inj hx
           first | subst hx | clear hx
           exact JQ.next () rfl (Imp.norm (js := [0, 0, 0, 0]) rfl (.cons rfl (.cons rfl (.cons rfl (.cons rfl (.cons rfl (.cons rfl .nil)))))))
         · refine JC.condF (.tmp rfl) hc9 ?_
           refine JC.exit ?_
           refine JQ.outX ?_
           replace hx := Option.some.inj hx
           first | subst hx | clear hx
           have ht := hr _ rfl
           have hq8 := congrArg some ht
           clear hr ht
           refine JQ.outX ?_
           refine JQ.here ?_
           replace hq8 := Option.some.inj hq8
           first | subst hq8 | clear hq8
           exact JQ.join () (Imp.norm (js := [0, 0, 1]) rfl (.cons rfl (.cons rfl (.cons rfl .nil))))
   · refine JC.seq ?_
     refine JC.region ?_
     refine jc (op_assign lb .cI) ?_
     refine JL.nil ?_
     refine JQ.then ?_
     refine JC.block ?_
     refine JC.pre ?_ (JC.loop (γ := Option Nat × Nat) (stf := fun s q => ⟨[(2, ov (S (rL (rU UInt32)) a_3)), (3, ov (PTR gb_4 0)), (6, ov (PTR gb_5 0)), (7, ov (HDR q.1 0 (List.length s.1) q.2)), (9, ov (S (rI .i64) s.2))], [cvar gb_4 (rV 8 (rU UInt32)) t_1, cvar gb_5 (rV 8 (rU UInt32)) (Vector.replicate 8 (0 : UInt32)), cown q.1 (rU UInt32) s.1 0 q.2], []⟩) (q := (go_22, gc_23)) hx4 ?_)
     · exact (Imp.norm (js := [0, 0, 0]) rfl (.cons rfl (.cons rfl (.cons rfl (.cons rfl (.cons rfl .nil))))))
     · intro s q x hx hr
       obtain ⟨x_24, x_25⟩ := s
       obtain ⟨go_26, gc_27⟩ := q
       change ref03_press.b2 k x_24 x_25 = some x at hx
       unfold ref03_press.b2 at hx
       refine JC.at ⟨[(2, ov (S (rL (rU UInt32)) a_3)), (3, ov (PTR gb_4 0)), (6, ov (PTR gb_5 0)), (7, ov (HDR go_26 0 (List.length x_24) gc_27)), (9, ov (S (rI .i64) x_25))], [cvar gb_4 (rV 8 (rU UInt32)) t_1, cvar gb_5 (rV 8 (rU UInt32)) (Vector.replicate 8 (0 : UInt32)), cown go_26 (rU UInt32) x_24 0 gc_27], []⟩ ?_
       refine JC.seq ?_
       refine JC.seq ?_
       refine JC.region ?_
       refine jc (op_move lb (.tmp rfl)) ?_
       replace hx := lt1_inv hx
       obtain ⟨v_28, hv_v_28, hx⟩ := hx
       refine jc (op_cmpI lb (.tmp rfl) .cI (congrArg some hv_v_28)) ?_
       refine JL.nil ?_
       refine JQ.then ?_
       replace hx := iteB_inv hx
       rcases hx with ⟨hc6, hx⟩ | ⟨hc6, hx⟩
       · refine JC.condT (.tmp rfl) hc6 ?_
         refine JC.skip ?_
         refine JQ.then ?_
         refine JC.seq ?_
         refine JC.block ?_
         refine JC.seq ?_
         replace hx := lt1_inv hx
         obtain ⟨v_29, hv_v_29, hx⟩ := hx
         replace hx := bnd_inv hx
         obtain ⟨i_30, hv_i_30, hx⟩ := hx
         replace hx := bnd_inv hx
         obtain ⟨v_31, hv_v_31, hx⟩ := hx
         replace hx := lt1_inv hx
         obtain ⟨v_32, hv_v_32, hx⟩ := hx
         replace hx := bnd_inv hx
         obtain ⟨i_33, hv_i_33, hx⟩ := hx
         replace hx := bnd_inv hx
         obtain ⟨v_34, hv_v_34, hx⟩ := hx
         refine JC.anyE (kl := []) (kk := 0) (base := [(2, ov (S (rL (rU UInt32)) a_3)), (3, ov (PTR gb_4 0)), (6, ov (PTR gb_5 0)), (7, ov (HDR go_26 0 (List.length x_24) gc_27)), (9, ov (S (rI .i64) x_25))])
             (fs := fun γ => [⟨some 45, ov (HDR go_26 0 (List.length x_24) gc_27)⟩, ⟨some 46, ov (S (rI .i64) x_25)⟩, ⟨some 47, ov (S (rI .i64) v_29)⟩, ⟨some 48, ov (EPT go_26 (i_30 * 1))⟩, ⟨some 49, ov (S (rU UInt32) v_31)⟩, ⟨some 50, ov (HDR go_26 0 (List.length x_24) gc_27)⟩, ⟨some 51, ov (S (rI .i64) x_25)⟩, ⟨some 52, ov (S (rI .i64) v_32)⟩, ⟨some 53, ov (EPT go_26 (i_33 * 1))⟩, ⟨some 54, ov (S (rU UInt32) v_34)⟩, ⟨some 10, ov (S (rU UInt32) v_31)⟩, ⟨some 11, ov (S (rU UInt32) v_34)⟩])
             (rs := fun γ => [⟨cvar gb_4 (rV 8 (rU UInt32)) t_1, none, none, []⟩, ⟨cvar gb_5 (rV 8 (rU UInt32)) (Vector.replicate 8 (0 : UInt32)), none, none, []⟩, ⟨cown go_26 (rU UInt32) x_24 0 gc_27, none, none, [3, 4, 8, 9]⟩])
             (ds := [45, 46, 47, 48, 49, 50, 51, 52, 53, 54, 10, 11]) (bs := [2, 3, 6, 7, 9]) (afts := [[], [], [], [], [], [], [], [], [], [], [], []]) (js := [0, 0, 0]) mixed (.cons rfl (.cons rfl (.cons rfl (.cons rfl (.cons rfl .nil))))) (fun _ => rfl)
             (by
      refine dS 1 (fun γ ρ B hb hd => op_move lb (.tmp (hb 7 _ rfl))) ?_
      refine dS 2 (fun γ ρ B hb hd => op_move lb (.tmp (hb 9 _ rfl))) ?_
      refine dS 3 (fun γ ρ B hb hd => op_arI lb (.tmp (hl hd 1 46 rfl)) .cI (congrArg some hv_v_29)) ?_
      refine DSteps.cons (j := 4) rfl (fun _ => rfl) (.run (fun γ ρ B hb hd => ⟨.none, OpStep.at ⟨ρ, (cown go_26 (rU UInt32) x_24 0 gc_27) :: B, _⟩ (setO ⟨ρ, (cown go_26 (rU UInt32) x_24 0 gc_27) :: B, _⟩ _ _) (op_indexAddrOF (r := (rU UInt32)) (j := 0) lb tu76 tz66 rfl (.tmp (hl hd 0 45 rfl)) (.tmp (hl hd 2 47 rfl)) hv_i_30)⟩)) ?_
      refine DSteps.cons (j := 5) rfl (fun _ => rfl) (.run (fun γ ρ B hb hd => ⟨.none, OpStep.at ⟨ρ, (cown go_26 (rU UInt32) x_24 0 gc_27) :: B, _⟩ (setO ⟨ρ, (cown go_26 (rU UInt32) x_24 0 gc_27) :: B, _⟩ _ _) (op_loadOS (r := (rU UInt32)) (i := i_30) (off := 0) (j := 0) lb tS66 rfl rfl (.tmp (hl hd 3 48 rfl)) hv_v_31 (Comp.self (rU UInt32) v_31) (by decide))⟩)) ?_
      refine dS 6 (fun γ ρ B hb hd => op_move lb (.tmp (hb 7 _ rfl))) ?_
      refine dS 7 (fun γ ρ B hb hd => op_move lb (.tmp (hb 9 _ rfl))) ?_
      refine dS 8 (fun γ ρ B hb hd => op_arI lb (.tmp (hl hd 6 51 rfl)) .cI (congrArg some hv_v_32)) ?_
      refine DSteps.cons (j := 9) rfl (fun _ => rfl) (.run (fun γ ρ B hb hd => ⟨.none, OpStep.at ⟨ρ, (cown go_26 (rU UInt32) x_24 0 gc_27) :: B, _⟩ (setO ⟨ρ, (cown go_26 (rU UInt32) x_24 0 gc_27) :: B, _⟩ _ _) (op_indexAddrOF (r := (rU UInt32)) (j := 0) lb tu76 tz66 rfl (.tmp (hl hd 5 50 rfl)) (.tmp (hl hd 7 52 rfl)) hv_i_33)⟩)) ?_
      refine DSteps.cons (j := 10) rfl (fun _ => rfl) (.run (fun γ ρ B hb hd => ⟨.none, OpStep.at ⟨ρ, (cown go_26 (rU UInt32) x_24 0 gc_27) :: B, _⟩ (setO ⟨ρ, (cown go_26 (rU UInt32) x_24 0 gc_27) :: B, _⟩ _ _) (op_loadOS (r := (rU UInt32)) (i := i_33) (off := 0) (j := 0) lb tS66 rfl rfl (.tmp (hl hd 8 53 rfl)) hv_v_34 (Comp.self (rU UInt32) v_34) (by decide))⟩)) ?_
      refine dS 11 (fun γ ρ B hb hd => op_assign lb (.tmp (hl hd 4 49 rfl))) ?_
      refine dS 12 (fun γ ρ B hb hd => op_assign lb (.tmp (hl hd 9 54 rfl))) ?_
      exact DSteps.nil)
             (by decide +kernel) (fun _ => rfl) rfl (fun _ => rfl) (fun _ => rfl) rfl (by decide) (by decide) (by decide +kernel) (fun _ d h => by cases h)
             (ρ' := fun γ => [(2, ov (S (rL (rU UInt32)) a_3)), (3, ov (PTR gb_4 0)), (6, ov (PTR gb_5 0)), (7, ov (HDR go_26 0 (List.length x_24) gc_27)), (9, ov (S (rI .i64) x_25)), (10, ov (S (rU UInt32) v_31)), (11, ov (S (rU UInt32) v_34))])
             (X' := fun γ => [cvar gb_4 (rV 8 (rU UInt32)) t_1, cvar gb_5 (rV 8 (rU UInt32)) (Vector.replicate 8 (0 : UInt32)), cown go_26 (rU UInt32) x_24 0 gc_27])
             (fun γ ρ hb hd => (.cons (hb 2 _ rfl (by decide)) (.cons (hb 3 _ rfl (by decide)) (.cons (hb 6 _ rfl (by decide)) (.cons (hb 7 _ rfl (by decide)) (.cons (hb 9 _ rfl (by decide)) (.cons (hdq hd 10 10 rfl) (.cons (hdq hd 11 11 rfl) .nil)))))))) (fun _ => rfl) (fun γ => ?_)
         refine JQ.at ⟨[(2, ov (S (rL (rU UInt32)) a_3)), (3, ov (PTR gb_4 0)), (6, ov (PTR gb_5 0)), (7, ov (HDR go_26 0 (List.length x_24) gc_27)), (9, ov (S (rI .i64) x_25)), (10, ov (S (rU UInt32) v_31)), (11, ov (S (rU UInt32) v_34))], [cvar gb_4 (rV 8 (rU UInt32)) t_1, cvar gb_5 (rV 8 (rU UInt32)) (Vector.replicate 8 (0 : UInt32)), cown go_26 (rU UInt32) x_24 0 gc_27], []⟩ ?_
         refine JQ.then ?_
         refine JC.seq ?_
         refine JC.region ?_
         refine jc (op_move lb (.tmp rfl)) ?_
         replace hx := bnd_inv hx
         obtain ⟨v_35, hv_v_35, hx⟩ := hx
         refine jx (op_call (js := []) ld cl52 (sim_ref03_ror k v_31 (7 : UInt64) v_35 hv_v_35) .func (.cons (.tmp rfl) (.cons (HasO.cU (x := (7 : UInt64)) rfl (by decide)) .nil)) rfl) (fun _ => ?_)
         refine jc (op_move lb (.tmp rfl)) ?_
         replace hx := bnd_inv hx
         obtain ⟨v_36, hv_v_36, hx⟩ := hx
         refine jx (op_call (js := []) ld cl52 (sim_ref03_ror k v_31 (18 : UInt64) v_36 hv_v_36) .func (.cons (.tmp rfl) (.cons (HasO.cU (x := (18 : UInt64)) rfl (by decide)) .nil)) rfl) (fun _ => ?_)
         replace hx := lt1_inv hx
         obtain ⟨v_37, hv_v_37, hx⟩ := hx
         refine jc (op_arU lb (.tmp rfl) (.tmp rfl) (congrArg some hv_v_37)) ?_
         refine jc (op_move lb (.tmp rfl)) ?_
         replace hx := lt1_inv hx
         obtain ⟨v_38, hv_v_38, hx⟩ := hx
         refine jc (op_shrUU lb (.tmp rfl) (HasO.cU (x := (3 : UInt64)) rfl (by decide)) hv_v_38) ?_
         replace hx := lt1_inv hx
         obtain ⟨v_39, hv_v_39, hx⟩ := hx
         refine jc (op_arU lb (.tmp rfl) (.tmp rfl) (congrArg some hv_v_39)) ?_
         refine jc (op_assign lb (.tmp rfl)) ?_
         refine JL.nil ?_
         refine JQ.then ?_
         refine JC.seq ?_
         refine JC.region ?_
         refine jc (op_move lb (.tmp rfl)) ?_
         replace hx := bnd_inv hx
         obtain ⟨v_40, hv_v_40, hx⟩ := hx
         refine jx (op_call (js := []) ld cl52 (sim_ref03_ror k v_34 (17 : UInt64) v_40 hv_v_40) .func (.cons (.tmp rfl) (.cons (HasO.cU (x := (17 : UInt64)) rfl (by decide)) .nil)) rfl) (fun _ => ?_)
         refine jc (op_move lb (.tmp rfl)) ?_
         refine JL.sub ⟨[(2, ov (S (rL (rU UInt32)) a_3)), (3, ov (PTR gb_4 0)), (6, ov (PTR gb_5 0)), (7, ov (HDR go_26 0 (List.length x_24) gc_27)), (9, ov (S (rI .i64) x_25)), (11, ov (S (rU UInt32) v_34)), (12, ov (S (rU UInt32) v_39)), (64, ov (S (rU UInt32) v_40)), (65, ov (S (rU UInt32) v_34))], [cvar gb_4 (rV 8 (rU UInt32)) t_1, cvar gb_5 (rV 8 (rU UInt32)) (Vector.replicate 8 (0 : UInt32)), cown go_26 (rU UInt32) x_24 0 gc_27], []⟩ rfl rfl rfl ?_
         replace hx := bnd_inv hx
         obtain ⟨v_41, hv_v_41, hx⟩ := hx
         refine jx (op_call (js := []) ld cl52 (sim_ref03_ror k v_34 (19 : UInt64) v_41 hv_v_41) .func (.cons (.tmp rfl) (.cons (HasO.cU (x := (19 : UInt64)) rfl (by decide)) .nil)) rfl) (fun _ => ?_)
         replace hx := lt1_inv hx
         obtain ⟨v_42, hv_v_42, hx⟩ := hx
         refine jc (op_arU lb (.tmp rfl) (.tmp rfl) (congrArg some hv_v_42)) ?_
         refine jc (op_move lb (.tmp rfl)) ?_
         replace hx := lt1_inv hx
         obtain ⟨v_43, hv_v_43, hx⟩ := hx
         refine jc (op_shrUU lb (.tmp rfl) (HasO.cU (x := (10 : UInt64)) rfl (by decide)) hv_v_43) ?_
         replace hx := lt1_inv hx
         obtain ⟨v_44, hv_v_44, hx⟩ := hx
         refine jc (op_arU lb (.tmp rfl) (.tmp rfl) (congrArg some hv_v_44)) ?_
         refine jc (op_assign lb (.tmp rfl)) ?_
         refine JL.nil ?_
         refine JQ.then ?_
         replace hx := lt1_inv hx
         obtain ⟨v_45, hv_v_45, hx⟩ := hx
         replace hx := bnd_inv hx
         obtain ⟨i_46, hv_i_46, hx⟩ := hx
         replace hx := bnd_inv hx
         obtain ⟨v_47, hv_v_47, hx⟩ := hx
         replace hx := lt1_inv hx
         obtain ⟨v_48, hv_v_48, hx⟩ := hx
         replace hx := lt1_inv hx
         obtain ⟨v_49, hv_v_49, hx⟩ := hx
         replace hx := bnd_inv hx
         obtain ⟨i_50, hv_i_50, hx⟩ := hx
         replace hx := bnd_inv hx
         obtain ⟨v_51, hv_v_51, hx⟩ := hx
         replace hx := lt1_inv hx
         obtain ⟨v_52, hv_v_52, hx⟩ := hx
         replace hx := lt1_inv hx
         obtain ⟨v_53, hv_v_53, hx⟩ := hx
         replace hx := bnd_inv hx
         obtain ⟨x_54, hv_x_54, hx⟩ := hx
         refine JC.anyE (kl := [7]) (kk := 18) (base := [(2, ov (S (rL (rU UInt32)) a_3)), (3, ov (PTR gb_4 0)), (6, ov (PTR gb_5 0)), (7, ov (HDR go_26 0 (List.length x_24) gc_27)), (9, ov (S (rI .i64) x_25)), (12, ov (S (rU UInt32) v_39)), (13, ov (S (rU UInt32) v_44))])
             (fs := fun γ => [⟨some 71, ov (HDR go_26 0 (List.length x_24) gc_27)⟩, ⟨some 72, ov (HDR go_26 0 (List.length x_24) gc_27)⟩, ⟨some 73, ov (S (rI .i64) x_25)⟩, ⟨some 74, ov (S (rI .i64) v_45)⟩, ⟨some 75, ov (EPT go_26 (i_46 * 1))⟩, ⟨some 76, ov (S (rU UInt32) v_47)⟩, ⟨some 77, ov (S (rU UInt32) v_39)⟩, ⟨some 78, ov (S (rU UInt32) v_48)⟩, ⟨some 79, ov (HDR go_26 0 (List.length x_24) gc_27)⟩, ⟨some 80, ov (S (rI .i64) x_25)⟩, ⟨some 81, ov (S (rI .i64) v_49)⟩, ⟨some 82, ov (EPT go_26 (i_50 * 1))⟩, ⟨some 83, ov (S (rU UInt32) v_51)⟩, ⟨some 84, ov (S (rU UInt32) v_52)⟩, ⟨some 85, ov (S (rU UInt32) v_44)⟩, ⟨some 86, ov (S (rU UInt32) v_53)⟩, ⟨some 87, ov (S (rL (rU UInt32)) ([v_53] : (List UInt32)))⟩, ⟨some 88, ov (HDR (deo (γ 17 0)) 0 (List.length x_54) (γ 17 1))⟩, ⟨some 7, ov (HDR (deo (γ 17 0)) 0 (List.length x_54) (γ 17 1))⟩])
             (rs := fun γ => [⟨cvar gb_4 (rV 8 (rU UInt32)) t_1, none, none, []⟩, ⟨cvar gb_5 (rV 8 (rU UInt32)) (Vector.replicate 8 (0 : UInt32)), none, none, []⟩, ⟨cown go_26 (rU UInt32) x_24 0 gc_27, none, (some 17), [4, 5, 11, 12]⟩, ⟨cown (deo (γ 17 0)) (rU UInt32) x_54 0 (γ 17 1), (some 17), none, []⟩])
             (ds := [71, 72, 73, 74, 75, 76, 77, 78, 79, 80, 81, 82, 83, 84, 85, 86, 87, 88, 7]) (bs := [2, 3, 6, 7, 9, 12, 13]) (afts := [[], [], [], [], [], [], [], [], [], [], [], [], [], [], [], [], [], [17, 18], []]) (js := [0, 0, 0]) mixed (.cons rfl (.cons rfl (.cons rfl (.cons rfl (.cons rfl (.cons rfl (.cons rfl .nil))))))) (fun _ => rfl)
             (by
      refine dS 1 (fun γ ρ B hb hd => op_move lb (.tmp (hb 7 _ rfl))) ?_
      refine dS 2 (fun γ ρ B hb hd => op_move lb (.tmp (hb 7 _ rfl))) ?_
      refine dS 3 (fun γ ρ B hb hd => op_move lb (.tmp (hb 9 _ rfl))) ?_
      refine dS 4 (fun γ ρ B hb hd => op_arI lb (.tmp (hl hd 2 73 rfl)) .cI (congrArg some hv_v_45)) ?_
      refine DSteps.cons (j := 5) rfl (fun _ => rfl) (.run (fun γ ρ B hb hd => ⟨.none, OpStep.at ⟨ρ, (cown go_26 (rU UInt32) x_24 0 gc_27) :: B, _⟩ (setO ⟨ρ, (cown go_26 (rU UInt32) x_24 0 gc_27) :: B, _⟩ _ _) (op_indexAddrOF (r := (rU UInt32)) (j := 0) lb tu76 tz66 rfl (.tmp (hl hd 1 72 rfl)) (.tmp (hl hd 3 74 rfl)) hv_i_46)⟩)) ?_
      refine DSteps.cons (j := 6) rfl (fun _ => rfl) (.run (fun γ ρ B hb hd => ⟨.none, OpStep.at ⟨ρ, (cown go_26 (rU UInt32) x_24 0 gc_27) :: B, _⟩ (setO ⟨ρ, (cown go_26 (rU UInt32) x_24 0 gc_27) :: B, _⟩ _ _) (op_loadOS (r := (rU UInt32)) (i := i_46) (off := 0) (j := 0) lb tS66 rfl rfl (.tmp (hl hd 4 75 rfl)) hv_v_47 (Comp.self (rU UInt32) v_47) (by decide))⟩)) ?_
      refine dS 7 (fun γ ρ B hb hd => op_move lb (.tmp (hb 12 _ rfl))) ?_
      refine dS 8 (fun γ ρ B hb hd => op_arU lb (.tmp (hl hd 5 76 rfl)) (.tmp (hl hd 6 77 rfl)) (congrArg some hv_v_48)) ?_
      refine dS 9 (fun γ ρ B hb hd => op_move lb (.tmp (hb 7 _ rfl))) ?_
      refine dS 10 (fun γ ρ B hb hd => op_move lb (.tmp (hb 9 _ rfl))) ?_
      refine dS 11 (fun γ ρ B hb hd => op_arI lb (.tmp (hl hd 9 80 rfl)) .cI (congrArg some hv_v_49)) ?_
      refine DSteps.cons (j := 12) rfl (fun _ => rfl) (.run (fun γ ρ B hb hd => ⟨.none, OpStep.at ⟨ρ, (cown go_26 (rU UInt32) x_24 0 gc_27) :: B, _⟩ (setO ⟨ρ, (cown go_26 (rU UInt32) x_24 0 gc_27) :: B, _⟩ _ _) (op_indexAddrOF (r := (rU UInt32)) (j := 0) lb tu76 tz66 rfl (.tmp (hl hd 8 79 rfl)) (.tmp (hl hd 10 81 rfl)) hv_i_50)⟩)) ?_
      refine DSteps.cons (j := 13) rfl (fun _ => rfl) (.run (fun γ ρ B hb hd => ⟨.none, OpStep.at ⟨ρ, (cown go_26 (rU UInt32) x_24 0 gc_27) :: B, _⟩ (setO ⟨ρ, (cown go_26 (rU UInt32) x_24 0 gc_27) :: B, _⟩ _ _) (op_loadOS (r := (rU UInt32)) (i := i_50) (off := 0) (j := 0) lb tS66 rfl rfl (.tmp (hl hd 11 82 rfl)) hv_v_51 (Comp.self (rU UInt32) v_51) (by decide))⟩)) ?_
      refine dS 14 (fun γ ρ B hb hd => op_arU lb (.tmp (hl hd 7 78 rfl)) (.tmp (hl hd 12 83 rfl)) (congrArg some hv_v_52)) ?_
      refine dS 15 (fun γ ρ B hb hd => op_move lb (.tmp (hb 13 _ rfl))) ?_
      refine dS 16 (fun γ ρ B hb hd => op_arU lb (.tmp (hl hd 13 84 rfl)) (.tmp (hl hd 14 85 rfl)) (congrArg some hv_v_53)) ?_
      refine dS 17 (fun γ ρ B hb hd => op_buildF (r := (rU UInt32)) lb tu76 tz66 tZ66 rfl (Nat.le_of_ble_eq_true rfl) (.S rfl (.tmp (hl hd 15 86 rfl)) .nil) rfl) ?_
      refine DSteps.cons (j := 18) rfl (fun _ => rfl) (.runX (fun _ _ => rfl) (fun γ ρ B hb hd => ⟨.none, OpX.ghost (γ := Option Nat × Nat) (st' := fun q => setO ⟨ρ, (cown q.1 (rU UInt32) x_54 0 q.2) :: B, _⟩ (some 88) (ov (HDR q.1 0 (List.length x_54) q.2))) (fun q c => bif Nat.beq c 0 then eno q.1 else q.2) (op_appendL (j := 0) lb tu76 tu76 rfl tB66 rfl (Nat.lt_of_lt_of_le Nat.zero_lt_one (Nat.le_of_ble_eq_true rfl)) (Nat.lt_of_lt_of_le Nat.zero_lt_one (Nat.le_of_ble_eq_true rfl))  rfl (.tmp (hl hd 0 71 rfl)) (.tmp (hl hd 16 87 rfl)) hv_x_54) (fun q => by obtain ⟨q0, q1⟩ := q; cases q0 <;> exact Imp.refl)⟩) (fun _ _ => rfl) (fun _ _ => rfl)) ?_
      refine dS 19 (fun γ ρ B hb hd => op_assign lb (.tmp (hl hd 17 88 rfl))) ?_
      exact DSteps.nil)
             (by decide +kernel) (fun _ => rfl) rfl (fun _ => rfl) (fun _ => rfl) rfl (by decide) (by decide) (by decide +kernel) (fun _ d h => by simp at h; subst h; exact ⟨_, rfl, rfl⟩)
             (ρ' := fun γ => [(2, ov (S (rL (rU UInt32)) a_3)), (3, ov (PTR gb_4 0)), (6, ov (PTR gb_5 0)), (7, ov (HDR (deo (γ 17 0)) 0 (List.length x_54) (γ 17 1))), (9, ov (S (rI .i64) x_25))])
             (X' := fun γ => [cvar gb_4 (rV 8 (rU UInt32)) t_1, cvar gb_5 (rV 8 (rU UInt32)) (Vector.replicate 8 (0 : UInt32)), cown (deo (γ 17 0)) (rU UInt32) x_54 0 (γ 17 1)])
             (fun γ ρ hb hd => (.cons (hb 2 _ rfl (by decide)) (.cons (hb 3 _ rfl (by decide)) (.cons (hb 6 _ rfl (by decide)) (.cons (hdq hd 18 7 rfl) (.cons (hb 9 _ rfl (by decide)) .nil)))))) (fun _ => rfl) (fun γ => ?_)
         generalize (deo (γ 17 0)) = go_55
         generalize (γ 17 1) = gc_56
         clear γ
         refine JQ.at ⟨[(2, ov (S (rL (rU UInt32)) a_3)), (3, ov (PTR gb_4 0)), (6, ov (PTR gb_5 0)), (7, ov (HDR go_55 0 (List.length x_54) gc_56)), (9, ov (S (rI .i64) x_25))], [cvar gb_4 (rV 8 (rU UInt32)) t_1, cvar gb_5 (rV 8 (rU UInt32)) (Vector.replicate 8 (0 : UInt32)), cown go_55 (rU UInt32) x_54 0 gc_56], []⟩ ?_
         refine JQ.outNB ?_
         refine JQ.then ?_
         refine JC.region ?_
         refine jc (op_move lb (.tmp rfl)) ?_
         replace hx := lt1_inv hx
         obtain ⟨v_57, hv_v_57, hx⟩ := hx
         refine jc (op_arI lb (.tmp rfl) .cI (congrArg some hv_v_57)) ?_
         refine jc (op_assign lb (.tmp rfl)) ?_
         refine JL.nil ?_
         replace hx := Option.some.inj hx
         first | subst hx | clear hx
         exact JQ.next (go_55, gc_56) rfl (Imp.norm (js := [0, 0, 0]) rfl (.cons rfl (.cons rfl (.cons rfl (.cons rfl (.cons rfl .nil))))))
       · refine JC.condF (.tmp rfl) hc6 ?_
         refine JC.exit ?_
         refine JQ.outX ?_
         replace hx := Option.some.inj hx
         first | subst hx | clear hx
         have ht := hr _ rfl
         have hq5 := congrArg some ht
         clear hr ht
         refine JQ.outX ?_
         refine JQ.here ?_
         replace hq5 := Option.some.inj hq5
         first | subst hq5 | clear hq5
         exact JQ.join (go_26, gc_27) (Imp.norm (js := [0, 0, 0]) rfl (.cons rfl (.cons rfl (.cons rfl (.cons rfl .nil)))))
 · refine JC.seq ?_
   refine JC.region ?_
   refine jc (op_assign lb .cI) ?_
   refine JL.nil ?_
   refine JQ.then ?_
   refine JC.block ?_
   refine JC.pre (Imp.nilown (rU UInt32)) ?_
   refine JC.pre ?_ (JC.loop (γ := Option Nat × Nat) (stf := fun s q => ⟨[(1, ov (S (rL (rU UInt8)) a_2)), (2, ov (S (rL (rU UInt32)) a_3)), (3, ov (PTR gb_4 0)), (6, ov (PTR gb_5 0)), (7, ov (HDR q.1 0 (List.length s.1) q.2)), (8, ov (S (rI .i64) s.2))], [cvar gb_4 (rV 8 (rU UInt32)) t_1, cvar gb_5 (rV 8 (rU UInt32)) (Vector.replicate 8 (0 : UInt32)), cown q.1 (rU UInt32) s.1 0 q.2], []⟩) (q := (none, 0)) hx1 ?_)
   · exact (Imp.norm (js := [0, 0, 0]) rfl (.cons rfl (.cons rfl (.cons rfl (.cons rfl (.cons rfl (.cons rfl .nil)))))))
   · intro s q x hx hr
     obtain ⟨x_6, x_7⟩ := s
     obtain ⟨go_8, gc_9⟩ := q
     change ref03_press.b1 k a_2 x_6 x_7 = some x at hx
     unfold ref03_press.b1 at hx
     refine JC.at ⟨[(1, ov (S (rL (rU UInt8)) a_2)), (2, ov (S (rL (rU UInt32)) a_3)), (3, ov (PTR gb_4 0)), (6, ov (PTR gb_5 0)), (7, ov (HDR go_8 0 (List.length x_6) gc_9)), (8, ov (S (rI .i64) x_7))], [cvar gb_4 (rV 8 (rU UInt32)) t_1, cvar gb_5 (rV 8 (rU UInt32)) (Vector.replicate 8 (0 : UInt32)), cown go_8 (rU UInt32) x_6 0 gc_9], []⟩ ?_
     refine JC.seq ?_
     refine JC.seq ?_
     refine JC.region ?_
     refine jc (op_move lb (.tmp rfl)) ?_
     replace hx := lt1_inv hx
     obtain ⟨v_10, hv_v_10, hx⟩ := hx
     refine jc (op_cmpI lb (.tmp rfl) .cI (congrArg some hv_v_10)) ?_
     refine JL.nil ?_
     refine JQ.then ?_
     replace hx := iteB_inv hx
     rcases hx with ⟨hc3, hx⟩ | ⟨hc3, hx⟩
     · refine JC.condT (.tmp rfl) hc3 ?_
       refine JC.skip ?_
       refine JQ.then ?_
       refine JC.seq ?_
       refine JC.block ?_
       refine JC.region ?_
       refine jc (op_move lb (.tmp rfl)) ?_
       refine jc (op_move lb (.tmp rfl)) ?_
       refine jc (op_move lb (.tmp rfl)) ?_
       replace hx := lt1_inv hx
       obtain ⟨v_11, hv_v_11, hx⟩ := hx
       refine jc (op_arI lb .cI (.tmp rfl) (congrArg some hv_v_11)) ?_
       refine jc (op_move lb (.tmp rfl)) ?_
       replace hx := lt1_inv hx
       obtain ⟨v_12, hv_v_12, hx⟩ := hx
       refine jc (op_arI lb .cI (.tmp rfl) (congrArg some hv_v_12)) ?_
       replace hx := lt1_inv hx
       obtain ⟨v_13, hv_v_13, hx⟩ := hx
       refine jc (op_arI lb (.tmp rfl) .cI (congrArg some hv_v_13)) ?_
       replace hx := bnd_inv hx
       obtain ⟨v_14, hv_v_14, hx⟩ := hx
       refine jc (op_sliceLg lb tu22 tz5 (.tmp rfl) (.some (.tmp rfl)) (.some (.tmp rfl)) hv_v_14) ?_
       replace hx := bnd_inv hx
       obtain ⟨v_15, hv_v_15, hx⟩ := hx
       refine jx (op_call (js := []) ld cl29 (sim_ref01_Get k v_14 v_15 hv_v_15) .func (.cons (.tmp rfl) .nil) rfl) (fun _ => ?_)
       replace hx := lt1_inv hx
       obtain ⟨v_16, hv_v_16, hx⟩ := hx
       refine jc (op_convUU lb tu23 tu66 (.tmp rfl) hv_v_16) ?_
       refine JL.sub ⟨[(1, ov (S (rL (rU UInt8)) a_2)), (2, ov (S (rL (rU UInt32)) a_3)), (3, ov (PTR gb_4 0)), (6, ov (PTR gb_5 0)), (7, ov (HDR go_8 0 (List.length x_6) gc_9)), (8, ov (S (rI .i64) x_7)), (29, ov (HDR go_8 0 (List.length x_6) gc_9)), (38, ov (S (rU UInt32) v_16))], [cvar gb_4 (rV 8 (rU UInt32)) t_1, cvar gb_5 (rV 8 (rU UInt32)) (Vector.replicate 8 (0 : UInt32)), cown go_8 (rU UInt32) x_6 0 gc_9], []⟩ rfl rfl rfl ?_
       refine jc (op_buildF (r := (rU UInt32)) lb tu76 tz66 tZ66 rfl (Nat.le_of_ble_eq_true rfl) (.S rfl (.tmp rfl) .nil) rfl) ?_
       replace hx := bnd_inv hx
       obtain ⟨x_17, hv_x_17, hx⟩ := hx
       refine jx (op_appendL (j := 2) lb tu76 tu76 rfl tB66 rfl (Nat.lt_of_lt_of_le Nat.zero_lt_one (Nat.le_of_ble_eq_true rfl)) (Nat.lt_of_lt_of_le Nat.zero_lt_one (Nat.le_of_ble_eq_true rfl))  rfl (.tmp rfl) (.tmp rfl) hv_x_17) (fun q => ?_)
       obtain ⟨go_18, gc_19⟩ := q
       refine jc (op_assign lb (.tmp rfl)) ?_
       refine JL.nil ?_
       refine JQ.outNB ?_
       refine JQ.then ?_
       refine JC.region ?_
       refine jc (op_move lb (.tmp rfl)) ?_
       replace hx := lt1_inv hx
       obtain ⟨v_20, hv_v_20, hx⟩ := hx
       refine jc (op_arI lb (.tmp rfl) .cI (congrArg some hv_v_20)) ?_
       refine jc (op_assign lb (.tmp rfl)) ?_
       refine JL.nil ?_
       replace hx := Option.some.inj hx
       first | subst hx | clear hx
       exact JQ.next (go_18, gc_19) rfl (Imp.norm (js := [0, 0, 0]) rfl (.cons rfl (.cons rfl (.cons rfl (.cons rfl (.cons rfl (.cons rfl .nil)))))))
     · refine JC.condF (.tmp rfl) hc3 ?_
       refine JC.exit ?_
       refine JQ.outX ?_
       replace hx := Option.some.inj hx
       first | subst hx | clear hx
       have ht := hr _ rfl
       have hq2 := congrArg some ht
       clear hr ht
       refine JQ.outX ?_
       refine JQ.here ?_
       replace hq2 := Option.some.inj hq2
       first | subst hq2 | clear hq2
       exact JQ.join (go_8, gc_9) (Imp.norm (js := [0, 0, 0]) rfl (.cons rfl (.cons rfl (.cons rfl (.cons rfl .nil)))))

end Go.Proofs.Ytnhiiabdoichlaa
