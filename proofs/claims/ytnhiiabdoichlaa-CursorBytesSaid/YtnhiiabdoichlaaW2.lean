/- Walks. -/
import Derived.Test.YtnhiiabdoichlaaT
import Derived.Test.YtnhiiabdoichlaaW1
namespace Go.Proofs.Ytnhiiabdoichlaa
open Go Fw
set_option linter.unusedVariables false
set_option maxRecDepth 100000
set_option maxHeartbeats 4000000

theorem sim_sha_start_1 (k : Nat) (x_1 : UInt64) (x_2 : UInt64) (gb_3 : Nat) (r : Bool) (hm : sha_start_1 k x_1 x_2 = some r) : Sim Try.prog 59 [S (rU UInt64) x_1, PTR gb_3 0] [cvar gb_3 (rU UInt64) x_2] (γ := Unit) (fun q => [cvar gb_3 (rU UInt64) x_2]) (fun q => .one (.val (S rB r))) := by
 unfold sha_start_1 at hm
 refine Sim.of Try.func59 rfl rfl (Nat.le_of_ble_eq_true rfl) (fun e0 w0 => ?_)
 refine JC.at ⟨[(0, ov (S (rU UInt64) x_1)), (1, ov (PTR gb_3 0))], [cvar gb_3 (rU UInt64) x_2], []⟩ ?_
 refine JC.seq ?_
 refine JC.region ?_
 refine jc (op_assign lb .cB) ?_
 refine JL.nil ?_
 refine JQ.then ?_
 refine JC.seq ?_
 replace hm := bnd_inv hm
 obtain ⟨v_4, hv_v_4, hm⟩ := hm
 replace hm := bnd_inv hm
 obtain ⟨v_5, hv_v_5, hm⟩ := hm
 refine JC.anyE (kl := []) (kk := 0) (base := [(0, ov (S (rU UInt64) x_1)), (1, ov (PTR gb_3 0))])
     (fs := fun γ => [⟨some 4, ov (S (rU UInt64) x_1)⟩, ⟨some 5, ov (A (rV 2 (rU UInt64)) v_4)⟩, ⟨some 6, ov (S (rU UInt64) x_2)⟩, ⟨some 7, ov (S rB v_5)⟩, ⟨some 3, ov (S rB v_5)⟩])
     (rs := fun γ => [⟨cvar gb_3 (rU UInt64) x_2, none, none, [2]⟩])
     (ds := [4, 5, 6, 7, 3]) (bs := [0, 1]) (afts := [[], [], [], [], []]) (js := [0]) mixed (.cons rfl (.cons rfl .nil)) (fun _ => rfl)
     (by
      refine dS 1 (fun γ ρ B hb hd => op_move lb (.tmp (hb 0 _ rfl))) ?_
      refine dS 2 (fun γ ρ B hb hd => (op_call (js := []) ld cl60 (sim_sha_square k x_1 v_4 hv_v_4) .func (.cons (.tmp (hl hd 0 4 rfl)) .nil) rfl).post (fun _ => Imp.refl)) ?_
      refine DSteps.cons (j := 3) rfl (fun _ => rfl) (.run (fun γ ρ B hb hd => ⟨.none, OpStep.at ⟨ρ, (cvar gb_3 (rU UInt64) x_2) :: B, _⟩ (setO ⟨ρ, (cvar gb_3 (rU UInt64) x_2) :: B, _⟩ _ _) (op_loadS (j := 0) lb tS23 (.tmp (hb 1 _ rfl)) rfl (Comp.self (rU UInt64) x_2) rfl rfl)⟩)) ?_
      refine dS 4 (fun γ ρ B hb hd => (op_call (js := []) ld cl58 (sim_sha_above k v_4 false x_2 v_5 hv_v_5) .func (.cons (.tmp (hl hd 1 5 rfl)) (.cons .cB (.cons (.tmp (hl hd 2 6 rfl)) .nil))) rfl).post (fun _ => Imp.refl)) ?_
      refine dS 5 (fun γ ρ B hb hd => op_assign lb (.tmp (hl hd 3 7 rfl))) ?_
      exact DSteps.nil)
     (by decide +kernel) (fun _ => rfl) rfl (fun _ => rfl) (fun _ => rfl) rfl (by decide) (by decide) (by decide +kernel) (fun _ d h => by cases h)
     (ρ' := fun γ => [(3, ov (S rB v_5))])
     (X' := fun γ => [cvar gb_3 (rU UInt64) x_2])
     (fun γ ρ hb hd => (.cons (hdq hd 4 3 rfl) .nil)) (fun _ => rfl) (fun γ => ?_)
 refine JQ.at ⟨[(3, ov (S rB v_5))], [cvar gb_3 (rU UInt64) x_2], []⟩ ?_
 refine JQ.then ?_
 refine JC.ret ?_
 replace hm := Option.some.inj hm
 subst hm
 exact JQ.done (js := [0]) (ss := [.val (S rB v_5)]) () (.inl rfl) (.nil rfl) rfl (.cons (.tmp rfl) .nil) rfl rfl rfl

theorem sim_sha_root'2 (k : Nat) (x_1 : UInt64) (gb_2 : Nat) (r : UInt32) (hm : sha_root'2 k x_1 = some r) : Sim Try.prog 55 [CLO 59 [PTR gb_2 0]] [cvar gb_2 (rU UInt64) x_1] (γ := Unit) (fun q => [cvar gb_2 (rU UInt64) x_1]) (fun q => .one (.val (S (rU UInt32) r))) := by
 unfold sha_root'2 at hm
 refine Sim.of Try.func55 rfl rfl (Nat.le_of_ble_eq_true rfl) (fun e0 w0 => ?_)
 refine JC.at ⟨[(0, ov (CLO 59 [PTR gb_2 0]))], [cvar gb_2 (rU UInt64) x_1], []⟩ ?_
 refine JC.seq ?_
 refine JC.region ?_
 refine jc (op_assign lb (HasO.cU (x := (0 : UInt32)) rfl (by decide))) ?_
 refine JL.nil ?_
 refine JQ.then ?_
 refine JC.seq ?_
 refine JC.region ?_
 refine jc (op_assign lb (HasO.cU (x := (0 : UInt64)) rfl (by decide))) ?_
 refine JL.nil ?_
 refine JQ.then ?_
 replace hm := bnd_inv hm
 obtain ⟨x_13, hx1, hq1⟩ := hm
 refine JC.seqJ (γ := Unit) (stj := fun q => ⟨[(3, ov (S (rU UInt64) x_13))], [cvar gb_2 (rU UInt64) x_1], []⟩) (fun q => ?_) ?_
 · obtain _ := q
   refine JC.at ⟨[(3, ov (S (rU UInt64) x_13))], [cvar gb_2 (rU UInt64) x_1], []⟩ ?_
   refine JC.seq ?_
   refine JC.region ?_
   refine jc (op_move lb (.tmp rfl)) ?_
   replace hq1 := lt1_inv hq1
   obtain ⟨v_14, hv_v_14, hq1⟩ := hq1
   refine jc (op_convUU lb tu23 tu66 (.tmp rfl) hv_v_14) ?_
   refine jc (op_assign lb (.tmp rfl)) ?_
   refine JL.nil ?_
   refine JQ.then ?_
   refine JC.ret ?_
   replace hq1 := Option.some.inj hq1
   subst hq1
   exact JQ.done (js := [0]) (ss := [.val (S (rU UInt32) v_14)]) () (.inl rfl) (.nil rfl) rfl (.cons (.tmp rfl) .nil) rfl rfl rfl
 · refine JC.seq ?_
   refine JC.region ?_
   refine jc (op_move lb .cI) ?_
   refine JL.nil ?_
   refine JQ.then ?_
   refine JC.block ?_
   refine JC.pre ?_ (JC.loop (γ := Unit) (stf := fun s q => ⟨[(0, ov (CLO 59 [PTR gb_2 0])), (3, ov (S (rU UInt64) s.1)), (6, ov (S (rI .i64) s.2))], [cvar gb_2 (rU UInt64) x_1], []⟩) (q := ()) hx1 ?_)
   · exact (Imp.norm (js := [0]) rfl (.cons rfl (.cons rfl (.cons rfl .nil))))
   · intro s q x hx hr
     obtain ⟨x_3, x_4⟩ := s
     obtain _ := q
     change sha_root'2.b1 k x_1 x_3 x_4 = some x at hx
     unfold sha_root'2.b1 at hx
     refine JC.at ⟨[(0, ov (CLO 59 [PTR gb_2 0])), (3, ov (S (rU UInt64) x_3)), (6, ov (S (rI .i64) x_4))], [cvar gb_2 (rU UInt64) x_1], []⟩ ?_
     refine JC.seq ?_
     refine JC.region ?_
     replace hx := lt1_inv hx
     obtain ⟨v_5, hv_v_5, hx⟩ := hx
     refine jc (op_cmpI lb (.tmp rfl) .cI (congrArg some hv_v_5)) ?_
     refine JL.nil ?_
     refine JQ.then ?_
     refine JC.seq ?_
     replace hx := iteB_inv hx
     rcases hx with ⟨hc3, hx⟩ | ⟨hc3, hx⟩
     · refine JC.condT (.tmp rfl) hc3 ?_
       refine JC.skip ?_
       refine JQ.then ?_
       replace hx := bnd_inv hx
       obtain ⟨x_11, hx4, hq4⟩ := hx
       refine JC.seqJ (γ := Unit) (stj := fun q => ⟨[(0, ov (CLO 59 [PTR gb_2 0])), (3, ov (S (rU UInt64) x_11)), (6, ov (S (rI .i64) x_4))], [cvar gb_2 (rU UInt64) x_1], []⟩) (fun q => ?_) ?_
       · obtain _ := q
         refine JC.at ⟨[(0, ov (CLO 59 [PTR gb_2 0])), (3, ov (S (rU UInt64) x_11)), (6, ov (S (rI .i64) x_4))], [cvar gb_2 (rU UInt64) x_1], []⟩ ?_
         refine JC.region ?_
         replace hq4 := lt1_inv hq4
         obtain ⟨v_12, hv_v_12, hq4⟩ := hq4
         refine jc (op_arI lb (.tmp rfl) .cI (congrArg some hv_v_12)) ?_
         refine jc (op_move lb (.tmp rfl)) ?_
         refine JL.nil ?_
         replace hq4 := Option.some.inj hq4
         first | subst hq4 | clear hq4
         exact JQ.next () rfl (Imp.norm (js := [0]) rfl (.cons rfl (.cons rfl (.cons rfl .nil))))
       · refine JC.block ?_
         refine JC.seq ?_
         refine JC.region ?_
         refine jc (op_move lb (.tmp rfl)) ?_
         refine jc (op_assign lb (.tmp rfl)) ?_
         refine JL.nil ?_
         refine JQ.then ?_
         refine JC.seq ?_
         refine JC.region ?_
         refine jc (op_move lb (.tmp rfl)) ?_
         refine jc (op_move lb (.tmp rfl)) ?_
         replace hx4 := lt1_inv hx4
         obtain ⟨v_6, hv_v_6, hx4⟩ := hx4
         refine jc (op_arI lb .cI (.tmp rfl) (congrArg some hv_v_6)) ?_
         replace hx4 := bnd_inv hx4
         obtain ⟨v_7, hv_v_7, hx4⟩ := hx4
         refine jc (op_shlUI lb (HasO.cU (x := (1 : UInt64)) rfl (by decide)) (.tmp rfl) hv_v_7) ?_
         replace hx4 := lt1_inv hx4
         obtain ⟨v_8, hv_v_8, hx4⟩ := hx4
         refine jc (op_arU lb (.tmp rfl) (.tmp rfl) (congrArg some hv_v_8)) ?_
         refine jc (op_assign lb (.tmp rfl)) ?_
         refine JL.nil ?_
         refine JQ.then ?_
         refine JC.seq ?_
         refine JC.region ?_
         refine jc (op_move lb (.tmp rfl)) ?_
         refine jc (op_move lb (.tmp rfl)) ?_
         replace hx4 := bnd_inv hx4
         obtain ⟨v_9, hv_v_9, hx4⟩ := hx4
         refine jx (op_call (js := [0]) ld cl59 (sim_sha_start_1 k v_8 x_1 gb_2 v_9 hv_v_9) (.tmp rfl) (.cons (.tmp rfl) .nil) rfl) (fun _ => ?_)
         refine JL.sub ⟨[(0, ov (CLO 59 [PTR gb_2 0])), (3, ov (S (rU UInt64) x_3)), (5, ov (S (rU UInt64) v_8)), (6, ov (S (rI .i64) x_4)), (16, ov (S rB v_9))], [cvar gb_2 (rU UInt64) x_1], []⟩ rfl rfl rfl ?_
         replace hx4 := lt1_inv hx4
         obtain ⟨v_10, hv_v_10, hx4⟩ := hx4
         refine jc (op_not lb (.tmp rfl) hv_v_10) ?_
         refine JL.nil ?_
         refine JQ.then ?_
         replace hx4 := iteB_inv hx4
         rcases hx4 with ⟨hc5, hx4⟩ | ⟨hc5, hx4⟩
         · refine JC.condT (.tmp rfl) hc5 ?_
           refine JC.region ?_
           refine jc (op_move lb (.tmp rfl)) ?_
           refine jc (op_assign lb (.tmp rfl)) ?_
           refine JL.nil ?_
           refine JQ.outNB ?_
           replace hx4 := Option.some.inj hx4
           first | subst hx4 | clear hx4
           exact JQ.join () (Imp.norm (js := [0]) rfl (.cons rfl (.cons rfl (.cons rfl .nil))))
         · refine JC.condF (.tmp rfl) hc5 ?_
           refine JC.skip ?_
           refine JQ.outNB ?_
           replace hx4 := Option.some.inj hx4
           first | subst hx4 | clear hx4
           exact JQ.join () (Imp.norm (js := [0]) rfl (.cons rfl (.cons rfl (.cons rfl .nil))))
     · refine JC.condF (.tmp rfl) hc3 ?_
       refine JC.exit ?_
       refine JQ.outX ?_
       replace hx := Option.some.inj hx
       first | subst hx | clear hx
       have ht := hr _ rfl
       have hq2 := congrArg some ht
       clear hr ht
       refine JQ.outX ?_
       refine JQ.here ?_
       replace hq2 := Option.some.inj hq2
       first | subst hq2 | clear hq2
       exact JQ.join () (Imp.norm (js := [0]) rfl (.cons rfl .nil))

theorem sim_sha_start (k : Nat) (p_1 : UInt64) (r : UInt32) (hm : sha_start k p_1 = some r) : Sim Try.prog 48 [S (rU UInt64) p_1] [] (γ := Unit) (fun q => []) (fun q => .one (.val (S (rU UInt32) r))) := by
 unfold sha_start at hm
 refine Sim.of Try.func48 rfl rfl (Nat.le_of_ble_eq_true rfl) (fun e0 w0 => ?_)
 refine JC.at ⟨[(0, ov (S (rU UInt64) p_1))], [], []⟩ ?_
 refine JC.seq ?_
 refine JC.region ?_
 refine jx (op_boxS lb (.tmp rfl)) (fun q => ?_)
 obtain ⟨gb_2, hqq⟩ : ∃ z, z = q := ⟨_, rfl⟩
 subst hqq
 refine jc (op_assign lb (HasO.cU (x := (0 : UInt32)) rfl (by decide))) ?_
 refine JL.nil ?_
 refine JQ.then ?_
 refine JC.seq ?_
 refine JC.region ?_
 refine jc (op_makeFunc lb (.cons (.tmp rfl) .nil)) ?_
 replace hm := bnd_inv hm
 obtain ⟨v_3, hv_v_3, hm⟩ := hm
 refine jx (op_call (js := [0]) ld cl55 (sim_sha_root'2 k p_1 gb_2 v_3 hv_v_3) .func (.cons (.tmp rfl) .nil) rfl) (fun _ => ?_)
 refine jc (op_assign lb (.tmp rfl)) ?_
 refine JL.nil ?_
 refine JQ.then ?_
 refine JC.ret ?_
 replace hm := Option.some.inj hm
 subst hm
 exact JQ.done (js := []) (ss := [.val (S (rU UInt32) v_3)]) () (.inl rfl) (.nil rfl) rfl (.cons (.tmp rfl) .nil) rfl rfl rfl

theorem sim_sha_begun (k : Nat) (r : sha_state) (hm : sha_begun k = some r) : Sim Try.prog 39 [] [] (γ := Unit) (fun q => []) (fun q => .one (.val (A r_sha_state r))) := by
 unfold sha_begun at hm
 refine Sim.of Try.func39 rfl rfl (Nat.le_of_ble_eq_true rfl) (fun e0 w0 => ?_)
 refine JC.at ⟨[], [], []⟩ ?_
 refine JC.seq ?_
 refine JC.region ?_
 refine jx (op_alloc lb tZ70 zr70) (fun q => ?_)
 obtain ⟨gb_1, hqq⟩ : ∃ z, z = q := ⟨_, rfl⟩
 subst hqq
 refine JL.nil ?_
 refine JQ.then ?_
 refine JC.seq ?_
 refine JC.region ?_
 refine jx (op_alloc lb tZ70 zr70) (fun q => ?_)
 obtain ⟨gb_2, hqq⟩ : ∃ z, z = q := ⟨_, rfl⟩
 subst hqq
 refine JL.nil ?_
 refine JQ.then ?_
 replace hm := bnd_inv hm
 obtain ⟨s_20, hx1, hq1⟩ := hm
 refine JC.seqJ (γ := Unit) (stj := fun q => ⟨[(0, ov (PTR gb_1 0)), (1, ov (PTR gb_2 0))], [cvar gb_1 r_sha_state (sha_state.mk (Vector.replicate 8 (0 : UInt32)) (Vector.replicate 64 (0 : UInt32))), cvar gb_2 r_sha_state s_20], []⟩) (fun q => ?_) ?_
 · obtain _ := q
   refine JC.at ⟨[(0, ov (PTR gb_1 0)), (1, ov (PTR gb_2 0))], [cvar gb_1 r_sha_state (sha_state.mk (Vector.replicate 8 (0 : UInt32)) (Vector.replicate 64 (0 : UInt32))), cvar gb_2 r_sha_state s_20], []⟩ ?_
   refine JC.seq ?_
   refine JC.region ?_
   refine jc (op_loadA (j := 1) lb tA70 (.tmp rfl) rfl (Comp.self r_sha_state s_20) rfl) ?_
   refine jc (op_storeA (j := 0) tA70 (.tmp rfl) (.tmp rfl) rfl (UpdR.self (by rfl)) rfl) ?_
   refine JL.nil ?_
   refine JQ.then ?_
   refine JC.ret ?_
   replace hq1 := Option.some.inj hq1
   subst hq1
   exact JQ.done (js := []) (ss := [.val (A r_sha_state s_20)]) () (.inl rfl) (.nil rfl) rfl (.cons (.cellA (j := 0) tA70 rfl rfl) .nil) rfl rfl rfl
 · refine JC.seq ?_
   refine JC.region ?_
   replace hx1 := bnd_inv hx1
   obtain ⟨v_3, hv_v_3, hx1⟩ := hx1
   refine jx (op_call (js := []) ld cl46 (sim_sha_primes k v_3 hv_v_3) .func .nil rfl) (fun q => ?_)
   obtain ⟨go_4, gc_5⟩ := q
   refine jc (op_lenH lb tu81 (.tmp rfl)) ?_
   refine jc (op_move lb .cI) ?_
   refine JL.nil ?_
   refine JQ.then ?_
   refine JC.block ?_
   refine JC.pre ?_ (JC.loop (γ := Unit) (stf := fun s q => ⟨[(0, ov (PTR gb_1 0)), (1, ov (PTR gb_2 0)), (4, ov (HDR go_4 0 (List.length v_3) gc_5)), (5, ov (S (rI .i64) (List.length v_3 : Int))), (6, ov (S (rI .i64) s.2))], [cvar gb_1 r_sha_state (sha_state.mk (Vector.replicate 8 (0 : UInt32)) (Vector.replicate 64 (0 : UInt32))), cvar gb_2 r_sha_state s.1, cown go_4 (rU UInt64) v_3 (List.length v_3) gc_5], []⟩) (q := ()) hx1 ?_)
   · exact (Imp.norm (js := [1, 1, 0]) rfl (.cons rfl (.cons rfl (.cons rfl (.cons rfl (.cons rfl .nil))))))
   · intro s q x hx hr
     obtain ⟨s_6, x_7⟩ := s
     obtain _ := q
     change sha_begun.b1 k v_3 s_6 x_7 = some x at hx
     unfold sha_begun.b1 at hx
     refine JC.at ⟨[(0, ov (PTR gb_1 0)), (1, ov (PTR gb_2 0)), (4, ov (HDR go_4 0 (List.length v_3) gc_5)), (5, ov (S (rI .i64) (List.length v_3 : Int))), (6, ov (S (rI .i64) x_7))], [cvar gb_1 r_sha_state (sha_state.mk (Vector.replicate 8 (0 : UInt32)) (Vector.replicate 64 (0 : UInt32))), cvar gb_2 r_sha_state s_6, cown go_4 (rU UInt64) v_3 (List.length v_3) gc_5], []⟩ ?_
     refine JC.seq ?_
     refine JC.region ?_
     replace hx := lt1_inv hx
     obtain ⟨v_8, hv_v_8, hx⟩ := hx
     refine jc (op_cmpI lb (.tmp rfl) (.tmp rfl) (congrArg some hv_v_8)) ?_
     refine JL.nil ?_
     refine JQ.then ?_
     refine JC.seq ?_
     replace hx := iteB_inv hx
     rcases hx with ⟨hc3, hx⟩ | ⟨hc3, hx⟩
     · refine JC.condT (.tmp rfl) hc3 ?_
       refine JC.skip ?_
       refine JQ.then ?_
       replace hx := bnd_inv hx
       obtain ⟨s_18, hx4, hq4⟩ := hx
       refine JC.seqJ (γ := Unit) (stj := fun q => ⟨[(0, ov (PTR gb_1 0)), (1, ov (PTR gb_2 0)), (4, ov (HDR go_4 0 (List.length v_3) gc_5)), (5, ov (S (rI .i64) (List.length v_3 : Int))), (6, ov (S (rI .i64) x_7))], [cvar gb_1 r_sha_state (sha_state.mk (Vector.replicate 8 (0 : UInt32)) (Vector.replicate 64 (0 : UInt32))), cvar gb_2 r_sha_state s_18, cown go_4 (rU UInt64) v_3 (List.length v_3) gc_5], []⟩) (fun q => ?_) ?_
       · obtain _ := q
         refine JC.at ⟨[(0, ov (PTR gb_1 0)), (1, ov (PTR gb_2 0)), (4, ov (HDR go_4 0 (List.length v_3) gc_5)), (5, ov (S (rI .i64) (List.length v_3 : Int))), (6, ov (S (rI .i64) x_7))], [cvar gb_1 r_sha_state (sha_state.mk (Vector.replicate 8 (0 : UInt32)) (Vector.replicate 64 (0 : UInt32))), cvar gb_2 r_sha_state s_18, cown go_4 (rU UInt64) v_3 (List.length v_3) gc_5], []⟩ ?_
         refine JC.region ?_
         replace hq4 := lt1_inv hq4
         obtain ⟨v_19, hv_v_19, hq4⟩ := hq4
         refine jc (op_arI lb (.tmp rfl) .cI (congrArg some hv_v_19)) ?_
         refine jc (op_move lb (.tmp rfl)) ?_
         refine JL.nil ?_
         replace hq4 := Option.some.inj hq4
         first | subst hq4 | clear hq4
         exact JQ.next () rfl (Imp.norm (js := [0, 0, 0]) rfl (.cons rfl (.cons rfl (.cons rfl (.cons rfl (.cons rfl .nil))))))
       · refine JC.block ?_
         refine JC.seq ?_
         refine JC.region ?_
         refine jc (op_move lb (.tmp rfl)) ?_
         replace hx4 := bnd_inv hx4
         obtain ⟨i_9, hv_i_9, hx4⟩ := hx4
         refine jc (op_indexAddrOF (r := (rU UInt64)) (j := 2) lb tu81 tz23 rfl (.tmp rfl) (.tmp rfl) hv_i_9) ?_
         replace hx4 := bnd_inv hx4
         obtain ⟨v_10, hv_v_10, hx4⟩ := hx4
         refine jc (op_loadOS (r := (rU UInt64)) (i := i_9) (off := 0) (j := 2) lb tS23 rfl rfl (.tmp rfl) hv_v_10 (Comp.self (rU UInt64) v_10) (by decide)) ?_
         refine jc (op_assign lb (.tmp rfl)) ?_
         refine jc (op_assign lb (.tmp rfl)) ?_
         refine JL.nil ?_
         refine JQ.then ?_
         refine JC.seq ?_
         refine JC.region ?_
         refine jc (op_move lb (.tmp rfl)) ?_
         refine jc (op_move lb (.tmp rfl)) ?_
         replace hx4 := bnd_inv hx4
         obtain ⟨v_11, hv_v_11, hx4⟩ := hx4
         refine jx (op_call (js := []) ld cl47 (sim_sha_constant k v_10 v_11 hv_v_11) .func (.cons (.tmp rfl) .nil) rfl) (fun _ => ?_)
         refine jc (op_fieldAddr (off := 8) lb tf70_1 (.tmp rfl)) ?_
         replace hx4 := bnd_inv hx4
         obtain ⟨i_12, hv_i_12, hx4⟩ := hx4
         refine jc (op_indexAddrIF lb tr68 (.tmp rfl) (.tmp rfl) hv_i_12) ?_
         replace hx4 := lt1_inv hx4
         obtain ⟨s_13, hv_s_13, hx4⟩ := hx4
         refine jc (op_storeS (j := 1) tS66 (.tmp rfl) (.tmp rfl) rfl rfl (Upd.at (Comp.trans (Comp.self r_sha_state s_6) (comp_sha_state_k s_6) (Nat.le_of_ble_eq_true rfl)) i_12.2 rfl (Upd.trans (Comp.self r_sha_state s_6) (Upd.self r_sha_state s_6 _) (upd_sha_state_k s_6 (putV s_6.k i_12 v_11)))).R hv_s_13) ?_
         refine JL.sub ⟨[(0, ov (PTR gb_1 0)), (1, ov (PTR gb_2 0)), (2, ov (S (rI .i64) x_7)), (3, ov (S (rU UInt64) v_10)), (4, ov (HDR go_4 0 (List.length v_3) gc_5)), (5, ov (S (rI .i64) (List.length v_3 : Int))), (6, ov (S (rI .i64) x_7))], [cvar gb_1 r_sha_state (sha_state.mk (Vector.replicate 8 (0 : UInt32)) (Vector.replicate 64 (0 : UInt32))), cvar gb_2 r_sha_state s_13, cown go_4 (rU UInt64) v_3 (List.length v_3) gc_5], []⟩ rfl rfl rfl ?_
         refine JL.nil ?_
         refine JQ.then ?_
         refine JC.seq ?_
         refine JC.region ?_
         refine jc (op_move lb (.tmp rfl)) ?_
         replace hx4 := lt1_inv hx4
         obtain ⟨v_14, hv_v_14, hx4⟩ := hx4
         refine jc (op_cmpI lb (.tmp rfl) .cI (congrArg some hv_v_14)) ?_
         refine JL.nil ?_
         refine JQ.then ?_
         replace hx4 := iteB_inv hx4
         rcases hx4 with ⟨hc5, hx4⟩ | ⟨hc5, hx4⟩
         · refine JC.condT (.tmp rfl) hc5 ?_
           refine JC.region ?_
           refine jc (op_move lb (.tmp rfl)) ?_
           refine jc (op_move lb (.tmp rfl)) ?_
           replace hx4 := bnd_inv hx4
           obtain ⟨v_15, hv_v_15, hx4⟩ := hx4
           refine jx (op_call (js := []) ld cl48 (sim_sha_start k v_10 v_15 hv_v_15) .func (.cons (.tmp rfl) .nil) rfl) (fun _ => ?_)
           refine jc (op_fieldAddr (off := 0) lb tf70_0 (.tmp rfl)) ?_
           replace hx4 := bnd_inv hx4
           obtain ⟨i_16, hv_i_16, hx4⟩ := hx4
           refine jc (op_indexAddrIF lb tr67 (.tmp rfl) (.tmp rfl) hv_i_16) ?_
           replace hx4 := lt1_inv hx4
           obtain ⟨s_17, hv_s_17, hx4⟩ := hx4
           refine jc (op_storeS (j := 1) tS66 (.tmp rfl) (.tmp rfl) rfl rfl (Upd.at (Comp.trans (Comp.self r_sha_state s_13) (comp_sha_state_h s_13) (Nat.le_of_ble_eq_true rfl)) i_16.2 rfl (Upd.trans (Comp.self r_sha_state s_13) (Upd.self r_sha_state s_13 _) (upd_sha_state_h s_13 (putV s_13.h i_16 v_15)))).R hv_s_17) ?_
           refine JL.nil ?_
           refine JQ.outNB ?_
           replace hx4 := Option.some.inj hx4
           first | subst hx4 | clear hx4
           exact JQ.join () (Imp.norm (js := [0, 0, 0]) rfl (.cons rfl (.cons rfl (.cons rfl (.cons rfl (.cons rfl .nil))))))
         · refine JC.condF (.tmp rfl) hc5 ?_
           refine JC.skip ?_
           refine JQ.outNB ?_
           replace hx4 := Option.some.inj hx4
           first | subst hx4 | clear hx4
           exact JQ.join () (Imp.norm (js := [0, 0, 0]) rfl (.cons rfl (.cons rfl (.cons rfl (.cons rfl (.cons rfl .nil))))))
     · refine JC.condF (.tmp rfl) hc3 ?_
       refine JC.exit ?_
       refine JQ.outX ?_
       replace hx := Option.some.inj hx
       first | subst hx | clear hx
       have ht := hr _ rfl
       have hq2 := congrArg some ht
       clear hr ht
       refine JQ.outX ?_
       refine JQ.here ?_
       replace hq2 := Option.some.inj hq2
       first | subst hq2 | clear hq2
       exact JQ.join () (Imp.norm (js := [0, 0]) rfl (.cons rfl (.cons rfl .nil)))

theorem sim_slices_Growbyte_byte (k : Nat) (n_1 : Int) (r : Unit) (hm : slices_Growbyte_byte k n_1 = some r) : Sim Try.prog 61 [HDR none 0 0 0, S (rI .i64) n_1] [] (γ := Option Nat × Nat) (fun q => [cown q.1 (rU UInt8) ([] : (List UInt8)) 0 q.2]) (fun q => .one (.val (HDR q.1 0 (List.length ([] : (List UInt8))) q.2))) := by
 unfold slices_Growbyte_byte at hm
 refine Sim.of Try.func61 rfl rfl (Nat.le_of_ble_eq_true rfl) (fun e0 w0 => ?_)
 refine JC.at ⟨[(0, ov (HDR none 0 0 0)), (1, ov (S (rI .i64) n_1))], [], []⟩ ?_
 refine JC.seq ?_
 refine JC.region ?_
 refine jc (op_assign lb HasO.nilH) ?_
 refine JL.nil ?_
 refine JQ.then ?_
 replace hm := bnd_inv hm
 obtain ⟨_, hx1, hq1⟩ := hm
 refine JC.seqJ (γ := Unit) (stj := fun q => ⟨[(0, ov (HDR none 0 0 0)), (1, ov (S (rI .i64) n_1))], [], []⟩) (fun q => ?_) ?_
 · obtain _ := q
   refine JC.at ⟨[(0, ov (HDR none 0 0 0)), (1, ov (S (rI .i64) n_1))], [], []⟩ ?_
   replace hq1 := bnd_inv hq1
   obtain ⟨_, hx3, hq3⟩ := hq1
   refine JC.seqJ (γ := Option Nat × Nat) (stj := fun q => ⟨[(0, ov (HDR q.1 0 (List.length ([] : (List UInt8))) q.2))], [cown q.1 (rU UInt8) ([] : (List UInt8)) 0 q.2], []⟩) (fun q => ?_) ?_
   · obtain ⟨go_9, gc_10⟩ := q
     refine JC.at ⟨[(0, ov (HDR go_9 0 (List.length ([] : (List UInt8))) gc_10))], [cown go_9 (rU UInt8) ([] : (List UInt8)) 0 gc_10], []⟩ ?_
     refine JC.seq ?_
     refine JC.region ?_
     refine jc (op_move lb (.tmp rfl)) ?_
     refine jc (op_assign lb (.tmp rfl)) ?_
     refine JL.nil ?_
     refine JQ.then ?_
     refine JC.ret ?_
     exact JQ.done (js := [0]) (ss := [.val (HDR go_9 0 (List.length ([] : (List UInt8))) gc_10)]) (go_9, gc_10) (.inl rfl) (.nil rfl) rfl (.cons (.tmp rfl) .nil) rfl rfl rfl
   · refine JC.seq ?_
     refine JC.region ?_
     refine jc (op_move lb (.tmp rfl)) ?_
     refine jc (op_move lb (.tmp rfl)) ?_
     refine jc (op_capH lb tu22 (.tmp rfl)) ?_
     refine jc (op_move lb (.tmp rfl)) ?_
     refine jc (op_lenH lb tu22 (.tmp rfl)) ?_
     replace hx3 := lt1_inv hx3
     obtain ⟨v_3, hv_v_3, hx3⟩ := hx3
     refine jc (op_arI lb (.tmp rfl) (.tmp rfl) (congrArg some hv_v_3)) ?_
     replace hx3 := lt1_inv hx3
     obtain ⟨v_4, hv_v_4, hx3⟩ := hx3
     refine jc (op_arI lb (.tmp rfl) (.tmp rfl) (congrArg some hv_v_4)) ?_
     refine jc (op_assign lb (.tmp rfl)) ?_
     refine JL.nil ?_
     refine JQ.then ?_
     refine JC.seq ?_
     refine JC.region ?_
     refine jc (op_move lb (.tmp rfl)) ?_
     replace hx3 := lt1_inv hx3
     obtain ⟨v_5, hv_v_5, hx3⟩ := hx3
     refine jc (op_cmpI lb (.tmp rfl) .cI (congrArg some hv_v_5)) ?_
     refine JL.nil ?_
     refine JQ.then ?_
     replace hx3 := iteB_inv hx3
     rcases hx3 with ⟨hc4, hx3⟩ | ⟨hc4, hx3⟩
     · refine JC.condT (.tmp rfl) hc4 ?_
       refine JC.region ?_
       refine jc (op_move lb (.tmp rfl)) ?_
       refine jc (op_move lb (.tmp rfl)) ?_
       refine JL.sub ⟨[(0, ov (HDR none 0 0 0)), (1, ov (S (rI .i64) v_4)), (17, ov (HDR none 0 0 0)), (18, ov (HDR none 0 0 0))], [], []⟩ rfl rfl rfl ?_
       refine jc (op_capH lb tu22 (.tmp rfl)) ?_
       refine jc (op_sliceNil lb tu22 tz5 (.tmp rfl) (.tmp rfl)) ?_
       refine jc (op_move lb (.tmp rfl)) ?_
       replace hx3 := bnd_inv hx3
       obtain ⟨v_6, hv_v_6, hx3⟩ := hx3
       refine JL.pre (Imp.nilown (rU UInt8)) ?_
       refine jx (op_appendZ (j := 0) lb tu22 tu3 tB5 zv5 rfl (Nat.lt_of_lt_of_le Nat.zero_lt_one (Nat.le_of_ble_eq_true rfl)) (Nat.lt_of_lt_of_le Nat.zero_lt_one (Nat.le_of_ble_eq_true rfl)) rfl (.tmp rfl) (.tmp rfl) hv_v_6) (fun q => ?_)
       obtain ⟨go_7, gc_8⟩ := q
       refine JL.sub ⟨[(0, ov (HDR none 0 0 0)), (22, ov (HDR go_7 0 (List.length v_6) gc_8))], [cown go_7 (rU UInt8) v_6 0 gc_8], []⟩ rfl rfl rfl ?_
       refine jc (op_move lb (.tmp rfl)) ?_
       refine jc (op_lenH lb tu22 (.tmp rfl)) ?_
       refine jc (op_slicePre (j := 0) lb tu22 tz5 rfl (.tmp rfl) (.tmp rfl)) ?_
       refine jc (op_assign lb (.tmp rfl)) ?_
       refine JL.nil ?_
       exact JQ.join (go_7, gc_8) (Imp.norm (js := [0]) rfl (.cons rfl .nil))
     · refine JC.condF (.tmp rfl) hc4 ?_
       refine JC.skip ?_
       refine JQ.pre (Imp.nilown (rU UInt8)) ?_
       exact JQ.join (none, 0) (Imp.norm (js := [0]) rfl (.cons rfl .nil))
 · refine JC.seq ?_
   refine JC.region ?_
   refine jc (op_move lb (.tmp rfl)) ?_
   replace hx1 := lt1_inv hx1
   obtain ⟨v_2, hv_v_2, hx1⟩ := hx1
   refine jc (op_cmpI lb (.tmp rfl) .cI (congrArg some hv_v_2)) ?_
   refine JL.nil ?_
   refine JQ.then ?_
   replace hx1 := iteB_inv hx1
   rcases hx1 with ⟨hc2, hx1⟩ | ⟨hc2, hx1⟩
   · refine JC.condT (.tmp rfl) hc2 ?_
     refine JC.region ?_
     cases hx1
   · refine JC.condF (.tmp rfl) hc2 ?_
     refine JC.skip ?_
     exact JQ.join () (Imp.norm (js := []) rfl (.cons rfl (.cons rfl .nil)))

theorem sim_slices_Concatbyte_byte (k : Nat) (slices_1 : (List (List UInt8))) (r : (List UInt8)) (hm : slices_Concatbyte_byte k slices_1 = some r) : Sim Try.prog 49 [S (rL (rL (rU UInt8))) slices_1] [] (γ := Option Nat × Nat) (fun q => [cown q.1 (rU UInt8) r 0 q.2]) (fun q => .one (.val (HDR q.1 0 (List.length r) q.2))) := by
 unfold slices_Concatbyte_byte at hm
 refine Sim.of Try.func49 rfl rfl (Nat.le_of_ble_eq_true rfl) (fun e0 w0 => ?_)
 refine JC.at ⟨[(0, ov (S (rL (rL (rU UInt8))) slices_1))], [], []⟩ ?_
 refine JC.seq ?_
 refine JC.region ?_
 refine jc (op_assign lb HasO.nilH) ?_
 refine JL.nil ?_
 refine JQ.then ?_
 refine JC.seq ?_
 refine JC.region ?_
 refine jc (op_assign lb .cI) ?_
 refine JL.nil ?_
 refine JQ.then ?_
 replace hm := bnd_inv hm
 obtain ⟨size_10, hx1, hq1⟩ := hm
 refine JC.seqJ (γ := Unit) (stj := fun q => ⟨[(0, ov (S (rL (rL (rU UInt8))) slices_1)), (3, ov (S (rI .i64) size_10))], [], []⟩) (fun q => ?_) ?_
 · obtain _ := q
   refine JC.at ⟨[(0, ov (S (rL (rL (rU UInt8))) slices_1)), (3, ov (S (rI .i64) size_10))], [], []⟩ ?_
   refine JC.seq ?_
   refine JC.region ?_
   refine jc (op_move lb (.tmp rfl)) ?_
   replace hq1 := bnd_inv hq1
   obtain ⟨_, hv_u_13, hq1⟩ := hq1
   refine jx (op_call (js := []) ld cl61 (sim_slices_Growbyte_byte k size_10 () hv_u_13) .func (.cons HasO.nilH (.cons (.tmp rfl) .nil)) rfl) (fun q => ?_)
   obtain ⟨go_11, gc_12⟩ := q
   refine jc (op_assign lb (.tmp rfl)) ?_
   refine JL.nil ?_
   refine JQ.then ?_
   replace hq1 := bnd_inv hq1
   obtain ⟨newslice_24, hx6, hq6⟩ := hq1
   refine JC.seqJ (γ := Option Nat × Nat) (stj := fun q => ⟨[(6, ov (HDR q.1 0 (List.length newslice_24) q.2))], [cown q.1 (rU UInt8) newslice_24 0 q.2], []⟩) (fun q => ?_) ?_
   · obtain ⟨go_25, gc_26⟩ := q
     refine JC.at ⟨[(6, ov (HDR go_25 0 (List.length newslice_24) gc_26))], [cown go_25 (rU UInt8) newslice_24 0 gc_26], []⟩ ?_
     refine JC.seq ?_
     refine JC.region ?_
     refine jc (op_move lb (.tmp rfl)) ?_
     refine jc (op_assign lb (.tmp rfl)) ?_
     refine JL.nil ?_
     refine JQ.then ?_
     refine JC.ret ?_
     replace hq6 := Option.some.inj hq6
     subst hq6
     exact JQ.done (js := [0]) (ss := [.val (HDR go_25 0 (List.length newslice_24) gc_26)]) (go_25, gc_26) (.inl rfl) (.nil rfl) rfl (.cons (.tmp rfl) .nil) rfl rfl rfl
   · refine JC.seq ?_
     refine JC.region ?_
     refine jc (op_move lb (.tmp rfl)) ?_
     refine jc (op_lenL lb tu65 (.tmp rfl)) ?_
     refine jc (op_move lb .cI) ?_
     refine JL.nil ?_
     refine JQ.then ?_
     refine JC.block ?_
     refine JC.pre ?_ (JC.loop (γ := Option Nat × Nat) (stf := fun s q => ⟨[(6, ov (HDR q.1 0 (List.length s.1) q.2)), (25, ov (S (rL (rL (rU UInt8))) slices_1)), (26, ov (S (rI .i64) (List.length slices_1 : Int))), (27, ov (S (rI .i64) s.2))], [cown q.1 (rU UInt8) s.1 0 q.2], []⟩) (q := (go_11, gc_12)) hx6 ?_)
     · exact (Imp.norm (js := [0]) rfl (.cons rfl (.cons rfl (.cons rfl (.cons rfl .nil)))))
     · intro s q x hx hr
       obtain ⟨newslice_14, x_15⟩ := s
       obtain ⟨go_16, gc_17⟩ := q
       change slices_Concatbyte_byte.b2 k slices_1 newslice_14 x_15 = some x at hx
       unfold slices_Concatbyte_byte.b2 at hx
       refine JC.at ⟨[(6, ov (HDR go_16 0 (List.length newslice_14) gc_17)), (25, ov (S (rL (rL (rU UInt8))) slices_1)), (26, ov (S (rI .i64) (List.length slices_1 : Int))), (27, ov (S (rI .i64) x_15))], [cown go_16 (rU UInt8) newslice_14 0 gc_17], []⟩ ?_
       refine JC.seq ?_
       refine JC.region ?_
       replace hx := lt1_inv hx
       obtain ⟨v_18, hv_v_18, hx⟩ := hx
       refine jc (op_cmpI lb (.tmp rfl) (.tmp rfl) (congrArg some hv_v_18)) ?_
       refine JL.nil ?_
       refine JQ.then ?_
       refine JC.seq ?_
       replace hx := iteB_inv hx
       rcases hx with ⟨hc8, hx⟩ | ⟨hc8, hx⟩
       · refine JC.condT (.tmp rfl) hc8 ?_
         refine JC.skip ?_
         refine JQ.then ?_
         refine JC.seq ?_
         refine JC.block ?_
         refine JC.seq ?_
         refine JC.region ?_
         replace hx := bnd_inv hx
         obtain ⟨v_19, hv_v_19, hx⟩ := hx
         refine jc (op_indexAddrLg lb tu65 tz22 (.tmp rfl) (.tmp rfl) hv_v_19) ?_
         refine jc (op_loadPSg lb tS22 rfl (.tmp rfl) rfl) ?_
         refine jc (op_assign lb (.tmp rfl)) ?_
         refine JL.nil ?_
         refine JQ.then ?_
         refine JC.region ?_
         refine jc (op_move lb (.tmp rfl)) ?_
         refine jc (op_move lb (.tmp rfl)) ?_
         replace hx := bnd_inv hx
         obtain ⟨newslice_20, hv_newslice_20, hx⟩ := hx
         refine jx (op_appendL (j := 0) lb tu22 tu22 rfl tB5 rfl (Nat.lt_of_lt_of_le Nat.zero_lt_one (Nat.le_of_ble_eq_true rfl)) (Nat.lt_of_lt_of_le Nat.zero_lt_one (Nat.le_of_ble_eq_true rfl))  rfl (.tmp rfl) (.tmp rfl) hv_newslice_20) (fun q => ?_)
         obtain ⟨go_21, gc_22⟩ := q
         refine jc (op_assign lb (.tmp rfl)) ?_
         refine JL.nil ?_
         refine JQ.outNB ?_
         refine JQ.then ?_
         refine JC.region ?_
         replace hx := lt1_inv hx
         obtain ⟨v_23, hv_v_23, hx⟩ := hx
         refine jc (op_arI lb (.tmp rfl) .cI (congrArg some hv_v_23)) ?_
         refine jc (op_move lb (.tmp rfl)) ?_
         refine JL.sub ⟨[(6, ov (HDR go_21 0 (List.length newslice_20) gc_22)), (25, ov (S (rL (rL (rU UInt8))) slices_1)), (26, ov (S (rI .i64) (List.length slices_1 : Int))), (27, ov (S (rI .i64) v_23))], [cown go_21 (rU UInt8) newslice_20 0 gc_22], []⟩ rfl rfl rfl ?_
         refine JL.nil ?_
         replace hx := Option.some.inj hx
         first | subst hx | clear hx
         exact JQ.next (go_21, gc_22) rfl (Imp.norm (js := [0]) rfl (.cons rfl (.cons rfl (.cons rfl (.cons rfl .nil)))))
       · refine JC.condF (.tmp rfl) hc8 ?_
         refine JC.exit ?_
         refine JQ.outX ?_
         replace hx := Option.some.inj hx
         first | subst hx | clear hx
         have ht := hr _ rfl
         have hq7 := congrArg some ht
         clear hr ht
         refine JQ.outX ?_
         refine JQ.here ?_
         replace hq7 := Option.some.inj hq7
         first | subst hq7 | clear hq7
         exact JQ.join (go_16, gc_17) (Imp.norm (js := [0]) rfl (.cons rfl .nil))
 · refine JC.seq ?_
   refine JC.region ?_
   refine jc (op_move lb (.tmp rfl)) ?_
   refine jc (op_lenL lb tu65 (.tmp rfl)) ?_
   refine jc (op_move lb .cI) ?_
   refine JL.nil ?_
   refine JQ.then ?_
   refine JC.block ?_
   refine JC.pre ?_ (JC.loop (γ := Unit) (stf := fun s q => ⟨[(0, ov (S (rL (rL (rU UInt8))) slices_1)), (3, ov (S (rI .i64) s.1)), (9, ov (S (rL (rL (rU UInt8))) slices_1)), (10, ov (S (rI .i64) (List.length slices_1 : Int))), (11, ov (S (rI .i64) s.2))], [], []⟩) (q := ()) hx1 ?_)
   · exact (Imp.norm (js := []) rfl (.cons rfl (.cons rfl (.cons rfl (.cons rfl (.cons rfl .nil))))))
   · intro s q x hx hr
     obtain ⟨size_2, x_3⟩ := s
     obtain _ := q
     change slices_Concatbyte_byte.b1 k slices_1 size_2 x_3 = some x at hx
     unfold slices_Concatbyte_byte.b1 at hx
     refine JC.at ⟨[(0, ov (S (rL (rL (rU UInt8))) slices_1)), (3, ov (S (rI .i64) size_2)), (9, ov (S (rL (rL (rU UInt8))) slices_1)), (10, ov (S (rI .i64) (List.length slices_1 : Int))), (11, ov (S (rI .i64) x_3))], [], []⟩ ?_
     refine JC.seq ?_
     refine JC.region ?_
     replace hx := lt1_inv hx
     obtain ⟨v_4, hv_v_4, hx⟩ := hx
     refine jc (op_cmpI lb (.tmp rfl) (.tmp rfl) (congrArg some hv_v_4)) ?_
     refine JL.nil ?_
     refine JQ.then ?_
     refine JC.seq ?_
     replace hx := iteB_inv hx
     rcases hx with ⟨hc3, hx⟩ | ⟨hc3, hx⟩
     · refine JC.condT (.tmp rfl) hc3 ?_
       refine JC.skip ?_
       refine JQ.then ?_
       replace hx := bnd_inv hx
       obtain ⟨size_8, hx4, hq4⟩ := hx
       refine JC.seqJ (γ := Unit) (stj := fun q => ⟨[(0, ov (S (rL (rL (rU UInt8))) slices_1)), (3, ov (S (rI .i64) size_8)), (9, ov (S (rL (rL (rU UInt8))) slices_1)), (10, ov (S (rI .i64) (List.length slices_1 : Int))), (11, ov (S (rI .i64) x_3))], [], []⟩) (fun q => ?_) ?_
       · obtain _ := q
         refine JC.at ⟨[(0, ov (S (rL (rL (rU UInt8))) slices_1)), (3, ov (S (rI .i64) size_8)), (9, ov (S (rL (rL (rU UInt8))) slices_1)), (10, ov (S (rI .i64) (List.length slices_1 : Int))), (11, ov (S (rI .i64) x_3))], [], []⟩ ?_
         refine JC.region ?_
         replace hq4 := lt1_inv hq4
         obtain ⟨v_9, hv_v_9, hq4⟩ := hq4
         refine jc (op_arI lb (.tmp rfl) .cI (congrArg some hv_v_9)) ?_
         refine jc (op_move lb (.tmp rfl)) ?_
         refine JL.nil ?_
         replace hq4 := Option.some.inj hq4
         first | subst hq4 | clear hq4
         exact JQ.next () rfl (Imp.norm (js := []) rfl (.cons rfl (.cons rfl (.cons rfl (.cons rfl (.cons rfl .nil))))))
       · refine JC.block ?_
         refine JC.seq ?_
         refine JC.region ?_
         replace hx4 := bnd_inv hx4
         obtain ⟨v_5, hv_v_5, hx4⟩ := hx4
         refine jc (op_indexAddrLg lb tu65 tz22 (.tmp rfl) (.tmp rfl) hv_v_5) ?_
         refine jc (op_loadPSg lb tS22 rfl (.tmp rfl) rfl) ?_
         refine jc (op_assign lb (.tmp rfl)) ?_
         refine JL.nil ?_
         refine JQ.then ?_
         refine JC.seq ?_
         refine JC.region ?_
         refine jc (op_move lb (.tmp rfl)) ?_
         refine jc (op_move lb (.tmp rfl)) ?_
         refine jc (op_lenL lb tu22 (.tmp rfl)) ?_
         replace hx4 := lt1_inv hx4
         obtain ⟨v_6, hv_v_6, hx4⟩ := hx4
         refine jc (op_arI lb (.tmp rfl) (.tmp rfl) (congrArg some hv_v_6)) ?_
         refine jc (op_assign lb (.tmp rfl)) ?_
         refine JL.nil ?_
         refine JQ.then ?_
         refine JC.seq ?_
         refine JC.region ?_
         refine jc (op_move lb (.tmp rfl)) ?_
         replace hx4 := lt1_inv hx4
         obtain ⟨v_7, hv_v_7, hx4⟩ := hx4
         refine jc (op_cmpI lb (.tmp rfl) .cI (congrArg some hv_v_7)) ?_
         refine JL.nil ?_
         refine JQ.then ?_
         replace hx4 := iteB_inv hx4
         rcases hx4 with ⟨hc5, hx4⟩ | ⟨hc5, hx4⟩
         · refine JC.condT (.tmp rfl) hc5 ?_
           refine JC.region ?_
           cases hx4
         · refine JC.condF (.tmp rfl) hc5 ?_
           refine JC.skip ?_
           refine JQ.outNB ?_
           replace hx4 := Option.some.inj hx4
           first | subst hx4 | clear hx4
           exact JQ.join () (Imp.norm (js := []) rfl (.cons rfl (.cons rfl (.cons rfl (.cons rfl (.cons rfl .nil))))))
     · refine JC.condF (.tmp rfl) hc3 ?_
       refine JC.exit ?_
       refine JQ.outX ?_
       replace hx := Option.some.inj hx
       first | subst hx | clear hx
       have ht := hr _ rfl
       have hq2 := congrArg some ht
       clear hr ht
       refine JQ.outX ?_
       refine JQ.here ?_
       replace hq2 := Option.some.inj hq2
       first | subst hq2 | clear hq2
       exact JQ.join () (Imp.norm (js := []) rfl (.cons rfl (.cons rfl .nil)))

theorem sim_math_bits_RotateLeft32 (k : Nat) (x_1 : UInt32) (k_2 : Int) (r : UInt32) (hm : math_bits_RotateLeft32 k x_1 k_2 = some r) : Sim Try.prog 63 [S (rU UInt32) x_1, S (rI .i64) k_2] [] (γ := Unit) (fun q => []) (fun q => .one (.val (S (rU UInt32) r))) := by
 unfold math_bits_RotateLeft32 at hm
 refine Sim.of Try.func63 rfl rfl (Nat.le_of_ble_eq_true rfl) (fun e0 w0 => ?_)
 refine JC.at ⟨[(0, ov (S (rU UInt32) x_1)), (1, ov (S (rI .i64) k_2))], [], []⟩ ?_
 refine JC.seq ?_
 refine JC.region ?_
 refine jc (op_assign lb (HasO.cU (x := (0 : UInt32)) rfl (by decide))) ?_
 refine JL.nil ?_
 refine JQ.then ?_
 refine JC.seq ?_
 refine JC.region ?_
 refine jc (op_move lb (.tmp rfl)) ?_
 replace hm := lt1_inv hm
 obtain ⟨v_3, hv_v_3, hm⟩ := hm
 refine jc (op_convIU lb tu3 tu80 (.tmp rfl) hv_v_3) ?_
 replace hm := lt1_inv hm
 obtain ⟨v_4, hv_v_4, hm⟩ := hm
 refine jc (op_arU lb (.tmp rfl) (HasO.cU (x := (31 : UInt64)) rfl (by decide)) (congrArg some hv_v_4)) ?_
 refine jc (op_assign lb (.tmp rfl)) ?_
 refine JL.nil ?_
 refine JQ.then ?_
 refine JC.seq ?_
 refine JC.region ?_
 refine jc (op_move lb (.tmp rfl)) ?_
 refine jc (op_move lb (.tmp rfl)) ?_
 replace hm := lt1_inv hm
 obtain ⟨v_5, hv_v_5, hm⟩ := hm
 refine jc (op_shlUU lb (.tmp rfl) (.tmp rfl) hv_v_5) ?_
 refine jc (op_move lb (.tmp rfl)) ?_
 refine jc (op_move lb (.tmp rfl)) ?_
 replace hm := lt1_inv hm
 obtain ⟨v_6, hv_v_6, hm⟩ := hm
 refine jc (op_arU lb (HasO.cU (x := (32 : UInt64)) rfl (by decide)) (.tmp rfl) (congrArg some hv_v_6)) ?_
 replace hm := lt1_inv hm
 obtain ⟨v_7, hv_v_7, hm⟩ := hm
 refine jc (op_shrUU lb (.tmp rfl) (.tmp rfl) hv_v_7) ?_
 refine JL.sub ⟨[(4, ov (S (rU UInt32) (0 : UInt32))), (11, ov (S (rU UInt32) v_5)), (15, ov (S (rU UInt32) v_7))], [], []⟩ rfl rfl rfl ?_
 replace hm := lt1_inv hm
 obtain ⟨v_8, hv_v_8, hm⟩ := hm
 refine jc (op_arU lb (.tmp rfl) (.tmp rfl) (congrArg some hv_v_8)) ?_
 refine jc (op_assign lb (.tmp rfl)) ?_
 refine JL.nil ?_
 refine JQ.then ?_
 refine JC.ret ?_
 replace hm := Option.some.inj hm
 subst hm
 exact JQ.done (js := []) (ss := [.val (S (rU UInt32) v_8)]) () (.inl rfl) (.nil rfl) rfl (.cons (.tmp rfl) .nil) rfl rfl rfl

end Go.Proofs.Ytnhiiabdoichlaa
