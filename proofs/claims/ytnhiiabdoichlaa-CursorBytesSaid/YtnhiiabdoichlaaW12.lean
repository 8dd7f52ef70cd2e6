/- Walks. -/
import Derived.Test.YtnhiiabdoichlaaT
import Derived.Test.YtnhiiabdoichlaaW10
import Derived.Test.YtnhiiabdoichlaaW11
namespace Go.Proofs.Ytnhiiabdoichlaa
open Go Fw
set_option linter.unusedVariables false
set_option maxRecDepth 100000
set_option maxHeartbeats 4000000

theorem sim_ref03_begun (k : Nat) (r : (Vector UInt32 8) × (List UInt32)) (hm : ref03_begun k = some r) : Sim Try.prog 43 [] [] (γ := Option Nat × Nat) (fun q => [cown q.1 (rU UInt32) r.2 0 q.2]) (fun q => .tup [.val (A (rV 8 (rU UInt32)) r.1), .val (HDR q.1 0 (List.length r.2) q.2)]) := by
 unfold ref03_begun at hm
 refine Sim.of Try.func43 rfl rfl (Nat.le_of_ble_eq_true rfl) (fun e0 w0 => ?_)
 refine JC.at ⟨[], [], []⟩ ?_
 refine JC.seq ?_
 refine JC.region ?_
 refine jx (op_alloc lb tZ67 zr67) (fun q => ?_)
 obtain ⟨gb_1, hqq⟩ : ∃ z, z = q := ⟨_, rfl⟩
 subst hqq
 refine jc (op_assign lb HasO.nilH) ?_
 refine JL.nil ?_
 refine JQ.then ?_
 refine JC.seq ?_
 refine JC.region ?_
 refine jx (op_alloc lb tZ67 zr67) (fun q => ?_)
 obtain ⟨gb_2, hqq⟩ : ∃ z, z = q := ⟨_, rfl⟩
 subst hqq
 refine JL.nil ?_
 refine JQ.then ?_
 refine JC.seq ?_
 refine JC.region ?_
 refine jc (op_assign lb HasO.nilH) ?_
 refine JL.nil ?_
 refine JQ.then ?_
 replace hm := bnd_inv hm
 obtain ⟨⟨h_34, k_35⟩, hx1, hq1⟩ := hm
 refine JC.seqJ (γ := Option Nat × Nat) (stj := fun q => ⟨[(0, ov (PTR gb_1 0)), (2, ov (PTR gb_2 0)), (3, ov (HDR q.1 0 (List.length k_35) q.2))], [cvar gb_1 (rV 8 (rU UInt32)) (Vector.replicate 8 (0 : UInt32)), cvar gb_2 (rV 8 (rU UInt32)) h_34, cown q.1 (rU UInt32) k_35 0 q.2], []⟩) (fun q => ?_) ?_
 · obtain ⟨go_36, gc_37⟩ := q
   refine JC.at ⟨[(0, ov (PTR gb_1 0)), (2, ov (PTR gb_2 0)), (3, ov (HDR go_36 0 (List.length k_35) gc_37))], [cvar gb_1 (rV 8 (rU UInt32)) (Vector.replicate 8 (0 : UInt32)), cvar gb_2 (rV 8 (rU UInt32)) h_34, cown go_36 (rU UInt32) k_35 0 gc_37], []⟩ ?_
   refine JC.seq ?_
   refine JC.region ?_
   refine jc (op_loadA (j := 1) lb tA67 (.tmp rfl) rfl (Comp.self (rV 8 (rU UInt32)) h_34) rfl) ?_
   refine jc (op_move lb (.tmp rfl)) ?_
   refine jc (op_storeA (j := 0) tA67 (.tmp rfl) (.tmp rfl) rfl (UpdR.self (by rfl)) rfl) ?_
   refine jc (op_assign lb (.tmp rfl)) ?_
   refine JL.nil ?_
   refine JQ.then ?_
   refine JC.ret ?_
   replace hq1 := Option.some.inj hq1
   subst hq1
   exact JQ.done (js := [2]) (ss := [.val (A (rV 8 (rU UInt32)) h_34), .val (HDR go_36 0 (List.length k_35) gc_37)]) (go_36, gc_37) (.inl rfl) (.nil rfl) rfl (.cons (.cellA (j := 0) tA67 rfl rfl) (.cons (.tmp rfl) .nil)) rfl rfl rfl
 · refine JC.seq ?_
   refine JC.region ?_
   refine jc (op_assign lb (HasO.cU (x := (2 : UInt64)) rfl (by decide))) ?_
   refine JL.nil ?_
   refine JQ.then ?_
   refine JC.block ?_
   refine JC.pre (Imp.nilown (rU UInt32)) ?_
   refine JC.pre ?_ (JC.loop (γ := Option Nat × Nat) (stf := fun s q => ⟨[(0, ov (PTR gb_1 0)), (2, ov (PTR gb_2 0)), (3, ov (HDR q.1 0 (List.length s.2.1) q.2)), (4, ov (S (rU UInt64) s.2.2))], [cvar gb_1 (rV 8 (rU UInt32)) (Vector.replicate 8 (0 : UInt32)), cvar gb_2 (rV 8 (rU UInt32)) s.1, cown q.1 (rU UInt32) s.2.1 0 q.2], []⟩) (q := (none, 0)) hx1 ?_)
   · exact (Imp.norm (js := [0, 0, 0]) rfl (.cons rfl (.cons rfl (.cons rfl (.cons rfl .nil)))))
   · intro s q x hx hr
     obtain ⟨h_3, k_4, n_5⟩ := s
     obtain ⟨go_6, gc_7⟩ := q
     change ref03_begun.b1 k h_3 k_4 n_5 = some x at hx
     unfold ref03_begun.b1 at hx
     refine JC.at ⟨[(0, ov (PTR gb_1 0)), (2, ov (PTR gb_2 0)), (3, ov (HDR go_6 0 (List.length k_4) gc_7)), (4, ov (S (rU UInt64) n_5))], [cvar gb_1 (rV 8 (rU UInt32)) (Vector.replicate 8 (0 : UInt32)), cvar gb_2 (rV 8 (rU UInt32)) h_3, cown go_6 (rU UInt32) k_4 0 gc_7], []⟩ ?_
     refine JC.seq ?_
     refine JC.seq ?_
     refine JC.region ?_
     refine jc (op_move lb (.tmp rfl)) ?_
     refine jc (op_lenH lb tu76 (.tmp rfl)) ?_
     replace hx := lt1_inv hx
     obtain ⟨v_8, hv_v_8, hx⟩ := hx
     refine jc (op_cmpI lb (.tmp rfl) .cI (congrArg some hv_v_8)) ?_
     refine JL.nil ?_
     refine JQ.then ?_
     replace hx := iteB_inv hx
     rcases hx with ⟨hc3, hx⟩ | ⟨hc3, hx⟩
     · refine JC.condT (.tmp rfl) hc3 ?_
       refine JC.skip ?_
       refine JQ.then ?_
       replace hx := bnd_inv hx
       obtain ⟨⟨h_29, k_30⟩, hx4, hq4⟩ := hx
       refine JC.seqJ (γ := Option Nat × Nat) (stj := fun q => ⟨[(0, ov (PTR gb_1 0)), (2, ov (PTR gb_2 0)), (3, ov (HDR q.1 0 (List.length k_30) q.2)), (4, ov (S (rU UInt64) n_5))], [cvar gb_1 (rV 8 (rU UInt32)) (Vector.replicate 8 (0 : UInt32)), cvar gb_2 (rV 8 (rU UInt32)) h_29, cown q.1 (rU UInt32) k_30 0 q.2], []⟩) (fun q => ?_) ?_
       · obtain ⟨go_31, gc_32⟩ := q
         refine JC.at ⟨[(0, ov (PTR gb_1 0)), (2, ov (PTR gb_2 0)), (3, ov (HDR go_31 0 (List.length k_30) gc_32)), (4, ov (S (rU UInt64) n_5))], [cvar gb_1 (rV 8 (rU UInt32)) (Vector.replicate 8 (0 : UInt32)), cvar gb_2 (rV 8 (rU UInt32)) h_29, cown go_31 (rU UInt32) k_30 0 gc_32], []⟩ ?_
         refine JC.region ?_
         refine jc (op_move lb (.tmp rfl)) ?_
         replace hq4 := lt1_inv hq4
         obtain ⟨v_33, hv_v_33, hq4⟩ := hq4
         refine jc (op_arU lb (.tmp rfl) (HasO.cU (x := (1 : UInt64)) rfl (by decide)) (congrArg some hv_v_33)) ?_
         refine jc (op_assign lb (.tmp rfl)) ?_
         refine JL.nil ?_
         replace hq4 := Option.some.inj hq4
         first | subst hq4 | clear hq4
         exact JQ.next (go_31, gc_32) rfl (Imp.norm (js := [0, 0, 0]) rfl (.cons rfl (.cons rfl (.cons rfl (.cons rfl .nil)))))
       · refine JC.block ?_
         refine JC.seq ?_
         refine JC.region ?_
         refine jc (op_assign lb .cB) ?_
         refine JL.nil ?_
         refine JQ.then ?_
         replace hx4 := bnd_inv hx4
         obtain ⟨is_18, hx5, hq5⟩ := hx4
         refine JC.seqJ (γ := Unit) (stj := fun q => ⟨[(0, ov (PTR gb_1 0)), (2, ov (PTR gb_2 0)), (3, ov (HDR go_6 0 (List.length k_4) gc_7)), (4, ov (S (rU UInt64) n_5)), (5, ov (S rB is_18))], [cvar gb_1 (rV 8 (rU UInt32)) (Vector.replicate 8 (0 : UInt32)), cvar gb_2 (rV 8 (rU UInt32)) h_3, cown go_6 (rU UInt32) k_4 0 gc_7], []⟩) (fun q => ?_) ?_
         · obtain _ := q
           refine JC.at ⟨[(0, ov (PTR gb_1 0)), (2, ov (PTR gb_2 0)), (3, ov (HDR go_6 0 (List.length k_4) gc_7)), (4, ov (S (rU UInt64) n_5)), (5, ov (S rB is_18))], [cvar gb_1 (rV 8 (rU UInt32)) (Vector.replicate 8 (0 : UInt32)), cvar gb_2 (rV 8 (rU UInt32)) h_3, cown go_6 (rU UInt32) k_4 0 gc_7], []⟩ ?_
           replace hq5 := bnd_inv hq5
           obtain ⟨h_24, hx14, hq14⟩ := hq5
           refine JC.seqJ (γ := Unit) (stj := fun q => ⟨[(0, ov (PTR gb_1 0)), (2, ov (PTR gb_2 0)), (3, ov (HDR go_6 0 (List.length k_4) gc_7)), (4, ov (S (rU UInt64) n_5)), (5, ov (S rB is_18))], [cvar gb_1 (rV 8 (rU UInt32)) (Vector.replicate 8 (0 : UInt32)), cvar gb_2 (rV 8 (rU UInt32)) h_24, cown go_6 (rU UInt32) k_4 0 gc_7], []⟩) (fun q => ?_) ?_
           · obtain _ := q
             refine JC.at ⟨[(0, ov (PTR gb_1 0)), (2, ov (PTR gb_2 0)), (3, ov (HDR go_6 0 (List.length k_4) gc_7)), (4, ov (S (rU UInt64) n_5)), (5, ov (S rB is_18))], [cvar gb_1 (rV 8 (rU UInt32)) (Vector.replicate 8 (0 : UInt32)), cvar gb_2 (rV 8 (rU UInt32)) h_24, cown go_6 (rU UInt32) k_4 0 gc_7], []⟩ ?_
             refine JC.seq ?_
             refine JC.region ?_
             refine jc (op_move lb (.tmp rfl)) ?_
             refine JL.nil ?_
             refine JQ.then ?_
             replace hq14 := iteB_inv hq14
             rcases hq14 with ⟨hc19, hq14⟩ | ⟨hc19, hq14⟩
             · refine JC.condT (.tmp rfl) hc19 ?_
               refine JC.region ?_
               refine jc (op_move lb (.tmp rfl)) ?_
               refine jc (op_move lb (.tmp rfl)) ?_
               replace hq14 := bnd_inv hq14
               obtain ⟨v_25, hv_v_25, hq14⟩ := hq14
               refine jx (op_call (js := []) ld cl51 (sim_ref03_root k n_5 (3 : Int) v_25 hv_v_25) .func (.cons (.tmp rfl) (.cons .cI .nil)) rfl) (fun _ => ?_)
               refine jc (op_buildF (r := (rU UInt32)) lb tu76 tz66 tZ66 rfl (Nat.le_of_ble_eq_true rfl) (.S rfl (.tmp rfl) .nil) rfl) ?_
               replace hq14 := bnd_inv hq14
               obtain ⟨k_26, hv_k_26, hq14⟩ := hq14
               refine jx (op_appendL (j := 2) lb tu76 tu76 rfl tB66 rfl (Nat.lt_of_lt_of_le Nat.zero_lt_one (Nat.le_of_ble_eq_true rfl)) (Nat.lt_of_lt_of_le Nat.zero_lt_one (Nat.le_of_ble_eq_true rfl))  rfl (.tmp rfl) (.tmp rfl) hv_k_26) (fun q => ?_)
               obtain ⟨go_27, gc_28⟩ := q
               refine jc (op_assign lb (.tmp rfl)) ?_
               refine JL.nil ?_
               refine JQ.outNB ?_
               replace hq14 := Option.some.inj hq14
               replace hq14 := Prod.mk.inj hq14
               obtain ⟨hq14_a, hq14⟩ := hq14
               first | subst hq14_a | clear hq14_a
               first | subst hq14 | clear hq14
               exact JQ.join (go_27, gc_28) (Imp.norm (js := [0, 0, 0]) rfl (.cons rfl (.cons rfl (.cons rfl (.cons rfl .nil)))))
             · refine JC.condF (.tmp rfl) hc19 ?_
               refine JC.skip ?_
               refine JQ.outNB ?_
               replace hq14 := Option.some.inj hq14
               replace hq14 := Prod.mk.inj hq14
               obtain ⟨hq14_a, hq14⟩ := hq14
               first | subst hq14_a | clear hq14_a
               first | subst hq14 | clear hq14
               exact JQ.join (go_6, gc_7) (Imp.norm (js := [0, 0, 0]) rfl (.cons rfl (.cons rfl (.cons rfl (.cons rfl .nil)))))
           · replace hx14 := bnd_inv hx14
             obtain ⟨x_20, hx15, hq15⟩ := hx14
             refine JC.seqJ (γ := Unit) (stj := fun q => ⟨[(0, ov (PTR gb_1 0)), (2, ov (PTR gb_2 0)), (3, ov (HDR go_6 0 (List.length k_4) gc_7)), (4, ov (S (rU UInt64) n_5)), (5, ov (S rB is_18)), (31, ov (S rB x_20))], [cvar gb_1 (rV 8 (rU UInt32)) (Vector.replicate 8 (0 : UInt32)), cvar gb_2 (rV 8 (rU UInt32)) h_3, cown go_6 (rU UInt32) k_4 0 gc_7], []⟩) (fun q => ?_) ?_
             · obtain _ := q
               refine JC.at ⟨[(0, ov (PTR gb_1 0)), (2, ov (PTR gb_2 0)), (3, ov (HDR go_6 0 (List.length k_4) gc_7)), (4, ov (S (rU UInt64) n_5)), (5, ov (S rB is_18)), (31, ov (S rB x_20))], [cvar gb_1 (rV 8 (rU UInt32)) (Vector.replicate 8 (0 : UInt32)), cvar gb_2 (rV 8 (rU UInt32)) h_3, cown go_6 (rU UInt32) k_4 0 gc_7], []⟩ ?_
               replace hq15 := iteB_inv hq15
               rcases hq15 with ⟨hc18, hq15⟩ | ⟨hc18, hq15⟩
               · refine JC.condT (.tmp rfl) hc18 ?_
                 refine JC.region ?_
                 refine jc (op_move lb (.tmp rfl)) ?_
                 refine jc (op_lenH lb tu76 (.tmp rfl)) ?_
                 refine jc (op_move lb (.tmp rfl)) ?_
                 replace hq15 := bnd_inv hq15
                 obtain ⟨v_21, hv_v_21, hq15⟩ := hq15
                 refine jx (op_call (js := []) ld cl51 (sim_ref03_root k n_5 (2 : Int) v_21 hv_v_21) .func (.cons (.tmp rfl) (.cons .cI .nil)) rfl) (fun _ => ?_)
                 replace hq15 := bnd_inv hq15
                 obtain ⟨i_22, hv_i_22, hq15⟩ := hq15
                 refine jc (op_indexAddrIF lb tr67 (.tmp rfl) (.tmp rfl) hv_i_22) ?_
                 replace hq15 := lt1_inv hq15
                 obtain ⟨h_23, hv_h_23, hq15⟩ := hq15
                 refine jc (op_storeS (j := 1) tS66 (.tmp rfl) (.tmp rfl) rfl rfl (Upd.at (Comp.self (rV 8 (rU UInt32)) h_3) i_22.2 rfl (Upd.self (rV 8 (rU UInt32)) h_3 _)).R hv_h_23) ?_
                 refine JL.nil ?_
                 replace hq15 := Option.some.inj hq15
                 first | subst hq15 | clear hq15
                 exact JQ.join () (Imp.norm (js := [0, 0, 0]) rfl (.cons rfl (.cons rfl (.cons rfl (.cons rfl (.cons rfl .nil))))))
               · refine JC.condF (.tmp rfl) hc18 ?_
                 refine JC.skip ?_
                 replace hq15 := Option.some.inj hq15
                 first | subst hq15 | clear hq15
                 exact JQ.join () (Imp.norm (js := [0, 0, 0]) rfl (.cons rfl (.cons rfl (.cons rfl (.cons rfl (.cons rfl .nil))))))
             · refine JC.region ?_
               refine jc (op_move lb (.tmp rfl)) ?_
               refine jc (op_move lb (.tmp rfl)) ?_
               replace hx15 := iteB_inv hx15
               rcases hx15 with ⟨hc17, hx15⟩ | ⟨hc17, hx15⟩
               · refine JL.run (.yes rfl (ltB rfl) rfl hc17) (op_move lb (.tmp rfl)) ?_
                 refine JL.run (.yes rfl (ltB rfl) rfl hc17) (op_lenH lb tu76 (.tmp rfl)) ?_
                 replace hx15 := lt1_inv hx15
                 obtain ⟨v_19, hv_v_19, hx15⟩ := hx15
                 refine JL.run (.yes rfl (ltB rfl) rfl hc17) (op_cmpI lb (.tmp rfl) .cI (congrArg some hv_v_19)) ?_
                 refine jc (op_pickT lb (.tmp rfl) hc17 (.tmp rfl)) ?_
                 refine JL.nil ?_
                 replace hx15 := Option.some.inj hx15
                 first | subst hx15 | clear hx15
                 exact JQ.join () (Imp.norm (js := [0, 0, 0]) rfl (.cons rfl (.cons rfl (.cons rfl (.cons rfl (.cons rfl (.cons rfl .nil)))))))
               · refine JL.skip (.no rfl (ltB rfl) rfl hc17) (fun d h => by cases h; exact ltB rfl) ?_
                 refine JL.skip (.no rfl (ltB rfl) rfl hc17) (fun d h => by cases h; exact ltB rfl) ?_
                 refine JL.skip (.no rfl (ltB rfl) rfl hc17) (fun d h => by cases h; exact ltB rfl) ?_
                 refine jc (op_pickF lb (.tmp rfl) hc17 .cB) ?_
                 refine JL.nil ?_
                 replace hx15 := Option.some.inj hx15
                 first | subst hx15 | clear hx15
                 exact JQ.join () (Imp.norm (js := [0, 0, 0]) rfl (.cons rfl (.cons rfl (.cons rfl (.cons rfl (.cons rfl (.cons rfl .nil)))))))
         · refine JC.seq ?_
           refine JC.region ?_
           refine jc (op_assign lb (HasO.cU (x := (2 : UInt64)) rfl (by decide))) ?_
           refine JL.nil ?_
           refine JQ.then ?_
           refine JC.block ?_
           refine JC.pre ?_ (JC.loop (γ := Unit) (stf := fun s q => ⟨[(0, ov (PTR gb_1 0)), (2, ov (PTR gb_2 0)), (3, ov (HDR go_6 0 (List.length k_4) gc_7)), (4, ov (S (rU UInt64) n_5)), (5, ov (S rB s.1)), (6, ov (S (rU UInt64) s.2))], [cvar gb_1 (rV 8 (rU UInt32)) (Vector.replicate 8 (0 : UInt32)), cvar gb_2 (rV 8 (rU UInt32)) h_3, cown go_6 (rU UInt32) k_4 0 gc_7], []⟩) (q := ()) hx5 ?_)
           · exact (Imp.norm (js := [0, 0, 0]) rfl (.cons rfl (.cons rfl (.cons rfl (.cons rfl (.cons rfl (.cons rfl .nil)))))))
           · intro s q x hx hr
             obtain ⟨is_9, d_10⟩ := s
             obtain _ := q
             change ref03_begun.b2 k n_5 is_9 d_10 = some x at hx
             unfold ref03_begun.b2 at hx
             refine JC.at ⟨[(0, ov (PTR gb_1 0)), (2, ov (PTR gb_2 0)), (3, ov (HDR go_6 0 (List.length k_4) gc_7)), (4, ov (S (rU UInt64) n_5)), (5, ov (S rB is_9)), (6, ov (S (rU UInt64) d_10))], [cvar gb_1 (rV 8 (rU UInt32)) (Vector.replicate 8 (0 : UInt32)), cvar gb_2 (rV 8 (rU UInt32)) h_3, cown go_6 (rU UInt32) k_4 0 gc_7], []⟩ ?_
             refine JC.seq ?_
             refine JC.seq ?_
             refine JC.region ?_
             refine jc (op_move lb (.tmp rfl)) ?_
             refine jc (op_move lb (.tmp rfl)) ?_
             replace hx := lt1_inv hx
             obtain ⟨v_11, hv_v_11, hx⟩ := hx
             refine jc (op_arU lb (.tmp rfl) (.tmp rfl) (congrArg some hv_v_11)) ?_
             refine jc (op_move lb (.tmp rfl)) ?_
             replace hx := lt1_inv hx
             obtain ⟨v_12, hv_v_12, hx⟩ := hx
             refine jc (op_cmpU lb (.tmp rfl) (.tmp rfl) (congrArg some hv_v_12)) ?_
             refine JL.nil ?_
             refine JQ.then ?_
             replace hx := iteB_inv hx
             rcases hx with ⟨hc7, hx⟩ | ⟨hc7, hx⟩
             · refine JC.condT (.tmp rfl) hc7 ?_
               refine JC.skip ?_
               refine JQ.then ?_
               replace hx := bnd_inv hx
               obtain ⟨is_16, hx8, hq8⟩ := hx
               refine JC.seqJ (γ := Unit) (stj := fun q => ⟨[(0, ov (PTR gb_1 0)), (2, ov (PTR gb_2 0)), (3, ov (HDR go_6 0 (List.length k_4) gc_7)), (4, ov (S (rU UInt64) n_5)), (5, ov (S rB is_16)), (6, ov (S (rU UInt64) d_10))], [cvar gb_1 (rV 8 (rU UInt32)) (Vector.replicate 8 (0 : UInt32)), cvar gb_2 (rV 8 (rU UInt32)) h_3, cown go_6 (rU UInt32) k_4 0 gc_7], []⟩) (fun q => ?_) ?_
               · obtain _ := q
                 refine JC.at ⟨[(0, ov (PTR gb_1 0)), (2, ov (PTR gb_2 0)), (3, ov (HDR go_6 0 (List.length k_4) gc_7)), (4, ov (S (rU UInt64) n_5)), (5, ov (S rB is_16)), (6, ov (S (rU UInt64) d_10))], [cvar gb_1 (rV 8 (rU UInt32)) (Vector.replicate 8 (0 : UInt32)), cvar gb_2 (rV 8 (rU UInt32)) h_3, cown go_6 (rU UInt32) k_4 0 gc_7], []⟩ ?_
                 refine JC.region ?_
                 refine jc (op_move lb (.tmp rfl)) ?_
                 replace hq8 := lt1_inv hq8
                 obtain ⟨v_17, hv_v_17, hq8⟩ := hq8
                 refine jc (op_arU lb (.tmp rfl) (HasO.cU (x := (1 : UInt64)) rfl (by decide)) (congrArg some hv_v_17)) ?_
                 refine jc (op_assign lb (.tmp rfl)) ?_
                 refine JL.nil ?_
                 replace hq8 := Option.some.inj hq8
                 first | subst hq8 | clear hq8
                 exact JQ.next () rfl (Imp.norm (js := [0, 0, 0]) rfl (.cons rfl (.cons rfl (.cons rfl (.cons rfl (.cons rfl (.cons rfl .nil)))))))
               · refine JC.block ?_
                 refine JC.region ?_
                 refine jc (op_move lb (.tmp rfl)) ?_
                 refine jc (op_move lb (.tmp rfl)) ?_
                 refine JL.cnd (sv := ov (S (rU UInt64) n_5)) (Guard.isT (ltB rfl) rfl rfl) rfl (ltB rfl) (fun hq_9 => op_move lb (.tmp rfl)) ?_
                 refine JL.cnd (sv := ov (S (rU UInt64) d_10)) (Guard.isT (ltB rfl) rfl rfl) rfl (ltB rfl) (fun hq_10 => op_move lb (.tmp rfl)) ?_
                 replace hx8 := bnd_inv hx8
                 obtain ⟨v_13, hv_v_13, hx8⟩ := hx8
                 refine JL.cnd (sv := ov (S (rU UInt64) v_13)) (Guard.isT (ltB rfl) rfl rfl) rfl (ltB rfl) (fun hq_11 => op_arU lb (HasO.cnd (.tmp rfl) hq_11) (HasO.cnd (.tmp rfl) hq_11) (ifT hv_v_13 hq_11)) ?_
                 replace hx8 := lt1_inv hx8
                 obtain ⟨v_14, hv_v_14, hx8⟩ := hx8
                 refine JL.cnd (sv := ov (S rB v_14)) (Guard.isT (ltB rfl) rfl rfl) rfl (ltB rfl) (fun hq_12 => op_cmpU lb (HasO.cnd (.tmp rfl) hq_12) (HasO.cU (x := (0 : UInt64)) rfl (by decide)) (congrArg some hv_v_14)) ?_
                 replace hx8 := lt1_inv hx8
                 obtain ⟨v_15, hv_v_15, hx8⟩ := hx8
                 refine jc (op_pickCS lb (.tmp rfl) (fun hb13 => (HasO.cnd (.tmp rfl) hb13)) (fun hb13 => .cB) hv_v_15) ?_
                 refine JL.sub ⟨[(0, ov (PTR gb_1 0)), (2, ov (PTR gb_2 0)), (3, ov (HDR go_6 0 (List.length k_4) gc_7)), (4, ov (S (rU UInt64) n_5)), (5, ov (S rB is_9)), (6, ov (S (rU UInt64) d_10)), (25, ov (S rB v_15))], [cvar gb_1 (rV 8 (rU UInt32)) (Vector.replicate 8 (0 : UInt32)), cvar gb_2 (rV 8 (rU UInt32)) h_3, cown go_6 (rU UInt32) k_4 0 gc_7], []⟩ rfl rfl rfl ?_
                 refine jc (op_assign lb (.tmp rfl)) ?_
                 refine JL.nil ?_
                 refine JQ.outNB ?_
                 replace hx8 := Option.some.inj hx8
                 first | subst hx8 | clear hx8
                 exact JQ.join () (Imp.norm (js := [0, 0, 0]) rfl (.cons rfl (.cons rfl (.cons rfl (.cons rfl (.cons rfl (.cons rfl .nil)))))))
             · refine JC.condF (.tmp rfl) hc7 ?_
               refine JC.exit ?_
               refine JQ.outX ?_
               replace hx := Option.some.inj hx
               first | subst hx | clear hx
               have ht := hr _ rfl
               have hq6 := congrArg some ht
               clear hr ht
               refine JQ.outX ?_
               refine JQ.here ?_
               replace hq6 := Option.some.inj hq6
               first | subst hq6 | clear hq6
               exact JQ.join () (Imp.norm (js := [0, 0, 0]) rfl (.cons rfl (.cons rfl (.cons rfl (.cons rfl (.cons rfl .nil))))))
     · refine JC.condF (.tmp rfl) hc3 ?_
       refine JC.exit ?_
       refine JQ.outX ?_
       replace hx := Option.some.inj hx
       first | subst hx | clear hx
       have ht := hr _ rfl
       have hq2 := congrArg some ht
       clear hr ht
       refine JQ.outX ?_
       refine JQ.here ?_
       replace hq2 := Option.some.inj hq2
       replace hq2 := Prod.mk.inj hq2
       obtain ⟨hq2_a, hq2⟩ := hq2
       first | subst hq2_a | clear hq2_a
       first | subst hq2 | clear hq2
       exact JQ.join (go_6, gc_7) (Imp.norm (js := [0, 0, 0]) rfl (.cons rfl (.cons rfl (.cons rfl .nil))))

theorem sim_ref03_pad (k : Nat) (b_1 : (List UInt8)) (r : (List UInt8)) (hm : ref03_pad k b_1 = some r) : Sim Try.prog 44 [S (rL (rU UInt8)) b_1] [] (γ := Option Nat × Nat) (fun q => [cown q.1 (rU UInt8) r 0 q.2]) (fun q => .one (.val (HDR q.1 0 (List.length r) q.2))) := by
 unfold ref03_pad at hm
 refine Sim.of Try.func44 rfl rfl (Nat.le_of_ble_eq_true rfl) (fun e0 w0 => ?_)
 refine JC.at ⟨[(0, ov (S (rL (rU UInt8)) b_1))], [], []⟩ ?_
 refine JC.seq ?_
 refine JC.region ?_
 refine jc (op_assign lb HasO.nilH) ?_
 refine JL.nil ?_
 refine JQ.then ?_
 refine JC.seq ?_
 refine JC.region ?_
 refine jc (op_move lb (.tmp rfl)) ?_
 replace hm := bnd_inv hm
 obtain ⟨v_2, hv_v_2, hm⟩ := hm
 refine JL.pre (Imp.nilown (rU UInt8)) ?_
 refine jx (op_appendL (j := 0) lb tu22 tu22 rfl tB5 rfl (Nat.lt_of_lt_of_le Nat.zero_lt_one (Nat.le_of_ble_eq_true rfl)) (Nat.lt_of_lt_of_le Nat.zero_lt_one (Nat.le_of_ble_eq_true rfl))  rfl HasO.nilH (.tmp rfl) hv_v_2) (fun q => ?_)
 obtain ⟨go_3, gc_4⟩ := q
 refine JL.sub ⟨[(0, ov (S (rL (rU UInt8)) b_1)), (5, ov (HDR go_3 0 (List.length v_2) gc_4))], [cown go_3 (rU UInt8) v_2 0 gc_4], []⟩ rfl rfl rfl ?_
 refine jc (op_buildF (r := (rU UInt8)) lb tu22 tz5 tZ5 rfl (Nat.le_of_ble_eq_true rfl) (.S rfl (HasO.cU (x := (128 : UInt8)) rfl (by decide)) .nil) rfl) ?_
 replace hm := bnd_inv hm
 obtain ⟨x_5, hv_x_5, hm⟩ := hm
 refine jx (op_appendL (j := 0) lb tu22 tu22 rfl tB5 rfl (Nat.lt_of_lt_of_le Nat.zero_lt_one (Nat.le_of_ble_eq_true rfl)) (Nat.lt_of_lt_of_le Nat.zero_lt_one (Nat.le_of_ble_eq_true rfl))  rfl (.tmp rfl) (.tmp rfl) hv_x_5) (fun q => ?_)
 obtain ⟨go_6, gc_7⟩ := q
 refine jc (op_assign lb (.tmp rfl)) ?_
 refine JL.nil ?_
 refine JQ.then ?_
 replace hm := bnd_inv hm
 obtain ⟨o_16, hx1, hq1⟩ := hm
 refine JC.seqJ (γ := Option Nat × Nat) (stj := fun q => ⟨[(0, ov (S (rL (rU UInt8)) b_1)), (3, ov (HDR q.1 0 (List.length o_16) q.2))], [cown q.1 (rU UInt8) o_16 0 q.2], []⟩) (fun q => ?_) ?_
 · obtain ⟨go_17, gc_18⟩ := q
   refine JC.at ⟨[(0, ov (S (rL (rU UInt8)) b_1)), (3, ov (HDR go_17 0 (List.length o_16) gc_18))], [cown go_17 (rU UInt8) o_16 0 gc_18], []⟩ ?_
   refine JC.seq ?_
   refine JC.region ?_
   refine jc (op_move lb (.tmp rfl)) ?_
   refine jc (op_move lb (.tmp rfl)) ?_
   refine jc (op_lenL lb tu22 (.tmp rfl)) ?_
   replace hq1 := lt1_inv hq1
   obtain ⟨v_19, hv_v_19, hq1⟩ := hq1
   refine jc (op_convIU lb tu3 tu23 (.tmp rfl) hv_v_19) ?_
   replace hq1 := lt1_inv hq1
   obtain ⟨v_20, hv_v_20, hq1⟩ := hq1
   refine jc (op_arU lb (.tmp rfl) (HasO.cU (x := (8 : UInt64)) rfl (by decide)) (congrArg some hv_v_20)) ?_
   replace hq1 := bnd_inv hq1
   obtain ⟨v_21, hv_v_21, hq1⟩ := hq1
   refine jx (op_call (js := []) ld cl37 (sim_ref01_Put k v_20 (8 : Int) v_21 hv_v_21) .func (.cons (.tmp rfl) (.cons .cI .nil)) rfl) (fun q => ?_)
   obtain ⟨go_22, hqq⟩ : ∃ z, z = q := ⟨_, rfl⟩
   subst hqq
   replace hq1 := bnd_inv hq1
   obtain ⟨o_23, hv_o_23, hq1⟩ := hq1
   refine jx (op_appendO (j := 1) (j' := 0) lb tu22 tu22 rfl tB5 rfl (Nat.lt_of_lt_of_le Nat.zero_lt_one (Nat.le_of_ble_eq_true rfl)) (Nat.lt_of_lt_of_le Nat.zero_lt_one (Nat.le_of_ble_eq_true rfl))  rfl (.tmp rfl) rfl (.tmp rfl) hv_o_23) (fun q => ?_)
   obtain ⟨go_24, gc_25⟩ := q
   refine jc (op_assign lb (.tmp rfl)) ?_
   refine JL.nrm ⟨[(2, ov (HDR go_24 0 (List.length o_23) gc_25))], [cown go_24 (rU UInt8) o_23 0 gc_25], []⟩ [1] rfl rfl rfl ?_
   refine JL.nil ?_
   refine JQ.then ?_
   refine JC.ret ?_
   replace hq1 := Option.some.inj hq1
   subst hq1
   exact JQ.done (js := [0]) (ss := [.val (HDR go_24 0 (List.length o_23) gc_25)]) (go_24, gc_25) (.inl rfl) (.nil rfl) rfl (.cons (.tmp rfl) .nil) rfl rfl rfl
 · refine JC.block ?_
   refine JC.pre ?_ (JC.loop (γ := Option Nat × Nat) (stf := fun s q => ⟨[(0, ov (S (rL (rU UInt8)) b_1)), (3, ov (HDR q.1 0 (List.length s) q.2))], [cown q.1 (rU UInt8) s 0 q.2], []⟩) (q := (go_6, gc_7)) hx1 ?_)
   · exact (Imp.norm (js := [0]) rfl (.cons rfl (.cons rfl .nil)))
   · intro o_8 q x hx hr
     obtain ⟨go_9, gc_10⟩ := q
     change ref03_pad.b1 k o_8 = some x at hx
     unfold ref03_pad.b1 at hx
     refine JC.at ⟨[(0, ov (S (rL (rU UInt8)) b_1)), (3, ov (HDR go_9 0 (List.length o_8) gc_10))], [cown go_9 (rU UInt8) o_8 0 gc_10], []⟩ ?_
     refine JC.seq ?_
     refine JC.seq ?_
     refine JC.region ?_
     refine jc (op_move lb (.tmp rfl)) ?_
     refine jc (op_lenH lb tu22 (.tmp rfl)) ?_
     replace hx := bnd_inv hx
     obtain ⟨v_11, hv_v_11, hx⟩ := hx
     refine jc (op_arI lb (.tmp rfl) .cI hv_v_11) ?_
     replace hx := lt1_inv hx
     obtain ⟨v_12, hv_v_12, hx⟩ := hx
     refine jc (op_cmpI lb (.tmp rfl) .cI (congrArg some hv_v_12)) ?_
     refine JL.nil ?_
     refine JQ.then ?_
     replace hx := iteB_inv hx
     rcases hx with ⟨hc3, hx⟩ | ⟨hc3, hx⟩
     · refine JC.condT (.tmp rfl) hc3 ?_
       refine JC.skip ?_
       refine JQ.then ?_
       refine JC.block ?_
       refine JC.region ?_
       refine jc (op_move lb (.tmp rfl)) ?_
       refine jc (op_buildF (r := (rU UInt8)) lb tu22 tz5 tZ5 rfl (Nat.le_of_ble_eq_true rfl) (.S rfl (HasO.cU (x := (0 : UInt8)) rfl (by decide)) .nil) rfl) ?_
       replace hx := bnd_inv hx
       obtain ⟨o_13, hv_o_13, hx⟩ := hx
       refine jx (op_appendL (j := 0) lb tu22 tu22 rfl tB5 rfl (Nat.lt_of_lt_of_le Nat.zero_lt_one (Nat.le_of_ble_eq_true rfl)) (Nat.lt_of_lt_of_le Nat.zero_lt_one (Nat.le_of_ble_eq_true rfl))  rfl (.tmp rfl) (.tmp rfl) hv_o_13) (fun q => ?_)
       obtain ⟨go_14, gc_15⟩ := q
       refine jc (op_assign lb (.tmp rfl)) ?_
       refine JL.nil ?_
       refine JQ.outNB ?_
       replace hx := Option.some.inj hx
       first | subst hx | clear hx
       exact JQ.next (go_14, gc_15) rfl (Imp.norm (js := [0]) rfl (.cons rfl (.cons rfl .nil)))
     · refine JC.condF (.tmp rfl) hc3 ?_
       refine JC.exit ?_
       refine JQ.outX ?_
       replace hx := Option.some.inj hx
       first | subst hx | clear hx
       have ht := hr _ rfl
       have hq2 := congrArg some ht
       clear hr ht
       refine JQ.outX ?_
       refine JQ.here ?_
       replace hq2 := Option.some.inj hq2
       first | subst hq2 | clear hq2
       exact JQ.join (go_9, gc_10) (Imp.norm (js := [0]) rfl (.cons rfl (.cons rfl .nil)))

theorem sim_ref01_Get (k : Nat) (b_1 : (List UInt8)) (r : UInt64) (hm : ref01_Get k b_1 = some r) : Sim Try.prog 29 [S (rL (rU UInt8)) b_1] [] (γ := Unit) (fun q => []) (fun q => .one (.val (S (rU UInt64) r))) := by
 unfold ref01_Get at hm
 refine Sim.of Try.func29 rfl rfl (Nat.le_of_ble_eq_true rfl) (fun e0 w0 => ?_)
 refine JC.at ⟨[(0, ov (S (rL (rU UInt8)) b_1))], [], []⟩ ?_
 refine JC.seq ?_
 refine JC.region ?_
 refine jc (op_assign lb (HasO.cU (x := (0 : UInt64)) rfl (by decide))) ?_
 refine JL.nil ?_
 refine JQ.then ?_
 refine JC.seq ?_
 refine JC.region ?_
 refine jc (op_assign lb (HasO.cU (x := (0 : UInt64)) rfl (by decide))) ?_
 refine JL.nil ?_
 refine JQ.then ?_
 replace hm := bnd_inv hm
 obtain ⟨n_10, hx1, hq1⟩ := hm
 refine JC.seqJ (γ := Unit) (stj := fun q => ⟨[(3, ov (S (rU UInt64) n_10))], [], []⟩) (fun q => ?_) ?_
 · obtain _ := q
   refine JC.at ⟨[(3, ov (S (rU UInt64) n_10))], [], []⟩ ?_
   refine JC.seq ?_
   refine JC.region ?_
   refine jc (op_move lb (.tmp rfl)) ?_
   refine jc (op_assign lb (.tmp rfl)) ?_
   refine JL.nil ?_
   refine JQ.then ?_
   refine JC.ret ?_
   replace hq1 := Option.some.inj hq1
   subst hq1
   exact JQ.done (js := []) (ss := [.val (S (rU UInt64) n_10)]) () (.inl rfl) (.nil rfl) rfl (.cons (.tmp rfl) .nil) rfl rfl rfl
 · refine JC.seq ?_
   refine JC.region ?_
   refine jc (op_assign lb .cI) ?_
   refine JL.nil ?_
   refine JQ.then ?_
   refine JC.block ?_
   refine JC.pre ?_ (JC.loop (γ := Unit) (stf := fun s q => ⟨[(0, ov (S (rL (rU UInt8)) b_1)), (3, ov (S (rU UInt64) s.1)), (4, ov (S (rI .i64) s.2))], [], []⟩) (q := ()) hx1 ?_)
   · exact (Imp.norm (js := []) rfl (.cons rfl (.cons rfl (.cons rfl .nil))))
   · intro s q x hx hr
     obtain ⟨n_2, i_3⟩ := s
     obtain _ := q
     change ref01_Get.b1 k b_1 n_2 i_3 = some x at hx
     unfold ref01_Get.b1 at hx
     refine JC.at ⟨[(0, ov (S (rL (rU UInt8)) b_1)), (3, ov (S (rU UInt64) n_2)), (4, ov (S (rI .i64) i_3))], [], []⟩ ?_
     refine JC.seq ?_
     refine JC.seq ?_
     refine JC.region ?_
     refine jc (op_move lb (.tmp rfl)) ?_
     refine jc (op_move lb (.tmp rfl)) ?_
     refine jc (op_lenL lb tu22 (.tmp rfl)) ?_
     replace hx := lt1_inv hx
     obtain ⟨v_4, hv_v_4, hx⟩ := hx
     refine jc (op_cmpI lb (.tmp rfl) (.tmp rfl) (congrArg some hv_v_4)) ?_
     refine JL.nil ?_
     refine JQ.then ?_
     replace hx := iteB_inv hx
     rcases hx with ⟨hc3, hx⟩ | ⟨hc3, hx⟩
     · refine JC.condT (.tmp rfl) hc3 ?_
       refine JC.skip ?_
       refine JQ.then ?_
       refine JC.seq ?_
       refine JC.block ?_
       refine JC.region ?_
       refine jc (op_move lb (.tmp rfl)) ?_
       replace hx := lt1_inv hx
       obtain ⟨v_5, hv_v_5, hx⟩ := hx
       refine jc (op_arU lb (.tmp rfl) (HasO.cU (x := (256 : UInt64)) rfl (by decide)) (congrArg some hv_v_5)) ?_
       refine jc (op_move lb (.tmp rfl)) ?_
       refine jc (op_move lb (.tmp rfl)) ?_
       replace hx := bnd_inv hx
       obtain ⟨v_6, hv_v_6, hx⟩ := hx
       refine jc (op_indexAddrLg lb tu22 tz5 (.tmp rfl) (.tmp rfl) hv_v_6) ?_
       refine jc (op_loadPSg lb tS5 rfl (.tmp rfl) rfl) ?_
       replace hx := lt1_inv hx
       obtain ⟨v_7, hv_v_7, hx⟩ := hx
       refine jc (op_convUU lb tu5 tu23 (.tmp rfl) hv_v_7) ?_
       replace hx := lt1_inv hx
       obtain ⟨v_8, hv_v_8, hx⟩ := hx
       refine jc (op_arU lb (.tmp rfl) (.tmp rfl) (congrArg some hv_v_8)) ?_
       refine JL.sub ⟨[(0, ov (S (rL (rU UInt8)) b_1)), (3, ov (S (rU UInt64) n_2)), (4, ov (S (rI .i64) i_3)), (18, ov (S (rU UInt64) v_8))], [], []⟩ rfl rfl rfl ?_
       refine jc (op_assign lb (.tmp rfl)) ?_
       refine JL.nil ?_
       refine JQ.outNB ?_
       refine JQ.then ?_
       refine JC.region ?_
       refine jc (op_move lb (.tmp rfl)) ?_
       replace hx := lt1_inv hx
       obtain ⟨v_9, hv_v_9, hx⟩ := hx
       refine jc (op_arI lb (.tmp rfl) .cI (congrArg some hv_v_9)) ?_
       refine jc (op_assign lb (.tmp rfl)) ?_
       refine JL.nil ?_
       replace hx := Option.some.inj hx
       first | subst hx | clear hx
       exact JQ.next () rfl (Imp.norm (js := []) rfl (.cons rfl (.cons rfl (.cons rfl .nil))))
     · refine JC.condF (.tmp rfl) hc3 ?_
       refine JC.exit ?_
       refine JQ.outX ?_
       replace hx := Option.some.inj hx
       first | subst hx | clear hx
       have ht := hr _ rfl
       have hq2 := congrArg some ht
       clear hr ht
       refine JQ.outX ?_
       refine JQ.here ?_
       replace hq2 := Option.some.inj hq2
       first | subst hq2 | clear hq2
       exact JQ.join () (Imp.norm (js := []) rfl (.cons rfl .nil))

theorem sim_ref03_ror (k : Nat) (x_1 : UInt32) (n_2 : UInt64) (r : UInt32) (hm : ref03_ror k x_1 n_2 = some r) : Sim Try.prog 52 [S (rU UInt32) x_1, S (rU UInt64) n_2] [] (γ := Unit) (fun q => []) (fun q => .one (.val (S (rU UInt32) r))) := by
 unfold ref03_ror at hm
 refine Sim.of Try.func52 rfl rfl (Nat.le_of_ble_eq_true rfl) (fun e0 w0 => ?_)
 refine JC.at ⟨[(0, ov (S (rU UInt32) x_1)), (1, ov (S (rU UInt64) n_2))], [], []⟩ ?_
 refine JC.seq ?_
 refine JC.region ?_
 refine jc (op_assign lb (HasO.cU (x := (0 : UInt32)) rfl (by decide))) ?_
 refine JL.nil ?_
 refine JQ.then ?_
 refine JC.seq ?_
 refine JC.region ?_
 refine jc (op_move lb (.tmp rfl)) ?_
 refine jc (op_move lb (.tmp rfl)) ?_
 replace hm := lt1_inv hm
 obtain ⟨v_3, hv_v_3, hm⟩ := hm
 refine jc (op_shrUU lb (.tmp rfl) (.tmp rfl) hv_v_3) ?_
 refine jc (op_move lb (.tmp rfl)) ?_
 refine jc (op_move lb (.tmp rfl)) ?_
 replace hm := lt1_inv hm
 obtain ⟨v_4, hv_v_4, hm⟩ := hm
 refine jc (op_arU lb (HasO.cU (x := (32 : UInt64)) rfl (by decide)) (.tmp rfl) (congrArg some hv_v_4)) ?_
 replace hm := lt1_inv hm
 obtain ⟨v_5, hv_v_5, hm⟩ := hm
 refine jc (op_shlUU lb (.tmp rfl) (.tmp rfl) hv_v_5) ?_
 replace hm := lt1_inv hm
 obtain ⟨v_6, hv_v_6, hm⟩ := hm
 refine jc (op_arU lb (.tmp rfl) (.tmp rfl) (congrArg some hv_v_6)) ?_
 refine jc (op_assign lb (.tmp rfl)) ?_
 refine JL.nil ?_
 refine JQ.then ?_
 refine JC.ret ?_
 replace hm := Option.some.inj hm
 subst hm
 exact JQ.done (js := []) (ss := [.val (S (rU UInt32) v_6)]) () (.inl rfl) (.nil rfl) rfl (.cons (.tmp rfl) .nil) rfl rfl rfl

end Go.Proofs.Ytnhiiabdoichlaa
