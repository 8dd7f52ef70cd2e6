/- Walks. -/
import Derived.Test.YtnhiiabdoichlaaT
import Derived.Test.YtnhiiabdoichlaaW0
namespace Go.Proofs.Ytnhiiabdoichlaa
open Go Fw
set_option linter.unusedVariables false
set_option maxRecDepth 100000
set_option maxHeartbeats 4000000

theorem sim_sha_primes (k : Nat) (r : (List UInt64)) (hm : sha_primes k = some r) : Sim Try.prog 46 [] [] (γ := Option Nat × Nat) (fun q => [cown q.1 (rU UInt64) r (List.length r) q.2]) (fun q => .one (.val (HDR q.1 0 (List.length r) q.2))) := by
 unfold sha_primes at hm
 refine Sim.of Try.func46 rfl rfl (Nat.le_of_ble_eq_true rfl) (fun e0 w0 => ?_)
 refine JC.at ⟨[], [], []⟩ ?_
 refine JC.seq ?_
 refine JC.region ?_
 refine jc (op_assign lb HasO.nilH) ?_
 refine JL.nil ?_
 refine JQ.then ?_
 refine JC.seq ?_
 refine JC.region ?_
 refine jc (op_assign lb HasO.nilH) ?_
 refine JL.nil ?_
 refine JQ.then ?_
 replace hm := bnd_inv hm
 obtain ⟨l_18, hx1, hq1⟩ := hm
 refine JC.seqJ (γ := Option Nat × Nat) (stj := fun q => ⟨[(1, ov (HDR q.1 0 (List.length l_18) q.2))], [cown q.1 (rU UInt64) l_18 (List.length l_18) q.2], []⟩) (fun q => ?_) ?_
 · obtain ⟨go_19, gc_20⟩ := q
   refine JC.at ⟨[(1, ov (HDR go_19 0 (List.length l_18) gc_20))], [cown go_19 (rU UInt64) l_18 (List.length l_18) gc_20], []⟩ ?_
   refine JC.seq ?_
   refine JC.region ?_
   refine jc (op_move lb (.tmp rfl)) ?_
   refine jc (op_assign lb (.tmp rfl)) ?_
   refine JL.nil ?_
   refine JQ.then ?_
   refine JC.ret ?_
   replace hq1 := Option.some.inj hq1
   subst hq1
   exact JQ.done (js := [0]) (ss := [.val (HDR go_19 0 (List.length l_18) gc_20)]) (go_19, gc_20) (.inl rfl) (.nil rfl) rfl (.cons (.tmp rfl) .nil) rfl rfl rfl
 · refine JC.seq ?_
   refine JC.region ?_
   refine jx (op_alloc lb tZ23 zr23) (fun q => ?_)
   obtain ⟨gb_1, hqq⟩ : ∃ z, z = q := ⟨_, rfl⟩
   subst hqq
   refine jc (op_storeS (j := 0) tS23 (.tmp rfl) (HasO.cU (x := (2 : UInt64)) rfl (by decide)) rfl rfl (UpdR.self (by rfl)) rfl) ?_
   refine JL.nil ?_
   refine JQ.then ?_
   refine JC.block ?_
   refine JC.pre (Imp.nilown (rU UInt64)) ?_
   refine JC.pre (Imp.frz (j := 1) rfl ImpK.refl) ?_
   refine JC.pre ?_ (JC.loop (γ := Option Nat × Nat × Nat) (stf := fun s q => ⟨[(1, ov (HDR q.1 0 (List.length s.1) q.2.1)), (2, ov (PTR q.2.2 0))], [cown q.1 (rU UInt64) s.1 (List.length s.1) q.2.1, cvar q.2.2 (rU UInt64) s.2], []⟩) (q := (none, 0, gb_1)) hx1 ?_)
   · exact (Imp.norm (js := [1, 0]) rfl (.cons rfl (.cons rfl .nil)))
   · intro s q x hx hr
     obtain ⟨l_2, n_3⟩ := s
     obtain ⟨go_4, gc_5, gb_6⟩ := q
     change sha_primes.b1 k l_2 n_3 = some x at hx
     unfold sha_primes.b1 at hx
     refine JC.at ⟨[(1, ov (HDR go_4 0 (List.length l_2) gc_5)), (2, ov (PTR gb_6 0))], [cown go_4 (rU UInt64) l_2 (List.length l_2) gc_5, cvar gb_6 (rU UInt64) n_3], []⟩ ?_
     refine JC.seq ?_
     refine JC.seq ?_
     refine JC.region ?_
     refine jc (op_move lb (.tmp rfl)) ?_
     refine jc (op_lenH lb tu81 (.tmp rfl)) ?_
     replace hx := lt1_inv hx
     obtain ⟨v_7, hv_v_7, hx⟩ := hx
     refine jc (op_cmpI lb (.tmp rfl) .cI (congrArg some hv_v_7)) ?_
     refine JL.nil ?_
     refine JQ.then ?_
     replace hx := iteB_inv hx
     rcases hx with ⟨hc3, hx⟩ | ⟨hc3, hx⟩
     · refine JC.condT (.tmp rfl) hc3 ?_
       refine JC.skip ?_
       refine JQ.then ?_
       replace hx := bnd_inv hx
       obtain ⟨l_13, hx4, hq4⟩ := hx
       refine JC.seqJ (γ := Option Nat × Nat) (stj := fun q => ⟨[(1, ov (HDR q.1 0 (List.length l_13) q.2)), (2, ov (PTR gb_6 0))], [cown q.1 (rU UInt64) l_13 (List.length l_13) q.2, cvar gb_6 (rU UInt64) n_3], []⟩) (fun q => ?_) ?_
       · obtain ⟨go_14, gc_15⟩ := q
         refine JC.at ⟨[(1, ov (HDR go_14 0 (List.length l_13) gc_15)), (2, ov (PTR gb_6 0))], [cown go_14 (rU UInt64) l_13 (List.length l_13) gc_15, cvar gb_6 (rU UInt64) n_3], []⟩ ?_
         refine JC.seq ?_
         refine JC.seq ?_
         refine JC.region ?_
         refine jc (op_loadS (j := 1) lb tS23 (.tmp rfl) rfl (Comp.self (rU UInt64) n_3) rfl rfl) ?_
         refine JL.nil ?_
         refine JQ.then ?_
         refine JC.region ?_
         refine jx (op_alloc lb tZ23 zr23) (fun q => ?_)
         obtain ⟨gb_16, hqq⟩ : ∃ z, z = q := ⟨_, rfl⟩
         subst hqq
         refine jc (op_storeS (j := 2) tS23 (.tmp rfl) (.tmp rfl) rfl rfl (UpdR.self (by rfl)) rfl) ?_
         refine JL.nil ?_
         refine JQ.then ?_
         refine JC.region ?_
         refine jc (op_loadS (j := 2) lb tS23 (.tmp rfl) rfl (Comp.self (rU UInt64) n_3) rfl rfl) ?_
         replace hq4 := lt1_inv hq4
         obtain ⟨v_17, hv_v_17, hq4⟩ := hq4
         refine jc (op_arU lb (.tmp rfl) (HasO.cU (x := (1 : UInt64)) rfl (by decide)) (congrArg some hv_v_17)) ?_
         refine jc (op_storeS (j := 2) tS23 (.tmp rfl) (.tmp rfl) rfl rfl (UpdR.self (by rfl)) rfl) ?_
         refine JL.nrm ⟨[(1, ov (HDR go_14 0 (List.length l_13) gc_15)), (2, ov (PTR gb_16 0))], [cown go_14 (rU UInt64) l_13 (List.length l_13) gc_15, cvar gb_16 (rU UInt64) v_17], []⟩ [0, 1] rfl rfl rfl ?_
         refine JL.nil ?_
         replace hq4 := Option.some.inj hq4
         first | subst hq4 | clear hq4
         exact JQ.next (go_14, gc_15, gb_16) rfl (Imp.norm (js := [0, 0]) rfl (.cons rfl (.cons rfl .nil)))
       · refine JC.block ?_
         refine JC.seq ?_
         refine JC.region ?_
         refine jc (op_move lb (.tmp rfl)) ?_
         refine jc (op_makeFunc lb (.cons (.tmp rfl) .nil)) ?_
         replace hx4 := bnd_inv hx4
         obtain ⟨v_8, hv_v_8, hx4⟩ := hx4
         refine JL.pre (Imp.frz (j := 0) rfl (ImpK.slotH (s := 1) rfl (ImpK.slotH (s := 3) rfl (ImpK.slotH (s := 8) rfl ImpK.refl)))) ?_
         refine jx (op_call (js := [1]) ld cl53 (sim_slices_ContainsFuncuint64_uint64 k l_2 n_3 gb_6 v_8 hv_v_8) .func (.cons (HasO.wk (.tmp rfl) wkHL) (.cons (.tmp rfl) .nil)) rfl) (fun _ => ?_)
         replace hx4 := lt1_inv hx4
         obtain ⟨v_9, hv_v_9, hx4⟩ := hx4
         refine jc (op_not lb (.tmp rfl) hv_v_9) ?_
         refine JL.nil ?_
         refine JQ.then ?_
         replace hx4 := iteB_inv hx4
         rcases hx4 with ⟨hc5, hx4⟩ | ⟨hc5, hx4⟩
         · refine JC.condT (.tmp rfl) hc5 ?_
           refine JC.region ?_
           refine jc (op_move lb (.tmp rfl)) ?_
           refine jc (op_loadS (j := 0) lb tS23 (.tmp rfl) rfl (Comp.self (rU UInt64) n_3) rfl rfl) ?_
           refine jc (op_buildF (r := (rU UInt64)) lb tu81 tz23 tZ23 rfl (Nat.le_of_ble_eq_true rfl) (.S rfl (.tmp rfl) .nil) rfl) ?_
           refine JL.sub ⟨[(1, ov (HL go_4 (rU UInt64) l_2 gc_5)), (2, ov (PTR gb_6 0)), (12, ov (HL go_4 (rU UInt64) l_2 gc_5)), (14, ov (S (rL (rU UInt64)) ([n_3] : (List UInt64))))], [cvar gb_6 (rU UInt64) n_3, cown go_4 (rU UInt64) l_2 (List.length l_2) gc_5], []⟩ rfl rfl rfl ?_
           replace hx4 := bnd_inv hx4
           obtain ⟨x_10, hv_x_10, hx4⟩ := hx4
           refine JL.pre (Imp.slot (s := 12) rfl wkHH) ?_
           refine JL.pre (Imp.slot (s := 1) rfl wkHL) ?_
           refine jx (op_appendL (j := 1) lb tu81 tu81 rfl tB23 rfl (Nat.lt_of_lt_of_le Nat.zero_lt_one (Nat.le_of_ble_eq_true rfl)) (Nat.lt_of_lt_of_le Nat.zero_lt_one (Nat.le_of_ble_eq_true rfl))  rfl (.tmp rfl) (.tmp rfl) hv_x_10) (fun q => ?_)
           obtain ⟨go_11, gc_12⟩ := q
           refine JL.sub ⟨[(1, ov (S (rL (rU UInt64)) l_2)), (2, ov (PTR gb_6 0)), (15, ov (HDR go_11 0 (List.length x_10) gc_12))], [cvar gb_6 (rU UInt64) n_3, cown go_11 (rU UInt64) x_10 (List.length l_2) gc_12], []⟩ rfl rfl rfl ?_
           refine jc (op_assign lb (.tmp rfl)) ?_
           refine JL.nil ?_
           refine JQ.outNB ?_
           replace hx4 := Option.some.inj hx4
           first | subst hx4 | clear hx4
           refine JQ.pre (Imp.frz (j := 1) rfl ImpK.refl) ?_
           exact JQ.join (go_11, gc_12) (Imp.norm (js := [1, 0]) rfl (.cons rfl (.cons rfl .nil)))
         · refine JC.condF (.tmp rfl) hc5 ?_
           refine JC.skip ?_
           refine JQ.outNB ?_
           replace hx4 := Option.some.inj hx4
           first | subst hx4 | clear hx4
           refine JQ.pre (Imp.slot (s := 1) rfl wkHH) ?_
           exact JQ.join (go_4, gc_5) (Imp.norm (js := [1, 0]) rfl (.cons rfl (.cons rfl .nil)))
     · refine JC.condF (.tmp rfl) hc3 ?_
       refine JC.exit ?_
       refine JQ.outX ?_
       replace hx := Option.some.inj hx
       first | subst hx | clear hx
       have ht := hr _ rfl
       have hq2 := congrArg some ht
       clear hr ht
       refine JQ.outX ?_
       refine JQ.here ?_
       replace hq2 := Option.some.inj hq2
       first | subst hq2 | clear hq2
       exact JQ.join (go_4, gc_5) (Imp.norm (js := [0]) rfl (.cons rfl .nil))

theorem sim_math_bits_Mul64 (k : Nat) (x_1 : UInt64) (y_2 : UInt64) (r : UInt64 × UInt64) (hm : math_bits_Mul64 k x_1 y_2 = some r) : Sim Try.prog 66 [S (rU UInt64) x_1, S (rU UInt64) y_2] [] (γ := Unit) (fun q => []) (fun q => .tup [.val (S (rU UInt64) r.1), .val (S (rU UInt64) r.2)]) := by
 unfold math_bits_Mul64 at hm
 refine Sim.of Try.func66 rfl rfl (Nat.le_of_ble_eq_true rfl) (fun e0 w0 => ?_)
 refine JC.at ⟨[(0, ov (S (rU UInt64) x_1)), (1, ov (S (rU UInt64) y_2))], [], []⟩ ?_
 refine JC.seq ?_
 refine JC.region ?_
 refine jc (op_assign lb (HasO.cU (x := (0 : UInt64)) rfl (by decide))) ?_
 refine jc (op_assign lb (HasO.cU (x := (0 : UInt64)) rfl (by decide))) ?_
 refine JL.nil ?_
 refine JQ.then ?_
 refine JC.seq ?_
 refine JC.region ?_
 refine jc (op_move lb (.tmp rfl)) ?_
 replace hm := lt1_inv hm
 obtain ⟨v_3, hv_v_3, hm⟩ := hm
 refine jc (op_arU lb (.tmp rfl) (HasO.cU (x := (4294967295 : UInt64)) rfl (by decide)) (congrArg some hv_v_3)) ?_
 refine jc (op_assign lb (.tmp rfl)) ?_
 refine JL.nil ?_
 refine JQ.then ?_
 refine JC.seq ?_
 refine JC.region ?_
 refine jc (op_move lb (.tmp rfl)) ?_
 replace hm := lt1_inv hm
 obtain ⟨v_4, hv_v_4, hm⟩ := hm
 refine jc (op_shrUU lb (.tmp rfl) (HasO.cU (x := (32 : UInt64)) rfl (by decide)) hv_v_4) ?_
 refine jc (op_assign lb (.tmp rfl)) ?_
 refine JL.nil ?_
 refine JQ.then ?_
 refine JC.seq ?_
 refine JC.region ?_
 refine jc (op_move lb (.tmp rfl)) ?_
 replace hm := lt1_inv hm
 obtain ⟨v_5, hv_v_5, hm⟩ := hm
 refine jc (op_arU lb (.tmp rfl) (HasO.cU (x := (4294967295 : UInt64)) rfl (by decide)) (congrArg some hv_v_5)) ?_
 refine jc (op_assign lb (.tmp rfl)) ?_
 refine JL.nil ?_
 refine JQ.then ?_
 refine JC.seq ?_
 refine JC.region ?_
 refine jc (op_move lb (.tmp rfl)) ?_
 refine JL.sub ⟨[(0, ov (S (rU UInt64) x_1)), (1, ov (S (rU UInt64) y_2)), (6, ov (S (rU UInt64) v_3)), (7, ov (S (rU UInt64) v_4)), (8, ov (S (rU UInt64) v_5)), (20, ov (S (rU UInt64) y_2))], [], []⟩ rfl rfl rfl ?_
 replace hm := lt1_inv hm
 obtain ⟨v_6, hv_v_6, hm⟩ := hm
 refine jc (op_shrUU lb (.tmp rfl) (HasO.cU (x := (32 : UInt64)) rfl (by decide)) hv_v_6) ?_
 refine jc (op_assign lb (.tmp rfl)) ?_
 refine JL.nil ?_
 refine JQ.then ?_
 refine JC.seq ?_
 refine JC.region ?_
 refine jc (op_move lb (.tmp rfl)) ?_
 refine jc (op_move lb (.tmp rfl)) ?_
 replace hm := lt1_inv hm
 obtain ⟨v_7, hv_v_7, hm⟩ := hm
 refine jc (op_arU lb (.tmp rfl) (.tmp rfl) (congrArg some hv_v_7)) ?_
 refine jc (op_assign lb (.tmp rfl)) ?_
 refine JL.nil ?_
 refine JQ.then ?_
 refine JC.seq ?_
 refine JC.region ?_
 refine jc (op_move lb (.tmp rfl)) ?_
 refine jc (op_move lb (.tmp rfl)) ?_
 replace hm := lt1_inv hm
 obtain ⟨v_8, hv_v_8, hm⟩ := hm
 refine jc (op_arU lb (.tmp rfl) (.tmp rfl) (congrArg some hv_v_8)) ?_
 refine jc (op_move lb (.tmp rfl)) ?_
 replace hm := lt1_inv hm
 obtain ⟨v_9, hv_v_9, hm⟩ := hm
 refine jc (op_shrUU lb (.tmp rfl) (HasO.cU (x := (32 : UInt64)) rfl (by decide)) hv_v_9) ?_
 replace hm := lt1_inv hm
 obtain ⟨v_10, hv_v_10, hm⟩ := hm
 refine jc (op_arU lb (.tmp rfl) (.tmp rfl) (congrArg some hv_v_10)) ?_
 refine JL.sub ⟨[(0, ov (S (rU UInt64) x_1)), (1, ov (S (rU UInt64) y_2)), (6, ov (S (rU UInt64) v_3)), (7, ov (S (rU UInt64) v_4)), (9, ov (S (rU UInt64) v_6)), (30, ov (S (rU UInt64) v_10))], [], []⟩ rfl rfl rfl ?_
 refine jc (op_assign lb (.tmp rfl)) ?_
 refine JL.nil ?_
 refine JQ.then ?_
 refine JC.seq ?_
 refine JC.region ?_
 refine jc (op_move lb (.tmp rfl)) ?_
 replace hm := lt1_inv hm
 obtain ⟨v_11, hv_v_11, hm⟩ := hm
 refine jc (op_arU lb (.tmp rfl) (HasO.cU (x := (4294967295 : UInt64)) rfl (by decide)) (congrArg some hv_v_11)) ?_
 refine jc (op_assign lb (.tmp rfl)) ?_
 refine JL.nil ?_
 refine JQ.then ?_
 refine JC.seq ?_
 refine JC.region ?_
 refine jc (op_move lb (.tmp rfl)) ?_
 replace hm := lt1_inv hm
 obtain ⟨v_12, hv_v_12, hm⟩ := hm
 refine jc (op_shrUU lb (.tmp rfl) (HasO.cU (x := (32 : UInt64)) rfl (by decide)) hv_v_12) ?_
 refine jc (op_assign lb (.tmp rfl)) ?_
 refine JL.nil ?_
 refine JQ.then ?_
 refine JC.seq ?_
 refine JC.region ?_
 refine jc (op_move lb (.tmp rfl)) ?_
 refine jc (op_move lb (.tmp rfl)) ?_
 refine jc (op_move lb (.tmp rfl)) ?_
 replace hm := lt1_inv hm
 obtain ⟨v_13, hv_v_13, hm⟩ := hm
 refine jc (op_arU lb (.tmp rfl) (.tmp rfl) (congrArg some hv_v_13)) ?_
 replace hm := lt1_inv hm
 obtain ⟨v_14, hv_v_14, hm⟩ := hm
 refine jc (op_arU lb (.tmp rfl) (.tmp rfl) (congrArg some hv_v_14)) ?_
 refine JL.sub ⟨[(0, ov (S (rU UInt64) x_1)), (1, ov (S (rU UInt64) y_2)), (7, ov (S (rU UInt64) v_4)), (9, ov (S (rU UInt64) v_6)), (12, ov (S (rU UInt64) v_11)), (13, ov (S (rU UInt64) v_12)), (39, ov (S (rU UInt64) v_14))], [], []⟩ rfl rfl rfl ?_
 refine jc (op_assign lb (.tmp rfl)) ?_
 refine JL.nil ?_
 refine JQ.then ?_
 refine JC.seq ?_
 refine JC.region ?_
 refine jc (op_move lb (.tmp rfl)) ?_
 refine jc (op_move lb (.tmp rfl)) ?_
 replace hm := lt1_inv hm
 obtain ⟨v_15, hv_v_15, hm⟩ := hm
 refine jc (op_arU lb (.tmp rfl) (.tmp rfl) (congrArg some hv_v_15)) ?_
 refine jc (op_move lb (.tmp rfl)) ?_
 replace hm := lt1_inv hm
 obtain ⟨v_16, hv_v_16, hm⟩ := hm
 refine jc (op_arU lb (.tmp rfl) (.tmp rfl) (congrArg some hv_v_16)) ?_
 refine jc (op_move lb (.tmp rfl)) ?_
 replace hm := lt1_inv hm
 obtain ⟨v_17, hv_v_17, hm⟩ := hm
 refine jc (op_shrUU lb (.tmp rfl) (HasO.cU (x := (32 : UInt64)) rfl (by decide)) hv_v_17) ?_
 replace hm := lt1_inv hm
 obtain ⟨v_18, hv_v_18, hm⟩ := hm
 refine jc (op_arU lb (.tmp rfl) (.tmp rfl) (congrArg some hv_v_18)) ?_
 refine jc (op_assign lb (.tmp rfl)) ?_
 refine JL.nil ?_
 refine JQ.then ?_
 refine JC.seq ?_
 refine JC.region ?_
 refine jc (op_move lb (.tmp rfl)) ?_
 refine jc (op_move lb (.tmp rfl)) ?_
 refine JL.sub ⟨[(4, ov (S (rU UInt64) v_18)), (48, ov (S (rU UInt64) x_1)), (49, ov (S (rU UInt64) y_2))], [], []⟩ rfl rfl rfl ?_
 replace hm := lt1_inv hm
 obtain ⟨v_19, hv_v_19, hm⟩ := hm
 refine jc (op_arU lb (.tmp rfl) (.tmp rfl) (congrArg some hv_v_19)) ?_
 refine jc (op_assign lb (.tmp rfl)) ?_
 refine JL.nil ?_
 refine JQ.then ?_
 refine JC.ret ?_
 replace hm := Option.some.inj hm
 subst hm
 exact JQ.done (js := []) (ss := [.val (S (rU UInt64) v_18), .val (S (rU UInt64) v_19)]) () (.inl rfl) (.nil rfl) rfl (.cons (.tmp rfl) (.cons (.tmp rfl) .nil)) rfl rfl rfl

theorem sim_sha_square (k : Nat) (x_1 : UInt64) (r : (Vector UInt64 2)) (hm : sha_square k x_1 = some r) : Sim Try.prog 60 [S (rU UInt64) x_1] [] (γ := Unit) (fun q => []) (fun q => .one (.val (A (rV 2 (rU UInt64)) r))) := by
 unfold sha_square at hm
 refine Sim.of Try.func60 rfl rfl (Nat.le_of_ble_eq_true rfl) (fun e0 w0 => ?_)
 refine JC.at ⟨[(0, ov (S (rU UInt64) x_1))], [], []⟩ ?_
 refine JC.seq ?_
 refine JC.region ?_
 refine jx (op_alloc lb tZ91 zr91) (fun q => ?_)
 obtain ⟨gb_2, hqq⟩ : ∃ z, z = q := ⟨_, rfl⟩
 subst hqq
 refine JL.nil ?_
 refine JQ.then ?_
 refine JC.seq ?_
 refine JC.region ?_
 refine jc (op_move lb (.tmp rfl)) ?_
 refine jc (op_move lb (.tmp rfl)) ?_
 replace hm := bnd_inv hm
 obtain ⟨⟨v_3, v_4⟩, hv_v_3, hm⟩ := hm
 refine jx (op_call (js := []) ld cl66 (sim_math_bits_Mul64 k x_1 x_1 (v_3, v_4) hv_v_3) .func (.cons (.tmp rfl) (.cons (.tmp rfl) .nil)) rfl) (fun _ => ?_)
 refine jc (op_move lb (.tmp rfl)) ?_
 refine jc (op_extract (i := 0) lb (.tmp rfl) rfl) ?_
 refine jc (op_extract (i := 1) lb (.tmp rfl) rfl) ?_
 refine jc (op_assign lb (.tmp rfl)) ?_
 refine jc (op_assign lb (.tmp rfl)) ?_
 refine JL.nil ?_
 refine JQ.then ?_
 refine JC.seq ?_
 refine JC.region ?_
 refine jc (op_move lb (.tmp rfl)) ?_
 refine JL.sub ⟨[(2, ov (PTR gb_2 0)), (4, ov (S (rU UInt64) v_4)), (11, ov (S (rU UInt64) v_3))], [cvar gb_2 (rV 2 (rU UInt64)) (Vector.replicate 2 (0 : UInt64))], []⟩ rfl rfl rfl ?_
 refine jc (op_move lb (.tmp rfl)) ?_
 refine jc (op_build lb tZ91 zv91 tp91 (.S (off := 0) rfl (.tmp rfl) rfl ((Upd.at (off := 0) (i := 0) (Comp.self (rV 2 (rU UInt64)) (Vector.replicate 2 (0 : UInt64))) (by decide) rfl (Upd.self (rV 2 (rU UInt64)) (Vector.replicate 2 (0 : UInt64)) _)).R.at rfl) (.S (off := 1) rfl (.tmp rfl) rfl ((Upd.at (off := 0) (i := 1) (Comp.self (rV 2 (rU UInt64)) (Vector.set (Vector.replicate 2 (0 : UInt64)) 0 v_3 (by decide))) (by decide) rfl (Upd.self (rV 2 (rU UInt64)) (Vector.set (Vector.replicate 2 (0 : UInt64)) 0 v_3 (by decide)) _)).R.at rfl) .nil)) rfl) ?_
 refine jc (op_storeA (j := 0) tA91 (.tmp rfl) (.tmp rfl) rfl (UpdR.self (by rfl)) rfl) ?_
 refine JL.nil ?_
 refine JQ.then ?_
 refine JC.ret ?_
 replace hm := Option.some.inj hm
 subst hm
 exact JQ.done (js := []) (ss := [.val (A (rV 2 (rU UInt64)) (#v[v_3, v_4] : (Vector UInt64 2)))]) () (.inl rfl) (.nil rfl) rfl (.cons (.cellA (j := 0) tA91 rfl rfl) .nil) rfl rfl rfl

theorem sim_sha_cube (k : Nat) (x_1 : UInt64) (r : (Vector UInt64 2) × Bool) (hm : sha_cube k x_1 = some r) : Sim Try.prog 57 [S (rU UInt64) x_1] [] (γ := Unit) (fun q => []) (fun q => .tup [.val (A (rV 2 (rU UInt64)) r.1), .val (S rB r.2)]) := by
 unfold sha_cube at hm
 refine Sim.of Try.func57 rfl rfl (Nat.le_of_ble_eq_true rfl) (fun e0 w0 => ?_)
 refine JC.at ⟨[(0, ov (S (rU UInt64) x_1))], [], []⟩ ?_
 refine JC.seq ?_
 refine JC.region ?_
 refine jx (op_alloc lb tZ91 zr91) (fun q => ?_)
 obtain ⟨gb_2, hqq⟩ : ∃ z, z = q := ⟨_, rfl⟩
 subst hqq
 refine jc (op_assign lb .cB) ?_
 refine JL.nil ?_
 refine JQ.then ?_
 refine JC.seq ?_
 refine JC.region ?_
 refine jc (op_move lb (.tmp rfl)) ?_
 replace hm := bnd_inv hm
 obtain ⟨v_3, hv_v_3, hm⟩ := hm
 refine jx (op_call (js := []) ld cl60 (sim_sha_square k x_1 v_3 hv_v_3) .func (.cons (.tmp rfl) .nil) rfl) (fun _ => ?_)
 refine jx (op_alloc lb tZ91 zr91) (fun q => ?_)
 obtain ⟨gb_4, hqq⟩ : ∃ z, z = q := ⟨_, rfl⟩
 subst hqq
 refine jc (op_storeA (j := 1) tA91 (.tmp rfl) (.tmp rfl) rfl (UpdR.self (by rfl)) rfl) ?_
 refine JL.sub ⟨[(0, ov (S (rU UInt64) x_1)), (2, ov (PTR gb_2 0)), (4, ov (PTR gb_4 0))], [cvar gb_2 (rV 2 (rU UInt64)) (Vector.replicate 2 (0 : UInt64)), cvar gb_4 (rV 2 (rU UInt64)) v_3], []⟩ rfl rfl rfl ?_
 refine JL.nil ?_
 refine JQ.then ?_
 refine JC.seq ?_
 refine JC.region ?_
 replace hm := bnd_inv hm
 obtain ⟨i_5, hv_i_5, hm⟩ := hm
 refine jc (op_indexAddrIF lb tr91 (.tmp rfl) .cI hv_i_5) ?_
 replace hm := lt1_inv hm
 obtain ⟨v_6, hv_v_6, hm⟩ := hm
 refine jc (op_loadS (j := 1) lb tS23 (.tmp rfl) rfl (Comp.at (Comp.self (rV 2 (rU UInt64)) v_3) i_5.2 rfl) rfl hv_v_6) ?_
 refine jc (op_move lb (.tmp rfl)) ?_
 replace hm := bnd_inv hm
 obtain ⟨⟨v_7, v_8⟩, hv_v_7, hm⟩ := hm
 refine jx (op_call (js := []) ld cl66 (sim_math_bits_Mul64 k v_6 x_1 (v_7, v_8) hv_v_7) .func (.cons (.tmp rfl) (.cons (.tmp rfl) .nil)) rfl) (fun _ => ?_)
 refine jc (op_move lb (.tmp rfl)) ?_
 refine jc (op_extract (i := 0) lb (.tmp rfl) rfl) ?_
 refine jc (op_extract (i := 1) lb (.tmp rfl) rfl) ?_
 refine jc (op_assign lb (.tmp rfl)) ?_
 refine jc (op_assign lb (.tmp rfl)) ?_
 refine JL.nil ?_
 refine JQ.then ?_
 refine JC.seq ?_
 refine JC.region ?_
 replace hm := bnd_inv hm
 obtain ⟨i_9, hv_i_9, hm⟩ := hm
 refine jc (op_indexAddrIF lb tr91 (.tmp rfl) .cI hv_i_9) ?_
 replace hm := lt1_inv hm
 obtain ⟨v_10, hv_v_10, hm⟩ := hm
 refine jc (op_loadS (j := 1) lb tS23 (.tmp rfl) rfl (Comp.at (Comp.self (rV 2 (rU UInt64)) v_3) i_9.2 rfl) rfl hv_v_10) ?_
 refine jc (op_move lb (.tmp rfl)) ?_
 refine JL.nrm ⟨[(2, ov (PTR gb_2 0)), (5, ov (S (rU UInt64) v_7)), (6, ov (S (rU UInt64) v_8)), (22, ov (S (rU UInt64) v_10)), (23, ov (S (rU UInt64) x_1))], [cvar gb_2 (rV 2 (rU UInt64)) (Vector.replicate 2 (0 : UInt64))], []⟩ [0] rfl rfl rfl ?_
 replace hm := bnd_inv hm
 obtain ⟨⟨v_11, v_12⟩, hv_v_11, hm⟩ := hm
 refine jx (op_call (js := []) ld cl66 (sim_math_bits_Mul64 k v_10 x_1 (v_11, v_12) hv_v_11) .func (.cons (.tmp rfl) (.cons (.tmp rfl) .nil)) rfl) (fun _ => ?_)
 refine jc (op_move lb (.tmp rfl)) ?_
 refine jc (op_extract (i := 0) lb (.tmp rfl) rfl) ?_
 refine jc (op_extract (i := 1) lb (.tmp rfl) rfl) ?_
 refine jc (op_assign lb (.tmp rfl)) ?_
 refine jc (op_assign lb (.tmp rfl)) ?_
 refine JL.nil ?_
 refine JQ.then ?_
 refine JC.seq ?_
 refine JC.region ?_
 refine jc (op_move lb (.tmp rfl)) ?_
 refine jc (op_move lb (.tmp rfl)) ?_
 replace hm := bnd_inv hm
 obtain ⟨⟨s_13, o_14⟩, hv_s_13, hm⟩ := hm
 refine jc (op_add64 lb ex67 .func (.tmp rfl) (.tmp rfl) (HasO.cU (x := (0 : UInt64)) rfl (by decide)) hv_s_13) ?_
 refine jc (op_move lb (.tmp rfl)) ?_
 refine jc (op_extract (i := 0) lb (.tmp rfl) rfl) ?_
 refine jc (op_extract (i := 1) lb (.tmp rfl) rfl) ?_
 refine JL.sub ⟨[(2, ov (PTR gb_2 0)), (6, ov (S (rU UInt64) v_8)), (7, ov (S (rU UInt64) v_11)), (8, ov (S (rU UInt64) v_12)), (31, ov (S (rU UInt64) s_13)), (32, ov (S (rU UInt64) o_14))], [cvar gb_2 (rV 2 (rU UInt64)) (Vector.replicate 2 (0 : UInt64))], []⟩ rfl rfl rfl ?_
 refine jc (op_assign lb (.tmp rfl)) ?_
 refine jc (op_assign lb (.tmp rfl)) ?_
 refine JL.nil ?_
 refine JQ.then ?_
 refine JC.seq ?_
 refine JC.region ?_
 refine jc (op_move lb (.tmp rfl)) ?_
 refine jc (op_move lb (.tmp rfl)) ?_
 replace hm := lt1_inv hm
 obtain ⟨v_15, hv_v_15, hm⟩ := hm
 refine jc (op_arU lb (.tmp rfl) (.tmp rfl) (congrArg some hv_v_15)) ?_
 refine jc (op_assign lb (.tmp rfl)) ?_
 refine JL.nil ?_
 refine JQ.then ?_
 refine JC.seq ?_
 refine JC.region ?_
 refine jc (op_move lb (.tmp rfl)) ?_
 replace hm := lt1_inv hm
 obtain ⟨v_16, hv_v_16, hm⟩ := hm
 refine jc (op_shlUU lb (.tmp rfl) (HasO.cU (x := (32 : UInt64)) rfl (by decide)) hv_v_16) ?_
 refine jc (op_move lb (.tmp rfl)) ?_
 replace hm := lt1_inv hm
 obtain ⟨v_17, hv_v_17, hm⟩ := hm
 refine jc (op_shrUU lb (.tmp rfl) (HasO.cU (x := (32 : UInt64)) rfl (by decide)) hv_v_17) ?_
 replace hm := lt1_inv hm
 obtain ⟨v_18, hv_v_18, hm⟩ := hm
 refine jc (op_arU lb (.tmp rfl) (.tmp rfl) (congrArg some hv_v_18)) ?_
 refine jc (op_move lb (.tmp rfl)) ?_
 refine JL.sub ⟨[(2, ov (PTR gb_2 0)), (6, ov (S (rU UInt64) v_8)), (40, ov (S (rU UInt64) v_18)), (41, ov (S (rU UInt64) s_13))], [cvar gb_2 (rV 2 (rU UInt64)) (Vector.replicate 2 (0 : UInt64))], []⟩ rfl rfl rfl ?_
 replace hm := lt1_inv hm
 obtain ⟨v_19, hv_v_19, hm⟩ := hm
 refine jc (op_shlUU lb (.tmp rfl) (HasO.cU (x := (32 : UInt64)) rfl (by decide)) hv_v_19) ?_
 refine jc (op_move lb (.tmp rfl)) ?_
 replace hm := lt1_inv hm
 obtain ⟨v_20, hv_v_20, hm⟩ := hm
 refine jc (op_shrUU lb (.tmp rfl) (HasO.cU (x := (32 : UInt64)) rfl (by decide)) hv_v_20) ?_
 replace hm := lt1_inv hm
 obtain ⟨v_21, hv_v_21, hm⟩ := hm
 refine jc (op_arU lb (.tmp rfl) (.tmp rfl) (congrArg some hv_v_21)) ?_
 refine jc (op_build lb tZ91 zv91 tp91 (.S (off := 0) rfl (.tmp rfl) rfl ((Upd.at (off := 0) (i := 0) (Comp.self (rV 2 (rU UInt64)) (Vector.replicate 2 (0 : UInt64))) (by decide) rfl (Upd.self (rV 2 (rU UInt64)) (Vector.replicate 2 (0 : UInt64)) _)).R.at rfl) (.S (off := 1) rfl (.tmp rfl) rfl ((Upd.at (off := 0) (i := 1) (Comp.self (rV 2 (rU UInt64)) (Vector.set (Vector.replicate 2 (0 : UInt64)) 0 v_18 (by decide))) (by decide) rfl (Upd.self (rV 2 (rU UInt64)) (Vector.set (Vector.replicate 2 (0 : UInt64)) 0 v_18 (by decide)) _)).R.at rfl) .nil)) rfl) ?_
 refine jc (op_move lb (.tmp rfl)) ?_
 replace hm := lt1_inv hm
 obtain ⟨v_22, hv_v_22, hm⟩ := hm
 refine jc (op_shlUU lb (.tmp rfl) (HasO.cU (x := (32 : UInt64)) rfl (by decide)) hv_v_22) ?_
 replace hm := lt1_inv hm
 obtain ⟨v_23, hv_v_23, hm⟩ := hm
 refine jc (op_cmpU lb (.tmp rfl) (HasO.cU (x := (0 : UInt64)) rfl (by decide)) (congrArg some hv_v_23)) ?_
 refine jc (op_storeA (j := 0) tA91 (.tmp rfl) (.tmp rfl) rfl (UpdR.self (by rfl)) rfl) ?_
 refine jc (op_assign lb (.tmp rfl)) ?_
 refine JL.sub ⟨[(2, ov (PTR gb_2 0)), (3, ov (S rB v_23))], [cvar gb_2 (rV 2 (rU UInt64)) (#v[v_18, v_21] : (Vector UInt64 2))], []⟩ rfl rfl rfl ?_
 refine JL.nil ?_
 refine JQ.then ?_
 refine JC.ret ?_
 replace hm := Option.some.inj hm
 subst hm
 exact JQ.done (js := []) (ss := [.val (A (rV 2 (rU UInt64)) (#v[v_18, v_21] : (Vector UInt64 2))), .val (S rB v_23)]) () (.inl rfl) (.nil rfl) rfl (.cons (.cellA (j := 0) tA91 rfl rfl) (.cons (.tmp rfl) .nil)) rfl rfl rfl

theorem sim_sha_above (k : Nat) (x_1 : (Vector UInt64 2)) (lost_2 : Bool) (p_3 : UInt64) (r : Bool) (hm : sha_above k x_1 lost_2 p_3 = some r) : Sim Try.prog 58 [A (rV 2 (rU UInt64)) x_1, S rB lost_2, S (rU UInt64) p_3] [] (γ := Unit) (fun q => []) (fun q => .one (.val (S rB r))) := by
 unfold sha_above at hm
 refine Sim.of Try.func58 rfl rfl (Nat.le_of_ble_eq_true rfl) (fun e0 w0 => ?_)
 refine JC.at ⟨[(0, ov (A (rV 2 (rU UInt64)) x_1)), (1, ov (S rB lost_2)), (2, ov (S (rU UInt64) p_3))], [], []⟩ ?_
 refine JC.seq ?_
 refine JC.region ?_
 refine jx (op_boxA lb (.tmp rfl)) (fun q => ?_)
 obtain ⟨gb_4, hqq⟩ : ∃ z, z = q := ⟨_, rfl⟩
 subst hqq
 refine jc (op_assign lb .cB) ?_
 refine JL.nil ?_
 refine JQ.then ?_
 replace hm := bnd_inv hm
 obtain ⟨x_15, hx1, hq1⟩ := hm
 refine JC.seqJ (γ := Unit) (stj := fun q => ⟨[(6, ov (S rB x_15))], [], []⟩) (fun q => ?_) ?_
 · obtain _ := q
   refine JC.at ⟨[(6, ov (S rB x_15))], [], []⟩ ?_
   refine JC.ret ?_
   replace hq1 := Option.some.inj hq1
   subst hq1
   exact JQ.done (js := []) (ss := [.val (S rB x_15)]) () (.inl rfl) (.nil rfl) rfl (.cons (.tmp rfl) .nil) rfl rfl rfl
 · refine JC.region ?_
   replace hx1 := bnd_inv hx1
   obtain ⟨i_5, hv_i_5, hx1⟩ := hx1
   refine jc (op_indexAddrIF lb tr91 (.tmp rfl) .cI hv_i_5) ?_
   replace hx1 := lt1_inv hx1
   obtain ⟨v_6, hv_v_6, hx1⟩ := hx1
   refine jc (op_loadS (j := 0) lb tS23 (.tmp rfl) rfl (Comp.at (Comp.self (rV 2 (rU UInt64)) x_1) i_5.2 rfl) rfl hv_v_6) ?_
   refine jc (op_move lb (.tmp rfl)) ?_
   replace hx1 := lt1_inv hx1
   obtain ⟨v_7, hv_v_7, hx1⟩ := hx1
   refine jc (op_cmpU lb (.tmp rfl) (.tmp rfl) (congrArg some hv_v_7)) ?_
   refine jc (op_move lb (.tmp rfl)) ?_
   replace hx1 := iteB_inv hx1
   rcases hx1 with ⟨hc3, hx1⟩ | ⟨hc3, hx1⟩
   · refine JL.skip (.no rfl (ltB rfl) rfl hc3) (fun d h => by cases h; exact ltB rfl) ?_
     refine JL.skip (.no rfl (ltB rfl) rfl hc3) (fun d h => by cases h; exact ltB rfl) ?_
     refine JL.skip (.no rfl (ltB rfl) rfl hc3) (fun d h => by cases h; exact ltB rfl) ?_
     refine JL.skip (.no rfl (ltB rfl) rfl hc3) (fun d h => by cases h; exact ltB rfl) ?_
     refine JL.skip (.no rfl (ltB rfl) rfl hc3) (fun d h => by cases h; exact ltB rfl) ?_
     refine JL.skip (.und rfl (ltB rfl) rfl) (fun d h => by cases h; exact ltB rfl) ?_
     refine JL.skip (.und rfl (ltB rfl) rfl) (fun d h => by cases h; exact ltB rfl) ?_
     refine JL.skip (.und rfl (ltB rfl) rfl) (fun d h => by cases h; exact ltB rfl) ?_
     refine JL.skip (.und rfl (ltB rfl) rfl) (fun d h => by cases h; exact ltB rfl) ?_
     refine JL.skip (.und rfl (ltB rfl) rfl) (fun d h => by cases h; exact ltB rfl) ?_
     refine JL.skip (.und rfl (ltB rfl) rfl) (fun d h => by cases h; exact ltB rfl) ?_
     refine JL.skip (.no rfl (ltB rfl) rfl hc3) (fun d h => by cases h; exact ltB rfl) ?_
     refine jc (op_pickT lb (.tmp rfl) hc3 .cB) ?_
     refine jc (op_assign lb (.tmp rfl)) ?_
     refine JL.nil ?_
     replace hx1 := Option.some.inj hx1
     first | subst hx1 | clear hx1
     exact JQ.join () (Imp.norm (js := []) rfl (.cons rfl .nil))
   · replace hx1 := bnd_inv hx1
     obtain ⟨i_8, hv_i_8, hx1⟩ := hx1
     refine JL.run (.yes rfl (ltB rfl) rfl hc3) (op_indexAddrIF lb tr91 (.tmp rfl) .cI hv_i_8) ?_
     replace hx1 := lt1_inv hx1
     obtain ⟨v_9, hv_v_9, hx1⟩ := hx1
     refine JL.run (.yes rfl (ltB rfl) rfl hc3) (op_loadS (j := 0) lb tS23 (.tmp rfl) rfl (Comp.at (Comp.self (rV 2 (rU UInt64)) x_1) i_8.2 rfl) rfl hv_v_9) ?_
     refine JL.run (.yes rfl (ltB rfl) rfl hc3) (op_move lb (.tmp rfl)) ?_
     refine JL.sub ⟨[(1, ov (S rB lost_2)), (3, ov (PTR gb_4 0)), (6, ov (S rB false)), (11, ov (S rB v_7)), (13, ov (S (rU UInt64) v_9)), (14, ov (S (rU UInt64) p_3))], [cvar gb_4 (rV 2 (rU UInt64)) x_1], []⟩ rfl rfl rfl ?_
     replace hx1 := lt1_inv hx1
     obtain ⟨v_10, hv_v_10, hx1⟩ := hx1
     refine JL.run (.yes rfl (ltB rfl) rfl hc3) (op_cmpU lb (.tmp rfl) (.tmp rfl) (congrArg some hv_v_10)) ?_
     refine JL.run (.yes rfl (ltB rfl) rfl hc3) (op_move lb (.tmp rfl)) ?_
     replace hx1 := iteB_inv hx1
     rcases hx1 with ⟨hc5, hx1⟩ | ⟨hc5, hx1⟩
     · replace hx1 := bnd_inv hx1
       obtain ⟨i_11, hv_i_11, hx1⟩ := hx1
       refine JL.run (.yes rfl (ltB rfl) rfl hc5) (op_indexAddrIF lb tr91 (.tmp rfl) .cI hv_i_11) ?_
       replace hx1 := lt1_inv hx1
       obtain ⟨v_12, hv_v_12, hx1⟩ := hx1
       refine JL.run (.yes rfl (ltB rfl) rfl hc5) (op_loadS (j := 0) lb tS23 (.tmp rfl) rfl (Comp.at (Comp.self (rV 2 (rU UInt64)) x_1) i_11.2 rfl) rfl hv_v_12) ?_
       replace hx1 := lt1_inv hx1
       obtain ⟨v_13, hv_v_13, hx1⟩ := hx1
       refine JL.run (.yes rfl (ltB rfl) rfl hc5) (op_cmpU lb (.tmp rfl) (HasO.cU (x := (0 : UInt64)) rfl (by decide)) (congrArg some hv_v_13)) ?_
       refine JL.run (.yes rfl (ltB rfl) rfl hc5) (op_move lb (.tmp rfl)) ?_
       refine JL.cnd (sv := ov (S rB lost_2)) (Guard.isF (ltB rfl) rfl rfl) rfl (ltB rfl) (fun hq_6 => op_move lb (.tmp rfl)) ?_
       replace hx1 := lt1_inv hx1
       obtain ⟨v_14, hv_v_14, hx1⟩ := hx1
       refine JL.run (.yes rfl (ltB rfl) rfl hc5) (op_pickCS lb (.tmp rfl) (fun hb7 => .cB) (fun hb7 => (HasO.cnd (.tmp rfl) (notT hb7))) hv_v_14) ?_
       refine JL.run (.yes rfl (ltB rfl) rfl hc3) (op_pickT lb (.tmp rfl) hc5 (.tmp rfl)) ?_
       refine jc (op_pickF lb (.tmp rfl) hc3 (.tmp rfl)) ?_
       refine jc (op_assign lb (.tmp rfl)) ?_
       refine JL.nil ?_
       replace hx1 := Option.some.inj hx1
       first | subst hx1 | clear hx1
       exact JQ.join () (Imp.norm (js := []) rfl (.cons rfl .nil))
     · refine JL.skip (.no rfl (ltB rfl) rfl hc5) (fun d h => by cases h; exact ltB rfl) ?_
       refine JL.skip (.no rfl (ltB rfl) rfl hc5) (fun d h => by cases h; exact ltB rfl) ?_
       refine JL.skip (.no rfl (ltB rfl) rfl hc5) (fun d h => by cases h; exact ltB rfl) ?_
       refine JL.skip (.no rfl (ltB rfl) rfl hc5) (fun d h => by cases h; exact ltB rfl) ?_
       refine JL.skip (.und rfl (ltB rfl) rfl) (fun d h => by cases h; exact ltB rfl) ?_
       refine JL.skip (.no rfl (ltB rfl) rfl hc5) (fun d h => by cases h; exact ltB rfl) ?_
       refine JL.run (.yes rfl (ltB rfl) rfl hc3) (op_pickF lb (.tmp rfl) hc5 .cB) ?_
       refine jc (op_pickF lb (.tmp rfl) hc3 (.tmp rfl)) ?_
       refine jc (op_assign lb (.tmp rfl)) ?_
       refine JL.nil ?_
       replace hx1 := Option.some.inj hx1
       first | subst hx1 | clear hx1
       exact JQ.join () (Imp.norm (js := []) rfl (.cons rfl .nil))

theorem sim_sha_constant_1 (k : Nat) (x_1 : UInt64) (x_2 : UInt64) (gb_3 : Nat) (r : Bool) (hm : sha_constant_1 k x_1 x_2 = some r) : Sim Try.prog 56 [S (rU UInt64) x_1, PTR gb_3 0] [cvar gb_3 (rU UInt64) x_2] (γ := Unit) (fun q => [cvar gb_3 (rU UInt64) x_2]) (fun q => .one (.val (S rB r))) := by
 unfold sha_constant_1 at hm
 refine Sim.of Try.func56 rfl rfl (Nat.le_of_ble_eq_true rfl) (fun e0 w0 => ?_)
 refine JC.at ⟨[(0, ov (S (rU UInt64) x_1)), (1, ov (PTR gb_3 0))], [cvar gb_3 (rU UInt64) x_2], []⟩ ?_
 refine JC.seq ?_
 refine JC.region ?_
 refine jc (op_assign lb .cB) ?_
 refine JL.nil ?_
 refine JQ.then ?_
 refine JC.seq ?_
 refine JC.region ?_
 refine jc (op_move lb (.tmp rfl)) ?_
 replace hm := bnd_inv hm
 obtain ⟨⟨v_4, v_5⟩, hv_v_4, hm⟩ := hm
 refine jx (op_call (js := []) ld cl57 (sim_sha_cube k x_1 (v_4, v_5) hv_v_4) .func (.cons (.tmp rfl) .nil) rfl) (fun _ => ?_)
 refine jc (op_move lb (.tmp rfl)) ?_
 refine jc (op_extract (i := 0) lb (.tmp rfl) rfl) ?_
 refine jc (op_extract (i := 1) lb (.tmp rfl) rfl) ?_
 refine jx (op_alloc lb tZ91 zr91) (fun q => ?_)
 obtain ⟨gb_6, hqq⟩ : ∃ z, z = q := ⟨_, rfl⟩
 subst hqq
 refine jc (op_storeA (j := 1) tA91 (.tmp rfl) (.tmp rfl) rfl (UpdR.self (by rfl)) rfl) ?_
 refine JL.sub ⟨[(1, ov (PTR gb_3 0)), (4, ov (PTR gb_6 0)), (10, ov (S rB v_5))], [cvar gb_3 (rU UInt64) x_2, cvar gb_6 (rV 2 (rU UInt64)) v_4], []⟩ rfl rfl rfl ?_
 refine jc (op_assign lb (.tmp rfl)) ?_
 refine JL.nil ?_
 refine JQ.then ?_
 refine JC.seq ?_
 refine JC.region ?_
 refine jc (op_loadA (j := 1) lb tA91 (.tmp rfl) rfl (Comp.self (rV 2 (rU UInt64)) v_4) rfl) ?_
 refine jc (op_move lb (.tmp rfl)) ?_
 refine jc (op_loadS (j := 0) lb tS23 (.tmp rfl) rfl (Comp.self (rU UInt64) x_2) rfl rfl) ?_
 replace hm := bnd_inv hm
 obtain ⟨v_7, hv_v_7, hm⟩ := hm
 refine jx (op_call (js := []) ld cl58 (sim_sha_above k v_4 v_5 x_2 v_7 hv_v_7) .func (.cons (.tmp rfl) (.cons (.tmp rfl) (.cons (.tmp rfl) .nil))) rfl) (fun _ => ?_)
 refine jc (op_assign lb (.tmp rfl)) ?_
 refine JL.nil ?_
 refine JQ.then ?_
 refine JC.ret ?_
 replace hm := Option.some.inj hm
 subst hm
 exact JQ.done (js := [0]) (ss := [.val (S rB v_7)]) () (.inl rfl) (.nil rfl) rfl (.cons (.tmp rfl) .nil) rfl rfl rfl

theorem sim_sha_root (k : Nat) (x_1 : UInt64) (gb_2 : Nat) (r : UInt32) (hm : sha_root k x_1 = some r) : Sim Try.prog 55 [CLO 56 [PTR gb_2 0]] [cvar gb_2 (rU UInt64) x_1] (γ := Unit) (fun q => [cvar gb_2 (rU UInt64) x_1]) (fun q => .one (.val (S (rU UInt32) r))) := by
 unfold sha_root at hm
 refine Sim.of Try.func55 rfl rfl (Nat.le_of_ble_eq_true rfl) (fun e0 w0 => ?_)
 refine JC.at ⟨[(0, ov (CLO 56 [PTR gb_2 0]))], [cvar gb_2 (rU UInt64) x_1], []⟩ ?_
 refine JC.seq ?_
 refine JC.region ?_
 refine jc (op_assign lb (HasO.cU (x := (0 : UInt32)) rfl (by decide))) ?_
 refine JL.nil ?_
 refine JQ.then ?_
 refine JC.seq ?_
 refine JC.region ?_
 refine jc (op_assign lb (HasO.cU (x := (0 : UInt64)) rfl (by decide))) ?_
 refine JL.nil ?_
 refine JQ.then ?_
 replace hm := bnd_inv hm
 obtain ⟨x_13, hx1, hq1⟩ := hm
 refine JC.seqJ (γ := Unit) (stj := fun q => ⟨[(3, ov (S (rU UInt64) x_13))], [cvar gb_2 (rU UInt64) x_1], []⟩) (fun q => ?_) ?_
 · obtain _ := q
   refine JC.at ⟨[(3, ov (S (rU UInt64) x_13))], [cvar gb_2 (rU UInt64) x_1], []⟩ ?_
   refine JC.seq ?_
   refine JC.region ?_
   refine jc (op_move lb (.tmp rfl)) ?_
   replace hq1 := lt1_inv hq1
   obtain ⟨v_14, hv_v_14, hq1⟩ := hq1
   refine jc (op_convUU lb tu23 tu66 (.tmp rfl) hv_v_14) ?_
   refine jc (op_assign lb (.tmp rfl)) ?_
   refine JL.nil ?_
   refine JQ.then ?_
   refine JC.ret ?_
   replace hq1 := Option.some.inj hq1
   subst hq1
   exact JQ.done (js := [0]) (ss := [.val (S (rU UInt32) v_14)]) () (.inl rfl) (.nil rfl) rfl (.cons (.tmp rfl) .nil) rfl rfl rfl
 · refine JC.seq ?_
   refine JC.region ?_
   refine jc (op_move lb .cI) ?_
   refine JL.nil ?_
   refine JQ.then ?_
   refine JC.block ?_
   refine JC.pre ?_ (JC.loop (γ := Unit) (stf := fun s q => ⟨[(0, ov (CLO 56 [PTR gb_2 0])), (3, ov (S (rU UInt64) s.1)), (6, ov (S (rI .i64) s.2))], [cvar gb_2 (rU UInt64) x_1], []⟩) (q := ()) hx1 ?_)
   · exact (Imp.norm (js := [0]) rfl (.cons rfl (.cons rfl (.cons rfl .nil))))
   · intro s q x hx hr
     obtain ⟨x_3, x_4⟩ := s
     obtain _ := q
     change sha_root.b1 k x_1 x_3 x_4 = some x at hx
     unfold sha_root.b1 at hx
     refine JC.at ⟨[(0, ov (CLO 56 [PTR gb_2 0])), (3, ov (S (rU UInt64) x_3)), (6, ov (S (rI .i64) x_4))], [cvar gb_2 (rU UInt64) x_1], []⟩ ?_
     refine JC.seq ?_
     refine JC.region ?_
     replace hx := lt1_inv hx
     obtain ⟨v_5, hv_v_5, hx⟩ := hx
     refine jc (op_cmpI lb (.tmp rfl) .cI (congrArg some hv_v_5)) ?_
     refine JL.nil ?_
     refine JQ.then ?_
     refine JC.seq ?_
     replace hx := iteB_inv hx
     rcases hx with ⟨hc3, hx⟩ | ⟨hc3, hx⟩
     · refine JC.condT (.tmp rfl) hc3 ?_
       refine JC.skip ?_
       refine JQ.then ?_
       replace hx := bnd_inv hx
       obtain ⟨x_11, hx4, hq4⟩ := hx
       refine JC.seqJ (γ := Unit) (stj := fun q => ⟨[(0, ov (CLO 56 [PTR gb_2 0])), (3, ov (S (rU UInt64) x_11)), (6, ov (S (rI .i64) x_4))], [cvar gb_2 (rU UInt64) x_1], []⟩) (fun q => ?_) ?_
       · obtain _ := q
         refine JC.at ⟨[(0, ov (CLO 56 [PTR gb_2 0])), (3, ov (S (rU UInt64) x_11)), (6, ov (S (rI .i64) x_4))], [cvar gb_2 (rU UInt64) x_1], []⟩ ?_
         refine JC.region ?_
         replace hq4 := lt1_inv hq4
         obtain ⟨v_12, hv_v_12, hq4⟩ := hq4
         refine jc (op_arI lb (.tmp rfl) .cI (congrArg some hv_v_12)) ?_
         refine jc (op_move lb (.tmp rfl)) ?_
         refine JL.nil ?_
         replace hq4 := Option.some.inj hq4
         first | subst hq4 | clear hq4
         exact JQ.next () rfl (Imp.norm (js := [0]) rfl (.cons rfl (.cons rfl (.cons rfl .nil))))
       · refine JC.block ?_
         refine JC.seq ?_
         refine JC.region ?_
         refine jc (op_move lb (.tmp rfl)) ?_
         refine jc (op_assign lb (.tmp rfl)) ?_
         refine JL.nil ?_
         refine JQ.then ?_
         refine JC.seq ?_
         refine JC.region ?_
         refine jc (op_move lb (.tmp rfl)) ?_
         refine jc (op_move lb (.tmp rfl)) ?_
         replace hx4 := lt1_inv hx4
         obtain ⟨v_6, hv_v_6, hx4⟩ := hx4
         refine jc (op_arI lb .cI (.tmp rfl) (congrArg some hv_v_6)) ?_
         replace hx4 := bnd_inv hx4
         obtain ⟨v_7, hv_v_7, hx4⟩ := hx4
         refine jc (op_shlUI lb (HasO.cU (x := (1 : UInt64)) rfl (by decide)) (.tmp rfl) hv_v_7) ?_
         replace hx4 := lt1_inv hx4
         obtain ⟨v_8, hv_v_8, hx4⟩ := hx4
         refine jc (op_arU lb (.tmp rfl) (.tmp rfl) (congrArg some hv_v_8)) ?_
         refine jc (op_assign lb (.tmp rfl)) ?_
         refine JL.nil ?_
         refine JQ.then ?_
         refine JC.seq ?_
         refine JC.region ?_
         refine jc (op_move lb (.tmp rfl)) ?_
         refine jc (op_move lb (.tmp rfl)) ?_
         replace hx4 := bnd_inv hx4
         obtain ⟨v_9, hv_v_9, hx4⟩ := hx4
         refine jx (op_call (js := [0]) ld cl56 (sim_sha_constant_1 k v_8 x_1 gb_2 v_9 hv_v_9) (.tmp rfl) (.cons (.tmp rfl) .nil) rfl) (fun _ => ?_)
         refine JL.sub ⟨[(0, ov (CLO 56 [PTR gb_2 0])), (3, ov (S (rU UInt64) x_3)), (5, ov (S (rU UInt64) v_8)), (6, ov (S (rI .i64) x_4)), (16, ov (S rB v_9))], [cvar gb_2 (rU UInt64) x_1], []⟩ rfl rfl rfl ?_
         replace hx4 := lt1_inv hx4
         obtain ⟨v_10, hv_v_10, hx4⟩ := hx4
         refine jc (op_not lb (.tmp rfl) hv_v_10) ?_
         refine JL.nil ?_
         refine JQ.then ?_
         replace hx4 := iteB_inv hx4
         rcases hx4 with ⟨hc5, hx4⟩ | ⟨hc5, hx4⟩
         · refine JC.condT (.tmp rfl) hc5 ?_
           refine JC.region ?_
           refine jc (op_move lb (.tmp rfl)) ?_
           refine jc (op_assign lb (.tmp rfl)) ?_
           refine JL.nil ?_
           refine JQ.outNB ?_
           replace hx4 := Option.some.inj hx4
           first | subst hx4 | clear hx4
           exact JQ.join () (Imp.norm (js := [0]) rfl (.cons rfl (.cons rfl (.cons rfl .nil))))
         · refine JC.condF (.tmp rfl) hc5 ?_
           refine JC.skip ?_
           refine JQ.outNB ?_
           replace hx4 := Option.some.inj hx4
           first | subst hx4 | clear hx4
           exact JQ.join () (Imp.norm (js := [0]) rfl (.cons rfl (.cons rfl (.cons rfl .nil))))
     · refine JC.condF (.tmp rfl) hc3 ?_
       refine JC.exit ?_
       refine JQ.outX ?_
       replace hx := Option.some.inj hx
       first | subst hx | clear hx
       have ht := hr _ rfl
       have hq2 := congrArg some ht
       clear hr ht
       refine JQ.outX ?_
       refine JQ.here ?_
       replace hq2 := Option.some.inj hq2
       first | subst hq2 | clear hq2
       exact JQ.join () (Imp.norm (js := [0]) rfl (.cons rfl .nil))

theorem sim_sha_constant (k : Nat) (p_1 : UInt64) (r : UInt32) (hm : sha_constant k p_1 = some r) : Sim Try.prog 47 [S (rU UInt64) p_1] [] (γ := Unit) (fun q => []) (fun q => .one (.val (S (rU UInt32) r))) := by
 unfold sha_constant at hm
 refine Sim.of Try.func47 rfl rfl (Nat.le_of_ble_eq_true rfl) (fun e0 w0 => ?_)
 refine JC.at ⟨[(0, ov (S (rU UInt64) p_1))], [], []⟩ ?_
 refine JC.seq ?_
 refine JC.region ?_
 refine jx (op_boxS lb (.tmp rfl)) (fun q => ?_)
 obtain ⟨gb_2, hqq⟩ : ∃ z, z = q := ⟨_, rfl⟩
 subst hqq
 refine jc (op_assign lb (HasO.cU (x := (0 : UInt32)) rfl (by decide))) ?_
 refine JL.nil ?_
 refine JQ.then ?_
 refine JC.seq ?_
 refine JC.region ?_
 refine jc (op_makeFunc lb (.cons (.tmp rfl) .nil)) ?_
 replace hm := bnd_inv hm
 obtain ⟨v_3, hv_v_3, hm⟩ := hm
 refine jx (op_call (js := [0]) ld cl55 (sim_sha_root k p_1 gb_2 v_3 hv_v_3) .func (.cons (.tmp rfl) .nil) rfl) (fun _ => ?_)
 refine jc (op_assign lb (.tmp rfl)) ?_
 refine JL.nil ?_
 refine JQ.then ?_
 refine JC.ret ?_
 replace hm := Option.some.inj hm
 subst hm
 exact JQ.done (js := []) (ss := [.val (S (rU UInt32) v_3)]) () (.inl rfl) (.nil rfl) rfl (.cons (.tmp rfl) .nil) rfl rfl rfl

end Go.Proofs.Ytnhiiabdoichlaa
