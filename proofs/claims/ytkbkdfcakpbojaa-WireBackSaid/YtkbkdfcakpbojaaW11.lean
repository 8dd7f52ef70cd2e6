/- Walks. -/
import Derived.Test.YtkbkdfcakpbojaaT
namespace Go.Proofs.Ytkbkdfcakpbojaa
open Go Fw
set_option linter.unusedVariables false
set_option maxRecDepth 100000
set_option maxHeartbeats 4000000

theorem sim_internal_stringslite_IndexByte (k : Nat) (s_1 : (List UInt8)) (c_2 : UInt8) (r : Int) (hm : internal_stringslite_IndexByte k s_1 c_2 = some r) : Sim Try.prog 54 [S rS s_1, S (rU UInt8) c_2] [] (γ := Unit) (fun q => []) (fun q => .one (.val (S (rI .i64) r))) := by
 unfold internal_stringslite_IndexByte at hm
 refine Sim.of Try.func54 rfl rfl (Nat.le_of_ble_eq_true rfl) (fun e0 w0 => ?_)
 refine JC.at ⟨[(0, ov (S rS s_1)), (1, ov (S (rU UInt8) c_2))], [], []⟩ ?_
 refine JC.seq ?_
 refine JC.region ?_
 refine jc (op_assign lb .cI) ?_
 refine JL.nil ?_
 refine JQ.then ?_
 refine JC.seq ?_
 refine JC.region ?_
 refine jc (op_move lb (.tmp rfl)) ?_
 refine jc (op_move lb (.tmp rfl)) ?_
 replace hm := lt1_inv hm
 obtain ⟨v_3, hv_v_3, hm⟩ := hm
 refine jc (op_indexB lb ex56 .func (.tmp rfl) (.tmp rfl) hv_v_3) ?_
 refine jc (op_assign lb (.tmp rfl)) ?_
 refine JL.nil ?_
 refine JQ.then ?_
 refine JC.ret ?_
 replace hm := Option.some.inj hm
 subst hm
 exact JQ.done (js := []) (ss := [.val (S (rI .i64) v_3)]) () (.inl rfl) (.nil rfl) rfl (.cons (.tmp rfl) .nil) rfl rfl rfl

theorem sim_strings_IndexByte (k : Nat) (s_1 : (List UInt8)) (c_2 : UInt8) (r : Int) (hm : strings_IndexByte k s_1 c_2 = some r) : Sim Try.prog 50 [S rS s_1, S (rU UInt8) c_2] [] (γ := Unit) (fun q => []) (fun q => .one (.val (S (rI .i64) r))) := by
 unfold strings_IndexByte at hm
 refine Sim.of Try.func50 rfl rfl (Nat.le_of_ble_eq_true rfl) (fun e0 w0 => ?_)
 refine JC.at ⟨[(0, ov (S rS s_1)), (1, ov (S (rU UInt8) c_2))], [], []⟩ ?_
 refine JC.seq ?_
 refine JC.region ?_
 refine jc (op_assign lb .cI) ?_
 refine JL.nil ?_
 refine JQ.then ?_
 refine JC.seq ?_
 refine JC.region ?_
 refine jc (op_move lb (.tmp rfl)) ?_
 refine jc (op_move lb (.tmp rfl)) ?_
 replace hm := bnd_inv hm
 obtain ⟨v_3, hv_v_3, hm⟩ := hm
 refine jx (op_call (js := []) ld cl54 (sim_internal_stringslite_IndexByte k s_1 c_2 v_3 hv_v_3) .func (.cons (.tmp rfl) (.cons (.tmp rfl) .nil)) rfl) (fun _ => ?_)
 refine jc (op_assign lb (.tmp rfl)) ?_
 refine JL.nil ?_
 refine JQ.then ?_
 refine JC.ret ?_
 replace hm := Option.some.inj hm
 subst hm
 exact JQ.done (js := []) (ss := [.val (S (rI .i64) v_3)]) () (.inl rfl) (.nil rfl) rfl (.cons (.tmp rfl) .nil) rfl rfl rfl

theorem sim_wire_Unhex (k : Nat) (s_1 : (List UInt8)) (r : (List UInt8) × Int) (hm : wire_Unhex k s_1 = some r) : Sim Try.prog 35 [S rS s_1] [] (γ := Option Nat × Nat) (fun q => [cown q.1 (rU UInt8) r.1 0 q.2]) (fun q => .tup [.val (HDR q.1 0 (List.length r.1) q.2), .val (S (rI .i64) r.2)]) := by
 unfold wire_Unhex at hm
 refine Sim.of Try.func35 rfl rfl (Nat.le_of_ble_eq_true rfl) (fun e0 w0 => ?_)
 refine JC.at ⟨[(0, ov (S rS s_1))], [], []⟩ ?_
 refine JC.seq ?_
 refine JC.region ?_
 refine jc (op_assign lb HasO.nilH) ?_
 refine jc (op_assign lb .cI) ?_
 refine JL.nil ?_
 refine JQ.then ?_
 refine JC.scope ?_
 refine JC.seq ?_
 refine JC.region ?_
 refine jc (op_assign lb HasO.nilH) ?_
 refine JL.nil ?_
 refine JQ.then ?_
 refine JC.seq ?_
 refine JC.region ?_
 refine jc (op_move lb (.tmp rfl)) ?_
 refine jc (op_lenS lb tu9 (.tmp rfl)) ?_
 replace hm := bnd_inv hm
 obtain ⟨v_2, hv_v_2, hm⟩ := hm
 refine jc (op_arI lb (.tmp rfl) .cI hv_v_2) ?_
 replace hm := lt1_inv hm
 obtain ⟨v_3, hv_v_3, hm⟩ := hm
 refine jc (op_cmpI lb (.tmp rfl) .cI (congrArg some hv_v_3)) ?_
 refine jc (op_assign lb (.tmp rfl)) ?_
 refine JL.nil ?_
 refine JQ.then ?_
 refine JC.seq ?_
 refine JC.label ?_
 refine JQ.then ?_
 replace hm := bnd_inv hm
 obtain ⟨⟨out_29, good_30⟩, hx1, hq1⟩ := hm
 refine JC.seqJ (γ := Option Nat × Nat) (stj := fun q => ⟨[(4, ov (HDR q.1 0 (List.length out_29) q.2)), (5, ov (S rB good_30))], [cown q.1 (rU UInt8) out_29 0 q.2], []⟩) (fun q => ?_) ?_
 · obtain ⟨go_31, gc_32⟩ := q
   refine JC.at ⟨[(4, ov (HDR go_31 0 (List.length out_29) gc_32)), (5, ov (S rB good_30))], [cown go_31 (rU UInt8) out_29 0 gc_32], []⟩ ?_
   refine JC.seq ?_
   refine JC.seq ?_
   refine JC.region ?_
   refine jc (op_move lb (.tmp rfl)) ?_
   replace hq1 := lt1_inv hq1
   obtain ⟨v_33, hv_v_33, hq1⟩ := hq1
   refine jc (op_not lb (.tmp rfl) hv_v_33) ?_
   refine JL.nil ?_
   refine JQ.then ?_
   replace hq1 := iteB_inv hq1
   rcases hq1 with ⟨hc15, hq1⟩ | ⟨hc15, hq1⟩
   · refine JC.condT (.tmp rfl) hc15 ?_
     refine JC.seq ?_
     refine JC.region ?_
     refine jc (op_assign lb HasO.nilH) ?_
     refine jc (op_assign lb .cI) ?_
     refine JL.nil ?_
     refine JQ.then ?_
     refine JC.ret ?_
     refine JQ.outR ?_
     refine JQ.scR ?_
     replace hq1 := Option.some.inj hq1
     subst hq1
     refine JQ.pre (Imp.nilown (rU UInt8)) ?_
     exact JQ.done (js := [1]) (ss := [.val (HDR none 0 (List.length ([] : (List UInt8))) (0)), .val (S (rI .i64) (4 : Int))]) (none, 0) (.inl rfl) (.nil rfl) rfl (.cons (.tmp rfl) (.cons (.tmp rfl) .nil)) rfl rfl rfl
   · refine JC.condF (.tmp rfl) hc15 ?_
     refine JC.skip ?_
     refine JQ.then ?_
     refine JC.seq ?_
     refine JC.region ?_
     refine jc (op_move lb (.tmp rfl)) ?_
     refine jc (op_assign lb (.tmp rfl)) ?_
     refine jc (op_assign lb .cI) ?_
     refine JL.nil ?_
     refine JQ.then ?_
     refine JC.ret ?_
     refine JQ.scR ?_
     replace hq1 := Option.some.inj hq1
     subst hq1
     exact JQ.done (js := [0]) (ss := [.val (HDR go_31 0 (List.length out_29) gc_32), .val (S (rI .i64) (0 : Int))]) (go_31, gc_32) (.inl rfl) (.nil rfl) rfl (.cons (.tmp rfl) (.cons (.tmp rfl) .nil)) rfl rfl rfl
 · refine JC.seq ?_
   refine JC.region ?_
   refine jc (op_assign lb .cI) ?_
   refine JL.nil ?_
   refine JQ.then ?_
   refine JC.block ?_
   refine JC.pre (Imp.nilown (rU UInt8)) ?_
   refine JC.pre ?_ (JC.loop (γ := Option Nat × Nat) (stf := fun s q => ⟨[(0, ov (S rS s_1)), (4, ov (HDR q.1 0 (List.length s.1) q.2)), (5, ov (S rB s.2.1)), (6, ov (S (rI .i64) s.2.2))], [cown q.1 (rU UInt8) s.1 0 q.2], []⟩) (q := (none, 0)) hx1 ?_)
   · exact (Imp.norm (js := [0]) rfl (.cons rfl (.cons rfl (.cons rfl (.cons rfl .nil)))))
   · intro s q x hx hr
     obtain ⟨out_4, good_5, i_6⟩ := s
     obtain ⟨go_7, gc_8⟩ := q
     change wire_Unhex.b1 k s_1 out_4 good_5 i_6 = some x at hx
     unfold wire_Unhex.b1 at hx
     refine JC.at ⟨[(0, ov (S rS s_1)), (4, ov (HDR go_7 0 (List.length out_4) gc_8)), (5, ov (S rB good_5)), (6, ov (S (rI .i64) i_6))], [cown go_7 (rU UInt8) out_4 0 gc_8], []⟩ ?_
     refine JC.seq ?_
     replace hx := bnd_inv hx
     obtain ⟨x_11, hx3, hq3⟩ := hx
     refine JC.seqJ (γ := Unit) (stj := fun q => ⟨[(0, ov (S rS s_1)), (4, ov (HDR go_7 0 (List.length out_4) gc_8)), (5, ov (S rB good_5)), (6, ov (S (rI .i64) i_6)), (19, ov (S rB x_11))], [cown go_7 (rU UInt8) out_4 0 gc_8], []⟩) (fun q => ?_) ?_
     · obtain _ := q
       refine JC.at ⟨[(0, ov (S rS s_1)), (4, ov (HDR go_7 0 (List.length out_4) gc_8)), (5, ov (S rB good_5)), (6, ov (S (rI .i64) i_6)), (19, ov (S rB x_11))], [cown go_7 (rU UInt8) out_4 0 gc_8], []⟩ ?_
       replace hq3 := iteB_inv hq3
       rcases hq3 with ⟨hc9, hq3⟩ | ⟨hc9, hq3⟩
       · refine JC.condT (.tmp rfl) hc9 ?_
         refine JC.skip ?_
         refine JQ.then ?_
         refine JC.seq ?_
         refine JC.block ?_
         refine JC.seq ?_
         replace hq3 := bnd_inv hq3
         obtain ⟨v_12, hv_v_12, hq3⟩ := hq3
         replace hq3 := bnd_inv hq3
         obtain ⟨v_13, hv_v_13, hq3⟩ := hq3
         replace hq3 := lt1_inv hq3
         obtain ⟨v_14, hv_v_14, hq3⟩ := hq3
         replace hq3 := bnd_inv hq3
         obtain ⟨v_15, hv_v_15, hq3⟩ := hq3
         replace hq3 := bnd_inv hq3
         obtain ⟨v_16, hv_v_16, hq3⟩ := hq3
         refine JC.anyE (kl := []) (kk := 0) (base := [(0, ov (S rS s_1)), (4, ov (HDR go_7 0 (List.length out_4) gc_8)), (6, ov (S (rI .i64) i_6))])
             (fs := fun γ => [⟨some 22, ov (S rS s_1)⟩, ⟨some 23, ov (S (rI .i64) i_6)⟩, ⟨some 24, ov (S (rU UInt8) v_12)⟩, ⟨some 25, ov (S (rI .i64) v_13)⟩, ⟨some 26, ov (S rS s_1)⟩, ⟨some 27, ov (S (rI .i64) i_6)⟩, ⟨some 28, ov (S (rI .i64) v_14)⟩, ⟨some 29, ov (S (rU UInt8) v_15)⟩, ⟨some 30, ov (S (rI .i64) v_16)⟩, ⟨some 7, ov (S (rI .i64) v_13)⟩, ⟨some 8, ov (S (rI .i64) v_16)⟩])
             (rs := fun γ => [⟨cown go_7 (rU UInt8) out_4 0 gc_8, none, none, []⟩])
             (ds := [22, 23, 24, 25, 26, 27, 28, 29, 30, 7, 8]) (bs := [0, 4, 6]) (afts := [[], [], [], [], [], [], [], [], [], [], []]) (js := [0]) mixed (.cons rfl (.cons rfl (.cons rfl .nil))) (fun _ => rfl)
             (by
      refine dS 1 (fun γ ρ B hb hd => op_move lb (.tmp (hb 0 _ rfl))) ?_
      refine dS 2 (fun γ ρ B hb hd => op_move lb (.tmp (hb 6 _ rfl))) ?_
      refine dS 3 (fun γ ρ B hb hd => op_indexStrg lb tu9 (.tmp (hl hd 0 22 rfl)) (.tmp (hl hd 1 23 rfl)) hv_v_12) ?_
      refine dS 4 (fun γ ρ B hb hd => (op_call (js := []) ld cl50 (sim_strings_IndexByte k ([48, 49, 50, 51, 52, 53, 54, 55, 56, 57, 97, 98, 99, 100, 101, 102] : List UInt8) v_12 v_13 hv_v_13) .func (.cons (HasO.cS (l := [48, 49, 50, 51, 52, 53, 54, 55, 56, 57, 97, 98, 99, 100, 101, 102]) rfl) (.cons (.tmp (hl hd 2 24 rfl)) .nil)) rfl).post (fun _ => Imp.refl)) ?_
      refine dS 5 (fun γ ρ B hb hd => op_move lb (.tmp (hb 0 _ rfl))) ?_
      refine dS 6 (fun γ ρ B hb hd => op_move lb (.tmp (hb 6 _ rfl))) ?_
      refine dS 7 (fun γ ρ B hb hd => op_arI lb (.tmp (hl hd 5 27 rfl)) .cI (congrArg some hv_v_14)) ?_
      refine dS 8 (fun γ ρ B hb hd => op_indexStrg lb tu9 (.tmp (hl hd 4 26 rfl)) (.tmp (hl hd 6 28 rfl)) hv_v_15) ?_
      refine dS 9 (fun γ ρ B hb hd => (op_call (js := []) ld cl50 (sim_strings_IndexByte k ([48, 49, 50, 51, 52, 53, 54, 55, 56, 57, 97, 98, 99, 100, 101, 102] : List UInt8) v_15 v_16 hv_v_16) .func (.cons (HasO.cS (l := [48, 49, 50, 51, 52, 53, 54, 55, 56, 57, 97, 98, 99, 100, 101, 102]) rfl) (.cons (.tmp (hl hd 7 29 rfl)) .nil)) rfl).post (fun _ => Imp.refl)) ?_
      refine dS 10 (fun γ ρ B hb hd => op_assign lb (.tmp (hl hd 3 25 rfl))) ?_
      refine dS 11 (fun γ ρ B hb hd => op_assign lb (.tmp (hl hd 8 30 rfl))) ?_
      exact DSteps.nil)
             (by decide +kernel) (fun _ => rfl) rfl (fun _ => rfl) (fun _ => rfl) rfl (by decide) (by decide) (by decide +kernel) (fun _ d h => by cases h)
             (ρ' := fun γ => [(0, ov (S rS s_1)), (4, ov (HDR go_7 0 (List.length out_4) gc_8)), (6, ov (S (rI .i64) i_6)), (7, ov (S (rI .i64) v_13)), (8, ov (S (rI .i64) v_16))])
             (X' := fun γ => [cown go_7 (rU UInt8) out_4 0 gc_8])
             (fun γ ρ hb hd => (.cons (hb 0 _ rfl (by decide)) (.cons (hb 4 _ rfl (by decide)) (.cons (hb 6 _ rfl (by decide)) (.cons (hdq hd 9 7 rfl) (.cons (hdq hd 10 8 rfl) .nil)))))) (fun _ => rfl) (fun γ => ?_)
         refine JQ.at ⟨[(0, ov (S rS s_1)), (4, ov (HDR go_7 0 (List.length out_4) gc_8)), (6, ov (S (rI .i64) i_6)), (7, ov (S (rI .i64) v_13)), (8, ov (S (rI .i64) v_16))], [cown go_7 (rU UInt8) out_4 0 gc_8], []⟩ ?_
         refine JQ.then ?_
         refine JC.seq ?_
         replace hq3 := bnd_inv hq3
         obtain ⟨good_20, hx10, hq10⟩ := hq3
         refine JC.seqJ (γ := Unit) (stj := fun q => ⟨[(0, ov (S rS s_1)), (4, ov (HDR go_7 0 (List.length out_4) gc_8)), (5, ov (S rB good_20)), (6, ov (S (rI .i64) i_6)), (7, ov (S (rI .i64) v_13)), (8, ov (S (rI .i64) v_16))], [cown go_7 (rU UInt8) out_4 0 gc_8], []⟩) (fun q => ?_) ?_
         · obtain _ := q
           refine JC.at ⟨[(0, ov (S rS s_1)), (4, ov (HDR go_7 0 (List.length out_4) gc_8)), (5, ov (S rB good_20)), (6, ov (S (rI .i64) i_6)), (7, ov (S (rI .i64) v_13)), (8, ov (S (rI .i64) v_16))], [cown go_7 (rU UInt8) out_4 0 gc_8], []⟩ ?_
           refine JC.seq ?_
           refine JC.region ?_
           refine jc (op_move lb (.tmp rfl)) ?_
           replace hq10 := lt1_inv hq10
           obtain ⟨v_21, hv_v_21, hq10⟩ := hq10
           refine jc (op_not lb (.tmp rfl) hv_v_21) ?_
           refine JL.nil ?_
           refine JQ.then ?_
           replace hq10 := iteB_inv hq10
           rcases hq10 with ⟨hc14, hq10⟩ | ⟨hc14, hq10⟩
           · refine JC.condT (.tmp rfl) hc14 ?_
             refine JC.exit ?_
             refine JQ.outX ?_
             refine JQ.outE (by decide) ?_
             refine JQ.outX ?_
             replace hq10 := Option.some.inj hq10
             first | subst hq10 | clear hq10
             have ht := hr _ rfl
             have hq2 := congrArg some ht
             clear hr ht
             refine JQ.outX ?_
             refine JQ.here ?_
             replace hq2 := Option.some.inj hq2
             replace hq2 := Prod.mk.inj hq2
             obtain ⟨hq2_a, hq2⟩ := hq2
             first | subst hq2_a | clear hq2_a
             first | subst hq2 | clear hq2
             exact JQ.join (go_7, gc_8) (Imp.norm (js := [0]) rfl (.cons rfl (.cons rfl .nil)))
           · refine JC.condF (.tmp rfl) hc14 ?_
             refine JC.skip ?_
             refine JQ.then ?_
             refine JC.region ?_
             refine jc (op_move lb (.tmp rfl)) ?_
             refine jc (op_move lb (.tmp rfl)) ?_
             replace hq10 := bnd_inv hq10
             obtain ⟨v_22, hv_v_22, hq10⟩ := hq10
             refine jc (op_shlIU lb (.tmp rfl) (HasO.cU (x := (4 : UInt64)) rfl (by decide)) hv_v_22) ?_
             refine jc (op_move lb (.tmp rfl)) ?_
             replace hq10 := lt1_inv hq10
             obtain ⟨v_23, hv_v_23, hq10⟩ := hq10
             refine jc (op_arI lb (.tmp rfl) (.tmp rfl) (congrArg some hv_v_23)) ?_
             replace hq10 := lt1_inv hq10
             obtain ⟨v_24, hv_v_24, hq10⟩ := hq10
             refine jc (op_convIU lb tu3 tu5 (.tmp rfl) hv_v_24) ?_
             refine jc (op_buildF (r := (rU UInt8)) lb tu23 tz5 tZ5 rfl (Nat.le_of_ble_eq_true rfl) (.S rfl (.tmp rfl) .nil) rfl) ?_
             replace hq10 := bnd_inv hq10
             obtain ⟨out_25, hv_out_25, hq10⟩ := hq10
             refine jx (op_appendL (j := 0) lb tu23 tu23 rfl tB5 rfl (Nat.lt_of_lt_of_le Nat.zero_lt_one (Nat.le_of_ble_eq_true rfl)) (Nat.lt_of_lt_of_le Nat.zero_lt_one (Nat.le_of_ble_eq_true rfl))  rfl (.tmp rfl) (.tmp rfl) hv_out_25) (fun q => ?_)
             obtain ⟨go_26, gc_27⟩ := q
             refine JL.sub ⟨[(0, ov (S rS s_1)), (5, ov (S rB good_20)), (6, ov (S (rI .i64) i_6)), (46, ov (HDR go_26 0 (List.length out_25) gc_27))], [cown go_26 (rU UInt8) out_25 0 gc_27], []⟩ (.cons rfl (.cons rfl (.cons rfl (.cons rfl .nil)))) rfl rfl ?_
             refine jc (op_assign lb (.tmp rfl)) ?_
             refine JL.nil ?_
             refine JQ.outNB ?_
             refine JQ.then ?_
             refine JC.region ?_
             refine jc (op_move lb (.tmp rfl)) ?_
             replace hq10 := lt1_inv hq10
             obtain ⟨v_28, hv_v_28, hq10⟩ := hq10
             refine jc (op_arI lb (.tmp rfl) .cI (congrArg some hv_v_28)) ?_
             refine jc (op_assign lb (.tmp rfl)) ?_
             refine JL.nil ?_
             replace hq10 := Option.some.inj hq10
             first | subst hq10 | clear hq10
             exact JQ.next (go_26, gc_27) rfl (Imp.norm (js := [0]) rfl (.cons rfl (.cons rfl (.cons rfl (.cons rfl .nil)))))
         · refine JC.region ?_
           refine jc (op_move lb (.tmp rfl)) ?_
           replace hx10 := lt1_inv hx10
           obtain ⟨v_17, hv_v_17, hx10⟩ := hx10
           refine jc (op_cmpI lb (.tmp rfl) .cI (congrArg some hv_v_17)) ?_
           refine jc (op_move lb (.tmp rfl)) ?_
           refine JL.cnd (sv := ov (S (rI .i64) v_16)) (Guard.isT (ltB rfl) rfl rfl) rfl (ltB rfl) (fun hq_11 => op_move lb (.tmp rfl)) ?_
           replace hx10 := lt1_inv hx10
           obtain ⟨v_18, hv_v_18, hx10⟩ := hx10
           refine JL.cnd (sv := ov (S rB v_18)) (Guard.isT (ltB rfl) rfl rfl) rfl (ltB rfl) (fun hq_12 => op_cmpI lb (HasO.cnd (.tmp rfl) hq_12) .cI (congrArg some hv_v_18)) ?_
           replace hx10 := lt1_inv hx10
           obtain ⟨v_19, hv_v_19, hx10⟩ := hx10
           refine jc (op_pickCS lb (.tmp rfl) (fun hb13 => (HasO.cnd (.tmp rfl) hb13)) (fun hb13 => .cB) hv_v_19) ?_
           refine jc (op_assign lb (.tmp rfl)) ?_
           refine JL.nil ?_
           replace hx10 := Option.some.inj hx10
           first | subst hx10 | clear hx10
           exact JQ.join () (Imp.norm (js := [0]) rfl (.cons rfl (.cons rfl (.cons rfl (.cons rfl (.cons rfl (.cons rfl .nil)))))))
       · refine JC.condF (.tmp rfl) hc9 ?_
         refine JC.exit ?_
         refine JQ.outX ?_
         replace hq3 := Option.some.inj hq3
         first | subst hq3 | clear hq3
         have ht := hr _ rfl
         have hq2 := congrArg some ht
         clear hr ht
         refine JQ.outX ?_
         refine JQ.here ?_
         replace hq2 := Option.some.inj hq2
         replace hq2 := Prod.mk.inj hq2
         obtain ⟨hq2_a, hq2⟩ := hq2
         first | subst hq2_a | clear hq2_a
         first | subst hq2 | clear hq2
         exact JQ.join (go_7, gc_8) (Imp.norm (js := [0]) rfl (.cons rfl (.cons rfl .nil)))
     · refine JC.region ?_
       refine jc (op_move lb (.tmp rfl)) ?_
       refine jc (op_move lb (.tmp rfl)) ?_
       refine JL.cnd (sv := ov (S (rI .i64) i_6)) (Guard.isT (ltB rfl) rfl rfl) rfl (ltB rfl) (fun hq_4 => op_move lb (.tmp rfl)) ?_
       refine JL.cnd (sv := ov (S rS s_1)) (Guard.isT (ltB rfl) rfl rfl) rfl (ltB rfl) (fun hq_5 => op_move lb (.tmp rfl)) ?_
       refine JL.cnd (sv := ov (S (rI .i64) (List.length s_1 : Int))) (Guard.isT (ltB rfl) rfl rfl) rfl (ltB rfl) (fun hq_6 => op_lenS lb tu9 (HasO.cnd (.tmp rfl) hq_6)) ?_
       replace hx3 := lt1_inv hx3
       obtain ⟨v_9, hv_v_9, hx3⟩ := hx3
       refine JL.cnd (sv := ov (S rB v_9)) (Guard.isT (ltB rfl) rfl rfl) rfl (ltB rfl) (fun hq_7 => op_cmpI lb (HasO.cnd (.tmp rfl) hq_7) (HasO.cnd (.tmp rfl) hq_7) (congrArg some hv_v_9)) ?_
       replace hx3 := lt1_inv hx3
       obtain ⟨v_10, hv_v_10, hx3⟩ := hx3
       refine jc (op_pickCS lb (.tmp rfl) (fun hb8 => (HasO.cnd (.tmp rfl) hb8)) (fun hb8 => .cB) hv_v_10) ?_
       refine JL.nil ?_
       replace hx3 := Option.some.inj hx3
       first | subst hx3 | clear hx3
       exact JQ.join () (Imp.norm (js := [0]) rfl (.cons rfl (.cons rfl (.cons rfl (.cons rfl (.cons rfl .nil))))))

end Go.Proofs.Ytkbkdfcakpbojaa
