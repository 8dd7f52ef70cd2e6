/- Walks. -/
import Derived.Test.YtkbkdfcakpbojaaT
namespace Go.Proofs.Ytkbkdfcakpbojaa
open Go Fw
set_option linter.unusedVariables false
set_option maxRecDepth 100000
set_option maxHeartbeats 4000000

theorem sim_wire_Put (k : Nat) (n_1 : UInt64) (size_2 : Int) (r : (List UInt8) × Int) (hm : wire_Put k n_1 size_2 = some r) : Sim Try.prog 10 [S (rU UInt64) n_1, S (rI .i64) size_2] [] (γ := Option Nat × Nat) (fun q => [cown q.1 (rU UInt8) r.1 0 q.2]) (fun q => .tup [.val (HDR q.1 0 (List.length r.1) q.2), .val (S (rI .i64) r.2)]) := by
 unfold wire_Put at hm
 refine Sim.of Try.func10 rfl rfl (Nat.le_of_ble_eq_true rfl) (fun e0 w0 => ?_)
 refine JC.at ⟨[(0, ov (S (rU UInt64) n_1)), (1, ov (S (rI .i64) size_2))], [], []⟩ ?_
 refine JC.seq ?_
 refine JC.region ?_
 refine jc (op_assign lb HasO.nilH) ?_
 refine jc (op_assign lb .cI) ?_
 refine JL.nil ?_
 refine JQ.then ?_
 refine JC.seq ?_
 replace hm := bnd_inv hm
 obtain ⟨x_12, hx1, hq1⟩ := hm
 refine JC.seqJ (γ := Unit) (stj := fun q => ⟨[(0, ov (S (rU UInt64) n_1)), (1, ov (S (rI .i64) size_2)), (24, ov (S rB x_12))], [], []⟩) (fun q => ?_) ?_
 · obtain _ := q
   refine JC.at ⟨[(0, ov (S (rU UInt64) n_1)), (1, ov (S (rI .i64) size_2)), (24, ov (S rB x_12))], [], []⟩ ?_
   replace hq1 := iteB_inv hq1
   rcases hq1 with ⟨hc16, hq1⟩ | ⟨hc16, hq1⟩
   · refine JC.condT (.tmp rfl) hc16 ?_
     refine JC.seq ?_
     refine JC.region ?_
     refine jc (op_assign lb HasO.nilH) ?_
     refine jc (op_assign lb .cI) ?_
     refine JL.nil ?_
     refine JQ.then ?_
     refine JC.ret ?_
     refine JQ.outR ?_
     replace hq1 := Option.some.inj hq1
     subst hq1
     refine JQ.pre (Imp.nilown (rU UInt8)) ?_
     exact JQ.done (js := [0]) (ss := [.val (HDR none 0 (List.length ([] : (List UInt8))) (0)), .val (S (rI .i64) (2 : Int))]) (none, 0) (.inl rfl) (.nil rfl) rfl (.cons (.tmp rfl) (.cons (.tmp rfl) .nil)) rfl rfl rfl
   · refine JC.condF (.tmp rfl) hc16 ?_
     refine JC.skip ?_
     refine JQ.then ?_
     refine JC.seq ?_
     refine JC.region ?_
     refine jc (op_assign lb HasO.nilH) ?_
     refine JL.nil ?_
     refine JQ.then ?_
     replace hq1 := bnd_inv hq1
     obtain ⟨b_27, hx17, hq17⟩ := hq1
     refine JC.seqJ (γ := Option Nat × Nat) (stj := fun q => ⟨[(6, ov (HDR q.1 0 (List.length b_27) q.2))], [cown q.1 (rU UInt8) b_27 0 q.2], []⟩) (fun q => ?_) ?_
     · obtain ⟨go_28, gc_29⟩ := q
       refine JC.at ⟨[(6, ov (HDR go_28 0 (List.length b_27) gc_29))], [cown go_28 (rU UInt8) b_27 0 gc_29], []⟩ ?_
       refine JC.seq ?_
       refine JC.region ?_
       refine jc (op_move lb (.tmp rfl)) ?_
       refine jc (op_assign lb (.tmp rfl)) ?_
       refine jc (op_assign lb .cI) ?_
       refine JL.nil ?_
       refine JQ.then ?_
       refine JC.ret ?_
       replace hq17 := Option.some.inj hq17
       subst hq17
       exact JQ.done (js := [0]) (ss := [.val (HDR go_28 0 (List.length b_27) gc_29), .val (S (rI .i64) (0 : Int))]) (go_28, gc_29) (.inl rfl) (.nil rfl) rfl (.cons (.tmp rfl) (.cons (.tmp rfl) .nil)) rfl rfl rfl
     · refine JC.seq ?_
       refine JC.region ?_
       refine jc (op_move lb (.tmp rfl)) ?_
       refine jc (op_move lb .cI) ?_
       refine JL.nil ?_
       refine JQ.then ?_
       refine JC.block ?_
       refine JC.pre (Imp.nilown (rU UInt8)) ?_
       refine JC.pre ?_ (JC.loop (γ := Option Nat × Nat) (stf := fun s q => ⟨[(0, ov (S (rU UInt64) n_1)), (1, ov (S (rI .i64) size_2)), (6, ov (HDR q.1 0 (List.length s.1) q.2)), (25, ov (S (rI .i64) size_2)), (26, ov (S (rI .i64) s.2))], [cown q.1 (rU UInt8) s.1 0 q.2], []⟩) (q := (none, 0)) hx17 ?_)
       · exact (Imp.norm (js := [0]) rfl (.cons rfl (.cons rfl (.cons rfl (.cons rfl (.cons rfl .nil))))))
       · intro s q x hx hr
         obtain ⟨b_13, x_14⟩ := s
         obtain ⟨go_15, gc_16⟩ := q
         change wire_Put.b1 k size_2 n_1 b_13 x_14 = some x at hx
         unfold wire_Put.b1 at hx
         refine JC.at ⟨[(0, ov (S (rU UInt64) n_1)), (1, ov (S (rI .i64) size_2)), (6, ov (HDR go_15 0 (List.length b_13) gc_16)), (25, ov (S (rI .i64) size_2)), (26, ov (S (rI .i64) x_14))], [cown go_15 (rU UInt8) b_13 0 gc_16], []⟩ ?_
         refine JC.seq ?_
         refine JC.region ?_
         replace hx := lt1_inv hx
         obtain ⟨v_17, hv_v_17, hx⟩ := hx
         refine jc (op_cmpI lb (.tmp rfl) (.tmp rfl) (congrArg some hv_v_17)) ?_
         refine JL.nil ?_
         refine JQ.then ?_
         refine JC.seq ?_
         replace hx := iteB_inv hx
         rcases hx with ⟨hc19, hx⟩ | ⟨hc19, hx⟩
         · refine JC.condT (.tmp rfl) hc19 ?_
           refine JC.skip ?_
           refine JQ.then ?_
           refine JC.seq ?_
           refine JC.block ?_
           refine JC.seq ?_
           refine JC.region ?_
           refine jc (op_move lb (.tmp rfl)) ?_
           refine jc (op_assign lb (.tmp rfl)) ?_
           refine JL.nil ?_
           refine JQ.then ?_
           refine JC.region ?_
           refine jc (op_move lb (.tmp rfl)) ?_
           refine jc (op_move lb (.tmp rfl)) ?_
           refine jc (op_move lb (.tmp rfl)) ?_
           replace hx := lt1_inv hx
           obtain ⟨v_18, hv_v_18, hx⟩ := hx
           refine jc (op_arI lb (.tmp rfl) .cI (congrArg some hv_v_18)) ?_
           refine jc (op_move lb (.tmp rfl)) ?_
           replace hx := lt1_inv hx
           obtain ⟨v_19, hv_v_19, hx⟩ := hx
           refine jc (op_arI lb (.tmp rfl) (.tmp rfl) (congrArg some hv_v_19)) ?_
           replace hx := lt1_inv hx
           obtain ⟨v_20, hv_v_20, hx⟩ := hx
           refine jc (op_arI lb .cI (.tmp rfl) (congrArg some hv_v_20)) ?_
           replace hx := bnd_inv hx
           obtain ⟨v_21, hv_v_21, hx⟩ := hx
           refine jc (op_shrUI lb (.tmp rfl) (.tmp rfl) hv_v_21) ?_
           replace hx := lt1_inv hx
           obtain ⟨v_22, hv_v_22, hx⟩ := hx
           refine jc (op_convUU lb tu22 tu5 (.tmp rfl) hv_v_22) ?_
           refine JL.sub ⟨[(0, ov (S (rU UInt64) n_1)), (1, ov (S (rI .i64) size_2)), (6, ov (HDR go_15 0 (List.length b_13) gc_16)), (25, ov (S (rI .i64) size_2)), (26, ov (S (rI .i64) x_14)), (29, ov (HDR go_15 0 (List.length b_13) gc_16)), (37, ov (S (rU UInt8) v_22))], [cown go_15 (rU UInt8) b_13 0 gc_16], []⟩ (.cons rfl (.cons rfl (.cons rfl (.cons rfl (.cons rfl (.cons rfl (.cons rfl .nil))))))) rfl rfl ?_
           refine jc (op_buildF (r := (rU UInt8)) lb tu23 tz5 tZ5 rfl (Nat.le_of_ble_eq_true rfl) (.S rfl (.tmp rfl) .nil) rfl) ?_
           replace hx := bnd_inv hx
           obtain ⟨b_23, hv_b_23, hx⟩ := hx
           refine jx (op_appendL (j := 0) lb tu23 tu23 rfl tB5 rfl (Nat.lt_of_lt_of_le Nat.zero_lt_one (Nat.le_of_ble_eq_true rfl)) (Nat.lt_of_lt_of_le Nat.zero_lt_one (Nat.le_of_ble_eq_true rfl))  rfl (.tmp rfl) (.tmp rfl) hv_b_23) (fun q => ?_)
           obtain ⟨go_24, gc_25⟩ := q
           refine jc (op_assign lb (.tmp rfl)) ?_
           refine JL.nil ?_
           refine JQ.outNB ?_
           refine JQ.then ?_
           refine JC.region ?_
           replace hx := lt1_inv hx
           obtain ⟨v_26, hv_v_26, hx⟩ := hx
           refine jc (op_arI lb (.tmp rfl) .cI (congrArg some hv_v_26)) ?_
           refine jc (op_move lb (.tmp rfl)) ?_
           refine JL.nil ?_
           replace hx := Option.some.inj hx
           first | subst hx | clear hx
           exact JQ.next (go_24, gc_25) rfl (Imp.norm (js := [0]) rfl (.cons rfl (.cons rfl (.cons rfl (.cons rfl (.cons rfl .nil))))))
         · refine JC.condF (.tmp rfl) hc19 ?_
           refine JC.exit ?_
           refine JQ.outX ?_
           replace hx := Option.some.inj hx
           first | subst hx | clear hx
           have ht := hr _ rfl
           have hq18 := congrArg some ht
           clear hr ht
           refine JQ.outX ?_
           refine JQ.here ?_
           replace hq18 := Option.some.inj hq18
           first | subst hq18 | clear hq18
           exact JQ.join (go_15, gc_16) (Imp.norm (js := [0]) rfl (.cons rfl .nil))
 · refine JC.region ?_
   refine jc (op_move lb (.tmp rfl)) ?_
   replace hx1 := lt1_inv hx1
   obtain ⟨v_3, hv_v_3, hx1⟩ := hx1
   refine jc (op_cmpI lb (.tmp rfl) .cI (congrArg some hv_v_3)) ?_
   refine jc (op_move lb (.tmp rfl)) ?_
   refine JL.cnd (sv := ov (S (rI .i64) size_2)) (Guard.isF (ltB rfl) rfl rfl) rfl (ltB rfl) (fun hq_2 => op_move lb (.tmp rfl)) ?_
   replace hx1 := lt1_inv hx1
   obtain ⟨v_4, hv_v_4, hx1⟩ := hx1
   refine JL.cnd (sv := ov (S rB v_4)) (Guard.isF (ltB rfl) rfl rfl) rfl (ltB rfl) (fun hq_3 => op_cmpI lb (HasO.cnd (.tmp rfl) (notT (notF hq_3))) .cI (congrArg some hv_v_4)) ?_
   replace hx1 := lt1_inv hx1
   obtain ⟨v_5, hv_v_5, hx1⟩ := hx1
   refine jc (op_pickCS lb (.tmp rfl) (fun hb4 => .cB) (fun hb4 => (HasO.cnd (.tmp rfl) (notT hb4))) hv_v_5) ?_
   refine jc (op_move lb (.tmp rfl)) ?_
   refine JL.cnd (sv := ov (S (rI .i64) size_2)) (Guard.isF (ltB rfl) rfl rfl) rfl (ltB rfl) (fun hq_5 => op_move lb (.tmp rfl)) ?_
   replace hx1 := lt1_inv hx1
   obtain ⟨v_6, hv_v_6, hx1⟩ := hx1
   refine JL.cnd (sv := ov (S rB v_6)) (Guard.isF (ltB rfl) rfl rfl) rfl (ltB rfl) (fun hq_6 => op_cmpI lb (HasO.cnd (.tmp rfl) (notT (notF hq_6))) .cI (congrArg some hv_v_6)) ?_
   refine JL.cnd (sv := ov (S rB v_6)) (Guard.isF (ltB rfl) rfl rfl) rfl (ltB rfl) (fun hq_7 => op_move lb (HasO.cnd (.tmp rfl) (notT (notF hq_7)))) ?_
   refine JL.sub ⟨[(0, ov (S (rU UInt64) n_1)), (1, ov (S (rI .i64) size_2)), (14, ov (S rB v_5)), (17, bif (!v_5) then ov (S rB v_6) else .one .und)], [], []⟩ (.cons rfl (.cons rfl (.cons rfl (.cons rfl .nil)))) rfl rfl ?_
   refine JL.cnd (sv := ov (S (rU UInt64) n_1)) (Guard.cT (q := (!v_5)) (ltB rfl) rfl rfl) rfl (ltB rfl) (fun hq_8 => op_move lb (.tmp rfl)) ?_
   refine JL.cnd (sv := ov (S (rI .i64) size_2)) (Guard.cT (q := (!v_5)) (ltB rfl) rfl rfl) rfl (ltB rfl) (fun hq_9 => op_move lb (.tmp rfl)) ?_
   replace hx1 := lt1_inv hx1
   obtain ⟨v_7, hv_v_7, hx1⟩ := hx1
   refine JL.cnd (sv := ov (S (rI .i64) v_7)) (Guard.cT (q := (!v_5)) (ltB rfl) rfl rfl) rfl (ltB rfl) (fun hq_10 => op_arI lb .cI (HasO.cnd (.tmp rfl) (andI (notT (notF (andL hq_10))) (andR hq_10))) (congrArg some hv_v_7)) ?_
   replace hx1 := bnd_inv hx1
   obtain ⟨v_8, hv_v_8, hx1⟩ := hx1
   refine JL.cnd (sv := ov (S (rU UInt64) v_8)) (Guard.cT (q := (!v_5)) (ltB rfl) rfl rfl) rfl (ltB rfl) (fun hq_11 => op_shrUI lb (HasO.cnd (.tmp rfl) (andI (notT (notF (andL hq_11))) (andR hq_11))) (HasO.cnd (.tmp rfl) (andI (notT (notF (andL hq_11))) (andR hq_11))) (ifT hv_v_8 hq_11)) ?_
   replace hx1 := lt1_inv hx1
   obtain ⟨v_9, hv_v_9, hx1⟩ := hx1
   refine JL.cnd (sv := ov (S rB v_9)) (Guard.cT (q := (!v_5)) (ltB rfl) rfl rfl) rfl (ltB rfl) (fun hq_12 => op_cmpU lb (HasO.cnd (.tmp rfl) (andI (notT (notF (andL hq_12))) (andR hq_12))) (HasO.cU (x := (0 : UInt64)) rfl (by decide)) (congrArg some hv_v_9)) ?_
   replace hx1 := lt1_inv hx1
   obtain ⟨v_10, hv_v_10, hx1⟩ := hx1
   refine JL.cnd (sv := ov (S rB v_10)) (Guard.isF (ltB rfl) rfl rfl) rfl (ltB rfl) (fun hq_13 => op_pickCS lb (HasO.cnd (.tmp rfl) (notT (notF hq_13))) (fun hb14 => (HasO.cnd (.tmp rfl) (andI (notT (notF hq_13)) hb14))) (fun hb14 => .cB) hv_v_10) ?_
   replace hx1 := lt1_inv hx1
   obtain ⟨v_11, hv_v_11, hx1⟩ := hx1
   refine jc (op_pickCS lb (.tmp rfl) (fun hb15 => .cB) (fun hb15 => (HasO.cnd (.tmp rfl) (notT hb15))) hv_v_11) ?_
   refine JL.nil ?_
   replace hx1 := Option.some.inj hx1
   first | subst hx1 | clear hx1
   exact JQ.join () (Imp.norm (js := []) rfl (.cons rfl (.cons rfl (.cons rfl .nil))))

theorem sim_wire_Blob (k : Nat) (b_1 : (List UInt8)) (r : (List UInt8) × Int) (hm : wire_Blob k b_1 = some r) : Sim Try.prog 31 [S (rL (rU UInt8)) b_1] [] (γ := Option Nat × Nat) (fun q => [cown q.1 (rU UInt8) r.1 0 q.2]) (fun q => .tup [.val (HDR q.1 0 (List.length r.1) q.2), .val (S (rI .i64) r.2)]) := by
 unfold wire_Blob at hm
 refine Sim.of Try.func31 rfl rfl (Nat.le_of_ble_eq_true rfl) (fun e0 w0 => ?_)
 refine JC.at ⟨[(0, ov (S (rL (rU UInt8)) b_1))], [], []⟩ ?_
 refine JC.seq ?_
 refine JC.region ?_
 refine jc (op_assign lb HasO.nilH) ?_
 refine jc (op_assign lb .cI) ?_
 refine JL.nil ?_
 refine JQ.then ?_
 refine JC.seq ?_
 refine JC.seq ?_
 refine JC.region ?_
 refine jc (op_move lb (.tmp rfl)) ?_
 refine jc (op_lenL lb tu23 (.tmp rfl)) ?_
 replace hm := lt1_inv hm
 obtain ⟨v_2, hv_v_2, hm⟩ := hm
 refine jc (op_cmpI lb (.tmp rfl) .cI (congrArg some hv_v_2)) ?_
 refine JL.nil ?_
 refine JQ.then ?_
 replace hm := iteB_inv hm
 rcases hm with ⟨hc1, hm⟩ | ⟨hc1, hm⟩
 · refine JC.condT (.tmp rfl) hc1 ?_
   refine JC.seq ?_
   refine JC.region ?_
   refine jc (op_assign lb HasO.nilH) ?_
   refine jc (op_assign lb .cI) ?_
   refine JL.nil ?_
   refine JQ.then ?_
   refine JC.ret ?_
   refine JQ.outR ?_
   replace hm := Option.some.inj hm
   subst hm
   refine JQ.pre (Imp.nilown (rU UInt8)) ?_
   exact JQ.done (js := [0]) (ss := [.val (HDR none 0 (List.length ([] : (List UInt8))) (0)), .val (S (rI .i64) (3 : Int))]) (none, 0) (.inl rfl) (.nil rfl) rfl (.cons (.tmp rfl) (.cons (.tmp rfl) .nil)) rfl rfl rfl
 · refine JC.condF (.tmp rfl) hc1 ?_
   refine JC.skip ?_
   refine JQ.then ?_
   refine JC.seq ?_
   refine JC.region ?_
   refine jc (op_move lb (.tmp rfl)) ?_
   refine jc (op_lenL lb tu23 (.tmp rfl)) ?_
   replace hm := lt1_inv hm
   obtain ⟨v_3, hv_v_3, hm⟩ := hm
   refine jc (op_convIU lb tu3 tu22 (.tmp rfl) hv_v_3) ?_
   replace hm := bnd_inv hm
   obtain ⟨⟨v_4, v_5⟩, hv_v_4, hm⟩ := hm
   refine jx (op_call (js := []) ld cl10 (sim_wire_Put k v_3 (2 : Int) (v_4, v_5) hv_v_4) .func (.cons (.tmp rfl) (.cons .cI .nil)) rfl) (fun q => ?_)
   obtain ⟨go_6, gc_7⟩ := q
   refine jc (op_move lb (.tmp rfl)) ?_
   refine JL.sub ⟨[(0, ov (S (rL (rU UInt8)) b_1)), (9, .tup [.val (HDR go_6 0 (List.length v_4) gc_7), .val (S (rI .i64) v_5)])], [cown go_6 (rU UInt8) v_4 0 gc_7], []⟩ (.cons rfl (.cons rfl .nil)) rfl rfl ?_
   refine jc (op_extract (i := 0) lb (.tmp rfl) rfl) ?_
   refine jc (op_extract (i := 1) lb (.tmp rfl) rfl) ?_
   refine jc (op_assign lb (.tmp rfl)) ?_
   refine jc (op_assign lb (.tmp rfl)) ?_
   refine JL.nil ?_
   refine JQ.then ?_
   refine JC.seq ?_
   refine JC.region ?_
   refine jc (op_move lb (.tmp rfl)) ?_
   refine jc (op_move lb (.tmp rfl)) ?_
   replace hm := bnd_inv hm
   obtain ⟨n_8, hv_n_8, hm⟩ := hm
   refine jx (op_appendL (j := 0) lb tu23 tu23 rfl tB5 rfl (Nat.lt_of_lt_of_le Nat.zero_lt_one (Nat.le_of_ble_eq_true rfl)) (Nat.lt_of_lt_of_le Nat.zero_lt_one (Nat.le_of_ble_eq_true rfl))  rfl (.tmp rfl) (.tmp rfl) hv_n_8) (fun q => ?_)
   obtain ⟨go_9, gc_10⟩ := q
   refine jc (op_assign lb (.tmp rfl)) ?_
   refine jc (op_assign lb .cI) ?_
   refine JL.nil ?_
   refine JQ.then ?_
   refine JC.ret ?_
   replace hm := Option.some.inj hm
   subst hm
   exact JQ.done (js := [0]) (ss := [.val (HDR go_9 0 (List.length n_8) gc_10), .val (S (rI .i64) (0 : Int))]) (go_9, gc_10) (.inl rfl) (.nil rfl) rfl (.cons (.tmp rfl) (.cons (.tmp rfl) .nil)) rfl rfl rfl

theorem sim_wire_Dot (k : Nat) (d_1 : api_Dot) (r : (List UInt8) × Int) (hm : wire_Dot k d_1 = some r) : Sim Try.prog 30 [A r_api_Dot d_1] [] (γ := Option Nat × Nat) (fun q => [cown q.1 (rU UInt8) r.1 0 q.2]) (fun q => .tup [.val (HDR q.1 0 (List.length r.1) q.2), .val (S (rI .i64) r.2)]) := by
 unfold wire_Dot at hm
 refine Sim.of Try.func30 rfl rfl (Nat.le_of_ble_eq_true rfl) (fun e0 w0 => ?_)
 refine JC.at ⟨[(0, ov (A r_api_Dot d_1))], [], []⟩ ?_
 refine JC.seq ?_
 refine JC.region ?_
 refine jx (op_boxA lb (.tmp rfl)) (fun q => ?_)
 obtain ⟨gb_2, hqq⟩ : ∃ z, z = q := ⟨_, rfl⟩
 subst hqq
 refine jc (op_assign lb HasO.nilH) ?_
 refine jc (op_assign lb .cI) ?_
 refine JL.nil ?_
 refine JQ.then ?_
 refine JC.seq ?_
 replace hm := bnd_inv hm
 obtain ⟨x_5, hx1, hq1⟩ := hm
 refine JC.seqJ (γ := Unit) (stj := fun q => ⟨[(1, ov (PTR gb_2 0)), (13, ov (S rB x_5))], [cvar gb_2 r_api_Dot d_1], []⟩) (fun q => ?_) ?_
 · obtain _ := q
   refine JC.at ⟨[(1, ov (PTR gb_2 0)), (13, ov (S rB x_5))], [cvar gb_2 r_api_Dot d_1], []⟩ ?_
   replace hq1 := iteB_inv hq1
   rcases hq1 with ⟨hc4, hq1⟩ | ⟨hc4, hq1⟩
   · refine JC.condT (.tmp rfl) hc4 ?_
     refine JC.seq ?_
     refine JC.region ?_
     refine jc (op_assign lb HasO.nilH) ?_
     refine jc (op_assign lb .cI) ?_
     refine JL.nil ?_
     refine JQ.then ?_
     refine JC.ret ?_
     refine JQ.outR ?_
     replace hq1 := Option.some.inj hq1
     subst hq1
     refine JQ.pre (Imp.nilown (rU UInt8)) ?_
     exact JQ.done (js := [1]) (ss := [.val (HDR none 0 (List.length ([] : (List UInt8))) (0)), .val (S (rI .i64) (2 : Int))]) (none, 0) (.inl rfl) (.nil rfl) rfl (.cons (.tmp rfl) (.cons (.tmp rfl) .nil)) rfl rfl rfl
   · refine JC.condF (.tmp rfl) hc4 ?_
     refine JC.skip ?_
     refine JQ.then ?_
     refine JC.seq ?_
     refine JC.region ?_
     refine jc (op_fieldAddr (off := 1) lb tf48_1 (.tmp rfl)) ?_
     refine jc (op_loadS (j := 0) lb tS22 (.tmp rfl) rfl (Comp.trans (Comp.self r_api_Dot d_1) (comp_api_Dot_Count d_1) (Nat.le_of_ble_eq_true rfl)) rfl rfl) ?_
     replace hq1 := bnd_inv hq1
     obtain ⟨⟨v_6, v_7⟩, hv_v_6, hq1⟩ := hq1
     refine jx (op_call (js := []) ld cl10 (sim_wire_Put k d_1.Count (8 : Int) (v_6, v_7) hv_v_6) .func (.cons (.tmp rfl) (.cons .cI .nil)) rfl) (fun q => ?_)
     obtain ⟨go_8, gc_9⟩ := q
     refine jc (op_move lb (.tmp rfl)) ?_
     refine jc (op_extract (i := 0) lb (.tmp rfl) rfl) ?_
     refine jc (op_extract (i := 1) lb (.tmp rfl) rfl) ?_
     refine jc (op_assign lb (.tmp rfl)) ?_
     refine jc (op_assign lb (.tmp rfl)) ?_
     refine JL.nil ?_
     refine JQ.then ?_
     refine JC.seq ?_
     refine JC.region ?_
     refine jc (op_fieldAddr (off := 0) lb tf48_0 (.tmp rfl)) ?_
     refine jc (op_loadS (j := 1) lb tS3 (.tmp rfl) rfl (Comp.trans (Comp.self r_api_Dot d_1) (comp_api_Dot_Region d_1) (Nat.le_of_ble_eq_true rfl)) rfl rfl) ?_
     refine JL.nrm ⟨[(4, ov (HDR go_8 0 (List.length v_6) gc_9)), (21, ov (S (rI .i64) d_1.Region))], [cown go_8 (rU UInt8) v_6 0 gc_9], []⟩ [0] rfl (.cons rfl (.cons rfl .nil)) rfl ?_
     replace hq1 := lt1_inv hq1
     obtain ⟨v_10, hv_v_10, hq1⟩ := hq1
     refine jc (op_convIU lb tu3 tu5 (.tmp rfl) hv_v_10) ?_
     refine jx (op_buildO (r := (rU UInt8)) lb tu23 tz5 tZ5 rfl (Nat.le_of_ble_eq_true rfl) (.S rfl (.tmp rfl) .nil) rfl) (fun q => ?_)
     obtain ⟨gb_11, hqq⟩ : ∃ z, z = q := ⟨_, rfl⟩
     subst hqq
     refine jc (op_move lb (.tmp rfl)) ?_
     replace hq1 := bnd_inv hq1
     obtain ⟨x_12, hv_x_12, hq1⟩ := hq1
     refine jx (op_appendO (j := 1) (j' := 0) lb tu23 tu23 rfl tB5 rfl (Nat.lt_of_lt_of_le Nat.zero_lt_one (Nat.le_of_ble_eq_true rfl)) (Nat.lt_of_lt_of_le Nat.zero_lt_one (Nat.le_of_ble_eq_true rfl))  rfl (.tmp rfl) rfl (.tmp rfl) hv_x_12) (fun q => ?_)
     obtain ⟨go_13, gc_14⟩ := q
     refine jc (op_assign lb (.tmp rfl)) ?_
     refine jc (op_assign lb .cI) ?_
     refine JL.nil ?_
     refine JQ.then ?_
     refine JC.ret ?_
     replace hq1 := Option.some.inj hq1
     subst hq1
     exact JQ.done (js := [1]) (ss := [.val (HDR go_13 0 (List.length x_12) gc_14), .val (S (rI .i64) (0 : Int))]) (go_13, gc_14) (.inl rfl) (.nil rfl) rfl (.cons (.tmp rfl) (.cons (.tmp rfl) .nil)) rfl rfl rfl
 · refine JC.region ?_
   refine jc (op_fieldAddr (off := 0) lb tf48_0 (.tmp rfl)) ?_
   refine jc (op_loadS (j := 0) lb tS3 (.tmp rfl) rfl (Comp.trans (Comp.self r_api_Dot d_1) (comp_api_Dot_Region d_1) (Nat.le_of_ble_eq_true rfl)) rfl rfl) ?_
   replace hx1 := lt1_inv hx1
   obtain ⟨v_3, hv_v_3, hx1⟩ := hx1
   refine jc (op_cmpI lb (.tmp rfl) .cI (congrArg some hv_v_3)) ?_
   refine jc (op_move lb (.tmp rfl)) ?_
   replace hx1 := iteB_inv hx1
   rcases hx1 with ⟨hc3, hx1⟩ | ⟨hc3, hx1⟩
   · refine JL.skip (.no rfl (ltB rfl) rfl hc3) (fun d h => by cases h; exact ltB rfl) ?_
     refine JL.skip (.no rfl (ltB rfl) rfl hc3) (fun d h => by cases h; exact ltB rfl) ?_
     refine JL.skip (.no rfl (ltB rfl) rfl hc3) (fun d h => by cases h; exact ltB rfl) ?_
     refine jc (op_pickT lb (.tmp rfl) hc3 .cB) ?_
     refine JL.nil ?_
     replace hx1 := Option.some.inj hx1
     first | subst hx1 | clear hx1
     exact JQ.join () (Imp.norm (js := [0]) rfl (.cons rfl (.cons rfl .nil)))
   · refine JL.run (.yes rfl (ltB rfl) rfl hc3) (op_fieldAddr (off := 0) lb tf48_0 (.tmp rfl)) ?_
     refine JL.run (.yes rfl (ltB rfl) rfl hc3) (op_loadS (j := 0) lb tS3 (.tmp rfl) rfl (Comp.trans (Comp.self r_api_Dot d_1) (comp_api_Dot_Region d_1) (Nat.le_of_ble_eq_true rfl)) rfl rfl) ?_
     replace hx1 := lt1_inv hx1
     obtain ⟨v_4, hv_v_4, hx1⟩ := hx1
     refine JL.run (.yes rfl (ltB rfl) rfl hc3) (op_cmpI lb (.tmp rfl) .cI (congrArg some hv_v_4)) ?_
     refine JL.sub ⟨[(1, ov (PTR gb_2 0)), (9, ov (S rB v_3)), (12, ov (S rB v_4))], [cvar gb_2 r_api_Dot d_1], []⟩ (.cons rfl (.cons rfl (.cons rfl .nil))) rfl rfl ?_
     refine jc (op_pickF lb (.tmp rfl) hc3 (.tmp rfl)) ?_
     refine JL.nil ?_
     replace hx1 := Option.some.inj hx1
     first | subst hx1 | clear hx1
     exact JQ.join () (Imp.norm (js := [0]) rfl (.cons rfl (.cons rfl .nil)))

theorem sim_law01_num (k : Nat) (e_1 : Int) (r : Unit) (hm : law01_num k e_1 = some r) : Sim Try.prog 13 [S (rI .i64) e_1] [] (γ := Unit) (fun q => []) (fun q => .one (.val (S (rI .i64) e_1))) := by
 unfold law01_num at hm
 refine Sim.of Try.func13 rfl rfl (Nat.le_of_ble_eq_true rfl) (fun e0 w0 => ?_)
 refine JC.at ⟨[(0, ov (S (rI .i64) e_1))], [], []⟩ ?_
 refine JC.seq ?_
 refine JC.region ?_
 refine jc (op_assign lb .cI) ?_
 refine JL.nil ?_
 refine JQ.then ?_
 refine JC.seq ?_
 refine JC.region ?_
 refine jc (op_move lb (.tmp rfl)) ?_
 refine jc (op_assign lb (.tmp rfl)) ?_
 refine JL.nil ?_
 refine JQ.then ?_
 refine JC.ret ?_
 exact JQ.done (js := []) (ss := [.val (S (rI .i64) e_1)]) () (.inl rfl) (.nil rfl) rfl (.cons (.tmp rfl) .nil) rfl rfl rfl

theorem sim_slices_Clonebyte_byte (k : Nat) (s_1 : (List UInt8)) (r : (List UInt8)) (hm : slices_Clonebyte_byte k s_1 = some r) : Sim Try.prog 41 [S (rL (rU UInt8)) s_1] [] (γ := Option Nat × Nat) (fun q => [cown q.1 (rU UInt8) r 0 q.2]) (fun q => .one (.val (HDR q.1 0 (List.length r) q.2))) := by
 unfold slices_Clonebyte_byte at hm
 refine Sim.of Try.func41 rfl rfl (Nat.le_of_ble_eq_true rfl) (fun e0 w0 => ?_)
 refine JC.at ⟨[(0, ov (S (rL (rU UInt8)) s_1))], [], []⟩ ?_
 refine JC.seq ?_
 refine JC.region ?_
 refine jc (op_assign lb HasO.nilH) ?_
 refine JL.nil ?_
 refine JQ.then ?_
 refine JC.seq ?_
 refine JC.seq ?_
 refine JC.region ?_
 refine jc (op_move lb (.tmp rfl)) ?_
 refine JL.consX rfl (op_isNil (neg := false) (ltB rfl) tu23 (.tmp rfl) HasO.nilH) (fun q => ?_)
 obtain ⟨hb1, hb1_⟩ := q
 cases hb1
 · refine JL.nil ?_
   refine JQ.then ?_
   refine JC.condF (.tmp rfl) rfl ?_
   refine JC.skip ?_
   refine JQ.then ?_
   refine JC.seq ?_
   refine JC.region ?_
   refine jx (op_buildO (r := (rU UInt8)) lb tu23 tz5 tZ5 rfl (Nat.le_of_ble_eq_true rfl) .nil rfl) (fun q => ?_)
   obtain ⟨gb_2, hqq⟩ : ∃ z, z = q := ⟨_, rfl⟩
   subst hqq
   refine jc (op_move lb (.tmp rfl)) ?_
   replace hm := bnd_inv hm
   obtain ⟨x_3, hv_x_3, hm⟩ := hm
   refine jx (op_appendL (j := 0) lb tu23 tu23 rfl tB5 rfl (Nat.lt_of_lt_of_le Nat.zero_lt_one (Nat.le_of_ble_eq_true rfl)) (Nat.lt_of_lt_of_le Nat.zero_lt_one (Nat.le_of_ble_eq_true rfl))  rfl (.tmp rfl) (.tmp rfl) hv_x_3) (fun q => ?_)
   obtain ⟨go_4, gc_5⟩ := q
   refine jc (op_assign lb (.tmp rfl)) ?_
   refine JL.nil ?_
   refine JQ.then ?_
   refine JC.ret ?_
   replace hm := Option.some.inj hm
   subst hm
   exact JQ.done (js := [0]) (ss := [.val (HDR go_4 0 (List.length x_3) gc_5)]) (go_4, gc_5) (.inl rfl) (.nil rfl) rfl (.cons (.tmp rfl) .nil) rfl rfl rfl
 · replace hm := nilK hm (show _ = (
         some ([] : (List UInt8))
         ) by simp [hb1_ rfl, subL, apL])
   refine JL.nil ?_
   refine JQ.then ?_
   refine JC.condT (.tmp rfl) rfl ?_
   refine JC.seq ?_
   refine JC.region ?_
   refine jc (op_assign lb HasO.nilH) ?_
   refine JL.nil ?_
   refine JQ.then ?_
   refine JC.ret ?_
   refine JQ.outR ?_
   replace hm := Option.some.inj hm
   subst hm
   refine JQ.pre (Imp.nilown (rU UInt8)) ?_
   exact JQ.done (js := [0]) (ss := [.val (HDR none 0 (List.length ([] : (List UInt8))) (0))]) (none, 0) (.inl rfl) (.nil rfl) rfl (.cons (.tmp rfl) .nil) rfl rfl rfl

theorem sim_wire_Read (k : Nat) (b_1 : (List UInt8)) (r : (List UInt8) × Nat) (hm : wire_Read k b_1 = some r) : Sim Try.prog 16 [S (rL (rU UInt8)) b_1] [] (γ := Nat × Option Nat × Nat) (fun q => [cvar q.1 (rP (rW (HDX q.2.1 ((0) * 1) r.2)) (rP rB (rP rB r0))) ((), (true, (true, ()))), cown q.2.1 (rU UInt8) r.1 0 q.2.2]) (fun q => .one (.val (PTR q.1 0))) := by
 unfold wire_Read at hm
 refine Sim.of Try.func16 rfl rfl (Nat.le_of_ble_eq_true rfl) (fun e0 w0 => ?_)
 refine JC.at ⟨[(0, ov (S (rL (rU UInt8)) b_1))], [], []⟩ ?_
 refine JC.seq ?_
 refine JC.region ?_
 refine jc (op_assign lb (HasO.const (p := PTO none) fun _ => rfl)) ?_
 refine JL.nil ?_
 refine JQ.then ?_
 refine JC.seq ?_
 refine JC.region ?_
 refine jc (op_move lb (.tmp rfl)) ?_
 replace hm := bnd_inv hm
 obtain ⟨v_2, hv_v_2, hm⟩ := hm
 refine jx (op_call (js := []) ld cl41 (sim_slices_Clonebyte_byte k b_1 v_2 hv_v_2) .func (.cons (.tmp rfl) .nil) rfl) (fun q => ?_)
 obtain ⟨go_3, gc_4⟩ := q
 refine JL.pre (Imp.slot (s := 4) (q := HDE go_3 (List.length v_2) gc_4) rfl wkTE) ?_
 refine JL.pre (Imp.slotX (s := 4) (j := 0) rfl rfl) ?_
 refine JL.pre (Imp.slot (s := 4) (q := HDX go_3 ((0) * 1) (List.length v_2)) rfl wkX0) ?_
 refine jc (op_build lb tZ75 zr75 tp75 (.S (off := 0) (s := rW (HDX go_3 ((0) * 1) (List.length v_2))) (u := ()) rfl (HasO.wk (q := S (rW (HDX go_3 ((0) * 1) (List.length v_2))) ()) (.tmp rfl) wkV) rfl ((UpdR.fst (UpdR.self (by rfl))).at (by rfl)) (.S (off := 1) rfl .cB rfl ((UpdR.snd (UpdR.fst (UpdR.self (by rfl)))).at (by rfl)) (.S (off := 2) rfl .cB rfl ((UpdR.snd (UpdR.snd (UpdR.fst (UpdR.self (by rfl))))).at (by rfl)) .nil))) rfl) ?_
 refine jx (op_boxA lb (.tmp rfl)) (fun q => ?_)
 obtain ⟨gb_5, hqq⟩ : ∃ z, z = q := ⟨_, rfl⟩
 subst hqq
 refine jc (op_assign lb (.tmp rfl)) ?_
 refine JL.nil ?_
 refine JQ.then ?_
 refine JC.ret ?_
 replace hm := Option.some.inj hm
 subst hm
 exact JQ.done (js := [1, 0]) (ss := [.val (PTR gb_5 0)]) (gb_5, go_3, gc_4) (.inl rfl) (.nil rfl) rfl (.cons (.tmp rfl) .nil) rfl rfl rfl

theorem sim_wire_Reader_Failed (k : Nat) (o_1 : Nat) (n_2 : Nat) (is_3 : Bool) (made_4 : Bool) (x_6 : (List UInt8)) (gb_5 : Nat) (go_7 : Option Nat) (gc_8 : Nat) (r : Bool) (hm : wire_Reader_Failed k o_1 n_2 is_3 made_4 x_6 = some r) : Sim Try.prog 20 [PTR gb_5 0] [cvar gb_5 (rP (rW (HDX go_7 (o_1 * 1) n_2)) (rP rB (rP rB r0))) ((), (is_3, (made_4, ()))), cown go_7 (rU UInt8) x_6 0 gc_8] (γ := Unit) (fun q => [cvar gb_5 (rP (rW (HDX go_7 (o_1 * 1) n_2)) (rP rB (rP rB r0))) ((), (is_3, (made_4, ()))), cown go_7 (rU UInt8) x_6 0 gc_8]) (fun q => .one (.val (S rB r))) := by
 unfold wire_Reader_Failed at hm
 refine Sim.of Try.func20 rfl rfl (Nat.le_of_ble_eq_true rfl) (fun e0 w0 => ?_)
 refine JC.at ⟨[(0, ov (PTR gb_5 0))], [cvar gb_5 (rP (rW (HDX go_7 (o_1 * 1) n_2)) (rP rB (rP rB r0))) ((), (is_3, (made_4, ()))), cown go_7 (rU UInt8) x_6 0 gc_8], []⟩ ?_
 refine JC.seq ?_
 refine JC.region ?_
 refine jc (op_assign lb .cB) ?_
 refine JL.nil ?_
 refine JQ.then ?_
 replace hm := bnd_inv hm
 obtain ⟨x_10, hx1, hq1⟩ := hm
 refine JC.seqJ (γ := Unit) (stj := fun q => ⟨[(2, ov (S rB x_10))], [cvar gb_5 (rP (rW (HDX go_7 (o_1 * 1) n_2)) (rP rB (rP rB r0))) ((), (is_3, (made_4, ()))), cown go_7 (rU UInt8) x_6 0 gc_8], []⟩) (fun q => ?_) ?_
 · obtain _ := q
   refine JC.at ⟨[(2, ov (S rB x_10))], [cvar gb_5 (rP (rW (HDX go_7 (o_1 * 1) n_2)) (rP rB (rP rB r0))) ((), (is_3, (made_4, ()))), cown go_7 (rU UInt8) x_6 0 gc_8], []⟩ ?_
   refine JC.ret ?_
   replace hq1 := Option.some.inj hq1
   subst hq1
   exact JQ.done (js := [0, 0]) (ss := [.val (S rB x_10)]) () (.inl rfl) (.nil rfl) rfl (.cons (.tmp rfl) .nil) rfl rfl rfl
 · refine JC.region ?_
   refine jc (op_move lb (.tmp rfl)) ?_
   refine jc (op_nilP (neg := false) lb tu36 (.tmp rfl) (HasO.const (p := PTO none) fun _ => rfl)) ?_
   refine jc (op_move lb (.tmp rfl)) ?_
   refine JL.run (.yes rfl (ltB rfl) rfl rfl) (op_move lb (.tmp rfl)) ?_
   refine JL.run (.yes rfl (ltB rfl) rfl rfl) (op_nilCheck lb (.tmp rfl) (fun e v h => by subst h; rfl)) ?_
   refine JL.run (.yes rfl (ltB rfl) rfl rfl) (op_fieldAddr (off := 1) lb tf75_1 (.tmp rfl)) ?_
   refine JL.run (.yes rfl (ltB rfl) rfl rfl) (op_loadS (j := 0) lb tS4 (.tmp rfl) rfl (Comp.trans (Comp.self (rP (rW (HDX go_7 (o_1 * 1) n_2)) (rP rB (rP rB r0))) ((), (is_3, (made_4, ())))) (Comp.at' (Comp.inS (Comp.inF (Comp.self rB is_3) (Nat.le_of_ble_eq_true rfl))) (by rfl : _ = 1)) (Nat.le_of_ble_eq_true rfl)) rfl rfl) ?_
   replace hx1 := lt1_inv hx1
   obtain ⟨v_9, hv_v_9, hx1⟩ := hx1
   refine JL.run (.yes rfl (ltB rfl) rfl rfl) (op_not lb (.tmp rfl) hv_v_9) ?_
   refine jc (op_pickF lb (.tmp rfl) rfl (.tmp rfl)) ?_
   refine jc (op_assign lb (.tmp rfl)) ?_
   refine JL.nil ?_
   replace hx1 := Option.some.inj hx1
   first | subst hx1 | clear hx1
   refine JQ.pre (Imp.var (j := 0) (q := (rP (rW (HDX go_7 (o_1 * 1) n_2)) (rP rB (rP rB r0)))) (y := ((), (is_3, (made_4, ())))) rfl Wk.refl) ?_
   exact JQ.join () (Imp.norm (js := [0, 0]) rfl (.cons rfl .nil))

theorem sim_wire_Reader_take (k : Nat) (n_1 : Int) (o_2 : Nat) (n_3 : Nat) (is_4 : Bool) (made_5 : Bool) (x_7 : (List UInt8)) (gb_6 : Nat) (go_8 : Option Nat) (gc_9 : Nat) (r : Nat × Nat × Bool × Nat × Nat × Bool × Bool) (hm : wire_Reader_take k n_1 o_2 n_3 is_4 made_5 x_7 = some r) : Sim Try.prog 47 [PTR gb_6 0, S (rI .i64) n_1] [cvar gb_6 (rP (rW (HDX go_8 (o_2 * 1) n_3)) (rP rB (rP rB r0))) ((), (is_4, (made_5, ()))), cown go_8 (rU UInt8) x_7 0 gc_9] (γ := Unit) (fun q => [cown go_8 (rU UInt8) x_7 0 gc_9, cvar gb_6 (rP (rW (HDX go_8 (r.2.2.2.1 * 1) r.2.2.2.2.1)) (rP rB (rP rB r0))) ((), (r.2.2.2.2.2.1, (r.2.2.2.2.2.2, ())))]) (fun q => .tup [.val (HDX go_8 (r.1 * 1) r.2.1), .val (S rB r.2.2.1)]) := by
 unfold wire_Reader_take at hm
 refine Sim.of Try.func47 rfl rfl (Nat.le_of_ble_eq_true rfl) (fun e0 w0 => ?_)
 refine JC.at ⟨[(0, ov (PTR gb_6 0)), (1, ov (S (rI .i64) n_1))], [cvar gb_6 (rP (rW (HDX go_8 (o_2 * 1) n_3)) (rP rB (rP rB r0))) ((), (is_4, (made_5, ()))), cown go_8 (rU UInt8) x_7 0 gc_9], []⟩ ?_
 refine JC.seq ?_
 refine JC.region ?_
 refine jc (op_assign lb HasO.nilH) ?_
 refine jc (op_assign lb .cB) ?_
 refine JL.nil ?_
 refine JQ.then ?_
 refine JC.seq ?_
 refine JC.block ?_
 refine JC.seq ?_
 refine JC.region ?_
 refine jc (op_move lb (.tmp rfl)) ?_
 replace hm := bnd_inv hm
 obtain ⟨v_10, hv_v_10, hm⟩ := hm
 refine jx (op_call (js := [0, 0]) ld cl20 (sim_wire_Reader_Failed k o_2 n_3 is_4 made_5 x_7 gb_6 go_8 gc_9 v_10 hv_v_10) .func (.cons (.tmp rfl) .nil) rfl) (fun _ => ?_)
 refine jc (op_assign lb (.tmp rfl)) ?_
 refine JL.nil ?_
 refine JQ.then ?_
 replace hm := iteB_inv hm
 rcases hm with ⟨hc1, hm⟩ | ⟨hc1, hm⟩
 · refine JC.condT (.tmp rfl) hc1 ?_
   refine JC.seq ?_
   refine JC.region ?_
   refine jc (op_assign lb HasO.nilH) ?_
   refine jc (op_assign lb .cB) ?_
   refine JL.nil ?_
   refine JQ.then ?_
   refine JC.ret ?_
   refine JQ.outRB ?_
   refine JQ.outR ?_
   replace hm := Option.some.inj hm
   subst hm
   refine JQ.pre (Imp.slot (s := 4) (q := HDX go_8 ((0) * 1) (0)) rfl wkNX) ?_
   exact JQ.done (js := [1, 0]) (ss := [.val (HDX go_8 ((0) * 1) (0)), .val (S rB false)]) () (.inl rfl) (.nil rfl) rfl (.cons (.tmp rfl) (.cons (.tmp rfl) .nil)) rfl rfl rfl
 · refine JC.condF (.tmp rfl) hc1 ?_
   replace hm := bnd_inv hm
   obtain ⟨x_13, hx2, hq2⟩ := hm
   refine JC.seqJ (γ := Unit) (stj := fun q => ⟨[(0, ov (PTR gb_6 0)), (1, ov (S (rI .i64) n_1)), (10, ov (S rB x_13))], [cvar gb_6 (rP (rW (HDX go_8 (o_2 * 1) n_3)) (rP rB (rP rB r0))) ((), (is_4, (made_5, ()))), cown go_8 (rU UInt8) x_7 0 gc_9], []⟩) (fun q => ?_) ?_
   · obtain _ := q
     refine JC.at ⟨[(0, ov (PTR gb_6 0)), (1, ov (S (rI .i64) n_1)), (10, ov (S rB x_13))], [cvar gb_6 (rP (rW (HDX go_8 (o_2 * 1) n_3)) (rP rB (rP rB r0))) ((), (is_4, (made_5, ()))), cown go_8 (rU UInt8) x_7 0 gc_9], []⟩ ?_
     replace hq2 := iteB_inv hq2
     rcases hq2 with ⟨hc6, hq2⟩ | ⟨hc6, hq2⟩
     · refine JC.condT (.tmp rfl) hc6 ?_
       refine JC.seq ?_
       refine JC.region ?_
       refine jc (op_move lb (.tmp rfl)) ?_
       refine jc (op_build lb tZ75 zr75 tp75 (.S (off := 2) rfl .cB rfl ((UpdR.snd (UpdR.snd (UpdR.fst (UpdR.self (by rfl))))).at (by rfl)) .nil) rfl) ?_
       refine jc (op_nilCheck lb (.tmp rfl) (fun e v h => by subst h; rfl)) ?_
       refine jc (op_storeA (j := 0) tA75 (.tmp rfl) (.tmp rfl) rfl (UpdR.self (by rfl)) rfl) ?_
       refine JL.nil ?_
       refine JQ.then ?_
       refine JC.seq ?_
       refine JC.region ?_
       refine jc (op_assign lb HasO.nilH) ?_
       refine jc (op_assign lb .cB) ?_
       refine JL.nil ?_
       refine JQ.then ?_
       refine JC.ret ?_
       refine JQ.outRB ?_
       refine JQ.outR ?_
       replace hq2 := Option.some.inj hq2
       subst hq2
       refine JQ.pre (Imp.slot (s := 4) (q := HDX go_8 ((0) * 1) (0)) rfl wkNX) ?_
       refine JQ.pre (Imp.var (j := 0) (q := (rP (rW (HDX go_8 ((0) * 1) (0))) (rP rB (rP rB r0)))) (y := ((), (false, (true, ())))) rfl (Wk.pair Wk.nx (Wk.pair Wk.refl (Wk.pair Wk.refl Wk.refl)))) ?_
       exact JQ.done (js := [1, 0]) (ss := [.val (HDX go_8 ((0) * 1) (0)), .val (S rB false)]) () (.inl rfl) (.nil rfl) rfl (.cons (.tmp rfl) (.cons (.tmp rfl) .nil)) rfl rfl rfl
     · refine JC.condF (.tmp rfl) hc6 ?_
       refine JC.skip ?_
       refine JQ.outNB ?_
       refine JQ.then ?_
       refine JC.seq ?_
       refine JC.region ?_
       refine jc (op_move lb (.tmp rfl)) ?_
       refine jc (op_nilCheck lb (.tmp rfl) (fun e v h => by subst h; rfl)) ?_
       refine jc (op_fieldAddr (off := 0) lb tf75_0 (.tmp rfl)) ?_
       refine jc (op_loadW (j := 0) lb tS23 (.tmp rfl) rfl (Comp.trans (Comp.self (rP (rW (HDX go_8 (o_2 * 1) n_3)) (rP rB (rP rB r0))) ((), (is_4, (made_5, ())))) (Comp.at' (Comp.inF (Comp.self (rW (HDX go_8 (o_2 * 1) n_3)) ()) (Nat.le_of_ble_eq_true rfl)) (by rfl : _ = 0)) (Nat.le_of_ble_eq_true rfl))) ?_
       refine jc (op_move lb (.tmp rfl)) ?_
       refine jc (op_move lb (.tmp rfl)) ?_
       replace hq2 := bnd_inv hq2
       obtain ⟨⟨o_14, n_15⟩, hv_o_14, hq2⟩ := hq2
       refine jc (op_sliceXc (sz := 1) (o := o_2) lb tu23 tz5 (.tmp rfl) .none (.some (.tmp rfl)) (.some (.tmp rfl)) hv_o_14) ?_
       refine jc (op_assign lb (.tmp rfl)) ?_
       refine JL.nil ?_
       refine JQ.then ?_
       refine JC.seq ?_
       refine JC.region ?_
       refine jc (op_move lb (.tmp rfl)) ?_
       refine jc (op_move lb (.tmp rfl)) ?_
       refine jc (op_nilCheck lb (.tmp rfl) (fun e v h => by subst h; rfl)) ?_
       refine jc (op_fieldAddr (off := 0) lb tf75_0 (.tmp rfl)) ?_
       refine JL.sub ⟨[(1, ov (S (rI .i64) n_1)), (6, ov (HDX go_8 (o_14 * 1) n_15)), (32, ov (PTR gb_6 0)), (35, ov (PTR gb_6 (0 + 0)))], [cvar gb_6 (rP (rW (HDX go_8 (o_2 * 1) n_3)) (rP rB (rP rB r0))) ((), (is_4, (made_5, ()))), cown go_8 (rU UInt8) x_7 0 gc_9], []⟩ (.cons rfl (.cons rfl (.cons rfl (.cons rfl .nil)))) rfl rfl ?_
       refine jc (op_loadW (j := 0) lb tS23 (.tmp rfl) rfl (Comp.trans (Comp.self (rP (rW (HDX go_8 (o_2 * 1) n_3)) (rP rB (rP rB r0))) ((), (is_4, (made_5, ())))) (Comp.at' (Comp.inF (Comp.self (rW (HDX go_8 (o_2 * 1) n_3)) ()) (Nat.le_of_ble_eq_true rfl)) (by rfl : _ = 0)) (Nat.le_of_ble_eq_true rfl))) ?_
       refine jc (op_move lb (.tmp rfl)) ?_
       replace hq2 := bnd_inv hq2
       obtain ⟨⟨o_16, n_17⟩, hv_o_16, hq2⟩ := hq2
       refine jc (op_sliceX (sz := 1) (o := o_2) lb tu23 tz5 (.tmp rfl) (.some (.tmp rfl)) .none  hv_o_16) ?_
       refine jc (op_nilCheck lb (.tmp rfl) (fun e v h => by subst h; rfl)) ?_
       refine jc (op_fieldAddr (off := 0) lb tf75_0 (.tmp rfl)) ?_
       refine jc (op_storeW (j := 0) tS23 (.tmp rfl) (.tmp rfl) rfl ((UpdR.fst (UpdR.self (by rfl))).at (by change 0 = (0 + 0); omega)) rfl) ?_
       refine JL.nil ?_
       refine JQ.then ?_
       refine JC.seq ?_
       refine JC.region ?_
       refine jc (op_move lb (.tmp rfl)) ?_
       refine jc (op_assign lb (.tmp rfl)) ?_
       refine jc (op_assign lb .cB) ?_
       refine JL.nil ?_
       refine JQ.then ?_
       refine JC.ret ?_
       replace hq2 := Option.some.inj hq2
       subst hq2
       exact JQ.done (js := [1, 0]) (ss := [.val (HDX go_8 (o_14 * 1) n_15), .val (S rB true)]) () (.inl rfl) (.nil rfl) rfl (.cons (.tmp rfl) (.cons (.tmp rfl) .nil)) rfl rfl rfl
   · refine JC.region ?_
     refine jc (op_move lb (.tmp rfl)) ?_
     replace hx2 := lt1_inv hx2
     obtain ⟨v_11, hv_v_11, hx2⟩ := hx2
     refine jc (op_cmpI lb (.tmp rfl) .cI (congrArg some hv_v_11)) ?_
     refine jc (op_move lb (.tmp rfl)) ?_
     refine JL.cnd (sv := ov (S (rI .i64) n_1)) (Guard.isF (ltB rfl) rfl rfl) rfl (ltB rfl) (fun hq_3 => op_move lb (.tmp rfl)) ?_
     replace hx2 := iteB_inv hx2
     rcases hx2 with ⟨hc5, hx2⟩ | ⟨hc5, hx2⟩
     · refine JL.skip (.no rfl (ltB rfl) rfl hc5) (fun d h => by cases h; exact ltB rfl) ?_
       refine JL.skip (.no rfl (ltB rfl) rfl hc5) (fun d h => by cases h; exact ltB rfl) ?_
       refine JL.skip (.no rfl (ltB rfl) rfl hc5) (fun d h => by cases h; exact ltB rfl) ?_
       refine JL.skip (.no rfl (ltB rfl) rfl hc5) (fun d h => by cases h; exact ltB rfl) ?_
       refine JL.skip (.no rfl (ltB rfl) rfl hc5) (fun d h => by cases h; exact ltB rfl) ?_
       refine JL.skip (.no rfl (ltB rfl) rfl hc5) (fun d h => by cases h; exact ltB rfl) ?_
       refine jc (op_pickT lb (.tmp rfl) hc5 .cB) ?_
       refine JL.sub ⟨[(0, ov (PTR gb_6 0)), (1, ov (S (rI .i64) n_1)), (21, ov (S rB true))], [cvar gb_6 (rP (rW (HDX go_8 (o_2 * 1) n_3)) (rP rB (rP rB r0))) ((), (is_4, (made_5, ()))), cown go_8 (rU UInt8) x_7 0 gc_9], []⟩ (.cons rfl (.cons rfl (.cons rfl .nil))) rfl rfl ?_
       refine jc (op_assign lb (.tmp rfl)) ?_
       refine JL.nil ?_
       replace hx2 := Option.some.inj hx2
       first | subst hx2 | clear hx2
       exact JQ.join () (Imp.norm (js := [0, 0]) rfl (.cons rfl (.cons rfl (.cons rfl .nil))))
     · refine JL.run (.yes rfl (ltB rfl) rfl hc5) (op_move lb (.tmp rfl)) ?_
       refine JL.sub ⟨[(0, ov (PTR gb_6 0)), (1, ov (S (rI .i64) n_1)), (13, ov (S rB v_11)), (14, bif (!v_11) then ov (S (rI .i64) n_1) else .one .und), (15, ov (PTR gb_6 0))], [cvar gb_6 (rP (rW (HDX go_8 (o_2 * 1) n_3)) (rP rB (rP rB r0))) ((), (is_4, (made_5, ()))), cown go_8 (rU UInt8) x_7 0 gc_9], []⟩ (.cons rfl (.cons rfl (.cons rfl (.cons rfl (.cons rfl .nil))))) rfl rfl ?_
       refine JL.run (.yes rfl (ltB rfl) rfl hc5) (op_nilCheck lb (.tmp rfl) (fun e v h => by subst h; rfl)) ?_
       refine JL.run (.yes rfl (ltB rfl) rfl hc5) (op_fieldAddr (off := 0) lb tf75_0 (.tmp rfl)) ?_
       refine JL.run (.yes rfl (ltB rfl) rfl hc5) (op_loadW (j := 0) lb tS23 (.tmp rfl) rfl (Comp.trans (Comp.self (rP (rW (HDX go_8 (o_2 * 1) n_3)) (rP rB (rP rB r0))) ((), (is_4, (made_5, ())))) (Comp.at' (Comp.inF (Comp.self (rW (HDX go_8 (o_2 * 1) n_3)) ()) (Nat.le_of_ble_eq_true rfl)) (by rfl : _ = 0)) (Nat.le_of_ble_eq_true rfl))) ?_
       refine JL.run (.yes rfl (ltB rfl) rfl hc5) (op_lenX lb tu23 (.tmp rfl)) ?_
       replace hx2 := lt1_inv hx2
       obtain ⟨v_12, hv_v_12, hx2⟩ := hx2
       refine JL.run (.yes rfl (ltB rfl) rfl hc5) (op_cmpI lb (HasO.cnd (.tmp rfl) (notT hc5)) (.tmp rfl) (congrArg some hv_v_12)) ?_
       refine jc (op_pickF lb (.tmp rfl) hc5 (.tmp rfl)) ?_
       refine jc (op_assign lb (.tmp rfl)) ?_
       refine JL.nil ?_
       replace hx2 := Option.some.inj hx2
       first | subst hx2 | clear hx2
       exact JQ.join () (Imp.norm (js := [0, 0]) rfl (.cons rfl (.cons rfl (.cons rfl .nil))))

end Go.Proofs.Ytkbkdfcakpbojaa
