/- Walks. -/
import Derived.Test.YtkbkdfcakpbojaaT
import Derived.Test.YtkbkdfcakpbojaaW0
namespace Go.Proofs.Ytkbkdfcakpbojaa
open Go Fw
set_option linter.unusedVariables false
set_option maxRecDepth 100000
set_option maxHeartbeats 4000000

theorem sim_wire_Get (k : Nat) (b_1 : (List UInt8)) (r : UInt64 × Int) (hm : wire_Get k b_1 = some r) : Sim Try.prog 14 [S (rL (rU UInt8)) b_1] [] (γ := Unit) (fun q => []) (fun q => .tup [.val (S (rU UInt64) r.1), .val (S (rI .i64) r.2)]) := by
 unfold wire_Get at hm
 refine Sim.of Try.func14 rfl rfl (Nat.le_of_ble_eq_true rfl) (fun e0 w0 => ?_)
 refine JC.at ⟨[(0, ov (S (rL (rU UInt8)) b_1))], [], []⟩ ?_
 refine JC.seq ?_
 refine JC.region ?_
 refine jc (op_assign lb (HasO.cU (x := (0 : UInt64)) rfl (by decide))) ?_
 refine jc (op_assign lb .cI) ?_
 refine JL.nil ?_
 refine JQ.then ?_
 refine JC.seq ?_
 replace hm := bnd_inv hm
 obtain ⟨x_5, hx1, hq1⟩ := hm
 refine JC.seqJ (γ := Unit) (stj := fun q => ⟨[(0, ov (S (rL (rU UInt8)) b_1)), (14, ov (S rB x_5))], [], []⟩) (fun q => ?_) ?_
 · obtain _ := q
   refine JC.at ⟨[(0, ov (S (rL (rU UInt8)) b_1)), (14, ov (S rB x_5))], [], []⟩ ?_
   replace hq1 := iteB_inv hq1
   rcases hq1 with ⟨hc6, hq1⟩ | ⟨hc6, hq1⟩
   · refine JC.condT (.tmp rfl) hc6 ?_
     refine JC.seq ?_
     refine JC.region ?_
     refine jc (op_assign lb (HasO.cU (x := (0 : UInt64)) rfl (by decide))) ?_
     refine jc (op_assign lb .cI) ?_
     refine JL.nil ?_
     refine JQ.then ?_
     refine JC.ret ?_
     refine JQ.outR ?_
     replace hq1 := Option.some.inj hq1
     subst hq1
     exact JQ.done (js := []) (ss := [.val (S (rU UInt64) (0 : UInt64)), .val (S (rI .i64) (2 : Int))]) () (.inl rfl) (.nil rfl) rfl (.cons (.tmp rfl) (.cons (.tmp rfl) .nil)) rfl rfl rfl
   · refine JC.condF (.tmp rfl) hc6 ?_
     refine JC.skip ?_
     refine JQ.then ?_
     refine JC.seq ?_
     refine JC.region ?_
     refine jc (op_assign lb (HasO.cU (x := (0 : UInt64)) rfl (by decide))) ?_
     refine JL.nil ?_
     refine JQ.then ?_
     replace hq1 := bnd_inv hq1
     obtain ⟨n_14, hx7, hq7⟩ := hq1
     refine JC.seqJ (γ := Unit) (stj := fun q => ⟨[(4, ov (S (rU UInt64) n_14))], [], []⟩) (fun q => ?_) ?_
     · obtain _ := q
       refine JC.at ⟨[(4, ov (S (rU UInt64) n_14))], [], []⟩ ?_
       refine JC.seq ?_
       refine JC.region ?_
       refine jc (op_move lb (.tmp rfl)) ?_
       refine jc (op_assign lb (.tmp rfl)) ?_
       refine jc (op_assign lb .cI) ?_
       refine JL.nil ?_
       refine JQ.then ?_
       refine JC.ret ?_
       replace hq7 := Option.some.inj hq7
       subst hq7
       exact JQ.done (js := []) (ss := [.val (S (rU UInt64) n_14), .val (S (rI .i64) (0 : Int))]) () (.inl rfl) (.nil rfl) rfl (.cons (.tmp rfl) (.cons (.tmp rfl) .nil)) rfl rfl rfl
     · refine JC.seq ?_
       refine JC.region ?_
       refine jc (op_move lb (.tmp rfl)) ?_
       refine jc (op_lenL lb tu23 (.tmp rfl)) ?_
       refine jc (op_move lb .cI) ?_
       refine JL.nil ?_
       refine JQ.then ?_
       refine JC.block ?_
       refine JC.pre ?_ (JC.loop (γ := Unit) (stf := fun s q => ⟨[(4, ov (S (rU UInt64) s.1)), (15, ov (S (rL (rU UInt8)) b_1)), (16, ov (S (rI .i64) (List.length b_1 : Int))), (17, ov (S (rI .i64) s.2))], [], []⟩) (q := ()) hx7 ?_)
       · exact (Imp.norm (js := []) rfl (.cons rfl (.cons rfl (.cons rfl (.cons rfl .nil)))))
       · intro s q x hx hr
         obtain ⟨n_6, x_7⟩ := s
         obtain _ := q
         change wire_Get.b1 k b_1 n_6 x_7 = some x at hx
         unfold wire_Get.b1 at hx
         refine JC.at ⟨[(4, ov (S (rU UInt64) n_6)), (15, ov (S (rL (rU UInt8)) b_1)), (16, ov (S (rI .i64) (List.length b_1 : Int))), (17, ov (S (rI .i64) x_7))], [], []⟩ ?_
         refine JC.seq ?_
         refine JC.region ?_
         replace hx := lt1_inv hx
         obtain ⟨v_8, hv_v_8, hx⟩ := hx
         refine jc (op_cmpI lb (.tmp rfl) (.tmp rfl) (congrArg some hv_v_8)) ?_
         refine JL.nil ?_
         refine JQ.then ?_
         refine JC.seq ?_
         replace hx := iteB_inv hx
         rcases hx with ⟨hc9, hx⟩ | ⟨hc9, hx⟩
         · refine JC.condT (.tmp rfl) hc9 ?_
           refine JC.skip ?_
           refine JQ.then ?_
           refine JC.seq ?_
           refine JC.block ?_
           refine JC.seq ?_
           refine JC.region ?_
           replace hx := bnd_inv hx
           obtain ⟨v_9, hv_v_9, hx⟩ := hx
           refine jc (op_indexAddrLg lb tu23 tz5 (.tmp rfl) (.tmp rfl) hv_v_9) ?_
           refine jc (op_loadPSg lb tS5 rfl (.tmp rfl) rfl) ?_
           refine jc (op_assign lb (.tmp rfl)) ?_
           refine JL.nil ?_
           refine JQ.then ?_
           refine JC.region ?_
           refine jc (op_move lb (.tmp rfl)) ?_
           replace hx := lt1_inv hx
           obtain ⟨v_10, hv_v_10, hx⟩ := hx
           refine jc (op_shlUU lb (.tmp rfl) (HasO.cU (x := (8 : UInt64)) rfl (by decide)) hv_v_10) ?_
           refine jc (op_move lb (.tmp rfl)) ?_
           replace hx := lt1_inv hx
           obtain ⟨v_11, hv_v_11, hx⟩ := hx
           refine jc (op_convUU lb tu5 tu22 (.tmp rfl) hv_v_11) ?_
           replace hx := lt1_inv hx
           obtain ⟨v_12, hv_v_12, hx⟩ := hx
           refine jc (op_arU lb (.tmp rfl) (.tmp rfl) (congrArg some hv_v_12)) ?_
           refine jc (op_assign lb (.tmp rfl)) ?_
           refine JL.nil ?_
           refine JQ.outNB ?_
           refine JQ.then ?_
           refine JC.region ?_
           replace hx := lt1_inv hx
           obtain ⟨v_13, hv_v_13, hx⟩ := hx
           refine jc (op_arI lb (.tmp rfl) .cI (congrArg some hv_v_13)) ?_
           refine jc (op_move lb (.tmp rfl)) ?_
           refine JL.sub ⟨[(4, ov (S (rU UInt64) v_12)), (15, ov (S (rL (rU UInt8)) b_1)), (16, ov (S (rI .i64) (List.length b_1 : Int))), (17, ov (S (rI .i64) v_13))], [], []⟩ (.cons rfl (.cons rfl (.cons rfl (.cons rfl .nil)))) rfl rfl ?_
           refine JL.nil ?_
           replace hx := Option.some.inj hx
           first | subst hx | clear hx
           exact JQ.next () rfl (Imp.norm (js := []) rfl (.cons rfl (.cons rfl (.cons rfl (.cons rfl .nil)))))
         · refine JC.condF (.tmp rfl) hc9 ?_
           refine JC.exit ?_
           refine JQ.outX ?_
           replace hx := Option.some.inj hx
           first | subst hx | clear hx
           have ht := hr _ rfl
           have hq8 := congrArg some ht
           clear hr ht
           refine JQ.outX ?_
           refine JQ.here ?_
           replace hq8 := Option.some.inj hq8
           first | subst hq8 | clear hq8
           exact JQ.join () (Imp.norm (js := []) rfl (.cons rfl .nil))
 · refine JC.region ?_
   refine jc (op_move lb (.tmp rfl)) ?_
   refine jc (op_lenL lb tu23 (.tmp rfl)) ?_
   replace hx1 := lt1_inv hx1
   obtain ⟨v_2, hv_v_2, hx1⟩ := hx1
   refine jc (op_cmpI lb (.tmp rfl) .cI (congrArg some hv_v_2)) ?_
   refine jc (op_move lb (.tmp rfl)) ?_
   refine JL.cnd (sv := ov (S (rL (rU UInt8)) b_1)) (Guard.isF (ltB rfl) rfl rfl) rfl (ltB rfl) (fun hq_2 => op_move lb (.tmp rfl)) ?_
   refine JL.cnd (sv := ov (S (rI .i64) (List.length b_1 : Int))) (Guard.isF (ltB rfl) rfl rfl) rfl (ltB rfl) (fun hq_3 => op_lenL lb tu23 (HasO.cnd (.tmp rfl) (notT (notF hq_3)))) ?_
   replace hx1 := lt1_inv hx1
   obtain ⟨v_3, hv_v_3, hx1⟩ := hx1
   refine JL.cnd (sv := ov (S rB v_3)) (Guard.isF (ltB rfl) rfl rfl) rfl (ltB rfl) (fun hq_4 => op_cmpI lb (HasO.cnd (.tmp rfl) (notT (notF hq_4))) .cI (congrArg some hv_v_3)) ?_
   replace hx1 := lt1_inv hx1
   obtain ⟨v_4, hv_v_4, hx1⟩ := hx1
   refine jc (op_pickCS lb (.tmp rfl) (fun hb5 => .cB) (fun hb5 => (HasO.cnd (.tmp rfl) (notT hb5))) hv_v_4) ?_
   refine JL.nil ?_
   replace hx1 := Option.some.inj hx1
   first | subst hx1 | clear hx1
   exact JQ.join () (Imp.norm (js := []) rfl (.cons rfl (.cons rfl .nil)))

theorem sim_wire_Reader_Number (k : Nat) (size_1 : Int) (is_2 : Bool) (made_3 : Bool) (x_5 : (List UInt8)) (gb_4 : Nat) (go_6 : Option Nat) (gc_7 : Nat) (r : UInt64 × wire_Reader) (hm : wire_Reader_Number k size_1 is_2 made_3 x_5 = some r) : Sim Try.prog 39 [PTR gb_4 0, S (rI .i64) size_1] [cvar gb_4 (rP (rW (HDR go_6 0 (List.length x_5) gc_7)) (rP rB (rP rB r0))) ((), (is_2, (made_3, ()))), cown go_6 (rU UInt8) x_5 0 gc_7] (γ := Unit) (fun q => [cvar gb_4 r_wire_Reader r.2, cown go_6 (rU UInt8) x_5 (List.length x_5) gc_7]) (fun q => .one (.val (S (rU UInt64) r.1))) := by
 unfold wire_Reader_Number at hm
 refine Sim.of Try.func39 rfl rfl (Nat.le_of_ble_eq_true rfl) (fun e0 w0 => ?_)
 refine JC.at ⟨[(0, ov (PTR gb_4 0)), (1, ov (S (rI .i64) size_1))], [cvar gb_4 (rP (rW (HDR go_6 0 (List.length x_5) gc_7)) (rP rB (rP rB r0))) ((), (is_2, (made_3, ()))), cown go_6 (rU UInt8) x_5 0 gc_7], []⟩ ?_
 refine JC.seq ?_
 refine JC.region ?_
 refine jc (op_assign lb (HasO.cU (x := (0 : UInt64)) rfl (by decide))) ?_
 refine JL.nil ?_
 refine JQ.then ?_
 replace hm := bnd_inv hm
 obtain ⟨size_12, hx1, hq1⟩ := hm
 refine JC.seqJ (γ := Unit) (stj := fun q => ⟨[(0, ov (PTR gb_4 0)), (1, ov (S (rI .i64) size_12))], [cvar gb_4 (rP (rW (HDR go_6 0 (List.length x_5) gc_7)) (rP rB (rP rB r0))) ((), (is_2, (made_3, ()))), cown go_6 (rU UInt8) x_5 0 gc_7], []⟩) (fun q => ?_) ?_
 · obtain _ := q
   refine JC.at ⟨[(0, ov (PTR gb_4 0)), (1, ov (S (rI .i64) size_12))], [cvar gb_4 (rP (rW (HDR go_6 0 (List.length x_5) gc_7)) (rP rB (rP rB r0))) ((), (is_2, (made_3, ()))), cown go_6 (rU UInt8) x_5 0 gc_7], []⟩ ?_
   refine JC.seq ?_
   refine JC.region ?_
   refine jc (op_move lb (.tmp rfl)) ?_
   refine jc (op_move lb (.tmp rfl)) ?_
   replace hq1 := bnd_inv hq1
   obtain ⟨⟨v_13, v_14, x_15, x_16, x_17⟩, hv_v_13, hq1⟩ := hq1
   refine jx (op_call (js := [0, 0]) ld cl47 (sim_wire_Reader_take k size_12 is_2 made_3 x_5 gb_4 go_6 gc_7 (v_13, v_14, x_15, x_16, x_17) hv_v_13) .func (.cons (.tmp rfl) (.cons (.tmp rfl) .nil)) rfl) (fun _ => ?_)
   refine jc (op_move lb (.tmp rfl)) ?_
   refine jc (op_extract (i := 0) lb (.tmp rfl) rfl) ?_
   refine jc (op_extract (i := 1) lb (.tmp rfl) rfl) ?_
   refine jc (op_assign lb (.tmp rfl)) ?_
   refine jc (op_assign lb (.tmp rfl)) ?_
   refine JL.nil ?_
   refine JQ.then ?_
   refine JC.seq ?_
   refine JC.region ?_
   refine jc (op_move lb (.tmp rfl)) ?_
   replace hq1 := bnd_inv hq1
   obtain ⟨⟨v_18, v_19⟩, hv_v_18, hq1⟩ := hq1
   refine jx (op_call (js := []) ld cl14 (sim_wire_Get k v_13 (v_18, v_19) hv_v_18) .func (.cons (.tmp rfl) .nil) rfl) (fun _ => ?_)
   refine JL.sub ⟨[(23, .tup [.val (S (rU UInt64) v_18), .val (S (rI .i64) v_19)])], [cvar gb_4 (rP (rL (rU UInt8)) (rP rB (rP rB r0))) (x_15, (x_16, (x_17, ()))), cown go_6 (rU UInt8) x_5 (List.length x_5) gc_7], []⟩ (.cons rfl .nil) rfl rfl ?_
   refine jc (op_move lb (.tmp rfl)) ?_
   refine jc (op_extract (i := 0) lb (.tmp rfl) rfl) ?_
   refine jc (op_extract (i := 1) lb (.tmp rfl) rfl) ?_
   refine jc (op_assign lb (.tmp rfl)) ?_
   refine jc (op_assign lb (.tmp rfl)) ?_
   refine JL.nil ?_
   refine JQ.then ?_
   refine JC.seq ?_
   refine JC.region ?_
   refine jc (op_move lb (.tmp rfl)) ?_
   refine jc (op_assign lb (.tmp rfl)) ?_
   refine JL.nil ?_
   refine JQ.then ?_
   refine JC.ret ?_
   replace hq1 := Option.some.inj hq1
   subst hq1
   refine JQ.pre (Imp.var (j := 0) (q := r_wire_Reader) (y := (wire_Reader.mk x_15 x_16 x_17)) rfl (Wk.st Wk.refl)) ?_
   exact JQ.done (js := [0, 0]) (ss := [.val (S (rU UInt64) v_18)]) () (.inl rfl) (.nil rfl) rfl (.cons (.tmp rfl) .nil) rfl rfl rfl
 · replace hx1 := bnd_inv hx1
   obtain ⟨x_11, hx2, hq2⟩ := hx1
   refine JC.seqJ (γ := Unit) (stj := fun q => ⟨[(0, ov (PTR gb_4 0)), (1, ov (S (rI .i64) size_1)), (14, ov (S rB x_11))], [cvar gb_4 (rP (rW (HDR go_6 0 (List.length x_5) gc_7)) (rP rB (rP rB r0))) ((), (is_2, (made_3, ()))), cown go_6 (rU UInt8) x_5 0 gc_7], []⟩) (fun q => ?_) ?_
   · obtain _ := q
     refine JC.at ⟨[(0, ov (PTR gb_4 0)), (1, ov (S (rI .i64) size_1)), (14, ov (S rB x_11))], [cvar gb_4 (rP (rW (HDR go_6 0 (List.length x_5) gc_7)) (rP rB (rP rB r0))) ((), (is_2, (made_3, ()))), cown go_6 (rU UInt8) x_5 0 gc_7], []⟩ ?_
     replace hq2 := iteB_inv hq2
     rcases hq2 with ⟨hc6, hq2⟩ | ⟨hc6, hq2⟩
     · refine JC.condT (.tmp rfl) hc6 ?_
       refine JC.region ?_
       refine jc (op_assign lb .cI) ?_
       refine JL.nil ?_
       replace hq2 := Option.some.inj hq2
       first | subst hq2 | clear hq2
       exact JQ.join () (Imp.norm (js := [0, 0]) rfl (.cons rfl (.cons rfl .nil)))
     · refine JC.condF (.tmp rfl) hc6 ?_
       refine JC.skip ?_
       replace hq2 := Option.some.inj hq2
       first | subst hq2 | clear hq2
       exact JQ.join () (Imp.norm (js := [0, 0]) rfl (.cons rfl (.cons rfl .nil)))
   · refine JC.region ?_
     refine jc (op_move lb (.tmp rfl)) ?_
     replace hx2 := lt1_inv hx2
     obtain ⟨v_8, hv_v_8, hx2⟩ := hx2
     refine jc (op_cmpI lb (.tmp rfl) .cI (congrArg some hv_v_8)) ?_
     refine jc (op_move lb (.tmp rfl)) ?_
     refine JL.cnd (sv := ov (S (rI .i64) size_1)) (Guard.isF (ltB rfl) rfl rfl) rfl (ltB rfl) (fun hq_3 => op_move lb (.tmp rfl)) ?_
     replace hx2 := lt1_inv hx2
     obtain ⟨v_9, hv_v_9, hx2⟩ := hx2
     refine JL.cnd (sv := ov (S rB v_9)) (Guard.isF (ltB rfl) rfl rfl) rfl (ltB rfl) (fun hq_4 => op_cmpI lb (HasO.cnd (.tmp rfl) (notT (notF hq_4))) .cI (congrArg some hv_v_9)) ?_
     replace hx2 := lt1_inv hx2
     obtain ⟨v_10, hv_v_10, hx2⟩ := hx2
     refine jc (op_pickCS lb (.tmp rfl) (fun hb5 => .cB) (fun hb5 => (HasO.cnd (.tmp rfl) (notT hb5))) hv_v_10) ?_
     refine JL.nil ?_
     replace hx2 := Option.some.inj hx2
     first | subst hx2 | clear hx2
     refine JQ.pre (Imp.var (j := 0) (q := (rP (rW (HDR go_6 0 (List.length x_5) gc_7)) (rP rB (rP rB r0)))) (y := ((), (is_2, (made_3, ())))) rfl Wk.refl) ?_
     exact JQ.join () (Imp.norm (js := [0, 0]) rfl (.cons rfl (.cons rfl (.cons rfl .nil))))

theorem sim_wire_Reader_Failed'2 (k : Nat) (r_1 : wire_Reader) (gb_2 : Nat) (r : Bool) (hm : wire_Reader_Failed'2 k r_1 = some r) : Sim Try.prog 20 [PTR gb_2 0] [cvar gb_2 r_wire_Reader r_1] (γ := Unit) (fun q => [cvar gb_2 r_wire_Reader r_1]) (fun q => .one (.val (S rB r))) := by
 unfold wire_Reader_Failed'2 at hm
 refine Sim.of Try.func20 rfl rfl (Nat.le_of_ble_eq_true rfl) (fun e0 w0 => ?_)
 refine JC.at ⟨[(0, ov (PTR gb_2 0))], [cvar gb_2 r_wire_Reader r_1], []⟩ ?_
 refine JC.seq ?_
 refine JC.region ?_
 refine jc (op_assign lb .cB) ?_
 refine JL.nil ?_
 refine JQ.then ?_
 replace hm := bnd_inv hm
 obtain ⟨x_4, hx1, hq1⟩ := hm
 refine JC.seqJ (γ := Unit) (stj := fun q => ⟨[(2, ov (S rB x_4))], [cvar gb_2 r_wire_Reader r_1], []⟩) (fun q => ?_) ?_
 · obtain _ := q
   refine JC.at ⟨[(2, ov (S rB x_4))], [cvar gb_2 r_wire_Reader r_1], []⟩ ?_
   refine JC.ret ?_
   replace hq1 := Option.some.inj hq1
   subst hq1
   exact JQ.done (js := [0]) (ss := [.val (S rB x_4)]) () (.inl rfl) (.nil rfl) rfl (.cons (.tmp rfl) .nil) rfl rfl rfl
 · refine JC.region ?_
   refine jc (op_move lb (.tmp rfl)) ?_
   refine jc (op_nilP (neg := false) lb tu36 (.tmp rfl) (HasO.const (p := PTO none) fun _ => rfl)) ?_
   refine jc (op_move lb (.tmp rfl)) ?_
   refine JL.run (.yes rfl (ltB rfl) rfl rfl) (op_move lb (.tmp rfl)) ?_
   refine JL.run (.yes rfl (ltB rfl) rfl rfl) (op_nilCheck lb (.tmp rfl) (fun e v h => by subst h; rfl)) ?_
   refine JL.run (.yes rfl (ltB rfl) rfl rfl) (op_fieldAddr (off := 1) lb tf75_1 (.tmp rfl)) ?_
   refine JL.run (.yes rfl (ltB rfl) rfl rfl) (op_loadS (j := 0) lb tS4 (.tmp rfl) rfl (Comp.trans (Comp.self r_wire_Reader r_1) (comp_wire_Reader_is r_1) (Nat.le_of_ble_eq_true rfl)) rfl rfl) ?_
   replace hx1 := lt1_inv hx1
   obtain ⟨v_3, hv_v_3, hx1⟩ := hx1
   refine JL.run (.yes rfl (ltB rfl) rfl rfl) (op_not lb (.tmp rfl) hv_v_3) ?_
   refine jc (op_pickF lb (.tmp rfl) rfl (.tmp rfl)) ?_
   refine jc (op_assign lb (.tmp rfl)) ?_
   refine JL.nil ?_
   replace hx1 := Option.some.inj hx1
   first | subst hx1 | clear hx1
   exact JQ.join () (Imp.norm (js := [0]) rfl (.cons rfl .nil))

theorem sim_wire_Reader_take'2 (k : Nat) (n_1 : Int) (r_2 : wire_Reader) (gb_3 : Nat) (r : (List UInt8) × Bool × wire_Reader) (hm : wire_Reader_take'2 k n_1 r_2 = some r) : Sim Try.prog 47 [PTR gb_3 0, S (rI .i64) n_1] [cvar gb_3 r_wire_Reader r_2] (γ := Unit) (fun q => [cvar gb_3 r_wire_Reader r.2.2]) (fun q => .tup [.val (S (rL (rU UInt8)) r.1), .val (S rB r.2.1)]) := by
 unfold wire_Reader_take'2 at hm
 refine Sim.of Try.func47 rfl rfl (Nat.le_of_ble_eq_true rfl) (fun e0 w0 => ?_)
 refine JC.at ⟨[(0, ov (PTR gb_3 0)), (1, ov (S (rI .i64) n_1))], [cvar gb_3 r_wire_Reader r_2], []⟩ ?_
 refine JC.seq ?_
 refine JC.region ?_
 refine jc (op_assign lb HasO.nilH) ?_
 refine jc (op_assign lb .cB) ?_
 refine JL.nil ?_
 refine JQ.then ?_
 refine JC.seq ?_
 refine JC.block ?_
 refine JC.seq ?_
 refine JC.region ?_
 refine jc (op_move lb (.tmp rfl)) ?_
 replace hm := bnd_inv hm
 obtain ⟨v_4, hv_v_4, hm⟩ := hm
 refine jx (op_call (js := [0]) ld cl20 (sim_wire_Reader_Failed'2 k r_2 gb_3 v_4 hv_v_4) .func (.cons (.tmp rfl) .nil) rfl) (fun _ => ?_)
 refine jc (op_assign lb (.tmp rfl)) ?_
 refine JL.nil ?_
 refine JQ.then ?_
 replace hm := iteB_inv hm
 rcases hm with ⟨hc1, hm⟩ | ⟨hc1, hm⟩
 · refine JC.condT (.tmp rfl) hc1 ?_
   refine JC.seq ?_
   refine JC.region ?_
   refine jc (op_assign lb HasO.nilH) ?_
   refine jc (op_assign lb .cB) ?_
   refine JL.nil ?_
   refine JQ.then ?_
   refine JC.ret ?_
   refine JQ.outRB ?_
   refine JQ.outR ?_
   replace hm := Option.some.inj hm
   subst hm
   refine JQ.pre (Imp.slot (s := 4) (q := S (rL (rU UInt8)) ([] : (List UInt8))) rfl wkNil) ?_
   exact JQ.done (js := [0]) (ss := [.val (S (rL (rU UInt8)) ([] : (List UInt8))), .val (S rB false)]) () (.inl rfl) (.nil rfl) rfl (.cons (.tmp rfl) (.cons (.tmp rfl) .nil)) rfl rfl rfl
 · refine JC.condF (.tmp rfl) hc1 ?_
   replace hm := bnd_inv hm
   obtain ⟨x_7, hx2, hq2⟩ := hm
   refine JC.seqJ (γ := Unit) (stj := fun q => ⟨[(0, ov (PTR gb_3 0)), (1, ov (S (rI .i64) n_1)), (10, ov (S rB x_7))], [cvar gb_3 r_wire_Reader r_2], []⟩) (fun q => ?_) ?_
   · obtain _ := q
     refine JC.at ⟨[(0, ov (PTR gb_3 0)), (1, ov (S (rI .i64) n_1)), (10, ov (S rB x_7))], [cvar gb_3 r_wire_Reader r_2], []⟩ ?_
     replace hq2 := iteB_inv hq2
     rcases hq2 with ⟨hc6, hq2⟩ | ⟨hc6, hq2⟩
     · refine JC.condT (.tmp rfl) hc6 ?_
       refine JC.seq ?_
       refine JC.region ?_
       refine jc (op_move lb (.tmp rfl)) ?_
       refine jc (op_build lb tZ75 zr75 tp75 (.S (off := 2) rfl .cB rfl ((UpdR.snd (UpdR.snd (UpdR.fst (UpdR.self (by rfl))))).at (by rfl)) .nil) rfl) ?_
       refine jc (op_nilCheck lb (.tmp rfl) (fun e v h => by subst h; rfl)) ?_
       refine jc (op_storeA (j := 0) tA75 (.tmp rfl) (.tmp rfl) rfl (UpdR.self (by rfl)) rfl) ?_
       refine JL.nil ?_
       refine JQ.then ?_
       refine JC.seq ?_
       refine JC.region ?_
       refine jc (op_assign lb HasO.nilH) ?_
       refine jc (op_assign lb .cB) ?_
       refine JL.nil ?_
       refine JQ.then ?_
       refine JC.ret ?_
       refine JQ.outRB ?_
       refine JQ.outR ?_
       replace hq2 := Option.some.inj hq2
       subst hq2
       refine JQ.pre (Imp.slot (s := 4) (q := S (rL (rU UInt8)) ([] : (List UInt8))) rfl wkNil) ?_
       refine JQ.pre (Imp.var (j := 0) (q := r_wire_Reader) (y := (wire_Reader.mk ([] : (List UInt8)) false true)) rfl (Wk.st (Wk.pair Wk.nil (Wk.pair Wk.refl (Wk.pair Wk.refl Wk.refl))))) ?_
       exact JQ.done (js := [0]) (ss := [.val (S (rL (rU UInt8)) ([] : (List UInt8))), .val (S rB false)]) () (.inl rfl) (.nil rfl) rfl (.cons (.tmp rfl) (.cons (.tmp rfl) .nil)) rfl rfl rfl
     · refine JC.condF (.tmp rfl) hc6 ?_
       refine JC.skip ?_
       refine JQ.outNB ?_
       refine JQ.then ?_
       refine JC.seq ?_
       refine JC.region ?_
       refine jc (op_move lb (.tmp rfl)) ?_
       refine jc (op_nilCheck lb (.tmp rfl) (fun e v h => by subst h; rfl)) ?_
       refine jc (op_fieldAddr (off := 0) lb tf75_0 (.tmp rfl)) ?_
       refine jc (op_loadS (j := 0) lb tS23 (.tmp rfl) rfl (Comp.trans (Comp.self r_wire_Reader r_2) (comp_wire_Reader_rest r_2) (Nat.le_of_ble_eq_true rfl)) rfl rfl) ?_
       refine jc (op_move lb (.tmp rfl)) ?_
       refine jc (op_move lb (.tmp rfl)) ?_
       replace hq2 := bnd_inv hq2
       obtain ⟨v_8, hv_v_8, hq2⟩ := hq2
       refine jc (op_sliceLcg lb tu23 tz5 (.tmp rfl) .none (.some (.tmp rfl)) (.some (.tmp rfl)) hv_v_8) ?_
       refine jc (op_assign lb (.tmp rfl)) ?_
       refine JL.nil ?_
       refine JQ.then ?_
       refine JC.seq ?_
       refine JC.region ?_
       refine jc (op_move lb (.tmp rfl)) ?_
       refine jc (op_move lb (.tmp rfl)) ?_
       refine jc (op_nilCheck lb (.tmp rfl) (fun e v h => by subst h; rfl)) ?_
       refine jc (op_fieldAddr (off := 0) lb tf75_0 (.tmp rfl)) ?_
       refine JL.sub ⟨[(1, ov (S (rI .i64) n_1)), (6, ov (S (rLc (rU UInt8)) v_8)), (32, ov (PTR gb_3 0)), (35, ov (PTR gb_3 (0 + 0)))], [cvar gb_3 r_wire_Reader r_2], []⟩ (.cons rfl (.cons rfl (.cons rfl (.cons rfl .nil)))) rfl rfl ?_
       refine jc (op_loadS (j := 0) lb tS23 (.tmp rfl) rfl (Comp.trans (Comp.self r_wire_Reader r_2) (comp_wire_Reader_rest r_2) (Nat.le_of_ble_eq_true rfl)) rfl rfl) ?_
       refine jc (op_move lb (.tmp rfl)) ?_
       replace hq2 := bnd_inv hq2
       obtain ⟨v_9, hv_v_9, hq2⟩ := hq2
       refine jc (op_sliceLg lb tu23 tz5 (.tmp rfl) (.some (.tmp rfl)) .none hv_v_9) ?_
       refine jc (op_nilCheck lb (.tmp rfl) (fun e v h => by subst h; rfl)) ?_
       refine jc (op_fieldAddr (off := 0) lb tf75_0 (.tmp rfl)) ?_
       replace hq2 := lt1_inv hq2
       obtain ⟨x_10, hv_x_10, hq2⟩ := hq2
       refine jc (op_storeS (j := 0) tS23 (.tmp rfl) (.tmp rfl) rfl rfl (Upd.trans (Comp.self r_wire_Reader r_2) (Upd.self r_wire_Reader r_2 _) (upd_wire_Reader_rest r_2 v_9)).R hv_x_10) ?_
       refine JL.nil ?_
       refine JQ.then ?_
       refine JC.seq ?_
       refine JC.region ?_
       refine jc (op_move lb (.tmp rfl)) ?_
       refine jc (op_assign lb (.tmp rfl)) ?_
       refine jc (op_assign lb .cB) ?_
       refine JL.nil ?_
       refine JQ.then ?_
       refine JC.ret ?_
       replace hq2 := Option.some.inj hq2
       subst hq2
       refine JQ.pre (Imp.slotS (s := 4) rfl Wk.clip) ?_
       exact JQ.done (js := [0]) (ss := [.val (S (rL (rU UInt8)) v_8), .val (S rB true)]) () (.inl rfl) (.nil rfl) rfl (.cons (.tmp rfl) (.cons (.tmp rfl) .nil)) rfl rfl rfl
   · refine JC.region ?_
     refine jc (op_move lb (.tmp rfl)) ?_
     replace hx2 := lt1_inv hx2
     obtain ⟨v_5, hv_v_5, hx2⟩ := hx2
     refine jc (op_cmpI lb (.tmp rfl) .cI (congrArg some hv_v_5)) ?_
     refine jc (op_move lb (.tmp rfl)) ?_
     refine JL.cnd (sv := ov (S (rI .i64) n_1)) (Guard.isF (ltB rfl) rfl rfl) rfl (ltB rfl) (fun hq_3 => op_move lb (.tmp rfl)) ?_
     replace hx2 := iteB_inv hx2
     rcases hx2 with ⟨hc5, hx2⟩ | ⟨hc5, hx2⟩
     · refine JL.skip (.no rfl (ltB rfl) rfl hc5) (fun d h => by cases h; exact ltB rfl) ?_
       refine JL.skip (.no rfl (ltB rfl) rfl hc5) (fun d h => by cases h; exact ltB rfl) ?_
       refine JL.skip (.no rfl (ltB rfl) rfl hc5) (fun d h => by cases h; exact ltB rfl) ?_
       refine JL.skip (.no rfl (ltB rfl) rfl hc5) (fun d h => by cases h; exact ltB rfl) ?_
       refine JL.skip (.no rfl (ltB rfl) rfl hc5) (fun d h => by cases h; exact ltB rfl) ?_
       refine JL.skip (.no rfl (ltB rfl) rfl hc5) (fun d h => by cases h; exact ltB rfl) ?_
       refine jc (op_pickT lb (.tmp rfl) hc5 .cB) ?_
       refine JL.sub ⟨[(0, ov (PTR gb_3 0)), (1, ov (S (rI .i64) n_1)), (21, ov (S rB true))], [cvar gb_3 r_wire_Reader r_2], []⟩ (.cons rfl (.cons rfl (.cons rfl .nil))) rfl rfl ?_
       refine jc (op_assign lb (.tmp rfl)) ?_
       refine JL.nil ?_
       replace hx2 := Option.some.inj hx2
       first | subst hx2 | clear hx2
       exact JQ.join () (Imp.norm (js := [0]) rfl (.cons rfl (.cons rfl (.cons rfl .nil))))
     · refine JL.run (.yes rfl (ltB rfl) rfl hc5) (op_move lb (.tmp rfl)) ?_
       refine JL.sub ⟨[(0, ov (PTR gb_3 0)), (1, ov (S (rI .i64) n_1)), (13, ov (S rB v_5)), (14, bif (!v_5) then ov (S (rI .i64) n_1) else .one .und), (15, ov (PTR gb_3 0))], [cvar gb_3 r_wire_Reader r_2], []⟩ (.cons rfl (.cons rfl (.cons rfl (.cons rfl (.cons rfl .nil))))) rfl rfl ?_
       refine JL.run (.yes rfl (ltB rfl) rfl hc5) (op_nilCheck lb (.tmp rfl) (fun e v h => by subst h; rfl)) ?_
       refine JL.run (.yes rfl (ltB rfl) rfl hc5) (op_fieldAddr (off := 0) lb tf75_0 (.tmp rfl)) ?_
       refine JL.run (.yes rfl (ltB rfl) rfl hc5) (op_loadS (j := 0) lb tS23 (.tmp rfl) rfl (Comp.trans (Comp.self r_wire_Reader r_2) (comp_wire_Reader_rest r_2) (Nat.le_of_ble_eq_true rfl)) rfl rfl) ?_
       refine JL.run (.yes rfl (ltB rfl) rfl hc5) (op_lenL lb tu23 (.tmp rfl)) ?_
       replace hx2 := lt1_inv hx2
       obtain ⟨v_6, hv_v_6, hx2⟩ := hx2
       refine JL.run (.yes rfl (ltB rfl) rfl hc5) (op_cmpI lb (HasO.cnd (.tmp rfl) (notT hc5)) (.tmp rfl) (congrArg some hv_v_6)) ?_
       refine jc (op_pickF lb (.tmp rfl) hc5 (.tmp rfl)) ?_
       refine jc (op_assign lb (.tmp rfl)) ?_
       refine JL.nil ?_
       replace hx2 := Option.some.inj hx2
       first | subst hx2 | clear hx2
       exact JQ.join () (Imp.norm (js := [0]) rfl (.cons rfl (.cons rfl (.cons rfl .nil))))

theorem sim_wire_Reader_Bytes (k : Nat) (n_1 : Int) (r_2 : wire_Reader) (gb_3 : Nat) (r : (List UInt8) × wire_Reader) (hm : wire_Reader_Bytes k n_1 r_2 = some r) : Sim Try.prog 40 [PTR gb_3 0, S (rI .i64) n_1] [cvar gb_3 r_wire_Reader r_2] (γ := Unit) (fun q => [cvar gb_3 r_wire_Reader r.2]) (fun q => .one (.val (S (rL (rU UInt8)) r.1))) := by
 unfold wire_Reader_Bytes at hm
 refine Sim.of Try.func40 rfl rfl (Nat.le_of_ble_eq_true rfl) (fun e0 w0 => ?_)
 refine JC.at ⟨[(0, ov (PTR gb_3 0)), (1, ov (S (rI .i64) n_1))], [cvar gb_3 r_wire_Reader r_2], []⟩ ?_
 refine JC.seq ?_
 refine JC.region ?_
 refine jc (op_assign lb HasO.nilH) ?_
 refine JL.nil ?_
 refine JQ.then ?_
 refine JC.seq ?_
 refine JC.region ?_
 refine jc (op_move lb (.tmp rfl)) ?_
 refine jc (op_move lb (.tmp rfl)) ?_
 replace hm := bnd_inv hm
 obtain ⟨⟨v_4, v_5, x_6⟩, hv_v_4, hm⟩ := hm
 refine jx (op_call (js := [0]) ld cl47 (sim_wire_Reader_take'2 k n_1 r_2 gb_3 (v_4, v_5, x_6) hv_v_4) .func (.cons (.tmp rfl) (.cons (.tmp rfl) .nil)) rfl) (fun _ => ?_)
 refine jc (op_move lb (.tmp rfl)) ?_
 refine jc (op_extract (i := 0) lb (.tmp rfl) rfl) ?_
 refine jc (op_extract (i := 1) lb (.tmp rfl) rfl) ?_
 refine jc (op_assign lb (.tmp rfl)) ?_
 refine jc (op_assign lb (.tmp rfl)) ?_
 refine JL.nil ?_
 refine JQ.then ?_
 refine JC.seq ?_
 refine JC.region ?_
 refine jc (op_move lb (.tmp rfl)) ?_
 refine JL.sub ⟨[(4, ov (HDR none 0 0 0)), (13, ov (S (rL (rU UInt8)) v_4))], [cvar gb_3 r_wire_Reader x_6], []⟩ (.cons rfl (.cons rfl .nil)) rfl rfl ?_
 refine jc (op_assign lb (.tmp rfl)) ?_
 refine JL.nil ?_
 refine JQ.then ?_
 refine JC.ret ?_
 replace hm := Option.some.inj hm
 subst hm
 exact JQ.done (js := [0]) (ss := [.val (S (rL (rU UInt8)) v_4)]) () (.inl rfl) (.nil rfl) rfl (.cons (.tmp rfl) .nil) rfl rfl rfl

theorem sim_wire_Reader_Blob (k : Nat) (is_1 : Bool) (made_2 : Bool) (x_4 : (List UInt8)) (gb_3 : Nat) (go_5 : Option Nat) (gc_6 : Nat) (r : (List UInt8) × wire_Reader) (hm : wire_Reader_Blob k is_1 made_2 x_4 = some r) : Sim Try.prog 26 [PTR gb_3 0] [cvar gb_3 (rP (rW (HDR go_5 0 (List.length x_4) gc_6)) (rP rB (rP rB r0))) ((), (is_1, (made_2, ()))), cown go_5 (rU UInt8) x_4 0 gc_6] (γ := Unit) (fun q => [cvar gb_3 r_wire_Reader r.2, cown go_5 (rU UInt8) x_4 (List.length x_4) gc_6]) (fun q => .one (.val (S (rL (rU UInt8)) r.1))) := by
 unfold wire_Reader_Blob at hm
 refine Sim.of Try.func26 rfl rfl (Nat.le_of_ble_eq_true rfl) (fun e0 w0 => ?_)
 refine JC.at ⟨[(0, ov (PTR gb_3 0))], [cvar gb_3 (rP (rW (HDR go_5 0 (List.length x_4) gc_6)) (rP rB (rP rB r0))) ((), (is_1, (made_2, ()))), cown go_5 (rU UInt8) x_4 0 gc_6], []⟩ ?_
 refine JC.seq ?_
 refine JC.region ?_
 refine jc (op_assign lb HasO.nilH) ?_
 refine JL.nil ?_
 refine JQ.then ?_
 refine JC.seq ?_
 refine JC.region ?_
 refine jc (op_move lb (.tmp rfl)) ?_
 refine jc (op_move lb (.tmp rfl)) ?_
 replace hm := bnd_inv hm
 obtain ⟨⟨v_7, x_8⟩, hv_v_7, hm⟩ := hm
 refine jx (op_call (js := [0, 0]) ld cl39 (sim_wire_Reader_Number k (2 : Int) is_1 made_2 x_4 gb_3 go_5 gc_6 (v_7, x_8) hv_v_7) .func (.cons (.tmp rfl) (.cons .cI .nil)) rfl) (fun _ => ?_)
 replace hm := lt1_inv hm
 obtain ⟨v_9, hv_v_9, hm⟩ := hm
 refine jc (op_convUI lb tu22 tu3 (.tmp rfl) hv_v_9) ?_
 replace hm := bnd_inv hm
 obtain ⟨⟨v_10, x_11⟩, hv_v_10, hm⟩ := hm
 refine jx (op_call (js := [0]) ld cl40 (sim_wire_Reader_Bytes k v_9 x_8 gb_3 (v_10, x_11) hv_v_10) .func (.cons (.tmp rfl) (.cons (.tmp rfl) .nil)) rfl) (fun _ => ?_)
 refine jc (op_assign lb (.tmp rfl)) ?_
 refine JL.nil ?_
 refine JQ.then ?_
 refine JC.ret ?_
 replace hm := Option.some.inj hm
 subst hm
 exact JQ.done (js := [0, 0]) (ss := [.val (S (rL (rU UInt8)) v_10)]) () (.inl rfl) (.nil rfl) rfl (.cons (.tmp rfl) .nil) rfl rfl rfl

theorem sim_wire_Reader_Left (k : Nat) (r_1 : wire_Reader) (gb_2 : Nat) (r : Int) (hm : wire_Reader_Left k r_1 = some r) : Sim Try.prog 18 [PTR gb_2 0] [cvar gb_2 r_wire_Reader r_1] (γ := Unit) (fun q => [cvar gb_2 r_wire_Reader r_1]) (fun q => .one (.val (S (rI .i64) r))) := by
 unfold wire_Reader_Left at hm
 refine Sim.of Try.func18 rfl rfl (Nat.le_of_ble_eq_true rfl) (fun e0 w0 => ?_)
 refine JC.at ⟨[(0, ov (PTR gb_2 0))], [cvar gb_2 r_wire_Reader r_1], []⟩ ?_
 refine JC.seq ?_
 refine JC.region ?_
 refine jc (op_assign lb .cI) ?_
 refine JL.nil ?_
 refine JQ.then ?_
 refine JC.seq ?_
 refine JC.seq ?_
 refine JC.region ?_
 refine jc (op_move lb (.tmp rfl)) ?_
 replace hm := bnd_inv hm
 obtain ⟨v_3, hv_v_3, hm⟩ := hm
 refine jx (op_call (js := [0]) ld cl20 (sim_wire_Reader_Failed'2 k r_1 gb_2 v_3 hv_v_3) .func (.cons (.tmp rfl) .nil) rfl) (fun _ => ?_)
 refine JL.nil ?_
 refine JQ.then ?_
 replace hm := iteB_inv hm
 rcases hm with ⟨hc1, hm⟩ | ⟨hc1, hm⟩
 · refine JC.condT (.tmp rfl) hc1 ?_
   refine JC.seq ?_
   refine JC.region ?_
   refine jc (op_assign lb .cI) ?_
   refine JL.nil ?_
   refine JQ.then ?_
   refine JC.ret ?_
   refine JQ.outR ?_
   replace hm := Option.some.inj hm
   subst hm
   exact JQ.done (js := [0]) (ss := [.val (S (rI .i64) (0 : Int))]) () (.inl rfl) (.nil rfl) rfl (.cons (.tmp rfl) .nil) rfl rfl rfl
 · refine JC.condF (.tmp rfl) hc1 ?_
   refine JC.skip ?_
   refine JQ.then ?_
   refine JC.seq ?_
   refine JC.region ?_
   refine jc (op_move lb (.tmp rfl)) ?_
   refine jc (op_nilCheck lb (.tmp rfl) (fun e v h => by subst h; rfl)) ?_
   refine jc (op_fieldAddr (off := 0) lb tf75_0 (.tmp rfl)) ?_
   refine jc (op_loadS (j := 0) lb tS23 (.tmp rfl) rfl (Comp.trans (Comp.self r_wire_Reader r_1) (comp_wire_Reader_rest r_1) (Nat.le_of_ble_eq_true rfl)) rfl rfl) ?_
   refine jc (op_lenL lb tu23 (.tmp rfl)) ?_
   refine jc (op_assign lb (.tmp rfl)) ?_
   refine JL.nil ?_
   refine JQ.then ?_
   refine JC.ret ?_
   replace hm := Option.some.inj hm
   subst hm
   exact JQ.done (js := [0]) (ss := [.val (S (rI .i64) (List.length r_1.rest : Int))]) () (.inl rfl) (.nil rfl) rfl (.cons (.tmp rfl) .nil) rfl rfl rfl

theorem sim_wire_Reader_Number'2 (k : Nat) (size_1 : Int) (r_2 : wire_Reader) (gb_3 : Nat) (r : UInt64 × wire_Reader) (hm : wire_Reader_Number'2 k size_1 r_2 = some r) : Sim Try.prog 39 [PTR gb_3 0, S (rI .i64) size_1] [cvar gb_3 r_wire_Reader r_2] (γ := Unit) (fun q => [cvar gb_3 r_wire_Reader r.2]) (fun q => .one (.val (S (rU UInt64) r.1))) := by
 unfold wire_Reader_Number'2 at hm
 refine Sim.of Try.func39 rfl rfl (Nat.le_of_ble_eq_true rfl) (fun e0 w0 => ?_)
 refine JC.at ⟨[(0, ov (PTR gb_3 0)), (1, ov (S (rI .i64) size_1))], [cvar gb_3 r_wire_Reader r_2], []⟩ ?_
 refine JC.seq ?_
 refine JC.region ?_
 refine jc (op_assign lb (HasO.cU (x := (0 : UInt64)) rfl (by decide))) ?_
 refine JL.nil ?_
 refine JQ.then ?_
 replace hm := bnd_inv hm
 obtain ⟨size_8, hx1, hq1⟩ := hm
 refine JC.seqJ (γ := Unit) (stj := fun q => ⟨[(0, ov (PTR gb_3 0)), (1, ov (S (rI .i64) size_8))], [cvar gb_3 r_wire_Reader r_2], []⟩) (fun q => ?_) ?_
 · obtain _ := q
   refine JC.at ⟨[(0, ov (PTR gb_3 0)), (1, ov (S (rI .i64) size_8))], [cvar gb_3 r_wire_Reader r_2], []⟩ ?_
   refine JC.seq ?_
   refine JC.region ?_
   refine jc (op_move lb (.tmp rfl)) ?_
   refine jc (op_move lb (.tmp rfl)) ?_
   replace hq1 := bnd_inv hq1
   obtain ⟨⟨v_9, v_10, x_11⟩, hv_v_9, hq1⟩ := hq1
   refine jx (op_call (js := [0]) ld cl47 (sim_wire_Reader_take'2 k size_8 r_2 gb_3 (v_9, v_10, x_11) hv_v_9) .func (.cons (.tmp rfl) (.cons (.tmp rfl) .nil)) rfl) (fun _ => ?_)
   refine jc (op_move lb (.tmp rfl)) ?_
   refine jc (op_extract (i := 0) lb (.tmp rfl) rfl) ?_
   refine jc (op_extract (i := 1) lb (.tmp rfl) rfl) ?_
   refine jc (op_assign lb (.tmp rfl)) ?_
   refine jc (op_assign lb (.tmp rfl)) ?_
   refine JL.nil ?_
   refine JQ.then ?_
   refine JC.seq ?_
   refine JC.region ?_
   refine jc (op_move lb (.tmp rfl)) ?_
   replace hq1 := bnd_inv hq1
   obtain ⟨⟨v_12, v_13⟩, hv_v_12, hq1⟩ := hq1
   refine jx (op_call (js := []) ld cl14 (sim_wire_Get k v_9 (v_12, v_13) hv_v_12) .func (.cons (.tmp rfl) .nil) rfl) (fun _ => ?_)
   refine JL.sub ⟨[(23, .tup [.val (S (rU UInt64) v_12), .val (S (rI .i64) v_13)])], [cvar gb_3 r_wire_Reader x_11], []⟩ (.cons rfl .nil) rfl rfl ?_
   refine jc (op_move lb (.tmp rfl)) ?_
   refine jc (op_extract (i := 0) lb (.tmp rfl) rfl) ?_
   refine jc (op_extract (i := 1) lb (.tmp rfl) rfl) ?_
   refine jc (op_assign lb (.tmp rfl)) ?_
   refine jc (op_assign lb (.tmp rfl)) ?_
   refine JL.nil ?_
   refine JQ.then ?_
   refine JC.seq ?_
   refine JC.region ?_
   refine jc (op_move lb (.tmp rfl)) ?_
   refine jc (op_assign lb (.tmp rfl)) ?_
   refine JL.nil ?_
   refine JQ.then ?_
   refine JC.ret ?_
   replace hq1 := Option.some.inj hq1
   subst hq1
   exact JQ.done (js := [0]) (ss := [.val (S (rU UInt64) v_12)]) () (.inl rfl) (.nil rfl) rfl (.cons (.tmp rfl) .nil) rfl rfl rfl
 · replace hx1 := bnd_inv hx1
   obtain ⟨x_7, hx2, hq2⟩ := hx1
   refine JC.seqJ (γ := Unit) (stj := fun q => ⟨[(0, ov (PTR gb_3 0)), (1, ov (S (rI .i64) size_1)), (14, ov (S rB x_7))], [cvar gb_3 r_wire_Reader r_2], []⟩) (fun q => ?_) ?_
   · obtain _ := q
     refine JC.at ⟨[(0, ov (PTR gb_3 0)), (1, ov (S (rI .i64) size_1)), (14, ov (S rB x_7))], [cvar gb_3 r_wire_Reader r_2], []⟩ ?_
     replace hq2 := iteB_inv hq2
     rcases hq2 with ⟨hc6, hq2⟩ | ⟨hc6, hq2⟩
     · refine JC.condT (.tmp rfl) hc6 ?_
       refine JC.region ?_
       refine jc (op_assign lb .cI) ?_
       refine JL.nil ?_
       replace hq2 := Option.some.inj hq2
       first | subst hq2 | clear hq2
       exact JQ.join () (Imp.norm (js := [0]) rfl (.cons rfl (.cons rfl .nil)))
     · refine JC.condF (.tmp rfl) hc6 ?_
       refine JC.skip ?_
       replace hq2 := Option.some.inj hq2
       first | subst hq2 | clear hq2
       exact JQ.join () (Imp.norm (js := [0]) rfl (.cons rfl (.cons rfl .nil)))
   · refine JC.region ?_
     refine jc (op_move lb (.tmp rfl)) ?_
     replace hx2 := lt1_inv hx2
     obtain ⟨v_4, hv_v_4, hx2⟩ := hx2
     refine jc (op_cmpI lb (.tmp rfl) .cI (congrArg some hv_v_4)) ?_
     refine jc (op_move lb (.tmp rfl)) ?_
     refine JL.cnd (sv := ov (S (rI .i64) size_1)) (Guard.isF (ltB rfl) rfl rfl) rfl (ltB rfl) (fun hq_3 => op_move lb (.tmp rfl)) ?_
     replace hx2 := lt1_inv hx2
     obtain ⟨v_5, hv_v_5, hx2⟩ := hx2
     refine JL.cnd (sv := ov (S rB v_5)) (Guard.isF (ltB rfl) rfl rfl) rfl (ltB rfl) (fun hq_4 => op_cmpI lb (HasO.cnd (.tmp rfl) (notT (notF hq_4))) .cI (congrArg some hv_v_5)) ?_
     replace hx2 := lt1_inv hx2
     obtain ⟨v_6, hv_v_6, hx2⟩ := hx2
     refine jc (op_pickCS lb (.tmp rfl) (fun hb5 => .cB) (fun hb5 => (HasO.cnd (.tmp rfl) (notT hb5))) hv_v_6) ?_
     refine JL.nil ?_
     replace hx2 := Option.some.inj hx2
     first | subst hx2 | clear hx2
     exact JQ.join () (Imp.norm (js := [0]) rfl (.cons rfl (.cons rfl (.cons rfl .nil))))

end Go.Proofs.Ytkbkdfcakpbojaa
