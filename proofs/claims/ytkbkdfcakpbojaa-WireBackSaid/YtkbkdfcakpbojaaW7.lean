/- Walks. -/
import Derived.Test.YtkbkdfcakpbojaaT
import Derived.Test.YtkbkdfcakpbojaaW0
import Derived.Test.YtkbkdfcakpbojaaW1
import Derived.Test.YtkbkdfcakpbojaaW5
namespace Go.Proofs.Ytkbkdfcakpbojaa
open Go Fw
set_option linter.unusedVariables false
set_option maxRecDepth 100000
set_option maxHeartbeats 4000000

theorem sim_wire_Reader_Vector'2 (k : Nat) (r_1 : wire_Reader) (gb_2 : Nat) (r : (Vector UInt64 16) × wire_Reader) (hm : wire_Reader_Vector'2 k r_1 = some r) : Sim Try.prog 28 [PTR gb_2 0] [cvar gb_2 r_wire_Reader r_1] (γ := Unit) (fun q => [cvar gb_2 r_wire_Reader r.2]) (fun q => .one (.val (A (rV 16 (rU UInt64)) r.1))) := by
 unfold wire_Reader_Vector'2 at hm
 refine Sim.of Try.func28 rfl rfl (Nat.le_of_ble_eq_true rfl) (fun e0 w0 => ?_)
 refine JC.at ⟨[(0, ov (PTR gb_2 0))], [cvar gb_2 r_wire_Reader r_1], []⟩ ?_
 refine JC.seq ?_
 refine JC.region ?_
 refine jx (op_alloc lb tZ50 zr50) (fun q => ?_)
 obtain ⟨gb_3, hqq⟩ : ∃ z, z = q := ⟨_, rfl⟩
 subst hqq
 refine JL.nil ?_
 refine JQ.then ?_
 refine JC.seq ?_
 refine JC.region ?_
 refine jc (op_move lb (.tmp rfl)) ?_
 replace hm := bnd_inv hm
 obtain ⟨⟨v_4, v_5, x_6⟩, hv_v_4, hm⟩ := hm
 refine jx (op_call (js := [0]) ld cl47 (sim_wire_Reader_take'2 k (128 : Int) r_1 gb_2 (v_4, v_5, x_6) hv_v_4) .func (.cons (.tmp rfl) (.cons .cI .nil)) rfl) (fun _ => ?_)
 refine jc (op_move lb (.tmp rfl)) ?_
 refine jc (op_extract (i := 0) lb (.tmp rfl) rfl) ?_
 refine jc (op_extract (i := 1) lb (.tmp rfl) rfl) ?_
 refine jc (op_assign lb (.tmp rfl)) ?_
 refine jc (op_assign lb (.tmp rfl)) ?_
 refine JL.sub ⟨[(2, ov (PTR gb_3 0)), (3, ov (S (rL (rU UInt8)) v_4))], [cvar gb_2 r_wire_Reader x_6, cvar gb_3 (rV 16 (rU UInt64)) (Vector.replicate 16 (0 : UInt64))], []⟩ (.cons rfl (.cons rfl .nil)) rfl rfl ?_
 refine JL.nil ?_
 refine JQ.then ?_
 refine JC.seq ?_
 refine JC.region ?_
 refine jc (op_move lb (.tmp rfl)) ?_
 replace hm := bnd_inv hm
 obtain ⟨v_7, hv_v_7, hm⟩ := hm
 refine jx (op_call (js := []) ld cl16 (sim_wire_Read k v_4 v_7 hv_v_7) .func (.cons (.tmp rfl) .nil) rfl) (fun q => ?_)
 obtain ⟨gb_8, go_9, gc_10⟩ := q
 refine jx (op_alloc lb tZ36 zr36) (fun q => ?_)
 obtain ⟨gb_11, hqq⟩ : ∃ z, z = q := ⟨_, rfl⟩
 subst hqq
 refine jc (op_storeW (j := 4) tS36 (.tmp rfl) (.tmp rfl) rfl (UpdR.self (by rfl)) rfl) ?_
 refine JL.nil ?_
 refine JQ.then ?_
 refine JC.seq ?_
 refine JC.region ?_
 refine jc (op_makeFunc lb (.cons (.tmp rfl) .nil)) ?_
 refine jc (op_assign lb (.tmp rfl)) ?_
 refine JL.sub ⟨[(2, ov (PTR gb_3 0)), (6, ov (CLO 48 [PTR gb_11 0]))], [cvar gb_8 (rP (rW (HDR go_9 0 (List.length v_7) gc_10)) (rP rB (rP rB r0))) ((), (true, (true, ()))), cown go_9 (rU UInt8) v_7 0 gc_10, cvar gb_2 r_wire_Reader x_6, cvar gb_3 (rV 16 (rU UInt64)) (Vector.replicate 16 (0 : UInt64)), cvar gb_11 (rW (PTR gb_8 0)) ()], []⟩ (.cons rfl (.cons rfl .nil)) rfl rfl ?_
 refine JL.nil ?_
 refine JQ.then ?_
 replace hm := bnd_inv hm
 obtain ⟨v_21, hx1, hq1⟩ := hm
 refine JC.seqJ (γ := Unit) (stj := fun q => ⟨[(2, ov (PTR gb_3 0))], [cvar gb_3 (rV 16 (rU UInt64)) v_21, cvar gb_2 r_wire_Reader x_6], []⟩) (fun q => ?_) ?_
 · obtain _ := q
   refine JC.at ⟨[(2, ov (PTR gb_3 0))], [cvar gb_3 (rV 16 (rU UInt64)) v_21, cvar gb_2 r_wire_Reader x_6], []⟩ ?_
   refine JC.seq ?_
   refine JC.region ?_
   refine jc (op_loadA (j := 0) lb tA50 (.tmp rfl) rfl (Comp.self (rV 16 (rU UInt64)) v_21) rfl) ?_
   refine jc (op_storeA (j := 0) tA50 (.tmp rfl) (.tmp rfl) rfl (UpdR.self (by rfl)) rfl) ?_
   refine JL.nil ?_
   refine JQ.then ?_
   refine JC.ret ?_
   replace hq1 := Option.some.inj hq1
   subst hq1
   exact JQ.done (js := [1]) (ss := [.val (A (rV 16 (rU UInt64)) v_21)]) () (.inl rfl) (.nil rfl) rfl (.cons (.cellA (j := 0) tA50 rfl rfl) .nil) rfl rfl rfl
 · refine JC.seq ?_
   refine JC.region ?_
   refine jc (op_move lb .cI) ?_
   refine JL.nil ?_
   refine JQ.then ?_
   refine JC.block ?_
   refine JC.pre (Imp.frz (j := 1) rfl (ImpK.var (j := 0) (q := (rP (rW (HL go_9 (rU UInt8) v_7 gc_10)) (rP rB (rP rB r0)))) (y := ((), (true, (true, ())))) rfl (Wk.pair Wk.own (Wk.pair Wk.refl (Wk.pair Wk.refl Wk.refl))) ImpK.refl)) ?_
   refine JC.pre (Imp.var (j := 0) (q := r_wire_Reader) (y := (wire_Reader.mk v_7 true true)) rfl (Wk.st (Wk.pair Wk.hl (Wk.pair Wk.refl (Wk.pair Wk.refl Wk.refl))))) ?_
   refine JC.pre ?_ (JC.loop (γ := Unit) (stf := fun s q => ⟨[(2, ov (PTR gb_3 0)), (6, ov (CLO 48 [PTR gb_11 0])), (16, ov (S (rI .i64) s.2.2))], [cvar gb_3 (rV 16 (rU UInt64)) s.1, cvar gb_11 (rW (PTR gb_8 0)) (), cvar gb_8 r_wire_Reader s.2.1, cvar gb_2 r_wire_Reader x_6], []⟩) (q := ()) hx1 ?_)
   · exact (Imp.norm (js := [3, 3, 0, 1]) rfl (.cons rfl (.cons rfl (.cons rfl .nil))))
   · intro s q x hx hr
     obtain ⟨v_12, x_13, x_14⟩ := s
     obtain _ := q
     change wire_Reader_Vector'2.b1 k v_12 x_13 x_14 = some x at hx
     unfold wire_Reader_Vector'2.b1 at hx
     refine JC.at ⟨[(2, ov (PTR gb_3 0)), (6, ov (CLO 48 [PTR gb_11 0])), (16, ov (S (rI .i64) x_14))], [cvar gb_3 (rV 16 (rU UInt64)) v_12, cvar gb_11 (rW (PTR gb_8 0)) (), cvar gb_8 r_wire_Reader x_13, cvar gb_2 r_wire_Reader x_6], []⟩ ?_
     refine JC.seq ?_
     refine JC.region ?_
     replace hx := lt1_inv hx
     obtain ⟨v_15, hv_v_15, hx⟩ := hx
     refine jc (op_cmpI lb (.tmp rfl) .cI (congrArg some hv_v_15)) ?_
     refine JL.nil ?_
     refine JQ.then ?_
     refine JC.seq ?_
     replace hx := iteB_inv hx
     rcases hx with ⟨hc3, hx⟩ | ⟨hc3, hx⟩
     · refine JC.condT (.tmp rfl) hc3 ?_
       refine JC.skip ?_
       refine JQ.then ?_
       refine JC.seq ?_
       refine JC.block ?_
       refine JC.seq ?_
       refine JC.region ?_
       refine jc (op_move lb (.tmp rfl)) ?_
       refine jc (op_assign lb (.tmp rfl)) ?_
       refine JL.nil ?_
       refine JQ.then ?_
       refine JC.region ?_
       refine jc (op_move lb (.tmp rfl)) ?_
       refine jc (op_move lb (.tmp rfl)) ?_
       replace hx := bnd_inv hx
       obtain ⟨⟨v_16, x_17⟩, hv_v_16, hx⟩ := hx
       refine jx (op_call (js := [1, 1]) ld cl48 (sim_wire_Reader_Vector_1'2 k x_13 gb_11 gb_8 (v_16, x_17) hv_v_16) (.tmp rfl) .nil rfl) (fun _ => ?_)
       replace hx := bnd_inv hx
       obtain ⟨i_18, hv_i_18, hx⟩ := hx
       refine jc (op_indexAddrIF lb tr50 (.tmp rfl) (.tmp rfl) hv_i_18) ?_
       replace hx := lt1_inv hx
       obtain ⟨v_19, hv_v_19, hx⟩ := hx
       refine jc (op_storeS (j := 2) tS22 (.tmp rfl) (.tmp rfl) rfl rfl (Upd.at (Comp.self (rV 16 (rU UInt64)) v_12) i_18.2 rfl (Upd.self (rV 16 (rU UInt64)) v_12 _)).R hv_v_19) ?_
       refine JL.sub ⟨[(2, ov (PTR gb_3 0)), (6, ov (CLO 48 [PTR gb_11 0])), (16, ov (S (rI .i64) x_14))], [cvar gb_11 (rW (PTR gb_8 0)) (), cvar gb_8 r_wire_Reader x_17, cvar gb_3 (rV 16 (rU UInt64)) v_19, cvar gb_2 r_wire_Reader x_6], []⟩ (.cons rfl (.cons rfl (.cons rfl .nil))) rfl rfl ?_
       refine JL.nil ?_
       refine JQ.outNB ?_
       refine JQ.then ?_
       refine JC.region ?_
       replace hx := lt1_inv hx
       obtain ⟨v_20, hv_v_20, hx⟩ := hx
       refine jc (op_arI lb (.tmp rfl) .cI (congrArg some hv_v_20)) ?_
       refine jc (op_move lb (.tmp rfl)) ?_
       refine JL.nil ?_
       replace hx := Option.some.inj hx
       first | subst hx | clear hx
       exact JQ.next () rfl (Imp.norm (js := [2, 0, 0, 0]) rfl (.cons rfl (.cons rfl (.cons rfl .nil))))
     · refine JC.condF (.tmp rfl) hc3 ?_
       refine JC.exit ?_
       refine JQ.outX ?_
       replace hx := Option.some.inj hx
       first | subst hx | clear hx
       have ht := hr _ rfl
       have hq2 := congrArg some ht
       clear hr ht
       refine JQ.outX ?_
       refine JQ.here ?_
       replace hq2 := Option.some.inj hq2
       first | subst hq2 | clear hq2
       exact JQ.join () (Imp.norm (js := [0, 2]) rfl (.cons rfl .nil))

end Go.Proofs.Ytkbkdfcakpbojaa
