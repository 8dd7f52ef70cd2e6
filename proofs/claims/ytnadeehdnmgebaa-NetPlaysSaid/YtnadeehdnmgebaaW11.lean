/- Walks. -/
import Derived.Test.YtnadeehdnmgebaaT
import Derived.Test.YtnadeehdnmgebaaW0
namespace Go.Proofs.Ytnadeehdnmgebaa
open Go Fw
set_option linter.unusedVariables false
set_option maxRecDepth 100000
set_option maxHeartbeats 4000000

theorem sim_net_Net_All_1'2 {σ τ γ : Type} (k : Nat) (Y_1 : (σ → (Int × Int × Int × (List UInt8) × Nat × Nat) → Option (σ ⊕ τ))) (x_2 : (σ ⊕ τ)) (x_5 : (List api_Flight)) (gq_3 : γ) (gb_4 : Nat) (go_6 : Option Nat) (gc_7 : Nat) (L : Nat) (C : σ ⊕ τ → γ → Chunk) (hY : YSim Try.prog L (fun (u : Int × Int × Int × (List UInt8) × Nat × Nat) (z : Option Nat × Nat) => [S (rI .i64) u.1, A (rP (rI .i64) (rP (rI .i64) (rP (rW (HDX z.1 (u.2.2.2.2.1 * 1) u.2.2.2.2.2)) r0))) (u.2.1, (u.2.2.1, ((), ())))]) (fun (u : Int × Int × Int × (List UInt8) × Nat × Nat) (z : Option Nat × Nat) => [cown z.1 (rU UInt8) u.2.2.2.1 0 z.2]) Y_1 C) (r : (σ ⊕ τ)) (hm : net_Net_All_1'2 k Y_1 x_2 x_5 = some r) : Sim Try.prog 41 [YLD L, PTR gb_4 0] [C x_2 gq_3, cvar gb_4 (rW (HDR go_6 0 (List.length x_5) gc_7)) (), cown go_6 r_api_Flight x_5 0 gc_7] (γ := γ) (fun q => [C r q, cvar gb_4 (rW (HDR go_6 0 (List.length x_5) gc_7)) (), cown go_6 r_api_Flight x_5 0 gc_7]) (fun q => .tup []) := by
 unfold net_Net_All_1'2 at hm
 refine Sim.of Try.func41 rfl rfl (Nat.le_of_ble_eq_true rfl) (fun e0 w0 => ?_)
 refine JC.at ⟨[(0, ov (YLD L)), (1, ov (PTR gb_4 0))], [C x_2 gq_3, cvar gb_4 (rW (HDR go_6 0 (List.length x_5) gc_7)) (), cown go_6 r_api_Flight x_5 0 gc_7], []⟩ ?_
 refine JC.seq ?_
 refine JC.region ?_
 refine jc (op_loadW (j := 1) lb tS30 (.tmp rfl) rfl (Comp.self (rW (HDR go_6 0 (List.length x_5) gc_7)) ())) ?_
 refine jc (op_lenH lb tu30 (.tmp rfl)) ?_
 refine jc (op_move lb .cI) ?_
 refine JL.nil ?_
 refine JQ.then ?_
 refine JC.block ?_
 replace hm := bnd_inv hm
 obtain ⟨tv1, hL1, hq1⟩ := hm
 refine JC.pre ?_ (JC.loop (γ := γ) (stf := fun s q => ⟨[(0, ov (YLD L)), (5, ov (HDR go_6 0 (List.length x_5) gc_7)), (6, ov (S (rI .i64) (List.length x_5 : Int))), (7, ov (S (rI .i64) s.2))], [C s.1 q, cown go_6 r_api_Flight x_5 0 gc_7, cvar gb_4 (rW (HDR go_6 0 (List.length x_5) gc_7)) ()], []⟩) (q := gq_3) hL1 ?_)
 · exact (Imp.norm (js := [0, 1, 0]) rfl (.cons rfl (.cons rfl (.cons rfl (.cons rfl .nil)))))
 · intro s q x hx hr
   obtain ⟨x_8, x_9⟩ := s
   obtain ⟨gq_10, hqq⟩ : ∃ z, z = q := ⟨_, rfl⟩
   subst hqq
   change net_Net_All_1'2.b1 k x_5 Y_1 x_8 x_9 = some x at hx
   unfold net_Net_All_1'2.b1 at hx
   refine JC.at ⟨[(0, ov (YLD L)), (5, ov (HDR go_6 0 (List.length x_5) gc_7)), (6, ov (S (rI .i64) (List.length x_5 : Int))), (7, ov (S (rI .i64) x_9))], [C x_8 gq_10, cown go_6 r_api_Flight x_5 0 gc_7, cvar gb_4 (rW (HDR go_6 0 (List.length x_5) gc_7)) ()], []⟩ ?_
   refine JC.seq ?_
   refine JC.region ?_
   replace hx := lt1_inv hx
   obtain ⟨v_11, hv_v_11, hx⟩ := hx
   refine jc (op_cmpI lb (.tmp rfl) (.tmp rfl) (congrArg some hv_v_11)) ?_
   refine JL.nil ?_
   refine JQ.then ?_
   refine JC.seq ?_
   replace hx := iteB_inv hx
   rcases hx with ⟨hc2, hx⟩ | ⟨hc2, hx⟩
   · refine JC.condT (.tmp rfl) hc2 ?_
     refine JC.skip ?_
     refine JQ.then ?_
     refine JC.seq ?_
     refine JC.block ?_
     refine JC.seq ?_
     refine JC.region ?_
     refine jc (op_move lb (.tmp rfl)) ?_
     replace hx := bnd_inv hx
     obtain ⟨i_12, hv_i_12, hx⟩ := hx
     refine jc (op_indexAddrOF (r := r_api_Flight) (j := 1) lb tu30 tz36 rfl (.tmp rfl) (.tmp rfl) hv_i_12) ?_
     replace hx := bnd_inv hx
     obtain ⟨v_13, hv_v_13, hx⟩ := hx
     refine jc (op_loadOA (r := r_api_Flight) (i := i_12) (off := 0) (j := 1) lb tA36 rfl (.tmp rfl) hv_v_13 (Comp.self r_api_Flight v_13) (by decide)) ?_
     refine jx (op_alloc lb tZ36 zr36) (fun q => ?_)
     obtain ⟨gb_14, hqq⟩ : ∃ z, z = q := ⟨_, rfl⟩
     subst hqq
     refine jc (op_assign lb (.tmp rfl)) ?_
     refine jc (op_storeA (j := 3) tA36 (.tmp rfl) (.tmp rfl) rfl (UpdR.self (by rfl)) rfl) ?_
     refine JL.nil ?_
     refine JQ.then ?_
     refine JC.seq ?_
     refine JC.region ?_
     refine jc (op_fieldAddr (off := 2) lb tf36_2 (.tmp rfl)) ?_
     refine JL.sub ⟨[(0, ov (YLD L)), (3, ov (S (rI .i64) x_9)), (4, ov (PTR gb_14 0)), (5, ov (HDR go_6 0 (List.length x_5) gc_7)), (6, ov (S (rI .i64) (List.length x_5 : Int))), (7, ov (S (rI .i64) x_9)), (12, ov (PTR gb_14 (0 + 2)))], [C x_8 gq_10, cown go_6 r_api_Flight x_5 0 gc_7, cvar gb_4 (rW (HDR go_6 0 (List.length x_5) gc_7)) (), cvar gb_14 r_api_Flight v_13], []⟩ (.cons rfl (.cons rfl (.cons rfl (.cons rfl (.cons rfl (.cons rfl (.cons rfl .nil))))))) rfl rfl ?_
     refine jc (op_loadS (j := 3) lb tS31 (.tmp rfl) rfl (Comp.trans (Comp.self r_api_Flight v_13) (comp_api_Flight_Bytes v_13) (Nat.le_of_ble_eq_true rfl)) rfl rfl) ?_
     replace hx := bnd_inv hx
     obtain ⟨v_15, hv_v_15, hx⟩ := hx
     refine jx (op_call (js := []) ld cl40 (sim_slices_Clonebyte_byte k v_13.Bytes v_15 hv_v_15) .func (.cons (.tmp rfl) .nil) rfl) (fun q => ?_)
     obtain ⟨go_16, gc_17⟩ := q
     refine jc (op_fieldAddr (off := 2) lb tf36_2 (.tmp rfl)) ?_
     refine JL.pre (Imp.var (j := 4) (q := (rP (rI .i64) (rP (rI .i64) (rP (rL (rU UInt8)) r0)))) (y := (v_13.From, (v_13.To, (v_13.Bytes, ())))) rfl (Wk.trans Wk.un Wk.refl)) ?_
     refine jc (op_storeW (j := 4) tS31 (.tmp rfl) (.tmp rfl) rfl ((UpdR.snd (UpdR.snd (UpdR.fst (UpdR.self (by rfl))))).at (by change (1 + (1 + 0)) = (0 + 2); omega)) rfl) ?_
     refine JL.nil ?_
     refine JQ.then ?_
     refine JC.seq ?_
     refine JC.region ?_
     refine jc (op_move lb (.tmp rfl)) ?_
     refine jc (op_move lb (.tmp rfl)) ?_
     refine jc (op_loadA (j := 4) lb tA36 (.tmp rfl) rfl (Comp.self (rP (rI .i64) (rP (rI .i64) (rP (rW (HDR go_16 0 (List.length v_15) gc_17)) r0))) (v_13.From, (v_13.To, ((), ())))) rfl) ?_
     replace hx := bnd_inv hx
     obtain ⟨y_18, hv_y_18, hx⟩ := hx
     refine JL.pre (Imp.slot (s := 14) (q := HDE go_16 (List.length v_15) gc_17) rfl wkTE) ?_
     refine JL.pre (Imp.slotA (s := 18) (q := (rP (rI .i64) (rP (rI .i64) (rP (rW (HDE go_16 (List.length v_15) gc_17)) r0)))) (y := (v_13.From, (v_13.To, ((), ())))) rfl (Wk.pair Wk.refl (Wk.pair Wk.refl (Wk.pair Wk.toE Wk.refl)))) ?_
     refine JL.pre (Imp.var (j := 4) (q := (rP (rI .i64) (rP (rI .i64) (rP (rW (HDE go_16 (List.length v_15) gc_17)) r0)))) (y := (v_13.From, (v_13.To, ((), ())))) rfl (Wk.pair Wk.refl (Wk.pair Wk.refl (Wk.pair Wk.toE Wk.refl)))) ?_
     refine JL.xF (j := 0) rfl (fun hxf3 => ?_)
     refine JL.pre (Imp.slotA (s := 18) (q := (rP (rI .i64) (rP (rI .i64) (rP (rW (HDX go_16 ((0) * 1) (List.length v_15))) r0)))) (y := (v_13.From, (v_13.To, ((), ())))) rfl (Wk.pair Wk.refl (Wk.pair Wk.refl (Wk.pair (Wk.toX (sz := 1) hxf3) Wk.refl)))) ?_
     refine jx (op_yld (js := [1, 0]) (u := (x_9, v_13.From, v_13.To, v_15, 0, (List.length v_15))) (z := (go_16, gc_17)) (rest := _) lb hY (.tmp rfl) (.cons (.tmp rfl) (.cons (.tmp rfl) .nil)) rfl hv_y_18) (fun q => ?_)
     obtain ⟨gq_19, hqq⟩ : ∃ z, z = q := ⟨_, rfl⟩
     subst hqq
     refine JL.nrm ⟨[(0, ov (YLD L)), (5, ov (HDR go_6 0 (List.length x_5) gc_7)), (6, ov (S (rI .i64) (List.length x_5 : Int))), (7, ov (S (rI .i64) x_9)), (19, ov (S rB (Sum.isLeft y_18)))], [C y_18 gq_19, cown go_6 r_api_Flight x_5 0 gc_7, cvar gb_4 (rW (HDR go_6 0 (List.length x_5) gc_7)) ()], []⟩ [0, 0, 0] rfl (.cons rfl (.cons rfl (.cons rfl (.cons rfl (.cons rfl .nil))))) rfl ?_
     replace hx := lt1_inv hx
     obtain ⟨v_20, hv_v_20, hx⟩ := hx
     refine jc (op_not lb (.tmp rfl) hv_v_20) ?_
     refine JL.nil ?_
     refine JQ.then ?_
     replace hx := iteB_inv hx
     rcases hx with ⟨hc4, hx⟩ | ⟨hc4, hx⟩
     · refine JC.condT (.tmp rfl) hc4 ?_
       refine JC.ret ?_
       refine JQ.outRB ?_
       refine JQ.outR ?_
       replace hx := Option.some.inj hx
       first | subst hx | clear hx
       have ht := hr _ rfl
       clear hr
       first | subst ht | clear ht
       dsimp only at hq1
       refine JQ.outR ?_
       refine JQ.outRB ?_
       replace hq1 := Option.some.inj hq1
       subst hq1
       exact JQ.done (js := [0, 1, 0]) (ss := []) gq_19 (.inl rfl) (.nil rfl) rfl .nil rfl rfl rfl
     · refine JC.condF (.tmp rfl) hc4 ?_
       refine JC.skip ?_
       refine JQ.outNB ?_
       refine JQ.then ?_
       refine JC.region ?_
       replace hx := lt1_inv hx
       obtain ⟨v_21, hv_v_21, hx⟩ := hx
       refine jc (op_arI lb (.tmp rfl) .cI (congrArg some hv_v_21)) ?_
       refine jc (op_move lb (.tmp rfl)) ?_
       refine JL.nil ?_
       replace hx := Option.some.inj hx
       first | subst hx | clear hx
       exact JQ.next gq_19 rfl (Imp.norm (js := [0, 0, 0]) rfl (.cons rfl (.cons rfl (.cons rfl (.cons rfl .nil)))))
   · refine JC.condF (.tmp rfl) hc2 ?_
     refine JC.exit ?_
     refine JQ.outX ?_
     replace hx := Option.some.inj hx
     first | subst hx | clear hx
     have ht := hr _ rfl
     clear hr
     first | subst ht | clear ht
     dsimp only at hq1
     refine JQ.outX ?_
     refine JQ.here ?_
     replace hq1 := Option.some.inj hq1
     subst hq1
     exact JQ.done (js := [0, 1, 0]) (ss := []) gq_10 (.inr rfl) (.nil rfl) rfl .nil rfl rfl rfl

end Go.Proofs.Ytnadeehdnmgebaa
