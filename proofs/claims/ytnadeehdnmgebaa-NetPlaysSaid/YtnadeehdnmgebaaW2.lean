/- Walks. -/
import Derived.Test.YtnadeehdnmgebaaT
import Derived.Test.YtnadeehdnmgebaaW0
import Derived.Test.YtnadeehdnmgebaaW1
namespace Go.Proofs.Ytnadeehdnmgebaa
open Go Fw
set_option linter.unusedVariables false
set_option maxRecDepth 100000
set_option maxHeartbeats 4000000

theorem sim_net_Net_All_1 {σ τ γ : Type} (k : Nat) (Y_1 : (σ → (Int × api_Flight) → Option (σ ⊕ τ))) (x_2 : (σ ⊕ τ)) (x_5 : (List api_Flight)) (gq_3 : γ) (gb_4 : Nat) (go_6 : Option Nat) (gc_7 : Nat) (L : Nat) (C : σ ⊕ τ → γ → Chunk) (hY : YSim Try.prog L (fun (u : Int × api_Flight) (z : Unit) => [S (rI .i64) u.1, A r_api_Flight u.2]) (fun (u : Int × api_Flight) (z : Unit) => []) Y_1 C) (r : (σ ⊕ τ)) (hm : net_Net_All_1 k Y_1 x_2 x_5 = some r) : Sim Try.prog 41 [YLD L, PTR gb_4 0] [C x_2 gq_3, cvar gb_4 (rW (HDR go_6 0 (List.length x_5) gc_7)) (), cown go_6 r_api_Flight x_5 0 gc_7] (γ := γ) (fun q => [C r q, cvar gb_4 (rW (HDR go_6 0 (List.length x_5) gc_7)) (), cown go_6 r_api_Flight x_5 0 gc_7]) (fun q => .tup []) := by
 unfold net_Net_All_1 at hm
 refine Sim.of Try.func41 rfl rfl (Nat.le_of_ble_eq_true rfl) (fun e0 w0 => ?_)
 refine JC.at ⟨[(0, ov (YLD L)), (1, ov (PTR gb_4 0))], [C x_2 gq_3, cvar gb_4 (rW (HDR go_6 0 (List.length x_5) gc_7)) (), cown go_6 r_api_Flight x_5 0 gc_7], []⟩ ?_
 refine JC.seq ?_
 refine JC.region ?_
 refine jc (op_loadW (j := 1) lb tS30 (.tmp rfl) rfl (Comp.self (rW (HDR go_6 0 (List.length x_5) gc_7)) ())) ?_
 refine jc (op_lenH lb tu30 (.tmp rfl)) ?_
 refine jc (op_move lb .cI) ?_
 refine JL.nil ?_
 refine JQ.then ?_
 refine JC.block ?_
 replace hm := bnd_inv hm
 obtain ⟨tv1, hL1, hq1⟩ := hm
 refine JC.pre ?_ (JC.loop (γ := γ) (stf := fun s q => ⟨[(0, ov (YLD L)), (5, ov (HDR go_6 0 (List.length x_5) gc_7)), (6, ov (S (rI .i64) (List.length x_5 : Int))), (7, ov (S (rI .i64) s.2))], [C s.1 q, cown go_6 r_api_Flight x_5 0 gc_7, cvar gb_4 (rW (HDR go_6 0 (List.length x_5) gc_7)) ()], []⟩) (q := gq_3) hL1 ?_)
 · exact (Imp.norm (js := [0, 1, 0]) rfl (.cons rfl (.cons rfl (.cons rfl (.cons rfl .nil)))))
 · intro s q x hx hr
   obtain ⟨x_8, x_9⟩ := s
   obtain ⟨gq_10, hqq⟩ : ∃ z, z = q := ⟨_, rfl⟩
   subst hqq
   change net_Net_All_1.b1 k x_5 Y_1 x_8 x_9 = some x at hx
   unfold net_Net_All_1.b1 at hx
   refine JC.at ⟨[(0, ov (YLD L)), (5, ov (HDR go_6 0 (List.length x_5) gc_7)), (6, ov (S (rI .i64) (List.length x_5 : Int))), (7, ov (S (rI .i64) x_9))], [C x_8 gq_10, cown go_6 r_api_Flight x_5 0 gc_7, cvar gb_4 (rW (HDR go_6 0 (List.length x_5) gc_7)) ()], []⟩ ?_
   refine JC.seq ?_
   refine JC.region ?_
   replace hx := lt1_inv hx
   obtain ⟨v_11, hv_v_11, hx⟩ := hx
   refine jc (op_cmpI lb (.tmp rfl) (.tmp rfl) (congrArg some hv_v_11)) ?_
   refine JL.nil ?_
   refine JQ.then ?_
   refine JC.seq ?_
   replace hx := iteB_inv hx
   rcases hx with ⟨hc2, hx⟩ | ⟨hc2, hx⟩
   · refine JC.condT (.tmp rfl) hc2 ?_
     refine JC.skip ?_
     refine JQ.then ?_
     refine JC.seq ?_
     refine JC.block ?_
     refine JC.seq ?_
     refine JC.region ?_
     refine jc (op_move lb (.tmp rfl)) ?_
     replace hx := bnd_inv hx
     obtain ⟨i_12, hv_i_12, hx⟩ := hx
     refine jc (op_indexAddrOF (r := r_api_Flight) (j := 1) lb tu30 tz36 rfl (.tmp rfl) (.tmp rfl) hv_i_12) ?_
     replace hx := bnd_inv hx
     obtain ⟨v_13, hv_v_13, hx⟩ := hx
     refine jc (op_loadOA (r := r_api_Flight) (i := i_12) (off := 0) (j := 1) lb tA36 rfl (.tmp rfl) hv_v_13 (Comp.self r_api_Flight v_13) (by decide)) ?_
     refine jx (op_alloc lb tZ36 zr36) (fun q => ?_)
     obtain ⟨gb_14, hqq⟩ : ∃ z, z = q := ⟨_, rfl⟩
     subst hqq
     refine jc (op_assign lb (.tmp rfl)) ?_
     refine jc (op_storeA (j := 3) tA36 (.tmp rfl) (.tmp rfl) rfl (UpdR.self (by rfl)) rfl) ?_
     refine JL.nil ?_
     refine JQ.then ?_
     refine JC.seq ?_
     refine JC.region ?_
     refine jc (op_fieldAddr (off := 2) lb tf36_2 (.tmp rfl)) ?_
     refine JL.sub ⟨[(0, ov (YLD L)), (3, ov (S (rI .i64) x_9)), (4, ov (PTR gb_14 0)), (5, ov (HDR go_6 0 (List.length x_5) gc_7)), (6, ov (S (rI .i64) (List.length x_5 : Int))), (7, ov (S (rI .i64) x_9)), (12, ov (PTR gb_14 (0 + 2)))], [C x_8 gq_10, cown go_6 r_api_Flight x_5 0 gc_7, cvar gb_4 (rW (HDR go_6 0 (List.length x_5) gc_7)) (), cvar gb_14 r_api_Flight v_13], []⟩ (.cons rfl (.cons rfl (.cons rfl (.cons rfl (.cons rfl (.cons rfl (.cons rfl .nil))))))) rfl rfl ?_
     refine jc (op_loadS (j := 3) lb tS31 (.tmp rfl) rfl (Comp.trans (Comp.self r_api_Flight v_13) (comp_api_Flight_Bytes v_13) (Nat.le_of_ble_eq_true rfl)) rfl rfl) ?_
     replace hx := bnd_inv hx
     obtain ⟨v_15, hv_v_15, hx⟩ := hx
     refine jx (op_call (js := []) ld cl40 (sim_slices_Clonebyte_byte k v_13.Bytes v_15 hv_v_15) .func (.cons (.tmp rfl) .nil) rfl) (fun q => ?_)
     obtain ⟨go_16, gc_17⟩ := q
     refine jc (op_fieldAddr (off := 2) lb tf36_2 (.tmp rfl)) ?_
     refine JL.pre (Imp.var (j := 4) (q := (rP (rI .i64) (rP (rI .i64) (rP (rL (rU UInt8)) r0)))) (y := (v_13.From, (v_13.To, (v_13.Bytes, ())))) rfl (Wk.trans Wk.un Wk.refl)) ?_
     refine jc (op_storeW (j := 4) tS31 (.tmp rfl) (.tmp rfl) rfl ((UpdR.snd (UpdR.snd (UpdR.fst (UpdR.self (by rfl))))).at (by change (1 + (1 + 0)) = (0 + 2); omega)) rfl) ?_
     refine JL.nil ?_
     refine JQ.then ?_
     refine JC.seq ?_
     refine JC.region ?_
     refine jc (op_move lb (.tmp rfl)) ?_
     refine jc (op_move lb (.tmp rfl)) ?_
     refine jc (op_loadA (j := 4) lb tA36 (.tmp rfl) rfl (Comp.self (rP (rI .i64) (rP (rI .i64) (rP (rW (HDR go_16 0 (List.length v_15) gc_17)) r0))) (v_13.From, (v_13.To, ((), ())))) rfl) ?_
     replace hx := bnd_inv hx
     obtain ⟨y_18, hv_y_18, hx⟩ := hx
     refine JL.pre (Imp.frz (j := 0) rfl (ImpK.slotH (s := 14) rfl (ImpK.slotA (s := 18) (q := (rP (rI .i64) (rP (rI .i64) (rP (rW (HL go_16 (rU UInt8) v_15 gc_17)) r0)))) (y := (v_13.From, (v_13.To, ((), ())))) rfl (Wk.pair Wk.refl (Wk.pair Wk.refl (Wk.pair Wk.own Wk.refl))) (ImpK.var (j := 4) (q := (rP (rI .i64) (rP (rI .i64) (rP (rW (HL go_16 (rU UInt8) v_15 gc_17)) r0)))) (y := (v_13.From, (v_13.To, ((), ())))) rfl (Wk.pair Wk.refl (Wk.pair Wk.refl (Wk.pair Wk.own Wk.refl))) ImpK.refl)))) ?_
     refine JL.pre (Imp.slotA (s := 18) rfl (Wk.st (Wk.pair Wk.refl (Wk.pair Wk.refl (Wk.pair Wk.hl Wk.refl))))) ?_
     refine jx (op_yld (js := [1]) (u := (x_9, (api_Flight.mk v_13.From v_13.To v_15))) (z := ()) (rest := _) lb hY (.tmp rfl) (.cons (.tmp rfl) (.cons (.tmp rfl) .nil)) rfl hv_y_18) (fun q => ?_)
     obtain ⟨gq_19, hqq⟩ : ∃ z, z = q := ⟨_, rfl⟩
     subst hqq
     refine JL.nrm ⟨[(0, ov (YLD L)), (5, ov (HDR go_6 0 (List.length x_5) gc_7)), (6, ov (S (rI .i64) (List.length x_5 : Int))), (7, ov (S (rI .i64) x_9)), (19, ov (S rB (Sum.isLeft y_18)))], [C y_18 gq_19, cown go_6 r_api_Flight x_5 0 gc_7, cvar gb_4 (rW (HDR go_6 0 (List.length x_5) gc_7)) ()], []⟩ [0, 1, 1] rfl (.cons rfl (.cons rfl (.cons rfl (.cons rfl (.cons rfl .nil))))) rfl ?_
     replace hx := lt1_inv hx
     obtain ⟨v_20, hv_v_20, hx⟩ := hx
     refine jc (op_not lb (.tmp rfl) hv_v_20) ?_
     refine JL.nil ?_
     refine JQ.then ?_
     replace hx := iteB_inv hx
     rcases hx with ⟨hc3, hx⟩ | ⟨hc3, hx⟩
     · refine JC.condT (.tmp rfl) hc3 ?_
       refine JC.ret ?_
       refine JQ.outRB ?_
       refine JQ.outR ?_
       replace hx := Option.some.inj hx
       first | subst hx | clear hx
       have ht := hr _ rfl
       clear hr
       first | subst ht | clear ht
       dsimp only at hq1
       refine JQ.outR ?_
       refine JQ.outRB ?_
       replace hq1 := Option.some.inj hq1
       subst hq1
       exact JQ.done (js := [0, 1, 0]) (ss := []) gq_19 (.inl rfl) (.nil rfl) rfl .nil rfl rfl rfl
     · refine JC.condF (.tmp rfl) hc3 ?_
       refine JC.skip ?_
       refine JQ.outNB ?_
       refine JQ.then ?_
       refine JC.region ?_
       replace hx := lt1_inv hx
       obtain ⟨v_21, hv_v_21, hx⟩ := hx
       refine jc (op_arI lb (.tmp rfl) .cI (congrArg some hv_v_21)) ?_
       refine jc (op_move lb (.tmp rfl)) ?_
       refine JL.nil ?_
       replace hx := Option.some.inj hx
       first | subst hx | clear hx
       exact JQ.next gq_19 rfl (Imp.norm (js := [0, 0, 0]) rfl (.cons rfl (.cons rfl (.cons rfl (.cons rfl .nil)))))
   · refine JC.condF (.tmp rfl) hc2 ?_
     refine JC.exit ?_
     refine JQ.outX ?_
     replace hx := Option.some.inj hx
     first | subst hx | clear hx
     have ht := hr _ rfl
     clear hr
     first | subst ht | clear ht
     dsimp only at hq1
     refine JQ.outX ?_
     refine JQ.here ?_
     replace hq1 := Option.some.inj hq1
     subst hq1
     exact JQ.done (js := [0, 1, 0]) (ss := []) gq_10 (.inr rfl) (.nil rfl) rfl .nil rfl rfl rfl

theorem sim_net_Net_At (k : Nat) (place_1 : Int) (ends_2 : Int) (lost_3 : Int) (x_5 : (List (net_pair × (List (List UInt8))))) (gb_4 : Nat) (go_6 : Option Nat) (r : api_Flight × Int) (hm : net_Net_At k place_1 ends_2 lost_3 x_5 = some r) : Sim Try.prog 14 [PTR gb_4 0, S (rI .i64) place_1] [cvar gb_4 (rP (rW (MPV go_6)) (rP (rI .i64) (rP (rI .i64) r0))) ((), (ends_2, (lost_3, ()))), cmap go_6 (A r_net_pair) (S (rL (rL (rU UInt8)))) (some x_5)] (γ := Unit) (fun q => [cvar gb_4 (rP (rW (MPV go_6)) (rP (rI .i64) (rP (rI .i64) r0))) ((), (ends_2, (lost_3, ()))), cmap go_6 (A r_net_pair) (S (rL (rL (rU UInt8)))) (some x_5)]) (fun q => .tup [.val (A r_api_Flight r.1), .val (S (rI .i64) r.2)]) := by
 unfold net_Net_At at hm
 refine Sim.of Try.func14 rfl rfl (Nat.le_of_ble_eq_true rfl) (fun e0 w0 => ?_)
 refine JC.at ⟨[(0, ov (PTR gb_4 0)), (1, ov (S (rI .i64) place_1))], [cvar gb_4 (rP (rW (MPV go_6)) (rP (rI .i64) (rP (rI .i64) r0))) ((), (ends_2, (lost_3, ()))), cmap go_6 (A r_net_pair) (S (rL (rL (rU UInt8)))) (some x_5)], []⟩ ?_
 refine JC.seq ?_
 refine JC.region ?_
 refine jx (op_boxS lb (.tmp rfl)) (fun q => ?_)
 obtain ⟨gb_7, hqq⟩ : ∃ z, z = q := ⟨_, rfl⟩
 subst hqq
 refine jx (op_alloc lb tZ36 zr36) (fun q => ?_)
 obtain ⟨gb_8, hqq⟩ : ∃ z, z = q := ⟨_, rfl⟩
 subst hqq
 refine jx (op_alloc lb tZ26 zr26) (fun q => ?_)
 obtain ⟨gb_9, hqq⟩ : ∃ z, z = q := ⟨_, rfl⟩
 subst hqq
 refine JL.nil ?_
 refine JQ.then ?_
 refine JC.scope ?_
 refine JC.seq ?_
 refine JC.block ?_
 refine JC.seq ?_
 refine JC.region ?_
 refine jc (op_move lb (.tmp rfl)) ?_
 replace hm := bnd_inv hm
 obtain ⟨_, hv_u_10, hm⟩ := hm
 refine jx (op_call (js := [0, 0]) ld cl29 (sim_net_Net_there k ends_2 lost_3 x_5 gb_4 go_6 () hv_u_10) .func (.cons (.tmp rfl) .nil) rfl) (fun _ => ?_)
 refine JL.sub ⟨[(0, ov (PTR gb_4 0)), (3, ov (PTR gb_7 0)), (4, ov (PTR gb_8 0)), (5, ov (PTR gb_9 0)), (10, ov (S rB true))], [cvar gb_4 (rP (rW (MPV go_6)) (rP (rI .i64) (rP (rI .i64) r0))) ((), (ends_2, (lost_3, ()))), cmap go_6 (A r_net_pair) (S (rL (rL (rU UInt8)))) (some x_5), cvar gb_7 (rI .i64) place_1, cvar gb_8 (rP (rI .i64) (rP (rI .i64) (rP (rW (HDR none 0 0 0)) r0))) ((0 : Int), ((0 : Int), ((), ()))), cvar gb_9 (rI .i64) (0 : Int)], []⟩ (.cons rfl (.cons rfl (.cons rfl (.cons rfl (.cons rfl .nil))))) rfl rfl ?_
 refine jc (op_not lb (.tmp rfl) rfl) ?_
 refine jc (op_assign lb (.tmp rfl)) ?_
 refine JL.nil ?_
 refine JQ.then ?_
 refine JC.condF (.tmp rfl) rfl ?_
 refine JC.seq ?_
 refine JC.region ?_
 refine jc (op_loadS (j := 2) lb tS3 (.tmp rfl) rfl (Comp.self (rI .i64) place_1) rfl rfl) ?_
 replace hm := lt1_inv hm
 obtain ⟨v_11, hv_v_11, hm⟩ := hm
 refine jc (op_cmpI lb (.tmp rfl) .cI (congrArg some hv_v_11)) ?_
 refine jc (op_assign lb (.tmp rfl)) ?_
 refine JL.nil ?_
 refine JQ.then ?_
 replace hm := iteB_inv hm
 rcases hm with ⟨hc1, hm⟩ | ⟨hc1, hm⟩
 · refine JC.condT (.tmp rfl) hc1 ?_
   refine JC.seq ?_
   refine JC.region ?_
   refine jc (op_loadA (j := 3) lb tA36 (.tmp rfl) rfl (Comp.self (rP (rI .i64) (rP (rI .i64) (rP (rW (HDR none 0 0 0)) r0))) ((0 : Int), ((0 : Int), ((), ())))) rfl) ?_
   refine jc (op_storeA (j := 3) tA36 (.tmp rfl) (.tmp rfl) rfl (UpdR.self (by rfl)) rfl) ?_
   refine jc (op_storeS (j := 4) tS26 (.tmp rfl) .cI rfl rfl (UpdR.self (by rfl)) rfl) ?_
   refine JL.nil ?_
   refine JQ.then ?_
   refine JC.ret ?_
   refine JQ.outRB ?_
   refine JQ.outR ?_
   refine JQ.scR ?_
   replace hm := Option.some.inj hm
   subst hm
   refine JQ.pre (Imp.var (j := 3) (q := r_api_Flight) (y := (api_Flight.mk (0 : Int) (0 : Int) ([] : (List UInt8)))) rfl (Wk.st (Wk.pair Wk.refl (Wk.pair Wk.refl (Wk.pair Wk.nil Wk.refl))))) ?_
   exact JQ.done (js := [0, 0]) (ss := [.val (A r_api_Flight (api_Flight.mk (0 : Int) (0 : Int) ([] : (List UInt8)))), .val (S (rI .i64) (2 : Int))]) () (.inl rfl) (.nil rfl) rfl (.cons (.cellA (j := 3) tA36 rfl rfl) (.cons (.cellS (j := 4) tS26 rfl rfl rfl) .nil)) rfl rfl rfl
 · refine JC.condF (.tmp rfl) hc1 ?_
   refine JC.skip ?_
   refine JQ.outNB ?_
   refine JQ.then ?_
   refine JC.seq ?_
   refine JC.region ?_
   refine jc (op_storeS (j := 4) tS26 (.tmp rfl) .cI rfl rfl (UpdR.self (by rfl)) rfl) ?_
   refine JL.nil ?_
   refine JQ.then ?_
   refine JC.seq ?_
   refine JC.label ?_
   refine JQ.then ?_
   replace hm := bnd_inv hm
   obtain ⟨⟨f_22, e_23⟩, hx2, hq2⟩ := hm
   refine JC.seqJ (γ := Nat) (stj := fun q => ⟨[(4, ov (PTR gb_8 0)), (5, ov (PTR gb_9 0))], [cvar gb_8 r_api_Flight f_22, cvar gb_9 (rI .i64) e_23, cvar gb_4 (rP (rW (MPV go_6)) (rP (rI .i64) (rP (rI .i64) r0))) ((), (ends_2, (lost_3, ()))), cmap go_6 (A r_net_pair) (S (rL (rL (rU UInt8)))) (some x_5), cdef q], [q]⟩) (fun q => ?_) ?_
   · obtain ⟨gK_24, hqq⟩ : ∃ z, z = q := ⟨_, rfl⟩
     subst hqq
     refine JC.at ⟨[(4, ov (PTR gb_8 0)), (5, ov (PTR gb_9 0))], [cvar gb_8 r_api_Flight f_22, cvar gb_9 (rI .i64) e_23, cvar gb_4 (rP (rW (MPV go_6)) (rP (rI .i64) (rP (rI .i64) r0))) ((), (ends_2, (lost_3, ()))), cmap go_6 (A r_net_pair) (S (rL (rL (rU UInt8)))) (some x_5), cdef gK_24], [gK_24]⟩ ?_
     refine JC.seq ?_
     refine JC.anyE (kl := []) (kk := 0) (base := [(4, ov (PTR gb_8 0)), (5, ov (PTR gb_9 0))])
         (fs := fun γ => [⟨some 25, ov (A r_api_Flight f_22)⟩, ⟨some 26, ov (S (rI .i64) e_23)⟩, ⟨none, .one .any⟩, ⟨none, .one .any⟩])
         (rs := fun γ => [⟨cvar gb_8 r_api_Flight f_22, none, none, [0, 2]⟩, ⟨cvar gb_9 (rI .i64) e_23, none, none, [1, 3]⟩, ⟨cvar gb_4 (rP (rW (MPV go_6)) (rP (rI .i64) (rP (rI .i64) r0))) ((), (ends_2, (lost_3, ()))), none, none, []⟩, ⟨cmap go_6 (A r_net_pair) (S (rL (rL (rU UInt8)))) (some x_5), none, none, []⟩, ⟨cdef gK_24, none, none, []⟩])
         (ds := [25, 26]) (bs := [4, 5]) (afts := [[], [], [], []]) (js := [0, 0, 0, 0, 0]) mixed (.cons rfl (.cons rfl .nil)) (fun _ => rfl)
         (by
      refine DSteps.cons (j := 1) rfl (fun _ => rfl) (.run (fun γ ρ B hb hd => ⟨.none, OpStep.at ⟨ρ, (cvar gb_8 r_api_Flight f_22) :: B, _⟩ (setO ⟨ρ, (cvar gb_8 r_api_Flight f_22) :: B, _⟩ _ _) (op_loadA (j := 0) lb tA36 (.tmp (hb 4 _ rfl)) rfl (Comp.self r_api_Flight f_22) rfl)⟩)) ?_
      refine DSteps.cons (j := 2) rfl (fun _ => rfl) (.run (fun γ ρ B hb hd => ⟨.none, OpStep.at ⟨ρ, (cvar gb_9 (rI .i64) e_23) :: B, _⟩ (setO ⟨ρ, (cvar gb_9 (rI .i64) e_23) :: B, _⟩ _ _) (op_loadS (j := 0) lb tS26 (.tmp (hb 5 _ rfl)) rfl (Comp.self (rI .i64) e_23) rfl rfl)⟩)) ?_
      refine DSteps.cons (j := 3) rfl (fun _ => rfl) (.run (fun γ ρ B hb hd => ⟨.none, OpStep.at ⟨ρ, (cvar gb_8 r_api_Flight f_22) :: B, _⟩ (setO ⟨ρ, (cvar gb_8 r_api_Flight f_22) :: B, _⟩ _ _) (op_storeA (j := 0) tA36 (.tmp (hb 4 _ rfl)) (.tmp (hl hd 0 25 rfl)) rfl (UpdR.self (by rfl)) rfl)⟩)) ?_
      refine DSteps.cons (j := 4) rfl (fun _ => rfl) (.run (fun γ ρ B hb hd => ⟨.none, OpStep.at ⟨ρ, (cvar gb_9 (rI .i64) e_23) :: B, _⟩ (setO ⟨ρ, (cvar gb_9 (rI .i64) e_23) :: B, _⟩ _ _) (op_storeS (j := 0) tS26 (.tmp (hb 5 _ rfl)) (.tmp (hl hd 1 26 rfl)) rfl rfl (UpdR.self (by rfl)) rfl)⟩)) ?_
      exact DSteps.nil)
         (by decide +kernel) (fun _ => rfl) rfl (fun _ => rfl) (fun _ => rfl) rfl (by decide) (by decide) (by decide +kernel) (fun _ d h => by cases h)
         (ρ' := fun γ => [(4, ov (PTR gb_8 0)), (5, ov (PTR gb_9 0))])
         (X' := fun γ => [cvar gb_8 r_api_Flight f_22, cvar gb_9 (rI .i64) e_23, cvar gb_4 (rP (rW (MPV go_6)) (rP (rI .i64) (rP (rI .i64) r0))) ((), (ends_2, (lost_3, ()))), cmap go_6 (A r_net_pair) (S (rL (rL (rU UInt8)))) (some x_5), cdef gK_24])
         (fun γ ρ hb hd => (.cons (hb 4 _ rfl (by decide)) (.cons (hb 5 _ rfl (by decide)) .nil))) (fun _ => rfl) (fun γ => ?_)
     refine JQ.at ⟨[(4, ov (PTR gb_8 0)), (5, ov (PTR gb_9 0))], [cvar gb_8 r_api_Flight f_22, cvar gb_9 (rI .i64) e_23, cvar gb_4 (rP (rW (MPV go_6)) (rP (rI .i64) (rP (rI .i64) r0))) ((), (ends_2, (lost_3, ()))), cmap go_6 (A r_net_pair) (S (rL (rL (rU UInt8)))) (some x_5), cdef gK_24], [gK_24]⟩ ?_
     refine JQ.then ?_
     refine JC.ret ?_
     refine JQ.scR ?_
     replace hq2 := Option.some.inj hq2
     subst hq2
     exact JQ.done (js := [2, 2]) (ss := [.val (A r_api_Flight f_22), .val (S (rI .i64) e_23)]) () (.inl rfl) (.cons (j := 4) rfl rfl (.nil rfl)) rfl (.cons (.cellA (j := 0) tA36 rfl rfl) (.cons (.cellS (j := 1) tS26 rfl rfl rfl) .nil)) rfl rfl rfl
   · refine JC.seq ?_
     refine JC.region ?_
     refine jc (op_move lb (.tmp rfl)) ?_
     replace hx2 := bnd_inv hx2
     obtain ⟨v_12, hv_v_12, hx2⟩ := hx2
     refine jx (op_call (js := [0, 0]) ld cl31 (sim_net_Net_All k ends_2 lost_3 x_5 gb_4 go_6 v_12 hv_v_12) .func (.cons (.tmp rfl) .nil) rfl) (fun q => ?_)
     obtain ⟨gb_13, go_14, gc_15⟩ := q
     refine JL.sub ⟨[(3, ov (PTR gb_7 0)), (4, ov (PTR gb_8 0)), (5, ov (PTR gb_9 0)), (18, ov (CLO 41 [PTR gb_13 0]))], [cvar gb_13 (rW (HDR go_14 0 (List.length v_12) gc_15)) (), cown go_14 r_api_Flight v_12 0 gc_15, cvar gb_4 (rP (rW (MPV go_6)) (rP (rI .i64) (rP (rI .i64) r0))) ((), (ends_2, (lost_3, ()))), cmap go_6 (A r_net_pair) (S (rL (rL (rU UInt8)))) (some x_5), cvar gb_7 (rI .i64) place_1, cvar gb_8 (rP (rI .i64) (rP (rI .i64) (rP (rW (HDR none 0 0 0)) r0))) ((0 : Int), ((0 : Int), ((), ()))), cvar gb_9 (rI .i64) (6 : Int)], []⟩ (.cons rfl (.cons rfl (.cons rfl (.cons rfl .nil)))) rfl rfl ?_
     refine JL.nil ?_
     refine JQ.then ?_
     refine JC.block ?_
     replace hx2 := bnd_inv hx2
     obtain ⟨tv3, hL3, hq3⟩ := hx2
     refine JC.pre (st' := ⟨[(3, ov (PTR gb_7 0)), (4, ov (PTR gb_8 0)), (5, ov (PTR gb_9 0)), (18, ov (CLO 41 [PTR gb_13 0]))], [cvar gb_13 (rW (HDR go_14 0 (List.length v_12) gc_15)) (), cown go_14 r_api_Flight v_12 0 gc_15, cvar gb_7 (rI .i64) place_1, cvar gb_8 (rP (rI .i64) (rP (rI .i64) (rP (rW (HDR none 0 0 0)) r0))) ((0 : Int), ((0 : Int), ((), ()))), cvar gb_9 (rI .i64) (6 : Int), cvar gb_4 (rP (rW (MPV go_6)) (rP (rI .i64) (rP (rI .i64) r0))) ((), (ends_2, (lost_3, ()))), cmap go_6 (A r_net_pair) (S (rL (rL (rU UInt8)))) (some x_5)], []⟩) (Imp.norm (js := [0, 0, 2, 2, 2, 0, 0]) rfl (.cons rfl (.cons rfl (.cons rfl (.cons rfl .nil))))) ?_
     replace hx2 := hq3
     refine JC.rangeFunc (γ := Unit) (γ' := (Unit)) (r := tv3) (js := [0, 0]) (qf := fun g => g) (X' := fun g => [cvar gb_13 (rW (HDR go_14 0 (List.length v_12) gc_15)) (), cown go_14 r_api_Flight v_12 0 gc_15]) (sv := fun _ => .tup [])
         (fun (u : Int × api_Flight) (z : Unit) => [S (rI .i64) u.1, A r_api_Flight u.2]) (fun (u : Int × api_Flight) (z : Unit) => []) (fun (s : Unit) (u : Int × api_Flight) => net_Net_At.y1 k place_1 u.1 u.2) (fun (s : Unit) q => [cvar gb_7 (rI .i64) place_1, cvar gb_8 (rP (rI .i64) (rP (rI .i64) (rP (rW (HDR none 0 0 0)) r0))) ((0 : Int), ((0 : Int), ((), ()))), cvar gb_9 (rI .i64) (6 : Int), cvar gb_4 (rP (rW (MPV go_6)) (rP (rI .i64) (rP (rI .i64) r0))) ((), (ends_2, (lost_3, ()))), cmap go_6 (A r_net_pair) (S (rL (rL (rU UInt8)))) (some x_5)]) (fun (t : (api_Flight)) q => [cvar gb_8 r_api_Flight t, cvar gb_9 (rI .i64) (0 : Int), cvar gb_4 (rP (rW (MPV go_6)) (rP (rI .i64) (rP (rI .i64) r0))) ((), (ends_2, (lost_3, ()))), cmap go_6 (A r_net_pair) (S (rL (rL (rU UInt8)))) (some x_5), cvar gb_7 (rI .i64) place_1]) (fun (t : (api_Flight)) => .exit 1) [(3, ov (PTR gb_7 0)), (4, ov (PTR gb_8 0)), (5, ov (PTR gb_9 0))] () () rfl (.tmp rfl) cl41 rfl (.cons rfl (.cons rfl (.cons rfl .nil))) (fun _ _ => rfl) (by decide) rfl ?_ (fun L C hY => sim_net_Net_All_1 k (fun (s : Unit) (u : Int × api_Flight) => net_Net_At.y1 k place_1 u.1 u.2) (Sum.inl ()) v_12 () gb_13 go_14 gc_15 L C hY tv3 hL3) ?_ ?_
     · intro e1 w1 F1 L K lp s q u z y hx hlp
       obtain ⟨a_16, a_17⟩ := u
       change net_Net_At.y1 k place_1 a_16 a_17 = some y at hx
       unfold net_Net_At.y1 at hx
       refine JC.at ⟨[(19, ov (S (rI .i64) a_16)), (20, ov (A r_api_Flight a_17)), (3, ov (PTR gb_7 0)), (4, ov (PTR gb_8 0)), (5, ov (PTR gb_9 0))], [cLK L K (.loop lp), cvar gb_7 (rI .i64) place_1, cvar gb_8 (rP (rI .i64) (rP (rI .i64) (rP (rW (HDR none 0 0 0)) r0))) ((0 : Int), ((0 : Int), ((), ()))), cvar gb_9 (rI .i64) (6 : Int), cvar gb_4 (rP (rW (MPV go_6)) (rP (rI .i64) (rP (rI .i64) r0))) ((), (ends_2, (lost_3, ()))), cmap go_6 (A r_net_pair) (S (rL (rL (rU UInt8)))) (some x_5)], []⟩ ?_
       refine JC.seq ?_
       refine JC.region ?_
       refine jc (op_assign lb (.tmp rfl)) ?_
       refine JL.nil ?_
       refine JQ.then ?_
       refine JC.region ?_
       refine jx (op_alloc lb tZ36 zr36) (fun q => ?_)
       obtain ⟨gb_18, hqq⟩ : ∃ z, z = q := ⟨_, rfl⟩
       subst hqq
       refine jc (op_storeA (j := 6) tA36 (.tmp rfl) (.tmp rfl) rfl (UpdR.self (by rfl)) rfl) ?_
       refine JL.nil ?_
       refine JQ.begin (j := 0) hlp rfl ?_
       refine JC.block ?_
       refine JC.seq ?_
       refine JC.region ?_
       refine jc (op_move lb (.tmp rfl)) ?_
       refine jc (op_loadS (j := 1) lb tS3 (.tmp rfl) rfl (Comp.self (rI .i64) place_1) rfl rfl) ?_
       replace hx := lt1_inv hx
       obtain ⟨v_19, hv_v_19, hx⟩ := hx
       refine jc (op_cmpI lb (.tmp rfl) (.tmp rfl) (congrArg some hv_v_19)) ?_
       refine JL.nil ?_
       refine JQ.then ?_
       replace hx := iteB_inv hx
       rcases hx with ⟨hc4, hx⟩ | ⟨hc4, hx⟩
       · refine JC.condT (.tmp rfl) hc4 ?_
         refine JC.seq ?_
         refine JC.region ?_
         refine jc (op_loadA (j := 6) lb tA36 (.tmp rfl) rfl (Comp.self r_api_Flight a_17) rfl) ?_
         refine jc (op_storeA (j := 2) tA36 (.tmp rfl) (.tmp rfl) rfl (UpdR.self (by rfl)) rfl) ?_
         refine JL.nrm ⟨[(4, ov (PTR gb_8 0)), (5, ov (PTR gb_9 0))], [cLK L K (.loop { lp with state := .busy }), cvar gb_7 (rI .i64) place_1, cvar gb_8 r_api_Flight a_17, cvar gb_9 (rI .i64) (6 : Int), cvar gb_4 (rP (rW (MPV go_6)) (rP (rI .i64) (rP (rI .i64) r0))) ((), (ends_2, (lost_3, ()))), cmap go_6 (A r_net_pair) (S (rL (rL (rU UInt8)))) (some x_5)], []⟩ [0, 0, 0, 0, 0, 0] rfl (.cons rfl (.cons rfl .nil)) rfl ?_
         refine jc (op_storeS (j := 3) tS26 (.tmp rfl) .cI rfl rfl (UpdR.self (by rfl)) rfl) ?_
         refine JL.nil ?_
         refine JQ.then ?_
         refine JC.exit ?_
         refine JQ.outE (by decide) ?_
         exact JQ.rexit () (Option.some.inj hx).symm rfl (Imp.norm (js := [0, 1, 1, 1, 1, 0]) rfl .nil)
       · refine JC.condF (.tmp rfl) hc4 ?_
         refine JC.skip ?_
         refine JQ.outNB ?_
         exact JQ.rnext () (Option.some.inj hx).symm (Imp.norm (js := [0, 0, 0, 0, 0, 0]) rfl .nil)
     · intro s gK_20 gq0 hr
       obtain ⟨gq3, hgq⟩ : ∃ z, z = gq0 := ⟨_, rfl⟩
       subst hr
       dsimp only at hx2
       simp only [← hgq]
       refine JQ.pre (st' := ⟨[(3, ov (PTR gb_7 0)), (4, ov (PTR gb_8 0)), (5, ov (PTR gb_9 0))], [cdef gK_20, cvar gb_7 (rI .i64) place_1, cvar gb_8 (rP (rI .i64) (rP (rI .i64) (rP (rW (HDR none 0 0 0)) r0))) ((0 : Int), ((0 : Int), ((), ()))), cvar gb_9 (rI .i64) (6 : Int), cvar gb_4 (rP (rW (MPV go_6)) (rP (rI .i64) (rP (rI .i64) r0))) ((), (ends_2, (lost_3, ()))), cmap go_6 (A r_net_pair) (S (rL (rL (rU UInt8)))) (some x_5)], [gK_20]⟩) (Imp.norm (js := [0, 0, 0, 0, 0, 0]) rfl (.cons rfl (.cons rfl (.cons rfl .nil)))) ?_
       refine JQ.outNB ?_
       replace hx2 := Option.some.inj hx2
       replace hx2 := Prod.mk.inj hx2
       obtain ⟨hx2_a, hx2⟩ := hx2
       first | subst hx2_a | clear hx2_a
       first | subst hx2 | clear hx2
       refine JQ.pre (Imp.var (j := 2) (q := r_api_Flight) (y := (api_Flight.mk (0 : Int) (0 : Int) ([] : (List UInt8)))) rfl (Wk.st (Wk.pair Wk.refl (Wk.pair Wk.refl (Wk.pair Wk.nil Wk.refl))))) ?_
       exact JQ.join gK_20 (Imp.norm (js := [2, 2, 2, 2, 0]) rfl (.cons rfl (.cons rfl .nil)))
     · intro u gK_20 gq0 hr
       obtain ⟨gq3, hgq⟩ : ∃ z, z = gq0 := ⟨_, rfl⟩
       obtain ⟨f_21, hvv⟩ : ∃ z, z = u := ⟨_, rfl⟩
       subst hvv
       subst hr
       dsimp only at hx2
       simp only [← hgq]
       refine JC.pre (st' := ⟨[(4, ov (PTR gb_8 0)), (5, ov (PTR gb_9 0))], [cdef gK_20, cvar gb_8 r_api_Flight f_21, cvar gb_9 (rI .i64) (0 : Int), cvar gb_4 (rP (rW (MPV go_6)) (rP (rI .i64) (rP (rI .i64) r0))) ((), (ends_2, (lost_3, ()))), cmap go_6 (A r_net_pair) (S (rL (rL (rU UInt8)))) (some x_5), cvar gb_7 (rI .i64) place_1], [gK_20]⟩) (Imp.norm (js := [0, 0, 0, 0, 0, 0]) rfl (.cons rfl (.cons rfl .nil))) ?_
       refine JC.exit (id := 1) ?_
       refine JQ.here ?_
       replace hx2 := Option.some.inj hx2
       replace hx2 := Prod.mk.inj hx2
       obtain ⟨hx2_a, hx2⟩ := hx2
       first | subst hx2_a | clear hx2_a
       first | subst hx2 | clear hx2
       exact JQ.join gK_20 (Imp.norm (js := [1, 1, 1, 1, 0]) rfl (.cons rfl (.cons rfl .nil)))

theorem sim_slices_Clonebyte_byte'2 (k : Nat) (s_1 : (List (List UInt8))) (r : (List (List UInt8))) (hm : slices_Clonebyte_byte'2 k s_1 = some r) : Sim Try.prog 33 [S (rL (rL (rU UInt8))) s_1] [] (γ := Option Nat × Nat) (fun q => [cown q.1 (rL (rU UInt8)) r 0 q.2]) (fun q => .one (.val (HDR q.1 0 (List.length r) q.2))) := by
 unfold slices_Clonebyte_byte'2 at hm
 refine Sim.of Try.func33 rfl rfl (Nat.le_of_ble_eq_true rfl) (fun e0 w0 => ?_)
 refine JC.at ⟨[(0, ov (S (rL (rL (rU UInt8))) s_1))], [], []⟩ ?_
 refine JC.seq ?_
 refine JC.region ?_
 refine jc (op_assign lb HasO.nilH) ?_
 refine JL.nil ?_
 refine JQ.then ?_
 refine JC.seq ?_
 refine JC.seq ?_
 refine JC.region ?_
 refine jc (op_move lb (.tmp rfl)) ?_
 refine JL.consX rfl (op_isNil (neg := false) (ltB rfl) tu58 (.tmp rfl) HasO.nilH) (fun q => ?_)
 obtain ⟨hb1, hb1_⟩ := q
 cases hb1
 · refine JL.nil ?_
   refine JQ.then ?_
   refine JC.condF (.tmp rfl) rfl ?_
   refine JC.skip ?_
   refine JQ.then ?_
   refine JC.seq ?_
   refine JC.region ?_
   refine jx (op_buildO (r := (rL (rU UInt8))) lb tu58 tz31 tZ31 rfl (Nat.le_of_ble_eq_true rfl) .nil rfl) (fun q => ?_)
   obtain ⟨gb_2, hqq⟩ : ∃ z, z = q := ⟨_, rfl⟩
   subst hqq
   refine jc (op_move lb (.tmp rfl)) ?_
   replace hm := bnd_inv hm
   obtain ⟨x_3, hv_x_3, hm⟩ := hm
   refine jx (op_appendL (j := 0) lb tu58 tu58 rfl tB31 rfl (Nat.lt_of_lt_of_le Nat.zero_lt_one (Nat.le_of_ble_eq_true rfl)) (Nat.lt_of_lt_of_le Nat.zero_lt_one (Nat.le_of_ble_eq_true rfl))  rfl (.tmp rfl) (.tmp rfl) hv_x_3) (fun q => ?_)
   obtain ⟨go_4, gc_5⟩ := q
   refine jc (op_assign lb (.tmp rfl)) ?_
   refine JL.nil ?_
   refine JQ.then ?_
   refine JC.ret ?_
   replace hm := Option.some.inj hm
   subst hm
   exact JQ.done (js := [0]) (ss := [.val (HDR go_4 0 (List.length x_3) gc_5)]) (go_4, gc_5) (.inl rfl) (.nil rfl) rfl (.cons (.tmp rfl) .nil) rfl rfl rfl
 · replace hm := nilK hm (show _ = (
         some ([] : (List (List UInt8)))
         ) by simp [hb1_ rfl, subL, apL])
   refine JL.nil ?_
   refine JQ.then ?_
   refine JC.condT (.tmp rfl) rfl ?_
   refine JC.seq ?_
   refine JC.region ?_
   refine jc (op_assign lb HasO.nilH) ?_
   refine JL.nil ?_
   refine JQ.then ?_
   refine JC.ret ?_
   refine JQ.outR ?_
   replace hm := Option.some.inj hm
   subst hm
   refine JQ.pre (Imp.nilown (rL (rU UInt8))) ?_
   exact JQ.done (js := [0]) (ss := [.val (HDR none 0 (List.length ([] : (List (List UInt8)))) (0))]) (none, 0) (.inl rfl) (.nil rfl) rfl (.cons (.tmp rfl) .nil) rfl rfl rfl

theorem sim_slices_Deletebyte_byte'2 (k : Nat) (i_1 : Int) (j_2 : Int) (s_3 : (List (List UInt8))) (go_4 : Option Nat) (gc_5 : Nat) (r : (List (List UInt8))) (hm : slices_Deletebyte_byte'2 k i_1 j_2 s_3 = some r) : Sim Try.prog 32 [HDR go_4 0 (List.length s_3) gc_5, S (rI .i64) i_1, S (rI .i64) j_2] [cown go_4 (rL (rU UInt8)) s_3 0 gc_5] (γ := Unit) (fun q => [cown go_4 (rL (rU UInt8)) r 0 gc_5]) (fun q => .one (.val (HDE go_4 (List.length r) gc_5))) := by
 unfold slices_Deletebyte_byte'2 at hm
 refine Sim.of Try.func32 rfl rfl (Nat.le_of_ble_eq_true rfl) (fun e0 w0 => ?_)
 refine JC.at ⟨[(0, ov (HDR go_4 0 (List.length s_3) gc_5)), (1, ov (S (rI .i64) i_1)), (2, ov (S (rI .i64) j_2))], [cown go_4 (rL (rU UInt8)) s_3 0 gc_5], []⟩ ?_
 refine JC.seq ?_
 refine JC.region ?_
 refine jc (op_assign lb HasO.nilH) ?_
 refine JL.nil ?_
 refine JQ.then ?_
 refine JC.seq ?_
 refine JC.region ?_
 refine jc (op_move lb (.tmp rfl)) ?_
 refine jc (op_move lb (.tmp rfl)) ?_
 refine jc (op_move lb (.tmp rfl)) ?_
 refine jc (op_move lb (.tmp rfl)) ?_
 refine jc (op_lenH lb tu58 (.tmp rfl)) ?_
 replace hm := bnd_inv hm
 obtain ⟨⟨o_6, n_7⟩, hv_o_6, hm⟩ := hm
 refine JL.pre (Imp.slot (s := 0) (q := HDE go_4 (List.length s_3) gc_5) rfl wkTE) ?_
 refine JL.pre (Imp.slot (s := 8) (q := HDE go_4 (List.length s_3) gc_5) rfl wkTE) ?_
 refine JL.pre (Imp.slot (s := 11) (q := HDE go_4 (List.length s_3) gc_5) rfl wkTE) ?_
 refine jc (op_sliceE3 (r := (rL (rU UInt8))) (j := 0) lb tu58 tz31 rfl (.tmp rfl) (.some (.tmp rfl)) (.some (.tmp rfl)) (.some (.tmp rfl)) hv_o_6) ?_
 refine JL.capF (j := 0) rfl (fun hcap1 => ?_)
 refine JL.nil ?_
 refine JQ.then ?_
 refine JC.seq ?_
 refine JC.seq ?_
 refine JC.region ?_
 refine jc (op_move lb (.tmp rfl)) ?_
 refine jc (op_move lb (.tmp rfl)) ?_
 replace hm := lt1_inv hm
 obtain ⟨v_8, hv_v_8, hm⟩ := hm
 refine jc (op_cmpI lb (.tmp rfl) (.tmp rfl) (congrArg some hv_v_8)) ?_
 refine JL.sub ⟨[(0, ov (HDE go_4 (List.length s_3) gc_5)), (1, ov (S (rI .i64) i_1)), (2, ov (S (rI .i64) j_2)), (16, ov (S rB v_8))], [cown go_4 (rL (rU UInt8)) s_3 0 gc_5], []⟩ (.cons rfl (.cons rfl (.cons rfl (.cons rfl .nil)))) rfl rfl ?_
 refine JL.nil ?_
 refine JQ.then ?_
 replace hm := iteB_inv hm
 rcases hm with ⟨hc2, hm⟩ | ⟨hc2, hm⟩
 · refine JC.condT (.tmp rfl) hc2 ?_
   refine JC.seq ?_
   refine JC.region ?_
   refine jc (op_move lb (.tmp rfl)) ?_
   refine jc (op_assign lb (.tmp rfl)) ?_
   refine JL.nil ?_
   refine JQ.then ?_
   refine JC.ret ?_
   refine JQ.outR ?_
   replace hm := Option.some.inj hm
   subst hm
   exact JQ.done (js := [0]) (ss := [.val (HDE go_4 (List.length s_3) gc_5)]) () (.inl rfl) (.nil rfl) rfl (.cons (.tmp rfl) .nil) rfl rfl rfl
 · refine JC.condF (.tmp rfl) hc2 ?_
   refine JC.skip ?_
   refine JQ.then ?_
   refine JC.seq ?_
   refine JC.region ?_
   refine jc (op_move lb (.tmp rfl)) ?_
   refine jc (op_lenE lb tu58 (.tmp rfl)) ?_
   refine jc (op_assign lb (.tmp rfl)) ?_
   refine JL.nil ?_
   refine JQ.then ?_
   refine JC.seq ?_
   replace hm := bnd_inv hm
   obtain ⟨⟨o_9, n_10⟩, hv_o_9, hm⟩ := hm
   replace hm := bnd_inv hm
   obtain ⟨⟨o_11, n_12⟩, hv_o_11, hm⟩ := hm
   replace hm := bnd_inv hm
   obtain ⟨s_13, hv_s_13, hm⟩ := hm
   refine JC.anyE (kl := [0]) (kk := 7) (base := [(0, ov (HDE go_4 (List.length s_3) gc_5)), (1, ov (S (rI .i64) i_1)), (2, ov (S (rI .i64) j_2)), (7, ov (S (rI .i64) (List.length s_3 : Int)))])
       (fs := fun γ => [⟨some 20, ov (HDE go_4 (List.length s_3) gc_5)⟩, ⟨some 21, ov (S (rI .i64) i_1)⟩, ⟨some 22, ov (HDE go_4 n_10 gc_5)⟩, ⟨some 23, ov (HDE go_4 (List.length s_3) gc_5)⟩, ⟨some 24, ov (S (rI .i64) j_2)⟩, ⟨some 25, ov (HDX go_4 (o_11 * 1) n_12)⟩, ⟨some 26, ov (HDE go_4 (List.length s_13) gc_5)⟩, ⟨some 0, ov (HDE go_4 (List.length s_13) gc_5)⟩])
       (rs := fun γ => [⟨cown go_4 (rL (rU UInt8)) s_3 0 gc_5, none, (some 6), [2, 5]⟩, ⟨cown go_4 (rL (rU UInt8)) s_13 0 gc_5, (some 6), none, []⟩])
       (ds := [20, 21, 22, 23, 24, 25, 26, 0]) (bs := [0, 1, 2, 7]) (afts := [[], [], [], [], [], [], [], []]) (js := [0]) mixed (.cons rfl (.cons rfl (.cons rfl (.cons rfl .nil)))) (fun _ => rfl)
       (by
      refine dS 1 (fun γ ρ B hb hd => op_move lb (.tmp (hb 0 _ rfl))) ?_
      refine dS 2 (fun γ ρ B hb hd => op_move lb (.tmp (hb 1 _ rfl))) ?_
      refine DSteps.cons (j := 3) rfl (fun _ => rfl) (.run (fun γ ρ B hb hd => ⟨.none, OpStep.at ⟨ρ, (cown go_4 (rL (rU UInt8)) s_3 0 gc_5) :: B, _⟩ (setO ⟨ρ, (cown go_4 (rL (rU UInt8)) s_3 0 gc_5) :: B, _⟩ _ _) (op_slicePE (r := (rL (rU UInt8))) (j := 0) lb tu58 tz31 rfl (.tmp (hl hd 0 20 rfl)) (.some (.tmp (hl hd 1 21 rfl))) hv_o_9)⟩)) ?_
      refine dS 4 (fun γ ρ B hb hd => op_move lb (.tmp (hb 0 _ rfl))) ?_
      refine dS 5 (fun γ ρ B hb hd => op_move lb (.tmp (hb 2 _ rfl))) ?_
      refine DSteps.cons (j := 6) rfl (fun _ => rfl) (.run (fun γ ρ B hb hd => ⟨.none, OpStep.at ⟨ρ, (cown go_4 (rL (rU UInt8)) s_3 0 gc_5) :: B, _⟩ (setO ⟨ρ, (cown go_4 (rL (rU UInt8)) s_3 0 gc_5) :: B, _⟩ _ _) (op_sliceE (r := (rL (rU UInt8))) (j := 0) lb tu58 tz31 rfl (.tmp (hl hd 3 23 rfl)) (.some (.tmp (hl hd 4 24 rfl))) .none hv_o_11)⟩)) ?_
      refine DSteps.cons (j := 7) rfl (fun _ => rfl) (.run (fun γ ρ B hb hd => ⟨.none, OpStep.at ⟨ρ, (cown go_4 (rL (rU UInt8)) s_3 0 gc_5) :: B, _⟩ (setO ⟨ρ, (cown go_4 (rL (rU UInt8)) s_13 0 gc_5) :: B, _⟩ _ _) (op_appendPE (r := (rL (rU UInt8))) (o := o_11) (j := 0) lb tu58 tu58 rfl tB31 rfl (.tmp (hl hd 2 22 rfl)) (.tmp (hl hd 5 25 rfl)) hv_s_13)⟩)) ?_
      refine dS 8 (fun γ ρ B hb hd => op_assign lb (.tmp (hl hd 6 26 rfl))) ?_
      exact DSteps.nil)
       (by decide +kernel) (fun _ => rfl) rfl (fun _ => rfl) (fun _ => rfl) rfl (by decide) (by decide) (by decide +kernel) (fun _ d h => by simp at h; subst h; exact ⟨_, rfl, rfl⟩)
       (ρ' := fun γ => [(0, ov (HDE go_4 (List.length s_13) gc_5)), (7, ov (S (rI .i64) (List.length s_3 : Int)))])
       (X' := fun γ => [cown go_4 (rL (rU UInt8)) s_13 0 gc_5])
       (fun γ ρ hb hd => (.cons (hdq hd 7 0 rfl) (.cons (hb 7 _ rfl (by decide)) .nil))) (fun _ => rfl) (fun γ => ?_)
   refine JQ.at ⟨[(0, ov (HDE go_4 (List.length s_13) gc_5)), (7, ov (S (rI .i64) (List.length s_3 : Int)))], [cown go_4 (rL (rU UInt8)) s_13 0 gc_5], []⟩ ?_
   refine JQ.then ?_
   refine JC.seq ?_
   refine JC.region ?_
   refine jc (op_move lb (.tmp rfl)) ?_
   refine jc (op_move lb (.tmp rfl)) ?_
   refine jc (op_lenE lb tu58 (.tmp rfl)) ?_
   refine jc (op_move lb (.tmp rfl)) ?_
   replace hm := bnd_inv hm
   obtain ⟨⟨o_14, n_15⟩, hv_o_14, hm⟩ := hm
   refine jc (op_sliceTE (r := (rL (rU UInt8))) (j := 0) lb tu58 tz31 rfl (.tmp rfl) hcap1 (.some (.tmp rfl)) (.some (.tmp rfl)) hv_o_14) ?_
   refine jc (op_clearT (r := (rL (rU UInt8))) (o := o_14) (j := 0) tu58 tZ31 zv31 rfl (.tmp rfl) hcap1 hv_o_14 rfl) ?_
   refine JL.nil ?_
   refine JQ.then ?_
   refine JC.seq ?_
   refine JC.region ?_
   refine jc (op_move lb (.tmp rfl)) ?_
   refine jc (op_assign lb (.tmp rfl)) ?_
   refine JL.nil ?_
   refine JQ.then ?_
   refine JC.ret ?_
   replace hm := Option.some.inj hm
   subst hm
   exact JQ.done (js := [0]) (ss := [.val (HDE go_4 (List.length s_13) gc_5)]) () (.inl rfl) (.nil rfl) rfl (.cons (.tmp rfl) .nil) rfl rfl rfl

end Go.Proofs.Ytnadeehdnmgebaa
