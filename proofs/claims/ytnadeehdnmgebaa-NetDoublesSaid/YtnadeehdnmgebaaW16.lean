/- Walks. -/
import Derived.Test.YtnadeehdnmgebaaT
import Derived.Test.YtnadeehdnmgebaaW0
namespace Go.Proofs.Ytnadeehdnmgebaa
open Go Fw
set_option linter.unusedVariables false
set_option maxRecDepth 100000
set_option maxHeartbeats 4000000

theorem sim_ref12_Same'2 (k : Nat) (From_1 : Int) (To_2 : Int) (o_3 : Nat) (n_4 : Nat) (b_5 : api_Flight) (x_6 : (List UInt8)) (go_7 : Option Nat) (gc_8 : Nat) (r : Bool) (hm : ref12_Same'2 k From_1 To_2 o_3 n_4 b_5 x_6 = some r) : Sim Try.prog 17 [A (rP (rI .i64) (rP (rI .i64) (rP (rW (HDX go_7 (o_3 * 1) n_4)) r0))) (From_1, (To_2, ((), ()))), A r_api_Flight b_5] [cown go_7 (rU UInt8) x_6 0 gc_8] (γ := Unit) (fun q => [cown go_7 (rU UInt8) x_6 0 gc_8]) (fun q => .one (.val (S rB r))) := by
 unfold ref12_Same'2 at hm
 refine Sim.of Try.func17 rfl rfl (Nat.le_of_ble_eq_true rfl) (fun e0 w0 => ?_)
 refine JC.at ⟨[(0, ov (A (rP (rI .i64) (rP (rI .i64) (rP (rW (HDX go_7 (o_3 * 1) n_4)) r0))) (From_1, (To_2, ((), ()))))), (1, ov (A r_api_Flight b_5))], [cown go_7 (rU UInt8) x_6 0 gc_8], []⟩ ?_
 refine JC.seq ?_
 refine JC.region ?_
 refine jx (op_boxA lb (.tmp rfl)) (fun q => ?_)
 obtain ⟨gb_9, hqq⟩ : ∃ z, z = q := ⟨_, rfl⟩
 subst hqq
 refine jx (op_boxA lb (.tmp rfl)) (fun q => ?_)
 obtain ⟨gb_10, hqq⟩ : ∃ z, z = q := ⟨_, rfl⟩
 subst hqq
 refine jc (op_assign lb .cB) ?_
 refine JL.nil ?_
 refine JQ.then ?_
 replace hm := bnd_inv hm
 obtain ⟨x_15, hx1, hq1⟩ := hm
 refine JC.seqJ (γ := Unit) (stj := fun q => ⟨[(4, ov (S rB x_15))], [cown go_7 (rU UInt8) x_6 0 gc_8], []⟩) (fun q => ?_) ?_
 · obtain _ := q
   refine JC.at ⟨[(4, ov (S rB x_15))], [cown go_7 (rU UInt8) x_6 0 gc_8], []⟩ ?_
   refine JC.ret ?_
   replace hq1 := Option.some.inj hq1
   subst hq1
   exact JQ.done (js := [0]) (ss := [.val (S rB x_15)]) () (.inl rfl) (.nil rfl) rfl (.cons (.tmp rfl) .nil) rfl rfl rfl
 · refine JC.region ?_
   refine jc (op_fieldAddr (off := 0) lb tf36_0 (.tmp rfl)) ?_
   refine jc (op_loadS (j := 1) lb tS3 (.tmp rfl) rfl (Comp.trans (Comp.self (rP (rI .i64) (rP (rI .i64) (rP (rW (HDX go_7 (o_3 * 1) n_4)) r0))) (From_1, (To_2, ((), ())))) (Comp.at' (Comp.inF (Comp.self (rI .i64) From_1) (Nat.le_of_ble_eq_true rfl)) (by rfl : _ = 0)) (Nat.le_of_ble_eq_true rfl)) rfl rfl) ?_
   refine jc (op_fieldAddr (off := 0) lb tf36_0 (.tmp rfl)) ?_
   refine jc (op_loadS (j := 2) lb tS3 (.tmp rfl) rfl (Comp.trans (Comp.self r_api_Flight b_5) (comp_api_Flight_From b_5) (Nat.le_of_ble_eq_true rfl)) rfl rfl) ?_
   replace hx1 := lt1_inv hx1
   obtain ⟨v_11, hv_v_11, hx1⟩ := hx1
   refine jc (op_cmpI lb (.tmp rfl) (.tmp rfl) (congrArg some hv_v_11)) ?_
   refine JL.sub ⟨[(2, ov (PTR gb_9 0)), (3, ov (PTR gb_10 0)), (4, ov (S rB false)), (9, ov (S rB v_11))], [cown go_7 (rU UInt8) x_6 0 gc_8, cvar gb_9 (rP (rI .i64) (rP (rI .i64) (rP (rW (HDX go_7 (o_3 * 1) n_4)) r0))) (From_1, (To_2, ((), ()))), cvar gb_10 r_api_Flight b_5], []⟩ (.cons rfl (.cons rfl (.cons rfl (.cons rfl .nil)))) rfl rfl ?_
   refine jc (op_move lb (.tmp rfl)) ?_
   replace hx1 := iteB_inv hx1
   rcases hx1 with ⟨hc3, hx1⟩ | ⟨hc3, hx1⟩
   · refine JL.run (.yes rfl (ltB rfl) rfl hc3) (op_fieldAddr (off := 1) lb tf36_1 (.tmp rfl)) ?_
     refine JL.run (.yes rfl (ltB rfl) rfl hc3) (op_loadS (j := 1) lb tS3 (.tmp rfl) rfl (Comp.trans (Comp.self (rP (rI .i64) (rP (rI .i64) (rP (rW (HDX go_7 (o_3 * 1) n_4)) r0))) (From_1, (To_2, ((), ())))) (Comp.at' (Comp.inS (Comp.inF (Comp.self (rI .i64) To_2) (Nat.le_of_ble_eq_true rfl))) (by rfl : _ = 1)) (Nat.le_of_ble_eq_true rfl)) rfl rfl) ?_
     refine JL.run (.yes rfl (ltB rfl) rfl hc3) (op_fieldAddr (off := 1) lb tf36_1 (.tmp rfl)) ?_
     refine JL.run (.yes rfl (ltB rfl) rfl hc3) (op_loadS (j := 2) lb tS3 (.tmp rfl) rfl (Comp.trans (Comp.self r_api_Flight b_5) (comp_api_Flight_To b_5) (Nat.le_of_ble_eq_true rfl)) rfl rfl) ?_
     replace hx1 := lt1_inv hx1
     obtain ⟨v_12, hv_v_12, hx1⟩ := hx1
     refine JL.run (.yes rfl (ltB rfl) rfl hc3) (op_cmpI lb (.tmp rfl) (.tmp rfl) (congrArg some hv_v_12)) ?_
     refine jc (op_pickT lb (.tmp rfl) hc3 (.tmp rfl)) ?_
     refine jc (op_move lb (.tmp rfl)) ?_
     replace hx1 := iteB_inv hx1
     rcases hx1 with ⟨hc5, hx1⟩ | ⟨hc5, hx1⟩
     · refine JL.run (.yes rfl (ltB rfl) rfl hc5) (op_fieldAddr (off := 2) lb tf36_2 (.tmp rfl)) ?_
       refine JL.run (.yes rfl (ltB rfl) rfl hc5) (op_loadW (j := 1) lb tS31 (.tmp rfl) rfl (Comp.trans (Comp.self (rP (rI .i64) (rP (rI .i64) (rP (rW (HDX go_7 (o_3 * 1) n_4)) r0))) (From_1, (To_2, ((), ())))) (Comp.at' (Comp.inS (Comp.inS (Comp.inF (Comp.self (rW (HDX go_7 (o_3 * 1) n_4)) ()) (Nat.le_of_ble_eq_true rfl)))) (by rfl : _ = 2)) (Nat.le_of_ble_eq_true rfl))) ?_
       replace hx1 := bnd_inv hx1
       obtain ⟨v_13, hv_v_13, hx1⟩ := hx1
       refine JL.run (.yes rfl (ltB rfl) rfl hc5) (op_convXS (j := 0) (o := o_3) lb tu31 tu5 tu9 rfl (.tmp rfl) hv_v_13) ?_
       refine JL.run (.yes rfl (ltB rfl) rfl hc5) (op_fieldAddr (off := 2) lb tf36_2 (.tmp rfl)) ?_
       refine JL.nrm ⟨[(4, ov (S rB false)), (17, ov (S rB v_12)), (20, ov (S rS v_13)), (21, ov (PTR gb_10 (0 + 2)))], [cown go_7 (rU UInt8) x_6 0 gc_8, cvar gb_10 r_api_Flight b_5], []⟩ [0, 1] rfl (.cons rfl (.cons rfl (.cons rfl (.cons rfl .nil)))) rfl ?_
       refine JL.run (.yes rfl (ltB rfl) rfl hc5) (op_loadS (j := 1) lb tS31 (.tmp rfl) rfl (Comp.trans (Comp.self r_api_Flight b_5) (comp_api_Flight_Bytes b_5) (Nat.le_of_ble_eq_true rfl)) rfl rfl) ?_
       refine JL.run (.yes rfl (ltB rfl) rfl hc5) (op_convBS lb tu31 tu5 tu9 (.tmp rfl)) ?_
       replace hx1 := lt1_inv hx1
       obtain ⟨v_14, hv_v_14, hx1⟩ := hx1
       refine JL.run (.yes rfl (ltB rfl) rfl hc5) (op_cmpS lb (.tmp rfl) (.tmp rfl) (congrArg some hv_v_14)) ?_
       refine jc (op_pickT lb (.tmp rfl) hc5 (.tmp rfl)) ?_
       refine jc (op_assign lb (.tmp rfl)) ?_
       refine JL.nil ?_
       replace hx1 := Option.some.inj hx1
       first | subst hx1 | clear hx1
       exact JQ.join () (Imp.norm (js := [0]) rfl (.cons rfl .nil))
     · refine JL.skip (.no rfl (ltB rfl) rfl hc5) (fun d h => by cases h; exact ltB rfl) ?_
       refine JL.skip (.no rfl (ltB rfl) rfl hc5) (fun d h => by cases h; exact ltB rfl) ?_
       refine JL.skip (.no rfl (ltB rfl) rfl hc5) (fun d h => by cases h; exact ltB rfl) ?_
       refine JL.skip (.no rfl (ltB rfl) rfl hc5) (fun d h => by cases h; exact ltB rfl) ?_
       refine JL.skip (.no rfl (ltB rfl) rfl hc5) (fun d h => by cases h; exact ltB rfl) ?_
       refine JL.skip (.no rfl (ltB rfl) rfl hc5) (fun d h => by cases h; exact ltB rfl) ?_
       refine JL.skip (.no rfl (ltB rfl) rfl hc5) (fun d h => by cases h; exact ltB rfl) ?_
       refine jc (op_pickF lb (.tmp rfl) hc5 .cB) ?_
       refine jc (op_assign lb (.tmp rfl)) ?_
       refine JL.nil ?_
       replace hx1 := Option.some.inj hx1
       first | subst hx1 | clear hx1
       exact JQ.join () (Imp.norm (js := [0]) rfl (.cons rfl .nil))
   · refine JL.skip (.no rfl (ltB rfl) rfl hc3) (fun d h => by cases h; exact ltB rfl) ?_
     refine JL.skip (.no rfl (ltB rfl) rfl hc3) (fun d h => by cases h; exact ltB rfl) ?_
     refine JL.skip (.no rfl (ltB rfl) rfl hc3) (fun d h => by cases h; exact ltB rfl) ?_
     refine JL.skip (.no rfl (ltB rfl) rfl hc3) (fun d h => by cases h; exact ltB rfl) ?_
     refine JL.skip (.no rfl (ltB rfl) rfl hc3) (fun d h => by cases h; exact ltB rfl) ?_
     refine jc (op_pickF lb (.tmp rfl) hc3 .cB) ?_
     refine jc (op_move lb (.tmp rfl)) ?_
     refine JL.skip (.no rfl (ltB rfl) rfl rfl) (fun d h => by cases h; exact ltB rfl) ?_
     refine JL.skip (.no rfl (ltB rfl) rfl rfl) (fun d h => by cases h; exact ltB rfl) ?_
     refine JL.skip (.no rfl (ltB rfl) rfl rfl) (fun d h => by cases h; exact ltB rfl) ?_
     refine JL.skip (.no rfl (ltB rfl) rfl rfl) (fun d h => by cases h; exact ltB rfl) ?_
     refine JL.skip (.no rfl (ltB rfl) rfl rfl) (fun d h => by cases h; exact ltB rfl) ?_
     refine JL.skip (.no rfl (ltB rfl) rfl rfl) (fun d h => by cases h; exact ltB rfl) ?_
     refine JL.skip (.no rfl (ltB rfl) rfl rfl) (fun d h => by cases h; exact ltB rfl) ?_
     refine jc (op_pickF lb (.tmp rfl) rfl .cB) ?_
     refine jc (op_assign lb (.tmp rfl)) ?_
     refine JL.nil ?_
     replace hx1 := Option.some.inj hx1
     first | subst hx1 | clear hx1
     exact JQ.join () (Imp.norm (js := [0]) rfl (.cons rfl .nil))

theorem sim_net_Net_All_1'2 {σ τ γ : Type} (k : Nat) (Y_1 : (σ → (Int × Int × Int × (List UInt8) × Nat × Nat) → Option (σ ⊕ τ))) (x_2 : (σ ⊕ τ)) (x_5 : (List api_Flight)) (gq_3 : γ) (gb_4 : Nat) (go_6 : Option Nat) (gc_7 : Nat) (L : Nat) (C : σ ⊕ τ → γ → Chunk) (hY : YSim Try.prog L (fun (u : Int × Int × Int × (List UInt8) × Nat × Nat) (z : Option Nat × Nat) => [S (rI .i64) u.1, A (rP (rI .i64) (rP (rI .i64) (rP (rW (HDX z.1 (u.2.2.2.2.1 * 1) u.2.2.2.2.2)) r0))) (u.2.1, (u.2.2.1, ((), ())))]) (fun (u : Int × Int × Int × (List UInt8) × Nat × Nat) (z : Option Nat × Nat) => [cown z.1 (rU UInt8) u.2.2.2.1 0 z.2]) Y_1 C) (r : (σ ⊕ τ)) (hm : net_Net_All_1'2 k Y_1 x_2 x_5 = some r) : Sim Try.prog 41 [YLD L, PTR gb_4 0] [C x_2 gq_3, cvar gb_4 (rW (HDR go_6 0 (List.length x_5) gc_7)) (), cown go_6 r_api_Flight x_5 0 gc_7] (γ := γ) (fun q => [C r q, cvar gb_4 (rW (HDR go_6 0 (List.length x_5) gc_7)) (), cown go_6 r_api_Flight x_5 0 gc_7]) (fun q => .tup []) := by
 unfold net_Net_All_1'2 at hm
 refine Sim.of Try.func41 rfl rfl (Nat.le_of_ble_eq_true rfl) (fun e0 w0 => ?_)
 refine JC.at ⟨[(0, ov (YLD L)), (1, ov (PTR gb_4 0))], [C x_2 gq_3, cvar gb_4 (rW (HDR go_6 0 (List.length x_5) gc_7)) (), cown go_6 r_api_Flight x_5 0 gc_7], []⟩ ?_
 refine JC.seq ?_
 refine JC.region ?_
 refine jc (op_loadW (j := 1) lb tS30 (.tmp rfl) rfl (Comp.self (rW (HDR go_6 0 (List.length x_5) gc_7)) ())) ?_
 refine jc (op_lenH lb tu30 (.tmp rfl)) ?_
 refine jc (op_move lb .cI) ?_
 refine JL.nil ?_
 refine JQ.then ?_
 refine JC.block ?_
 replace hm := bnd_inv hm
 obtain ⟨tv1, hL1, hq1⟩ := hm
 refine JC.pre ?_ (JC.loop (γ := γ) (stf := fun s q => ⟨[(0, ov (YLD L)), (5, ov (HDR go_6 0 (List.length x_5) gc_7)), (6, ov (S (rI .i64) (List.length x_5 : Int))), (7, ov (S (rI .i64) s.2))], [C s.1 q, cown go_6 r_api_Flight x_5 0 gc_7, cvar gb_4 (rW (HDR go_6 0 (List.length x_5) gc_7)) ()], []⟩) (q := gq_3) hL1 ?_)
 · exact (Imp.norm (js := [0, 1, 0]) rfl (.cons rfl (.cons rfl (.cons rfl (.cons rfl .nil)))))
 · intro s q x hx hr
   obtain ⟨x_8, x_9⟩ := s
   obtain ⟨gq_10, hqq⟩ : ∃ z, z = q := ⟨_, rfl⟩
   subst hqq
   change net_Net_All_1'2.b1 k x_5 Y_1 x_8 x_9 = some x at hx
   unfold net_Net_All_1'2.b1 at hx
   refine JC.at ⟨[(0, ov (YLD L)), (5, ov (HDR go_6 0 (List.length x_5) gc_7)), (6, ov (S (rI .i64) (List.length x_5 : Int))), (7, ov (S (rI .i64) x_9))], [C x_8 gq_10, cown go_6 r_api_Flight x_5 0 gc_7, cvar gb_4 (rW (HDR go_6 0 (List.length x_5) gc_7)) ()], []⟩ ?_
   refine JC.seq ?_
   refine JC.region ?_
   replace hx := lt1_inv hx
   obtain ⟨v_11, hv_v_11, hx⟩ := hx
   refine jc (op_cmpI lb (.tmp rfl) (.tmp rfl) (congrArg some hv_v_11)) ?_
   refine JL.nil ?_
   refine JQ.then ?_
   refine JC.seq ?_
   replace hx := iteB_inv hx
   rcases hx with ⟨hc2, hx⟩ | ⟨hc2, hx⟩
   · refine JC.condT (.tmp rfl) hc2 ?_
     refine JC.skip ?_
     refine JQ.then ?_
     refine JC.seq ?_
     refine JC.block ?_
     refine JC.seq ?_
     refine JC.region ?_
     refine jc (op_move lb (.tmp rfl)) ?_
     replace hx := bnd_inv hx
     obtain ⟨i_12, hv_i_12, hx⟩ := hx
     refine jc (op_indexAddrOF (r := r_api_Flight) (j := 1) lb tu30 tz36 rfl (.tmp rfl) (.tmp rfl) hv_i_12) ?_
     replace hx := bnd_inv hx
     obtain ⟨v_13, hv_v_13, hx⟩ := hx
     refine jc (op_loadOA (r := r_api_Flight) (i := i_12) (off := 0) (j := 1) lb tA36 rfl (.tmp rfl) hv_v_13 (Comp.self r_api_Flight v_13) (by decide)) ?_
     refine jx (op_alloc lb tZ36 zr36) (fun q => ?_)
     obtain ⟨gb_14, hqq⟩ : ∃ z, z = q := ⟨_, rfl⟩
     subst hqq
     refine jc (op_assign lb (.tmp rfl)) ?_
     refine jc (op_storeA (j := 3) tA36 (.tmp rfl) (.tmp rfl) rfl (UpdR.self (by rfl)) rfl) ?_
     refine JL.nil ?_
     refine JQ.then ?_
     refine JC.seq ?_
     refine JC.region ?_
     refine jc (op_fieldAddr (off := 2) lb tf36_2 (.tmp rfl)) ?_
     refine JL.sub ⟨[(0, ov (YLD L)), (3, ov (S (rI .i64) x_9)), (4, ov (PTR gb_14 0)), (5, ov (HDR go_6 0 (List.length x_5) gc_7)), (6, ov (S (rI .i64) (List.length x_5 : Int))), (7, ov (S (rI .i64) x_9)), (12, ov (PTR gb_14 (0 + 2)))], [C x_8 gq_10, cown go_6 r_api_Flight x_5 0 gc_7, cvar gb_4 (rW (HDR go_6 0 (List.length x_5) gc_7)) (), cvar gb_14 r_api_Flight v_13], []⟩ (.cons rfl (.cons rfl (.cons rfl (.cons rfl (.cons rfl (.cons rfl (.cons rfl .nil))))))) rfl rfl ?_
     refine jc (op_loadS (j := 3) lb tS31 (.tmp rfl) rfl (Comp.trans (Comp.self r_api_Flight v_13) (comp_api_Flight_Bytes v_13) (Nat.le_of_ble_eq_true rfl)) rfl rfl) ?_
     replace hx := bnd_inv hx
     obtain ⟨v_15, hv_v_15, hx⟩ := hx
     refine jx (op_call (js := []) ld cl40 (sim_slices_Clonebyte_byte k v_13.Bytes v_15 hv_v_15) .func (.cons (.tmp rfl) .nil) rfl) (fun q => ?_)
     obtain ⟨go_16, gc_17⟩ := q
     refine jc (op_fieldAddr (off := 2) lb tf36_2 (.tmp rfl)) ?_
     refine JL.pre (Imp.var (j := 4) (q := (rP (rI .i64) (rP (rI .i64) (rP (rL (rU UInt8)) r0)))) (y := (v_13.From, (v_13.To, (v_13.Bytes, ())))) rfl (Wk.trans Wk.un Wk.refl)) ?_
     refine jc (op_storeW (j := 4) tS31 (.tmp rfl) (.tmp rfl) rfl ((UpdR.snd (UpdR.snd (UpdR.fst (UpdR.self (by rfl))))).at (by change (1 + (1 + 0)) = (0 + 2); omega)) rfl) ?_
     refine JL.nil ?_
     refine JQ.then ?_
     refine JC.seq ?_
     refine JC.region ?_
     refine jc (op_move lb (.tmp rfl)) ?_
     refine jc (op_move lb (.tmp rfl)) ?_
     refine jc (op_loadA (j := 4) lb tA36 (.tmp rfl) rfl (Comp.self (rP (rI .i64) (rP (rI .i64) (rP (rW (HDR go_16 0 (List.length v_15) gc_17)) r0))) (v_13.From, (v_13.To, ((), ())))) rfl) ?_
     replace hx := bnd_inv hx
     obtain ⟨y_18, hv_y_18, hx⟩ := hx
     refine JL.pre (Imp.slot (s := 14) (q := HDE go_16 (List.length v_15) gc_17) rfl wkTE) ?_
     refine JL.pre (Imp.slotA (s := 18) (q := (rP (rI .i64) (rP (rI .i64) (rP (rW (HDE go_16 (List.length v_15) gc_17)) r0)))) (y := (v_13.From, (v_13.To, ((), ())))) rfl (Wk.pair Wk.refl (Wk.pair Wk.refl (Wk.pair Wk.toE Wk.refl)))) ?_
     refine JL.pre (Imp.var (j := 4) (q := (rP (rI .i64) (rP (rI .i64) (rP (rW (HDE go_16 (List.length v_15) gc_17)) r0)))) (y := (v_13.From, (v_13.To, ((), ())))) rfl (Wk.pair Wk.refl (Wk.pair Wk.refl (Wk.pair Wk.toE Wk.refl)))) ?_
     refine JL.xF (j := 0) rfl (fun hxf3 => ?_)
     refine JL.pre (Imp.slotA (s := 18) (q := (rP (rI .i64) (rP (rI .i64) (rP (rW (HDX go_16 ((0) * 1) (List.length v_15))) r0)))) (y := (v_13.From, (v_13.To, ((), ())))) rfl (Wk.pair Wk.refl (Wk.pair Wk.refl (Wk.pair (Wk.toX (sz := 1) hxf3) Wk.refl)))) ?_
     refine jx (op_yld (js := [1, 0]) (u := (x_9, v_13.From, v_13.To, v_15, 0, (List.length v_15))) (z := (go_16, gc_17)) (rest := _) lb hY (.tmp rfl) (.cons (.tmp rfl) (.cons (.tmp rfl) .nil)) rfl hv_y_18) (fun q => ?_)
     obtain ⟨gq_19, hqq⟩ : ∃ z, z = q := ⟨_, rfl⟩
     subst hqq
     refine JL.nrm ⟨[(0, ov (YLD L)), (5, ov (HDR go_6 0 (List.length x_5) gc_7)), (6, ov (S (rI .i64) (List.length x_5 : Int))), (7, ov (S (rI .i64) x_9)), (19, ov (S rB (Sum.isLeft y_18)))], [C y_18 gq_19, cown go_6 r_api_Flight x_5 0 gc_7, cvar gb_4 (rW (HDR go_6 0 (List.length x_5) gc_7)) ()], []⟩ [0, 0, 0] rfl (.cons rfl (.cons rfl (.cons rfl (.cons rfl (.cons rfl .nil))))) rfl ?_
     replace hx := lt1_inv hx
     obtain ⟨v_20, hv_v_20, hx⟩ := hx
     refine jc (op_not lb (.tmp rfl) hv_v_20) ?_
     refine JL.nil ?_
     refine JQ.then ?_
     replace hx := iteB_inv hx
     rcases hx with ⟨hc4, hx⟩ | ⟨hc4, hx⟩
     · refine JC.condT (.tmp rfl) hc4 ?_
       refine JC.ret ?_
       refine JQ.outRB ?_
       refine JQ.outR ?_
       replace hx := Option.some.inj hx
       first | subst hx | clear hx
       have ht := hr _ rfl
       clear hr
       first | subst ht | clear ht
       dsimp only at hq1
       refine JQ.outR ?_
       refine JQ.outRB ?_
       replace hq1 := Option.some.inj hq1
       subst hq1
       exact JQ.done (js := [0, 1, 0]) (ss := []) gq_19 (.inl rfl) (.nil rfl) rfl .nil rfl rfl rfl
     · refine JC.condF (.tmp rfl) hc4 ?_
       refine JC.skip ?_
       refine JQ.outNB ?_
       refine JQ.then ?_
       refine JC.region ?_
       replace hx := lt1_inv hx
       obtain ⟨v_21, hv_v_21, hx⟩ := hx
       refine jc (op_arI lb (.tmp rfl) .cI (congrArg some hv_v_21)) ?_
       refine jc (op_move lb (.tmp rfl)) ?_
       refine JL.nil ?_
       replace hx := Option.some.inj hx
       first | subst hx | clear hx
       exact JQ.next gq_19 rfl (Imp.norm (js := [0, 0, 0]) rfl (.cons rfl (.cons rfl (.cons rfl (.cons rfl .nil)))))
   · refine JC.condF (.tmp rfl) hc2 ?_
     refine JC.exit ?_
     refine JQ.outX ?_
     replace hx := Option.some.inj hx
     first | subst hx | clear hx
     have ht := hr _ rfl
     clear hr
     first | subst ht | clear ht
     dsimp only at hq1
     refine JQ.outX ?_
     refine JQ.here ?_
     replace hq1 := Option.some.inj hq1
     subst hq1
     exact JQ.done (js := [0, 1, 0]) (ss := []) gq_10 (.inr rfl) (.nil rfl) rfl .nil rfl rfl rfl

end Go.Proofs.Ytnadeehdnmgebaa
