/- Walks. -/
import Derived.Test.YtnadeehdnmgebaaT
namespace Go.Proofs.Ytnadeehdnmgebaa
open Go Fw
set_option linter.unusedVariables false
set_option maxRecDepth 100000
set_option maxHeartbeats 4000000

theorem sim_ref12_Net_Clear'2 (k : Nat) (end_1 : Int) (Ends_2 : Int) (Lost_3 : Int) (x_5 : (List api_Flight)) (gb_4 : Nat) (go_6 : Option Nat) (gc_7 : Nat) (r : Int × (List api_Flight)) (hm : ref12_Net_Clear'2 k end_1 Ends_2 Lost_3 x_5 = some r) : Sim Try.prog 37 [PTR gb_4 0, S (rI .i64) end_1] [cvar gb_4 (rP (rW (HDR go_6 0 (List.length x_5) gc_7)) (rP (rI .i64) (rP (rI .i64) r0))) ((), (Ends_2, (Lost_3, ()))), cown go_6 r_api_Flight x_5 0 gc_7] (γ := Option Nat × Nat) (fun q => [cvar gb_4 (rP (rW (HDR q.1 0 (List.length r.2) q.2)) (rP (rI .i64) (rP (rI .i64) r0))) ((), (Ends_2, (Lost_3, ()))), cown q.1 r_api_Flight r.2 0 q.2, cown go_6 r_api_Flight x_5 0 gc_7]) (fun q => .one (.val (S (rI .i64) r.1))) := by
 unfold ref12_Net_Clear'2 at hm
 refine Sim.of Try.func37 rfl rfl (Nat.le_of_ble_eq_true rfl) (fun e0 w0 => ?_)
 refine JC.at ⟨[(0, ov (PTR gb_4 0)), (1, ov (S (rI .i64) end_1))], [cvar gb_4 (rP (rW (HDR go_6 0 (List.length x_5) gc_7)) (rP (rI .i64) (rP (rI .i64) r0))) ((), (Ends_2, (Lost_3, ()))), cown go_6 r_api_Flight x_5 0 gc_7], []⟩ ?_
 refine JC.seq ?_
 refine JC.region ?_
 refine jc (op_assign lb .cI) ?_
 refine JL.nil ?_
 refine JQ.then ?_
 refine JC.seq ?_
 refine JC.region ?_
 refine jc (op_assign lb HasO.nilH) ?_
 refine JL.nil ?_
 refine JQ.then ?_
 replace hm := bnd_inv hm
 obtain ⟨l_25, hx1, hq1⟩ := hm
 refine JC.seqJ (γ := Option Nat × Nat) (stj := fun q => ⟨[(0, ov (PTR gb_4 0)), (5, ov (HDR q.1 0 (List.length l_25) q.2))], [cvar gb_4 (rP (rW (HDR go_6 0 (List.length x_5) gc_7)) (rP (rI .i64) (rP (rI .i64) r0))) ((), (Ends_2, (Lost_3, ()))), cown go_6 r_api_Flight x_5 0 gc_7, cown q.1 r_api_Flight l_25 0 q.2], []⟩) (fun q => ?_) ?_
 · obtain ⟨go_26, gc_27⟩ := q
   refine JC.at ⟨[(0, ov (PTR gb_4 0)), (5, ov (HDR go_26 0 (List.length l_25) gc_27))], [cvar gb_4 (rP (rW (HDR go_6 0 (List.length x_5) gc_7)) (rP (rI .i64) (rP (rI .i64) r0))) ((), (Ends_2, (Lost_3, ()))), cown go_6 r_api_Flight x_5 0 gc_7, cown go_26 r_api_Flight l_25 0 gc_27], []⟩ ?_
   refine JC.seq ?_
   refine JC.region ?_
   refine jc (op_move lb (.tmp rfl)) ?_
   refine jc (op_nilCheck lb (.tmp rfl) (fun e v h => by subst h; rfl)) ?_
   refine jc (op_fieldAddr (off := 0) lb tf43_0 (.tmp rfl)) ?_
   refine jc (op_loadW (j := 0) lb tS30 (.tmp rfl) rfl (Comp.trans (Comp.self (rP (rW (HDR go_6 0 (List.length x_5) gc_7)) (rP (rI .i64) (rP (rI .i64) r0))) ((), (Ends_2, (Lost_3, ())))) (Comp.at' (Comp.inF (Comp.self (rW (HDR go_6 0 (List.length x_5) gc_7)) ()) (Nat.le_of_ble_eq_true rfl)) (by rfl : _ = 0)) (Nat.le_of_ble_eq_true rfl))) ?_
   refine jc (op_lenH lb tu30 (.tmp rfl)) ?_
   refine jc (op_move lb (.tmp rfl)) ?_
   refine jc (op_lenH lb tu30 (.tmp rfl)) ?_
   replace hq1 := lt1_inv hq1
   obtain ⟨v_28, hv_v_28, hq1⟩ := hq1
   refine jc (op_arI lb (.tmp rfl) (.tmp rfl) (congrArg some hv_v_28)) ?_
   refine jc (op_assign lb (.tmp rfl)) ?_
   refine JL.nil ?_
   refine JQ.then ?_
   refine JC.seq ?_
   refine JC.region ?_
   refine jc (op_move lb (.tmp rfl)) ?_
   refine jc (op_move lb (.tmp rfl)) ?_
   refine jc (op_nilCheck lb (.tmp rfl) (fun e v h => by subst h; rfl)) ?_
   refine JL.sub ⟨[(7, ov (S (rI .i64) v_28)), (46, ov (HDR go_26 0 (List.length l_25) gc_27)), (47, ov (PTR gb_4 0))], [cvar gb_4 (rP (rW (HDR go_6 0 (List.length x_5) gc_7)) (rP (rI .i64) (rP (rI .i64) r0))) ((), (Ends_2, (Lost_3, ()))), cown go_6 r_api_Flight x_5 0 gc_7, cown go_26 r_api_Flight l_25 0 gc_27], []⟩ (.cons rfl (.cons rfl (.cons rfl .nil))) rfl rfl ?_
   refine jc (op_fieldAddr (off := 0) lb tf43_0 (.tmp rfl)) ?_
   refine jc (op_storeW (j := 0) tS30 (.tmp rfl) (.tmp rfl) rfl ((UpdR.fst (UpdR.self (by rfl))).at (by change 0 = (0 + 0); omega)) rfl) ?_
   refine JL.nil ?_
   refine JQ.then ?_
   refine JC.seq ?_
   refine JC.region ?_
   refine jc (op_move lb (.tmp rfl)) ?_
   refine jc (op_assign lb (.tmp rfl)) ?_
   refine JL.nil ?_
   refine JQ.then ?_
   refine JC.ret ?_
   replace hq1 := Option.some.inj hq1
   subst hq1
   exact JQ.done (js := [0, 1, 0]) (ss := [.val (S (rI .i64) v_28)]) (go_26, gc_27) (.inl rfl) (.nil rfl) rfl (.cons (.tmp rfl) .nil) rfl rfl rfl
 · refine JC.seq ?_
   refine JC.region ?_
   refine jc (op_assign lb .cI) ?_
   refine JL.nil ?_
   refine JQ.then ?_
   refine JC.block ?_
   refine JC.pre (Imp.nilown r_api_Flight) ?_
   refine JC.pre (Imp.var (j := 0) (q := (rP (rW (HDR go_6 0 (List.length x_5) gc_7)) (rP (rI .i64) (rP (rI .i64) r0)))) (y := ((), (Ends_2, (Lost_3, ())))) rfl Wk.refl) ?_
   refine JC.pre ?_ (JC.loop (γ := Option Nat × Nat) (stf := fun s q => ⟨[(0, ov (PTR gb_4 0)), (1, ov (S (rI .i64) end_1)), (5, ov (HDR q.1 0 (List.length s.1) q.2)), (6, ov (S (rI .i64) s.2))], [cvar gb_4 (rP (rW (HDR go_6 0 (List.length x_5) gc_7)) (rP (rI .i64) (rP (rI .i64) r0))) ((), (Ends_2, (Lost_3, ()))), cown go_6 r_api_Flight x_5 0 gc_7, cown q.1 r_api_Flight s.1 0 q.2], []⟩) (q := (none, 0)) hx1 ?_)
   · exact (Imp.norm (js := [0, 0, 0]) rfl (.cons rfl (.cons rfl (.cons rfl (.cons rfl .nil)))))
   · intro s q x hx hr
     obtain ⟨l_8, i_9⟩ := s
     obtain ⟨go_10, gc_11⟩ := q
     change ref12_Net_Clear'2.b1 k x_5 end_1 l_8 i_9 = some x at hx
     unfold ref12_Net_Clear'2.b1 at hx
     refine JC.at ⟨[(0, ov (PTR gb_4 0)), (1, ov (S (rI .i64) end_1)), (5, ov (HDR go_10 0 (List.length l_8) gc_11)), (6, ov (S (rI .i64) i_9))], [cvar gb_4 (rP (rW (HDR go_6 0 (List.length x_5) gc_7)) (rP (rI .i64) (rP (rI .i64) r0))) ((), (Ends_2, (Lost_3, ()))), cown go_6 r_api_Flight x_5 0 gc_7, cown go_10 r_api_Flight l_8 0 gc_11], []⟩ ?_
     refine JC.seq ?_
     refine JC.seq ?_
     refine JC.region ?_
     refine jc (op_move lb (.tmp rfl)) ?_
     refine jc (op_move lb (.tmp rfl)) ?_
     refine jc (op_nilCheck lb (.tmp rfl) (fun e v h => by subst h; rfl)) ?_
     refine jc (op_fieldAddr (off := 0) lb tf43_0 (.tmp rfl)) ?_
     refine jc (op_loadW (j := 0) lb tS30 (.tmp rfl) rfl (Comp.trans (Comp.self (rP (rW (HDR go_6 0 (List.length x_5) gc_7)) (rP (rI .i64) (rP (rI .i64) r0))) ((), (Ends_2, (Lost_3, ())))) (Comp.at' (Comp.inF (Comp.self (rW (HDR go_6 0 (List.length x_5) gc_7)) ()) (Nat.le_of_ble_eq_true rfl)) (by rfl : _ = 0)) (Nat.le_of_ble_eq_true rfl))) ?_
     refine jc (op_lenH lb tu30 (.tmp rfl)) ?_
     replace hx := lt1_inv hx
     obtain ⟨v_12, hv_v_12, hx⟩ := hx
     refine jc (op_cmpI lb (.tmp rfl) (.tmp rfl) (congrArg some hv_v_12)) ?_
     refine JL.nil ?_
     refine JQ.then ?_
     replace hx := iteB_inv hx
     rcases hx with ⟨hc3, hx⟩ | ⟨hc3, hx⟩
     · refine JC.condT (.tmp rfl) hc3 ?_
       refine JC.skip ?_
       refine JQ.then ?_
       replace hx := bnd_inv hx
       obtain ⟨l_21, hx4, hq4⟩ := hx
       refine JC.seqJ (γ := Option Nat × Nat) (stj := fun q => ⟨[(0, ov (PTR gb_4 0)), (1, ov (S (rI .i64) end_1)), (5, ov (HDR q.1 0 (List.length l_21) q.2)), (6, ov (S (rI .i64) i_9))], [cvar gb_4 (rP (rW (HDR go_6 0 (List.length x_5) gc_7)) (rP (rI .i64) (rP (rI .i64) r0))) ((), (Ends_2, (Lost_3, ()))), cown go_6 r_api_Flight x_5 0 gc_7, cown q.1 r_api_Flight l_21 0 q.2], []⟩) (fun q => ?_) ?_
       · obtain ⟨go_22, gc_23⟩ := q
         refine JC.at ⟨[(0, ov (PTR gb_4 0)), (1, ov (S (rI .i64) end_1)), (5, ov (HDR go_22 0 (List.length l_21) gc_23)), (6, ov (S (rI .i64) i_9))], [cvar gb_4 (rP (rW (HDR go_6 0 (List.length x_5) gc_7)) (rP (rI .i64) (rP (rI .i64) r0))) ((), (Ends_2, (Lost_3, ()))), cown go_6 r_api_Flight x_5 0 gc_7, cown go_22 r_api_Flight l_21 0 gc_23], []⟩ ?_
         refine JC.region ?_
         refine jc (op_move lb (.tmp rfl)) ?_
         replace hq4 := lt1_inv hq4
         obtain ⟨v_24, hv_v_24, hq4⟩ := hq4
         refine jc (op_arI lb (.tmp rfl) .cI (congrArg some hv_v_24)) ?_
         refine jc (op_assign lb (.tmp rfl)) ?_
         refine JL.nil ?_
         replace hq4 := Option.some.inj hq4
         first | subst hq4 | clear hq4
         exact JQ.next (go_22, gc_23) rfl (Imp.norm (js := [0, 0, 0]) rfl (.cons rfl (.cons rfl (.cons rfl (.cons rfl .nil)))))
       · refine JC.block ?_
         refine JC.seq ?_
         refine JC.region ?_
         refine jc (op_move lb (.tmp rfl)) ?_
         refine jc (op_nilCheck lb (.tmp rfl) (fun e v h => by subst h; rfl)) ?_
         refine jc (op_fieldAddr (off := 0) lb tf43_0 (.tmp rfl)) ?_
         refine jc (op_loadW (j := 0) lb tS30 (.tmp rfl) rfl (Comp.trans (Comp.self (rP (rW (HDR go_6 0 (List.length x_5) gc_7)) (rP (rI .i64) (rP (rI .i64) r0))) ((), (Ends_2, (Lost_3, ())))) (Comp.at' (Comp.inF (Comp.self (rW (HDR go_6 0 (List.length x_5) gc_7)) ()) (Nat.le_of_ble_eq_true rfl)) (by rfl : _ = 0)) (Nat.le_of_ble_eq_true rfl))) ?_
         refine jc (op_move lb (.tmp rfl)) ?_
         refine JL.sub ⟨[(0, ov (PTR gb_4 0)), (1, ov (S (rI .i64) end_1)), (5, ov (HDR go_10 0 (List.length l_8) gc_11)), (6, ov (S (rI .i64) i_9)), (20, ov (HDR go_6 0 (List.length x_5) gc_7)), (21, ov (S (rI .i64) i_9))], [cvar gb_4 (rP (rW (HDR go_6 0 (List.length x_5) gc_7)) (rP (rI .i64) (rP (rI .i64) r0))) ((), (Ends_2, (Lost_3, ()))), cown go_6 r_api_Flight x_5 0 gc_7, cown go_10 r_api_Flight l_8 0 gc_11], []⟩ (.cons rfl (.cons rfl (.cons rfl (.cons rfl (.cons rfl (.cons rfl .nil)))))) rfl rfl ?_
         replace hx4 := bnd_inv hx4
         obtain ⟨i_13, hv_i_13, hx4⟩ := hx4
         refine jc (op_indexAddrOF (r := r_api_Flight) (j := 1) lb tu30 tz36 rfl (.tmp rfl) (.tmp rfl) hv_i_13) ?_
         refine jc (op_fieldAddrE (off := 1) lb tf36_1 (.tmp rfl)) ?_
         replace hx4 := bnd_inv hx4
         obtain ⟨u_14, hv_u_14, hx4⟩ := hx4
         refine jc (op_loadOS (r := r_api_Flight) (i := i_13) (off := 1) (j := 1) lb tS3 rfl rfl (.tmp rfl) hv_u_14 (Comp.at' (Comp.trans (Comp.self r_api_Flight u_14) (comp_api_Flight_To u_14) (Nat.le_of_ble_eq_true rfl)) rfl) (by decide)) ?_
         refine jc (op_move lb (.tmp rfl)) ?_
         replace hx4 := lt1_inv hx4
         obtain ⟨v_15, hv_v_15, hx4⟩ := hx4
         refine jc (op_cmpI lb (.tmp rfl) (.tmp rfl) (congrArg some hv_v_15)) ?_
         refine JL.nil ?_
         refine JQ.then ?_
         replace hx4 := iteB_inv hx4
         rcases hx4 with ⟨hc5, hx4⟩ | ⟨hc5, hx4⟩
         · refine JC.condT (.tmp rfl) hc5 ?_
           refine JC.region ?_
           refine jc (op_move lb (.tmp rfl)) ?_
           refine jc (op_move lb (.tmp rfl)) ?_
           refine jc (op_nilCheck lb (.tmp rfl) (fun e v h => by subst h; rfl)) ?_
           refine jc (op_fieldAddr (off := 0) lb tf43_0 (.tmp rfl)) ?_
           refine jc (op_loadW (j := 0) lb tS30 (.tmp rfl) rfl (Comp.trans (Comp.self (rP (rW (HDR go_6 0 (List.length x_5) gc_7)) (rP (rI .i64) (rP (rI .i64) r0))) ((), (Ends_2, (Lost_3, ())))) (Comp.at' (Comp.inF (Comp.self (rW (HDR go_6 0 (List.length x_5) gc_7)) ()) (Nat.le_of_ble_eq_true rfl)) (by rfl : _ = 0)) (Nat.le_of_ble_eq_true rfl))) ?_
           refine jc (op_move lb (.tmp rfl)) ?_
           replace hx4 := bnd_inv hx4
           obtain ⟨i_16, hv_i_16, hx4⟩ := hx4
           refine jc (op_indexAddrOF (r := r_api_Flight) (j := 1) lb tu30 tz36 rfl (.tmp rfl) (.tmp rfl) hv_i_16) ?_
           refine JL.sub ⟨[(0, ov (PTR gb_4 0)), (1, ov (S (rI .i64) end_1)), (5, ov (HDR go_10 0 (List.length l_8) gc_11)), (6, ov (S (rI .i64) i_9)), (27, ov (HDR go_10 0 (List.length l_8) gc_11)), (33, ov (EPT go_6 (i_16 * 3)))], [cvar gb_4 (rP (rW (HDR go_6 0 (List.length x_5) gc_7)) (rP (rI .i64) (rP (rI .i64) r0))) ((), (Ends_2, (Lost_3, ()))), cown go_6 r_api_Flight x_5 0 gc_7, cown go_10 r_api_Flight l_8 0 gc_11], []⟩ (.cons rfl (.cons rfl (.cons rfl (.cons rfl (.cons rfl (.cons rfl .nil)))))) rfl rfl ?_
           replace hx4 := bnd_inv hx4
           obtain ⟨v_17, hv_v_17, hx4⟩ := hx4
           refine jc (op_loadOA (r := r_api_Flight) (i := i_16) (off := 0) (j := 1) lb tA36 rfl (.tmp rfl) hv_v_17 (Comp.self r_api_Flight v_17) (by decide)) ?_
           refine jc (op_buildF (r := r_api_Flight) lb tu30 tz36 tZ36 rfl (Nat.le_of_ble_eq_true rfl) (.A (.tmp rfl) .nil) rfl) ?_
           replace hx4 := bnd_inv hx4
           obtain ⟨l_18, hv_l_18, hx4⟩ := hx4
           refine jx (op_appendL (j := 2) lb tu30 tu30 rfl tB36 rfl (Nat.lt_of_lt_of_le Nat.zero_lt_one (Nat.le_of_ble_eq_true rfl)) (Nat.lt_of_lt_of_le Nat.zero_lt_one (Nat.le_of_ble_eq_true rfl))  rfl (.tmp rfl) (.tmp rfl) hv_l_18) (fun q => ?_)
           obtain ⟨go_19, gc_20⟩ := q
           refine jc (op_assign lb (.tmp rfl)) ?_
           refine JL.nil ?_
           refine JQ.outNB ?_
           replace hx4 := Option.some.inj hx4
           first | subst hx4 | clear hx4
           exact JQ.join (go_19, gc_20) (Imp.norm (js := [0, 0, 0]) rfl (.cons rfl (.cons rfl (.cons rfl (.cons rfl .nil)))))
         · refine JC.condF (.tmp rfl) hc5 ?_
           refine JC.skip ?_
           refine JQ.outNB ?_
           replace hx4 := Option.some.inj hx4
           first | subst hx4 | clear hx4
           exact JQ.join (go_10, gc_11) (Imp.norm (js := [0, 0, 0]) rfl (.cons rfl (.cons rfl (.cons rfl (.cons rfl .nil)))))
     · refine JC.condF (.tmp rfl) hc3 ?_
       refine JC.exit ?_
       refine JQ.outX ?_
       replace hx := Option.some.inj hx
       first | subst hx | clear hx
       have ht := hr _ rfl
       have hq2 := congrArg some ht
       clear hr ht
       refine JQ.outX ?_
       refine JQ.here ?_
       replace hq2 := Option.some.inj hq2
       first | subst hq2 | clear hq2
       exact JQ.join (go_10, gc_11) (Imp.norm (js := [0, 0, 0]) rfl (.cons rfl (.cons rfl .nil)))

end Go.Proofs.Ytnadeehdnmgebaa
