/- Walks. -/
import Derived.Test.YtnadeehdnmgebaaT
namespace Go.Proofs.Ytnadeehdnmgebaa
open Go Fw
set_option linter.unusedVariables false
set_option maxRecDepth 100000
set_option maxHeartbeats 4000000

theorem sim_ref12_Net_Line'2 (k : Nat) (from_1 : Int) (to_2 : Int) (Ends_3 : Int) (Lost_4 : Int) (x_6 : (List api_Flight)) (gb_5 : Nat) (go_7 : Option Nat) (gc_8 : Nat) (r : Int) (hm : ref12_Net_Line'2 k from_1 to_2 Ends_3 Lost_4 x_6 = some r) : Sim Try.prog 39 [PTR gb_5 0, S (rI .i64) from_1, S (rI .i64) to_2] [cvar gb_5 (rP (rW (HDR go_7 0 (List.length x_6) gc_8)) (rP (rI .i64) (rP (rI .i64) r0))) ((), (Ends_3, (Lost_4, ()))), cown go_7 r_api_Flight x_6 0 gc_8] (γ := Unit) (fun q => [cvar gb_5 (rP (rW (HDR go_7 0 (List.length x_6) gc_8)) (rP (rI .i64) (rP (rI .i64) r0))) ((), (Ends_3, (Lost_4, ()))), cown go_7 r_api_Flight x_6 0 gc_8]) (fun q => .one (.val (S (rI .i64) r))) := by
 unfold ref12_Net_Line'2 at hm
 refine Sim.of Try.func39 rfl rfl (Nat.le_of_ble_eq_true rfl) (fun e0 w0 => ?_)
 refine JC.at ⟨[(0, ov (PTR gb_5 0)), (1, ov (S (rI .i64) from_1)), (2, ov (S (rI .i64) to_2))], [cvar gb_5 (rP (rW (HDR go_7 0 (List.length x_6) gc_8)) (rP (rI .i64) (rP (rI .i64) r0))) ((), (Ends_3, (Lost_4, ()))), cown go_7 r_api_Flight x_6 0 gc_8], []⟩ ?_
 refine JC.seq ?_
 refine JC.region ?_
 refine jc (op_assign lb .cI) ?_
 refine JL.nil ?_
 refine JQ.then ?_
 refine JC.seq ?_
 refine JC.region ?_
 refine jc (op_assign lb .cI) ?_
 refine JL.nil ?_
 refine JQ.then ?_
 replace hm := bnd_inv hm
 obtain ⟨c_22, hx1, hq1⟩ := hm
 refine JC.seqJ (γ := Unit) (stj := fun q => ⟨[(7, ov (S (rI .i64) c_22))], [cvar gb_5 (rP (rW (HDR go_7 0 (List.length x_6) gc_8)) (rP (rI .i64) (rP (rI .i64) r0))) ((), (Ends_3, (Lost_4, ()))), cown go_7 r_api_Flight x_6 0 gc_8], []⟩) (fun q => ?_) ?_
 · obtain _ := q
   refine JC.at ⟨[(7, ov (S (rI .i64) c_22))], [cvar gb_5 (rP (rW (HDR go_7 0 (List.length x_6) gc_8)) (rP (rI .i64) (rP (rI .i64) r0))) ((), (Ends_3, (Lost_4, ()))), cown go_7 r_api_Flight x_6 0 gc_8], []⟩ ?_
   refine JC.seq ?_
   refine JC.region ?_
   refine jc (op_move lb (.tmp rfl)) ?_
   refine jc (op_assign lb (.tmp rfl)) ?_
   refine JL.nil ?_
   refine JQ.then ?_
   refine JC.ret ?_
   replace hq1 := Option.some.inj hq1
   subst hq1
   exact JQ.done (js := [0, 0]) (ss := [.val (S (rI .i64) c_22)]) () (.inl rfl) (.nil rfl) rfl (.cons (.tmp rfl) .nil) rfl rfl rfl
 · refine JC.seq ?_
   refine JC.region ?_
   refine jc (op_assign lb .cI) ?_
   refine JL.nil ?_
   refine JQ.then ?_
   refine JC.block ?_
   refine JC.pre (Imp.var (j := 0) (q := (rP (rW (HDR go_7 0 (List.length x_6) gc_8)) (rP (rI .i64) (rP (rI .i64) r0)))) (y := ((), (Ends_3, (Lost_4, ())))) rfl Wk.refl) ?_
   refine JC.pre ?_ (JC.loop (γ := Unit) (stf := fun s q => ⟨[(0, ov (PTR gb_5 0)), (1, ov (S (rI .i64) from_1)), (2, ov (S (rI .i64) to_2)), (7, ov (S (rI .i64) s.1)), (8, ov (S (rI .i64) s.2))], [cvar gb_5 (rP (rW (HDR go_7 0 (List.length x_6) gc_8)) (rP (rI .i64) (rP (rI .i64) r0))) ((), (Ends_3, (Lost_4, ()))), cown go_7 r_api_Flight x_6 0 gc_8], []⟩) (q := ()) hx1 ?_)
   · exact (Imp.norm (js := [0, 0]) rfl (.cons rfl (.cons rfl (.cons rfl (.cons rfl (.cons rfl .nil))))))
   · intro s q x hx hr
     obtain ⟨c_9, i_10⟩ := s
     obtain _ := q
     change ref12_Net_Line'2.b1 k x_6 from_1 to_2 c_9 i_10 = some x at hx
     unfold ref12_Net_Line'2.b1 at hx
     refine JC.at ⟨[(0, ov (PTR gb_5 0)), (1, ov (S (rI .i64) from_1)), (2, ov (S (rI .i64) to_2)), (7, ov (S (rI .i64) c_9)), (8, ov (S (rI .i64) i_10))], [cvar gb_5 (rP (rW (HDR go_7 0 (List.length x_6) gc_8)) (rP (rI .i64) (rP (rI .i64) r0))) ((), (Ends_3, (Lost_4, ()))), cown go_7 r_api_Flight x_6 0 gc_8], []⟩ ?_
     refine JC.seq ?_
     refine JC.seq ?_
     refine JC.region ?_
     refine jc (op_move lb (.tmp rfl)) ?_
     refine jc (op_move lb (.tmp rfl)) ?_
     refine jc (op_nilCheck lb (.tmp rfl) (fun e v h => by subst h; rfl)) ?_
     refine jc (op_fieldAddr (off := 0) lb tf43_0 (.tmp rfl)) ?_
     refine jc (op_loadW (j := 0) lb tS30 (.tmp rfl) rfl (Comp.trans (Comp.self (rP (rW (HDR go_7 0 (List.length x_6) gc_8)) (rP (rI .i64) (rP (rI .i64) r0))) ((), (Ends_3, (Lost_4, ())))) (Comp.at' (Comp.inF (Comp.self (rW (HDR go_7 0 (List.length x_6) gc_8)) ()) (Nat.le_of_ble_eq_true rfl)) (by rfl : _ = 0)) (Nat.le_of_ble_eq_true rfl))) ?_
     refine jc (op_lenH lb tu30 (.tmp rfl)) ?_
     replace hx := lt1_inv hx
     obtain ⟨v_11, hv_v_11, hx⟩ := hx
     refine jc (op_cmpI lb (.tmp rfl) (.tmp rfl) (congrArg some hv_v_11)) ?_
     refine JL.nil ?_
     refine JQ.then ?_
     replace hx := iteB_inv hx
     rcases hx with ⟨hc3, hx⟩ | ⟨hc3, hx⟩
     · refine JC.condT (.tmp rfl) hc3 ?_
       refine JC.skip ?_
       refine JQ.then ?_
       replace hx := bnd_inv hx
       obtain ⟨c_20, hx4, hq4⟩ := hx
       refine JC.seqJ (γ := Unit) (stj := fun q => ⟨[(0, ov (PTR gb_5 0)), (1, ov (S (rI .i64) from_1)), (2, ov (S (rI .i64) to_2)), (7, ov (S (rI .i64) c_20)), (8, ov (S (rI .i64) i_10))], [cvar gb_5 (rP (rW (HDR go_7 0 (List.length x_6) gc_8)) (rP (rI .i64) (rP (rI .i64) r0))) ((), (Ends_3, (Lost_4, ()))), cown go_7 r_api_Flight x_6 0 gc_8], []⟩) (fun q => ?_) ?_
       · obtain _ := q
         refine JC.at ⟨[(0, ov (PTR gb_5 0)), (1, ov (S (rI .i64) from_1)), (2, ov (S (rI .i64) to_2)), (7, ov (S (rI .i64) c_20)), (8, ov (S (rI .i64) i_10))], [cvar gb_5 (rP (rW (HDR go_7 0 (List.length x_6) gc_8)) (rP (rI .i64) (rP (rI .i64) r0))) ((), (Ends_3, (Lost_4, ()))), cown go_7 r_api_Flight x_6 0 gc_8], []⟩ ?_
         refine JC.region ?_
         refine jc (op_move lb (.tmp rfl)) ?_
         replace hq4 := lt1_inv hq4
         obtain ⟨v_21, hv_v_21, hq4⟩ := hq4
         refine jc (op_arI lb (.tmp rfl) .cI (congrArg some hv_v_21)) ?_
         refine jc (op_assign lb (.tmp rfl)) ?_
         refine JL.nil ?_
         replace hq4 := Option.some.inj hq4
         first | subst hq4 | clear hq4
         exact JQ.next () rfl (Imp.norm (js := [0, 0]) rfl (.cons rfl (.cons rfl (.cons rfl (.cons rfl (.cons rfl .nil))))))
       · refine JC.block ?_
         replace hx4 := bnd_inv hx4
         obtain ⟨x_18, hx5, hq5⟩ := hx4
         refine JC.seqJ (γ := Unit) (stj := fun q => ⟨[(0, ov (PTR gb_5 0)), (1, ov (S (rI .i64) from_1)), (2, ov (S (rI .i64) to_2)), (7, ov (S (rI .i64) c_9)), (8, ov (S (rI .i64) i_10)), (39, ov (S rB x_18))], [cvar gb_5 (rP (rW (HDR go_7 0 (List.length x_6) gc_8)) (rP (rI .i64) (rP (rI .i64) r0))) ((), (Ends_3, (Lost_4, ()))), cown go_7 r_api_Flight x_6 0 gc_8], []⟩) (fun q => ?_) ?_
         · obtain _ := q
           refine JC.at ⟨[(0, ov (PTR gb_5 0)), (1, ov (S (rI .i64) from_1)), (2, ov (S (rI .i64) to_2)), (7, ov (S (rI .i64) c_9)), (8, ov (S (rI .i64) i_10)), (39, ov (S rB x_18))], [cvar gb_5 (rP (rW (HDR go_7 0 (List.length x_6) gc_8)) (rP (rI .i64) (rP (rI .i64) r0))) ((), (Ends_3, (Lost_4, ()))), cown go_7 r_api_Flight x_6 0 gc_8], []⟩ ?_
           replace hq5 := iteB_inv hq5
           rcases hq5 with ⟨hc8, hq5⟩ | ⟨hc8, hq5⟩
           · refine JC.condT (.tmp rfl) hc8 ?_
             refine JC.region ?_
             refine jc (op_move lb (.tmp rfl)) ?_
             replace hq5 := lt1_inv hq5
             obtain ⟨v_19, hv_v_19, hq5⟩ := hq5
             refine jc (op_arI lb (.tmp rfl) .cI (congrArg some hv_v_19)) ?_
             refine jc (op_assign lb (.tmp rfl)) ?_
             refine JL.nil ?_
             refine JQ.outNB ?_
             replace hq5 := Option.some.inj hq5
             first | subst hq5 | clear hq5
             exact JQ.join () (Imp.norm (js := [0, 0]) rfl (.cons rfl (.cons rfl (.cons rfl (.cons rfl (.cons rfl .nil))))))
           · refine JC.condF (.tmp rfl) hc8 ?_
             refine JC.skip ?_
             refine JQ.outNB ?_
             replace hq5 := Option.some.inj hq5
             first | subst hq5 | clear hq5
             exact JQ.join () (Imp.norm (js := [0, 0]) rfl (.cons rfl (.cons rfl (.cons rfl (.cons rfl (.cons rfl .nil))))))
         · refine JC.region ?_
           refine jc (op_move lb (.tmp rfl)) ?_
           refine jc (op_nilCheck lb (.tmp rfl) (fun e v h => by subst h; rfl)) ?_
           refine jc (op_fieldAddr (off := 0) lb tf43_0 (.tmp rfl)) ?_
           refine jc (op_loadW (j := 0) lb tS30 (.tmp rfl) rfl (Comp.trans (Comp.self (rP (rW (HDR go_7 0 (List.length x_6) gc_8)) (rP (rI .i64) (rP (rI .i64) r0))) ((), (Ends_3, (Lost_4, ())))) (Comp.at' (Comp.inF (Comp.self (rW (HDR go_7 0 (List.length x_6) gc_8)) ()) (Nat.le_of_ble_eq_true rfl)) (by rfl : _ = 0)) (Nat.le_of_ble_eq_true rfl))) ?_
           refine jc (op_move lb (.tmp rfl)) ?_
           refine JL.sub ⟨[(0, ov (PTR gb_5 0)), (1, ov (S (rI .i64) from_1)), (2, ov (S (rI .i64) to_2)), (7, ov (S (rI .i64) c_9)), (8, ov (S (rI .i64) i_10)), (21, ov (HDR go_7 0 (List.length x_6) gc_8)), (22, ov (S (rI .i64) i_10))], [cvar gb_5 (rP (rW (HDR go_7 0 (List.length x_6) gc_8)) (rP (rI .i64) (rP (rI .i64) r0))) ((), (Ends_3, (Lost_4, ()))), cown go_7 r_api_Flight x_6 0 gc_8], []⟩ (.cons rfl (.cons rfl (.cons rfl (.cons rfl (.cons rfl (.cons rfl (.cons rfl .nil))))))) rfl rfl ?_
           replace hx5 := bnd_inv hx5
           obtain ⟨i_12, hv_i_12, hx5⟩ := hx5
           refine jc (op_indexAddrOF (r := r_api_Flight) (j := 1) lb tu30 tz36 rfl (.tmp rfl) (.tmp rfl) hv_i_12) ?_
           refine jc (op_fieldAddrE (off := 0) lb tf36_0 (.tmp rfl)) ?_
           replace hx5 := bnd_inv hx5
           obtain ⟨u_13, hv_u_13, hx5⟩ := hx5
           refine jc (op_loadOS (r := r_api_Flight) (i := i_12) (off := 0) (j := 1) lb tS3 rfl rfl (.tmp rfl) hv_u_13 (Comp.at' (Comp.trans (Comp.self r_api_Flight u_13) (comp_api_Flight_From u_13) (Nat.le_of_ble_eq_true rfl)) rfl) (by decide)) ?_
           refine jc (op_move lb (.tmp rfl)) ?_
           replace hx5 := lt1_inv hx5
           obtain ⟨v_14, hv_v_14, hx5⟩ := hx5
           refine jc (op_cmpI lb (.tmp rfl) (.tmp rfl) (congrArg some hv_v_14)) ?_
           refine jc (op_move lb (.tmp rfl)) ?_
           replace hx5 := iteB_inv hx5
           rcases hx5 with ⟨hc7, hx5⟩ | ⟨hc7, hx5⟩
           · refine JL.run (.yes rfl (ltB rfl) rfl hc7) (op_move lb (.tmp rfl)) ?_
             refine JL.run (.yes rfl (ltB rfl) rfl hc7) (op_nilCheck lb (.tmp rfl) (fun e v h => by subst h; rfl)) ?_
             refine JL.run (.yes rfl (ltB rfl) rfl hc7) (op_fieldAddr (off := 0) lb tf43_0 (.tmp rfl)) ?_
             refine JL.run (.yes rfl (ltB rfl) rfl hc7) (op_loadW (j := 0) lb tS30 (.tmp rfl) rfl (Comp.trans (Comp.self (rP (rW (HDR go_7 0 (List.length x_6) gc_8)) (rP (rI .i64) (rP (rI .i64) r0))) ((), (Ends_3, (Lost_4, ())))) (Comp.at' (Comp.inF (Comp.self (rW (HDR go_7 0 (List.length x_6) gc_8)) ()) (Nat.le_of_ble_eq_true rfl)) (by rfl : _ = 0)) (Nat.le_of_ble_eq_true rfl))) ?_
             refine JL.run (.yes rfl (ltB rfl) rfl hc7) (op_move lb (.tmp rfl)) ?_
             replace hx5 := bnd_inv hx5
             obtain ⟨i_15, hv_i_15, hx5⟩ := hx5
             refine JL.run (.yes rfl (ltB rfl) rfl hc7) (op_indexAddrOF (r := r_api_Flight) (j := 1) lb tu30 tz36 rfl (.tmp rfl) (.tmp rfl) hv_i_15) ?_
             refine JL.sub ⟨[(0, ov (PTR gb_5 0)), (1, ov (S (rI .i64) from_1)), (2, ov (S (rI .i64) to_2)), (7, ov (S (rI .i64) c_9)), (8, ov (S (rI .i64) i_10)), (28, ov (S rB v_14)), (34, ov (EPT go_7 (i_15 * 3)))], [cvar gb_5 (rP (rW (HDR go_7 0 (List.length x_6) gc_8)) (rP (rI .i64) (rP (rI .i64) r0))) ((), (Ends_3, (Lost_4, ()))), cown go_7 r_api_Flight x_6 0 gc_8], []⟩ (.cons rfl (.cons rfl (.cons rfl (.cons rfl (.cons rfl (.cons rfl (.cons rfl .nil))))))) rfl rfl ?_
             refine JL.run (.yes rfl (ltB rfl) rfl hc7) (op_fieldAddrE (off := 1) lb tf36_1 (.tmp rfl)) ?_
             replace hx5 := bnd_inv hx5
             obtain ⟨u_16, hv_u_16, hx5⟩ := hx5
             refine JL.run (.yes rfl (ltB rfl) rfl hc7) (op_loadOS (r := r_api_Flight) (i := i_15) (off := 1) (j := 1) lb tS3 rfl rfl (.tmp rfl) hv_u_16 (Comp.at' (Comp.trans (Comp.self r_api_Flight u_16) (comp_api_Flight_To u_16) (Nat.le_of_ble_eq_true rfl)) rfl) (by decide)) ?_
             refine JL.run (.yes rfl (ltB rfl) rfl hc7) (op_move lb (.tmp rfl)) ?_
             replace hx5 := lt1_inv hx5
             obtain ⟨v_17, hv_v_17, hx5⟩ := hx5
             refine JL.run (.yes rfl (ltB rfl) rfl hc7) (op_cmpI lb (.tmp rfl) (.tmp rfl) (congrArg some hv_v_17)) ?_
             refine jc (op_pickT lb (.tmp rfl) hc7 (.tmp rfl)) ?_
             refine JL.nil ?_
             replace hx5 := Option.some.inj hx5
             first | subst hx5 | clear hx5
             exact JQ.join () (Imp.norm (js := [0, 0]) rfl (.cons rfl (.cons rfl (.cons rfl (.cons rfl (.cons rfl (.cons rfl .nil)))))))
           · refine JL.skip (.no rfl (ltB rfl) rfl hc7) (fun d h => by cases h; exact ltB rfl) ?_
             refine JL.skip (.no rfl (ltB rfl) rfl hc7) (fun d h => by cases h; exact ltB rfl) ?_
             refine JL.skip (.no rfl (ltB rfl) rfl hc7) (fun d h => by cases h; exact ltB rfl) ?_
             refine JL.skip (.no rfl (ltB rfl) rfl hc7) (fun d h => by cases h; exact ltB rfl) ?_
             refine JL.skip (.no rfl (ltB rfl) rfl hc7) (fun d h => by cases h; exact ltB rfl) ?_
             refine JL.skip (.no rfl (ltB rfl) rfl hc7) (fun d h => by cases h; exact ltB rfl) ?_
             refine JL.skip (.no rfl (ltB rfl) rfl hc7) (fun d h => by cases h; exact ltB rfl) ?_
             refine JL.skip (.no rfl (ltB rfl) rfl hc7) (fun d h => by cases h; exact ltB rfl) ?_
             refine JL.skip (.no rfl (ltB rfl) rfl hc7) (fun d h => by cases h; exact ltB rfl) ?_
             refine JL.skip (.no rfl (ltB rfl) rfl hc7) (fun d h => by cases h; exact ltB rfl) ?_
             refine jc (op_pickF lb (.tmp rfl) hc7 .cB) ?_
             refine JL.nil ?_
             replace hx5 := Option.some.inj hx5
             first | subst hx5 | clear hx5
             exact JQ.join () (Imp.norm (js := [0, 0]) rfl (.cons rfl (.cons rfl (.cons rfl (.cons rfl (.cons rfl (.cons rfl .nil)))))))
     · refine JC.condF (.tmp rfl) hc3 ?_
       refine JC.exit ?_
       refine JQ.outX ?_
       replace hx := Option.some.inj hx
       first | subst hx | clear hx
       have ht := hr _ rfl
       have hq2 := congrArg some ht
       clear hr ht
       refine JQ.outX ?_
       refine JQ.here ?_
       replace hq2 := Option.some.inj hq2
       first | subst hq2 | clear hq2
       exact JQ.join () (Imp.norm (js := [0, 0]) rfl (.cons rfl .nil))

end Go.Proofs.Ytnadeehdnmgebaa
