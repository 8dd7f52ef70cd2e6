/- Walks. -/
import Derived.Test.YtnadeehdnmgebaaT
import Derived.Test.YtnadeehdnmgebaaW1
import Derived.Test.YtnadeehdnmgebaaW2
namespace Go.Proofs.Ytnadeehdnmgebaa
open Go Fw
set_option linter.unusedVariables false
set_option maxRecDepth 100000
set_option maxHeartbeats 4000000

theorem sim_net_Net_Take'2 (k : Nat) (place_1 : Int) (ends_2 : Int) (lost_3 : Int) (x_5 : (List (net_pair × (List (List UInt8))))) (gb_4 : Nat) (go_6 : Option Nat) (r : api_Flight × Int × (List (net_pair × (List (List UInt8))))) (hm : net_Net_Take'2 k place_1 ends_2 lost_3 x_5 = some r) : Sim Try.prog 15 [PTR gb_4 0, S (rI .i64) place_1] [cvar gb_4 (rP (rW (MPV go_6)) (rP (rI .i64) (rP (rI .i64) r0))) ((), (ends_2, (lost_3, ()))), cmap go_6 (A r_net_pair) (S (rL (rL (rU UInt8)))) (some x_5)] (γ := Unit) (fun q => [cvar gb_4 (rP (rW (MPV go_6)) (rP (rI .i64) (rP (rI .i64) r0))) ((), (ends_2, (lost_3, ()))), cmap go_6 (A r_net_pair) (S (rL (rL (rU UInt8)))) (some r.2.2)]) (fun q => .tup [.val (A r_api_Flight r.1), .val (S (rI .i64) r.2.1)]) := by
 unfold net_Net_Take'2 at hm
 refine Sim.of Try.func15 rfl rfl (Nat.le_of_ble_eq_true rfl) (fun e0 w0 => ?_)
 refine JC.at ⟨[(0, ov (PTR gb_4 0)), (1, ov (S (rI .i64) place_1))], [cvar gb_4 (rP (rW (MPV go_6)) (rP (rI .i64) (rP (rI .i64) r0))) ((), (ends_2, (lost_3, ()))), cmap go_6 (A r_net_pair) (S (rL (rL (rU UInt8)))) (some x_5)], []⟩ ?_
 refine JC.seq ?_
 refine JC.region ?_
 refine jx (op_boxW lb (.tmp rfl)) (fun q => ?_)
 obtain ⟨gb_7, hqq⟩ : ∃ z, z = q := ⟨_, rfl⟩
 subst hqq
 refine jx (op_boxS lb (.tmp rfl)) (fun q => ?_)
 obtain ⟨gb_8, hqq⟩ : ∃ z, z = q := ⟨_, rfl⟩
 subst hqq
 refine jx (op_alloc lb tZ36 zr36) (fun q => ?_)
 obtain ⟨gb_9, hqq⟩ : ∃ z, z = q := ⟨_, rfl⟩
 subst hqq
 refine jc (op_assign lb .cI) ?_
 refine JL.nil ?_
 refine JQ.then ?_
 refine JC.seq ?_
 refine JC.region ?_
 refine jc (op_loadW (j := 2) lb tS25 (.tmp rfl) rfl (Comp.self (rW (PTR gb_4 0)) ())) ?_
 refine jc (op_loadS (j := 3) lb tS3 (.tmp rfl) rfl (Comp.self (rI .i64) place_1) rfl rfl) ?_
 refine JL.sub ⟨[(2, ov (PTR gb_7 0)), (3, ov (PTR gb_8 0)), (4, ov (PTR gb_9 0)), (13, ov (PTR gb_4 0)), (14, ov (S (rI .i64) place_1))], [cvar gb_4 (rP (rW (MPV go_6)) (rP (rI .i64) (rP (rI .i64) r0))) ((), (ends_2, (lost_3, ()))), cmap go_6 (A r_net_pair) (S (rL (rL (rU UInt8)))) (some x_5), cvar gb_7 (rW (PTR gb_4 0)) (), cvar gb_8 (rI .i64) place_1, cvar gb_9 (rP (rI .i64) (rP (rI .i64) (rP (rW (HDR none 0 0 0)) r0))) ((0 : Int), ((0 : Int), ((), ())))], []⟩ (.cons rfl (.cons rfl (.cons rfl (.cons rfl (.cons rfl .nil))))) rfl rfl ?_
 replace hm := bnd_inv hm
 obtain ⟨⟨v_10, v_11⟩, hv_v_10, hm⟩ := hm
 refine jx (op_call (js := [0, 0]) ld cl14 (sim_net_Net_At k place_1 ends_2 lost_3 x_5 gb_4 go_6 (v_10, v_11) hv_v_10) .func (.cons (.tmp rfl) (.cons (.tmp rfl) .nil)) rfl) (fun _ => ?_)
 refine jc (op_move lb (.tmp rfl)) ?_
 refine jc (op_extract (i := 0) lb (.tmp rfl) rfl) ?_
 refine jc (op_extract (i := 1) lb (.tmp rfl) rfl) ?_
 refine jx (op_alloc lb tZ36 zr36) (fun q => ?_)
 obtain ⟨gb_12, hqq⟩ : ∃ z, z = q := ⟨_, rfl⟩
 subst hqq
 refine jc (op_storeA (j := 5) tA36 (.tmp rfl) (.tmp rfl) rfl (UpdR.self (by rfl)) rfl) ?_
 refine JL.sub ⟨[(2, ov (PTR gb_7 0)), (3, ov (PTR gb_8 0)), (4, ov (PTR gb_9 0)), (6, ov (PTR gb_12 0)), (17, ov (S (rI .i64) v_11))], [cvar gb_4 (rP (rW (MPV go_6)) (rP (rI .i64) (rP (rI .i64) r0))) ((), (ends_2, (lost_3, ()))), cmap go_6 (A r_net_pair) (S (rL (rL (rU UInt8)))) (some x_5), cvar gb_7 (rW (PTR gb_4 0)) (), cvar gb_8 (rI .i64) place_1, cvar gb_9 (rP (rI .i64) (rP (rI .i64) (rP (rW (HDR none 0 0 0)) r0))) ((0 : Int), ((0 : Int), ((), ()))), cvar gb_12 r_api_Flight v_10], []⟩ (.cons rfl (.cons rfl (.cons rfl (.cons rfl (.cons rfl .nil))))) rfl rfl ?_
 refine jc (op_assign lb (.tmp rfl)) ?_
 refine JL.nil ?_
 refine JQ.then ?_
 refine JC.seq ?_
 refine JC.seq ?_
 refine JC.region ?_
 refine jc (op_move lb (.tmp rfl)) ?_
 replace hm := lt1_inv hm
 obtain ⟨v_13, hv_v_13, hm⟩ := hm
 refine jc (op_cmpI lb (.tmp rfl) .cI (congrArg some hv_v_13)) ?_
 refine JL.nil ?_
 refine JQ.then ?_
 replace hm := iteB_inv hm
 rcases hm with ⟨hc1, hm⟩ | ⟨hc1, hm⟩
 · refine JC.condT (.tmp rfl) hc1 ?_
   refine JC.seq ?_
   refine JC.region ?_
   refine jc (op_loadA (j := 5) lb tA36 (.tmp rfl) rfl (Comp.self r_api_Flight v_10) rfl) ?_
   refine jc (op_move lb (.tmp rfl)) ?_
   refine jc (op_storeA (j := 4) tA36 (.tmp rfl) (.tmp rfl) rfl (UpdR.self (by rfl)) rfl) ?_
   refine jc (op_assign lb (.tmp rfl)) ?_
   refine JL.nil ?_
   refine JQ.then ?_
   refine JC.ret ?_
   refine JQ.outR ?_
   replace hm := Option.some.inj hm
   subst hm
   exact JQ.done (js := [0, 0]) (ss := [.val (A r_api_Flight v_10), .val (S (rI .i64) v_11)]) () (.inl rfl) (.nil rfl) rfl (.cons (.cellA (j := 4) tA36 rfl rfl) (.cons (.tmp rfl) .nil)) rfl rfl rfl
 · refine JC.condF (.tmp rfl) hc1 ?_
   refine JC.skip ?_
   refine JQ.then ?_
   refine JC.seq ?_
   refine JC.region ?_
   refine jc (op_fieldAddr (off := 0) lb tf36_0 (.tmp rfl)) ?_
   refine jc (op_loadS (j := 5) lb tS3 (.tmp rfl) rfl (Comp.trans (Comp.self r_api_Flight v_10) (comp_api_Flight_From v_10) (Nat.le_of_ble_eq_true rfl)) rfl rfl) ?_
   refine jc (op_fieldAddr (off := 1) lb tf36_1 (.tmp rfl)) ?_
   refine jc (op_loadS (j := 5) lb tS3 (.tmp rfl) rfl (Comp.trans (Comp.self r_api_Flight v_10) (comp_api_Flight_To v_10) (Nat.le_of_ble_eq_true rfl)) rfl rfl) ?_
   refine jc (op_build lb tZ60 zs60 tp60 (.S (off := 0) rfl (.tmp rfl) rfl ((UpdR.fst (UpdR.self (by rfl))).at (by rfl)) (.S (off := 1) rfl (.tmp rfl) rfl ((UpdR.snd (UpdR.fst (UpdR.self (by rfl)))).at (by rfl)) .nil)) rfl) ?_
   refine jx (op_alloc lb tZ60 zr60) (fun q => ?_)
   obtain ⟨gb_14, hqq⟩ : ∃ z, z = q := ⟨_, rfl⟩
   subst hqq
   refine jc (op_storeA (j := 6) tA60 (.tmp rfl) (.tmp rfl) rfl (UpdR.self (by rfl)) rfl) ?_
   refine JL.sub ⟨[(2, ov (PTR gb_7 0)), (3, ov (PTR gb_8 0)), (4, ov (PTR gb_9 0)), (6, ov (PTR gb_12 0)), (7, ov (S (rI .i64) v_11)), (8, ov (PTR gb_14 0))], [cvar gb_4 (rP (rW (MPV go_6)) (rP (rI .i64) (rP (rI .i64) r0))) ((), (ends_2, (lost_3, ()))), cmap go_6 (A r_net_pair) (S (rL (rL (rU UInt8)))) (some x_5), cvar gb_7 (rW (PTR gb_4 0)) (), cvar gb_8 (rI .i64) place_1, cvar gb_9 (rP (rI .i64) (rP (rI .i64) (rP (rW (HDR none 0 0 0)) r0))) ((0 : Int), ((0 : Int), ((), ()))), cvar gb_12 r_api_Flight v_10, cvar gb_14 (rP (rI .i64) (rP (rI .i64) r0)) (v_10.From, (v_10.To, ()))], []⟩ (.cons rfl (.cons rfl (.cons rfl (.cons rfl (.cons rfl (.cons rfl .nil)))))) rfl rfl ?_
   refine JL.nil ?_
   refine JQ.then ?_
   replace hm := bnd_inv hm
   obtain ⟨x_35, hx2, hq2⟩ := hm
   refine JC.seqJ (γ := Nat) (stj := fun q => ⟨[(4, ov (PTR gb_9 0)), (6, ov (PTR gb_12 0)), (7, ov (S (rI .i64) v_11))], [cvar gb_9 (rP (rI .i64) (rP (rI .i64) (rP (rW (HDR none 0 0 0)) r0))) ((0 : Int), ((0 : Int), ((), ()))), cvar gb_12 r_api_Flight v_10, cvar gb_4 (rP (rW (MPV go_6)) (rP (rI .i64) (rP (rI .i64) r0))) ((), (ends_2, (lost_3, ()))), cmap go_6 (A r_net_pair) (S (rL (rL (rU UInt8)))) (some x_35), cdef q], [q]⟩) (fun q => ?_) ?_
   · obtain ⟨gK_36, hqq⟩ : ∃ z, z = q := ⟨_, rfl⟩
     subst hqq
     refine JC.at ⟨[(4, ov (PTR gb_9 0)), (6, ov (PTR gb_12 0)), (7, ov (S (rI .i64) v_11))], [cvar gb_9 (rP (rI .i64) (rP (rI .i64) (rP (rW (HDR none 0 0 0)) r0))) ((0 : Int), ((0 : Int), ((), ()))), cvar gb_12 r_api_Flight v_10, cvar gb_4 (rP (rW (MPV go_6)) (rP (rI .i64) (rP (rI .i64) r0))) ((), (ends_2, (lost_3, ()))), cmap go_6 (A r_net_pair) (S (rL (rL (rU UInt8)))) (some x_35), cdef gK_36], [gK_36]⟩ ?_
     refine JC.seq ?_
     refine JC.region ?_
     refine jc (op_loadA (j := 1) lb tA36 (.tmp rfl) rfl (Comp.self r_api_Flight v_10) rfl) ?_
     refine jc (op_move lb (.tmp rfl)) ?_
     refine jc (op_storeA (j := 0) tA36 (.tmp rfl) (.tmp rfl) rfl (UpdR.self (by rfl)) rfl) ?_
     refine jc (op_assign lb (.tmp rfl)) ?_
     refine JL.nil ?_
     refine JQ.then ?_
     refine JC.ret ?_
     replace hq2 := Option.some.inj hq2
     subst hq2
     exact JQ.done (js := [2, 2]) (ss := [.val (A r_api_Flight v_10), .val (S (rI .i64) v_11)]) () (.inl rfl) (.cons (j := 4) rfl rfl (.nil rfl)) rfl (.cons (.cellA (j := 0) tA36 rfl rfl) (.cons (.tmp rfl) .nil)) rfl rfl rfl
   · refine JC.seq ?_
     refine JC.region ?_
     refine jc (op_loadW (j := 2) lb tS25 (.tmp rfl) rfl (Comp.self (rW (PTR gb_4 0)) ())) ?_
     replace hx2 := bnd_inv hx2
     obtain ⟨v_15, hv_v_15, hx2⟩ := hx2
     refine jx (op_call (js := [0, 0]) ld cl31 (sim_net_Net_All k ends_2 lost_3 x_5 gb_4 go_6 v_15 hv_v_15) .func (.cons (.tmp rfl) .nil) rfl) (fun q => ?_)
     obtain ⟨gb_16, go_17, gc_18⟩ := q
     refine JL.nil ?_
     refine JQ.then ?_
     refine JC.block ?_
     replace hx2 := bnd_inv hx2
     obtain ⟨tv3, hL3, hq3⟩ := hx2
     refine JC.pre (st' := ⟨[(2, ov (PTR gb_7 0)), (3, ov (PTR gb_8 0)), (4, ov (PTR gb_9 0)), (6, ov (PTR gb_12 0)), (7, ov (S (rI .i64) v_11)), (8, ov (PTR gb_14 0)), (28, ov (CLO 41 [PTR gb_16 0]))], [cvar gb_16 (rW (HDR go_17 0 (List.length v_15) gc_18)) (), cown go_17 r_api_Flight v_15 0 gc_18, cvar gb_7 (rW (PTR gb_4 0)) (), cvar gb_4 (rP (rW (MPV go_6)) (rP (rI .i64) (rP (rI .i64) r0))) ((), (ends_2, (lost_3, ()))), cmap go_6 (A r_net_pair) (S (rL (rL (rU UInt8)))) (some x_5), cvar gb_8 (rI .i64) place_1, cvar gb_9 (rP (rI .i64) (rP (rI .i64) (rP (rW (HDR none 0 0 0)) r0))) ((0 : Int), ((0 : Int), ((), ()))), cvar gb_12 r_api_Flight v_10, cvar gb_14 (rP (rI .i64) (rP (rI .i64) r0)) (v_10.From, (v_10.To, ()))], []⟩) (Imp.norm (js := [0, 0, 2, 0, 0, 0, 0, 0, 0]) rfl (.cons rfl (.cons rfl (.cons rfl (.cons rfl (.cons rfl (.cons rfl (.cons rfl .nil)))))))) ?_
     replace hx2 := hq3
     refine JC.rangeFunc (γ := Unit) (γ' := (Unit)) (r := tv3) (js := [0, 0]) (qf := fun g => g) (X' := fun g => [cvar gb_16 (rW (HDR go_17 0 (List.length v_15) gc_18)) (), cown go_17 r_api_Flight v_15 0 gc_18]) (sv := fun _ => .tup [])
         (fun (u : Int × api_Flight) (z : Unit) => [S (rI .i64) u.1, A r_api_Flight u.2]) (fun (u : Int × api_Flight) (z : Unit) => []) (fun (s : Unit) (u : Int × api_Flight) => net_Net_Take'2.y1 k v_10 place_1 x_5 u.1 u.2) (fun (s : Unit) q => [cvar gb_7 (rW (PTR gb_4 0)) (), cvar gb_4 (rP (rW (MPV go_6)) (rP (rI .i64) (rP (rI .i64) r0))) ((), (ends_2, (lost_3, ()))), cmap go_6 (A r_net_pair) (S (rL (rL (rU UInt8)))) (some x_5), cvar gb_8 (rI .i64) place_1, cvar gb_9 (rP (rI .i64) (rP (rI .i64) (rP (rW (HDR none 0 0 0)) r0))) ((0 : Int), ((0 : Int), ((), ()))), cvar gb_12 r_api_Flight v_10, cvar gb_14 (rP (rI .i64) (rP (rI .i64) r0)) (v_10.From, (v_10.To, ()))]) (fun (t : ((List (net_pair × (List (List UInt8)))))) q => [cvar gb_9 (rP (rI .i64) (rP (rI .i64) (rP (rW (HDR none 0 0 0)) r0))) ((0 : Int), ((0 : Int), ((), ()))), cvar gb_12 r_api_Flight v_10, cvar gb_4 (rP (rW (MPV go_6)) (rP (rI .i64) (rP (rI .i64) r0))) ((), (ends_2, (lost_3, ()))), cmap go_6 (A r_net_pair) (S (rL (rL (rU UInt8)))) (some t), cvar gb_7 (rW (PTR gb_4 0)) (), cvar gb_8 (rI .i64) place_1, cvar gb_14 (rP (rI .i64) (rP (rI .i64) r0)) (v_10.From, (v_10.To, ()))]) (fun (t : ((List (net_pair × (List (List UInt8)))))) => .exit 0) [(2, ov (PTR gb_7 0)), (3, ov (PTR gb_8 0)), (4, ov (PTR gb_9 0)), (6, ov (PTR gb_12 0)), (7, ov (S (rI .i64) v_11)), (8, ov (PTR gb_14 0))] () () rfl (.tmp rfl) cl41 rfl (.cons rfl (.cons rfl (.cons rfl (.cons rfl (.cons rfl (.cons rfl .nil)))))) (fun _ _ => rfl) (by decide) rfl ?_ (fun L C hY => sim_net_Net_All_1 k (fun (s : Unit) (u : Int × api_Flight) => net_Net_Take'2.y1 k v_10 place_1 x_5 u.1 u.2) (Sum.inl ()) v_15 () gb_16 go_17 gc_18 L C hY tv3 hL3) ?_ ?_
     · intro e1 w1 F1 L K lp s q u z y hx hlp
       obtain ⟨a_19, a_20⟩ := u
       change net_Net_Take'2.y1 k v_10 place_1 x_5 a_19 a_20 = some y at hx
       unfold net_Net_Take'2.y1 at hx
       refine JC.at ⟨[(29, ov (S (rI .i64) a_19)), (30, ov (A r_api_Flight a_20)), (2, ov (PTR gb_7 0)), (3, ov (PTR gb_8 0)), (4, ov (PTR gb_9 0)), (6, ov (PTR gb_12 0)), (7, ov (S (rI .i64) v_11)), (8, ov (PTR gb_14 0))], [cLK L K (.loop lp), cvar gb_7 (rW (PTR gb_4 0)) (), cvar gb_4 (rP (rW (MPV go_6)) (rP (rI .i64) (rP (rI .i64) r0))) ((), (ends_2, (lost_3, ()))), cmap go_6 (A r_net_pair) (S (rL (rL (rU UInt8)))) (some x_5), cvar gb_8 (rI .i64) place_1, cvar gb_9 (rP (rI .i64) (rP (rI .i64) (rP (rW (HDR none 0 0 0)) r0))) ((0 : Int), ((0 : Int), ((), ()))), cvar gb_12 r_api_Flight v_10, cvar gb_14 (rP (rI .i64) (rP (rI .i64) r0)) (v_10.From, (v_10.To, ()))], []⟩ ?_
       refine JC.seq ?_
       refine JC.region ?_
       refine jc (op_assign lb (.tmp rfl)) ?_
       refine JL.nil ?_
       refine JQ.then ?_
       refine JC.region ?_
       refine jx (op_alloc lb tZ36 zr36) (fun q => ?_)
       obtain ⟨gb_21, hqq⟩ : ∃ z, z = q := ⟨_, rfl⟩
       subst hqq
       refine jc (op_storeA (j := 8) tA36 (.tmp rfl) (.tmp rfl) rfl (UpdR.self (by rfl)) rfl) ?_
       refine JL.nil ?_
       refine JQ.begin (j := 0) hlp rfl ?_
       refine JC.block ?_
       replace hx := bnd_inv hx
       obtain ⟨x_24, hx4, hq4⟩ := hx
       refine JC.seqJ (γ := Unit) (stj := fun q => ⟨[(2, ov (PTR gb_7 0)), (3, ov (PTR gb_8 0)), (4, ov (PTR gb_9 0)), (6, ov (PTR gb_12 0)), (7, ov (S (rI .i64) v_11)), (8, ov (PTR gb_14 0)), (9, ov (S (rI .i64) a_19)), (42, ov (S rB x_24))], [cvar gb_7 (rW (PTR gb_4 0)) (), cvar gb_4 (rP (rW (MPV go_6)) (rP (rI .i64) (rP (rI .i64) r0))) ((), (ends_2, (lost_3, ()))), cmap go_6 (A r_net_pair) (S (rL (rL (rU UInt8)))) (some x_5), cvar gb_8 (rI .i64) place_1, cvar gb_9 (rP (rI .i64) (rP (rI .i64) (rP (rW (HDR none 0 0 0)) r0))) ((0 : Int), ((0 : Int), ((), ()))), cvar gb_12 r_api_Flight v_10, cvar gb_14 (rP (rI .i64) (rP (rI .i64) r0)) (v_10.From, (v_10.To, ())), cLK L K (.loop { lp with state := .busy })], []⟩) (fun q => ?_) ?_
       · obtain _ := q
         refine JC.at ⟨[(2, ov (PTR gb_7 0)), (3, ov (PTR gb_8 0)), (4, ov (PTR gb_9 0)), (6, ov (PTR gb_12 0)), (7, ov (S (rI .i64) v_11)), (8, ov (PTR gb_14 0)), (9, ov (S (rI .i64) a_19)), (42, ov (S rB x_24))], [cvar gb_7 (rW (PTR gb_4 0)) (), cvar gb_4 (rP (rW (MPV go_6)) (rP (rI .i64) (rP (rI .i64) r0))) ((), (ends_2, (lost_3, ()))), cmap go_6 (A r_net_pair) (S (rL (rL (rU UInt8)))) (some x_5), cvar gb_8 (rI .i64) place_1, cvar gb_9 (rP (rI .i64) (rP (rI .i64) (rP (rW (HDR none 0 0 0)) r0))) ((0 : Int), ((0 : Int), ((), ()))), cvar gb_12 r_api_Flight v_10, cvar gb_14 (rP (rI .i64) (rP (rI .i64) r0)) (v_10.From, (v_10.To, ())), cLK L K (.loop { lp with state := .busy })], []⟩ ?_
         replace hq4 := iteB_inv hq4
         rcases hq4 with ⟨hc7, hq4⟩ | ⟨hc7, hq4⟩
         · refine JC.condT (.tmp rfl) hc7 ?_
           refine JC.seq ?_
           refine JC.region ?_
           refine jc (op_loadS (j := 3) lb tS3 (.tmp rfl) rfl (Comp.self (rI .i64) place_1) rfl rfl) ?_
           refine jc (op_move lb (.tmp rfl)) ?_
           replace hq4 := lt1_inv hq4
           obtain ⟨v_25, hv_v_25, hq4⟩ := hq4
           refine jc (op_arI lb (.tmp rfl) (.tmp rfl) (congrArg some hv_v_25)) ?_
           refine jc (op_assign lb (.tmp rfl)) ?_
           refine JL.nil ?_
           refine JQ.then ?_
           refine JC.seq ?_
           replace hq4 := lt1_inv hq4
           obtain ⟨v_26, hv_v_26, hq4⟩ := hq4
           replace hq4 := bnd_inv hq4
           obtain ⟨v_27, hv_v_27, hq4⟩ := hq4
           replace hq4 := lt1_inv hq4
           obtain ⟨v_30, hv_v_30, hq4⟩ := hq4
           replace hq4 := bnd_inv hq4
           obtain ⟨v_31, hv_v_31, hq4⟩ := hq4
           replace hq4 := lt1_inv hq4
           obtain ⟨x_32, hv_x_32, hq4⟩ := hq4
           refine JC.anyE (kl := []) (kk := 0) (base := [(2, ov (PTR gb_7 0)), (4, ov (PTR gb_9 0)), (6, ov (PTR gb_12 0)), (7, ov (S (rI .i64) v_11)), (8, ov (PTR gb_14 0)), (11, ov (S (rI .i64) v_25))])
               (fs := fun γ => [⟨some 46, ov (PTR gb_4 0)⟩, ⟨some 47, ov (PTR gb_4 0)⟩, ⟨some 48, ov (PTR gb_4 (0 + 0))⟩, ⟨some 49, ov (MPV go_6)⟩, ⟨some 50, ov (A (rP (rI .i64) (rP (rI .i64) r0)) (v_10.From, (v_10.To, ())))⟩, ⟨some 51, ov (PTR gb_4 0)⟩, ⟨some 52, ov (PTR gb_4 0)⟩, ⟨some 53, ov (PTR gb_4 (0 + 0))⟩, ⟨some 54, ov (MPV go_6)⟩, ⟨some 55, ov (A (rP (rI .i64) (rP (rI .i64) r0)) (v_10.From, (v_10.To, ())))⟩, ⟨some 56, ov (S (rL (rL (rU UInt8))) v_26)⟩, ⟨some 57, ov (HDR (deo (γ 11 0)) 0 (List.length v_27) (γ 11 1))⟩, ⟨some 58, ov (S (rI .i64) v_25)⟩, ⟨some 59, ov (S (rI .i64) v_25)⟩, ⟨some 60, ov (S (rI .i64) v_30)⟩, ⟨some 61, ov (S (rL (rL (rU UInt8))) v_31)⟩, ⟨none, .one .any⟩])
               (rs := fun γ => [⟨cvar gb_7 (rW (PTR gb_4 0)) (), none, none, [0, 5]⟩, ⟨cvar gb_4 (rP (rW (MPV go_6)) (rP (rI .i64) (rP (rI .i64) r0))) ((), (ends_2, (lost_3, ()))), none, none, [3, 8]⟩, ⟨cmap go_6 (A r_net_pair) (S (rL (rL (rU UInt8)))) (some x_5), none, (some 16), [10]⟩, ⟨cvar gb_8 (rI .i64) place_1, none, none, []⟩, ⟨cvar gb_9 (rP (rI .i64) (rP (rI .i64) (rP (rW (HDR none 0 0 0)) r0))) ((0 : Int), ((0 : Int), ((), ()))), none, none, []⟩, ⟨cvar gb_12 r_api_Flight v_10, none, none, []⟩, ⟨cvar gb_14 (rP (rI .i64) (rP (rI .i64) r0)) (v_10.From, (v_10.To, ())), none, none, [4, 9]⟩, ⟨cLK L K (.loop { lp with state := .busy }), none, none, []⟩, ⟨cown (deo (γ 11 0)) (rL (rU UInt8)) v_27 0 (γ 11 1), (some 11), (some 15), []⟩, ⟨cmap go_6 (A r_net_pair) (S (rL (rL (rU UInt8)))) (some x_32), (some 16), none, []⟩])
               (ds := [46, 47, 48, 49, 50, 51, 52, 53, 54, 55, 56, 57, 58, 59, 60, 61]) (bs := [2, 4, 6, 7, 8, 11]) (afts := [[], [], [], [], [], [], [], [], [], [], [], [11, 15, 16], [], [], [], [], []]) (js := [0, 0, 0, 0, 0, 0, 0, 0]) mixed (.cons rfl (.cons rfl (.cons rfl (.cons rfl (.cons rfl (.cons rfl .nil)))))) (fun _ => rfl)
               (by
      refine DSteps.cons (j := 1) rfl (fun _ => rfl) (.run (fun γ ρ B hb hd => ⟨.none, OpStep.at ⟨ρ, (cvar gb_7 (rW (PTR gb_4 0)) ()) :: B, _⟩ (setO ⟨ρ, (cvar gb_7 (rW (PTR gb_4 0)) ()) :: B, _⟩ _ _) (op_loadW (j := 0) lb tS25 (.tmp (hb 2 _ rfl)) rfl (Comp.self (rW (PTR gb_4 0)) ()))⟩)) ?_
      refine dS 2 (fun γ ρ B hb hd => op_nilCheck lb (.tmp (hl hd 0 46 rfl)) (fun e v h => by subst h; rfl)) ?_
      refine dS 3 (fun γ ρ B hb hd => op_fieldAddr (off := 0) lb tf57_0 (.tmp (hl hd 1 47 rfl))) ?_
      refine DSteps.cons (j := 4) rfl (fun _ => rfl) (.run (fun γ ρ B hb hd => ⟨.none, OpStep.at ⟨ρ, (cvar gb_4 (rP (rW (MPV go_6)) (rP (rI .i64) (rP (rI .i64) r0))) ((), (ends_2, (lost_3, ())))) :: B, _⟩ (setO ⟨ρ, (cvar gb_4 (rP (rW (MPV go_6)) (rP (rI .i64) (rP (rI .i64) r0))) ((), (ends_2, (lost_3, ())))) :: B, _⟩ _ _) (op_loadW (j := 0) lb tS55 (.tmp (hl hd 2 48 rfl)) rfl (Comp.trans (Comp.self (rP (rW (MPV go_6)) (rP (rI .i64) (rP (rI .i64) r0))) ((), (ends_2, (lost_3, ())))) (Comp.at' (Comp.inF (Comp.self (rW (MPV go_6)) ()) (Nat.le_of_ble_eq_true rfl)) (by rfl : _ = 0)) (Nat.le_of_ble_eq_true rfl)))⟩)) ?_
      refine DSteps.cons (j := 5) rfl (fun _ => rfl) (.run (fun γ ρ B hb hd => ⟨.none, OpStep.at ⟨ρ, (cvar gb_14 (rP (rI .i64) (rP (rI .i64) r0)) (v_10.From, (v_10.To, ()))) :: B, _⟩ (setO ⟨ρ, (cvar gb_14 (rP (rI .i64) (rP (rI .i64) r0)) (v_10.From, (v_10.To, ()))) :: B, _⟩ _ _) (op_loadA (j := 0) lb tA60 (.tmp (hb 8 _ rfl)) rfl (Comp.self (rP (rI .i64) (rP (rI .i64) r0)) (v_10.From, (v_10.To, ()))) rfl)⟩)) ?_
      refine DSteps.cons (j := 6) rfl (fun _ => rfl) (.run (fun γ ρ B hb hd => ⟨.none, OpStep.at ⟨ρ, (cvar gb_7 (rW (PTR gb_4 0)) ()) :: B, _⟩ (setO ⟨ρ, (cvar gb_7 (rW (PTR gb_4 0)) ()) :: B, _⟩ _ _) (op_loadW (j := 0) lb tS25 (.tmp (hb 2 _ rfl)) rfl (Comp.self (rW (PTR gb_4 0)) ()))⟩)) ?_
      refine dS 7 (fun γ ρ B hb hd => op_nilCheck lb (.tmp (hl hd 5 51 rfl)) (fun e v h => by subst h; rfl)) ?_
      refine dS 8 (fun γ ρ B hb hd => op_fieldAddr (off := 0) lb tf57_0 (.tmp (hl hd 6 52 rfl))) ?_
      refine DSteps.cons (j := 9) rfl (fun _ => rfl) (.run (fun γ ρ B hb hd => ⟨.none, OpStep.at ⟨ρ, (cvar gb_4 (rP (rW (MPV go_6)) (rP (rI .i64) (rP (rI .i64) r0))) ((), (ends_2, (lost_3, ())))) :: B, _⟩ (setO ⟨ρ, (cvar gb_4 (rP (rW (MPV go_6)) (rP (rI .i64) (rP (rI .i64) r0))) ((), (ends_2, (lost_3, ())))) :: B, _⟩ _ _) (op_loadW (j := 0) lb tS55 (.tmp (hl hd 7 53 rfl)) rfl (Comp.trans (Comp.self (rP (rW (MPV go_6)) (rP (rI .i64) (rP (rI .i64) r0))) ((), (ends_2, (lost_3, ())))) (Comp.at' (Comp.inF (Comp.self (rW (MPV go_6)) ()) (Nat.le_of_ble_eq_true rfl)) (by rfl : _ = 0)) (Nat.le_of_ble_eq_true rfl)))⟩)) ?_
      refine DSteps.cons (j := 10) rfl (fun _ => rfl) (.run (fun γ ρ B hb hd => ⟨.none, OpStep.at ⟨ρ, (cvar gb_14 (rP (rI .i64) (rP (rI .i64) r0)) (v_10.From, (v_10.To, ()))) :: B, _⟩ (setO ⟨ρ, (cvar gb_14 (rP (rI .i64) (rP (rI .i64) r0)) (v_10.From, (v_10.To, ()))) :: B, _⟩ _ _) (op_loadA (j := 0) lb tA60 (.tmp (hb 8 _ rfl)) rfl (Comp.self (rP (rI .i64) (rP (rI .i64) r0)) (v_10.From, (v_10.To, ()))) rfl)⟩)) ?_
      refine DSteps.cons (j := 11) rfl (fun _ => rfl) (.run (fun γ ρ B hb hd => ⟨.none, OpStep.at ⟨ρ, (cmap go_6 (A r_net_pair) (S (rL (rL (rU UInt8)))) (some x_5)) :: B, _⟩ (setO ⟨ρ, (cmap go_6 (A r_net_pair) (S (rL (rL (rU UInt8)))) (some x_5)) :: B, _⟩ _ _) (op_lookup (z0 := ([] : (List (List UInt8)))) (j := 0) lb tu55 ky60 tZ58 (fun e => zv58 e) rfl (.tmp (hl hd 8 54 rfl)) (HasO.wk (q := A r_net_pair (net_pair.mk v_10.From v_10.To)) (.tmp (hl hd 9 55 rfl)) (wkAK (Wk.st Wk.refl))) hv_v_26)⟩)) ?_
      refine DSteps.cons (j := 12) rfl (fun _ => rfl) (.runX (fun _ _ => rfl) (fun γ ρ B hb hd => ⟨.none, OpX.ghost (γ := Option Nat × Nat) (st' := fun q => setO ⟨ρ, (cown q.1 (rL (rU UInt8)) v_27 0 q.2) :: B, _⟩ (some 57) (ov (HDR q.1 0 (List.length v_27) q.2))) (fun q c => bif Nat.beq c 0 then eno q.1 else q.2) (op_call (js := []) ld cl33 (sim_slices_Clonebyte_byte'2 k v_26 v_27 hv_v_27) .func (.cons (.tmp (hl hd 10 56 rfl)) .nil) rfl) (fun q => by obtain ⟨q0, q1⟩ := q; cases q0 <;> exact Imp.refl)⟩) (fun _ _ => rfl) (fun _ _ => rfl)) ?_
      refine dS 13 (fun γ ρ B hb hd => op_move lb (.tmp (hb 11 _ rfl))) ?_
      refine dS 14 (fun γ ρ B hb hd => op_move lb (.tmp (hb 11 _ rfl))) ?_
      refine dS 15 (fun γ ρ B hb hd => op_arI lb (.tmp (hl hd 13 59 rfl)) .cI (congrArg some hv_v_30)) ?_
      refine DSteps.cons (j := 16) rfl (fun _ => rfl) (.run (fun γ ρ B hb hd => ⟨.none, OpStep.at ⟨ρ, (cown (deo (γ 11 0)) (rL (rU UInt8)) v_27 0 (γ 11 1)) :: B, _⟩ (setO ⟨ρ, B, _⟩ _ _) ((op_call (js := [0]) ld cl32 (sim_slices_Deletebyte_byte'2 k v_25 v_30 v_27 (deo (γ 11 0)) (γ 11 1) v_31 hv_v_31) .func (.cons (.tmp (hl hd 11 57 rfl)) (.cons (.tmp (hl hd 12 58 rfl)) (.cons (.tmp (hl hd 14 60 rfl)) .nil))) rfl).post (fun q => Imp.dropE (j := 0) rfl))⟩)) ?_
      refine DSteps.cons (j := 17) rfl (fun _ => rfl) (.run (fun γ ρ B hb hd => ⟨.none, OpStep.at ⟨ρ, (cmap go_6 (A r_net_pair) (S (rL (rL (rU UInt8)))) (some x_5)) :: B, _⟩ (setO ⟨ρ, (cmap go_6 (A r_net_pair) (S (rL (rL (rU UInt8)))) (some x_32)) :: B, _⟩ _ _) (op_mapUpdate (j := 0) tu55 ky60 rfl (.tmp (hl hd 3 49 rfl)) (HasO.wk (q := A r_net_pair (net_pair.mk v_10.From v_10.To)) (.tmp (hl hd 4 50 rfl)) (wkAK (Wk.st Wk.refl))) (.tmp (hl hd 15 61 rfl)) (congrArg (fun z => some (some z)) hv_x_32))⟩)) ?_
      exact DSteps.nil)
               (by decide +kernel) (fun _ => rfl) rfl (fun _ => rfl) (fun _ => rfl) rfl (by decide) (by decide) (by decide +kernel) (fun _ d h => by cases h)
               (ρ' := fun γ => [(4, ov (PTR gb_9 0)), (6, ov (PTR gb_12 0)), (7, ov (S (rI .i64) v_11))])
               (X' := fun γ => [cvar gb_7 (rW (PTR gb_4 0)) (), cvar gb_4 (rP (rW (MPV go_6)) (rP (rI .i64) (rP (rI .i64) r0))) ((), (ends_2, (lost_3, ()))), cvar gb_8 (rI .i64) place_1, cvar gb_9 (rP (rI .i64) (rP (rI .i64) (rP (rW (HDR none 0 0 0)) r0))) ((0 : Int), ((0 : Int), ((), ()))), cvar gb_12 r_api_Flight v_10, cvar gb_14 (rP (rI .i64) (rP (rI .i64) r0)) (v_10.From, (v_10.To, ())), cLK L K (.loop { lp with state := .busy }), cmap go_6 (A r_net_pair) (S (rL (rL (rU UInt8)))) (some x_32)])
               (fun γ ρ hb hd => (.cons (hb 4 _ rfl (by decide)) (.cons (hb 6 _ rfl (by decide)) (.cons (hb 7 _ rfl (by decide)) .nil)))) (fun _ => rfl) (fun γ => ?_)
           generalize (deo (γ 11 0)) = go_28
           generalize (γ 11 1) = gc_29
           clear γ
           refine JQ.at ⟨[(4, ov (PTR gb_9 0)), (6, ov (PTR gb_12 0)), (7, ov (S (rI .i64) v_11))], [cvar gb_7 (rW (PTR gb_4 0)) (), cvar gb_4 (rP (rW (MPV go_6)) (rP (rI .i64) (rP (rI .i64) r0))) ((), (ends_2, (lost_3, ()))), cvar gb_8 (rI .i64) place_1, cvar gb_9 (rP (rI .i64) (rP (rI .i64) (rP (rW (HDR none 0 0 0)) r0))) ((0 : Int), ((0 : Int), ((), ()))), cvar gb_12 r_api_Flight v_10, cvar gb_14 (rP (rI .i64) (rP (rI .i64) r0)) (v_10.From, (v_10.To, ())), cLK L K (.loop { lp with state := .busy }), cmap go_6 (A r_net_pair) (S (rL (rL (rU UInt8)))) (some x_32)], []⟩ ?_
           refine JQ.then ?_
           refine JC.exit ?_
           refine JQ.outE (by decide) ?_
           exact JQ.rexit () (Option.some.inj hq4).symm rfl (Imp.norm (js := [6, 3, 3, 1, 3, 0, 0, 0]) rfl .nil)
         · refine JC.condF (.tmp rfl) hc7 ?_
           refine JC.skip ?_
           refine JQ.outNB ?_
           exact JQ.rnext () (Option.some.inj hq4).symm (Imp.norm (js := [7, 0, 0, 0, 0, 0, 0, 0]) rfl .nil)
       · refine JC.region ?_
         refine jc (op_fieldAddr (off := 0) lb tf36_0 (.tmp rfl)) ?_
         refine jc (op_loadS (j := 8) lb tS3 (.tmp rfl) rfl (Comp.trans (Comp.self r_api_Flight a_20) (comp_api_Flight_From a_20) (Nat.le_of_ble_eq_true rfl)) rfl rfl) ?_
         refine jc (op_fieldAddr (off := 0) lb tf60_0 (.tmp rfl)) ?_
         refine jc (op_loadS (j := 7) lb tS3 (.tmp rfl) rfl (Comp.trans (Comp.self (rP (rI .i64) (rP (rI .i64) r0)) (v_10.From, (v_10.To, ()))) (Comp.at' (Comp.inF (Comp.self (rI .i64) v_10.From) (Nat.le_of_ble_eq_true rfl)) (by rfl : _ = 0)) (Nat.le_of_ble_eq_true rfl)) rfl rfl) ?_
         replace hx4 := lt1_inv hx4
         obtain ⟨v_22, hv_v_22, hx4⟩ := hx4
         refine jc (op_cmpI lb (.tmp rfl) (.tmp rfl) (congrArg some hv_v_22)) ?_
         refine JL.sub ⟨[(2, ov (PTR gb_7 0)), (3, ov (PTR gb_8 0)), (4, ov (PTR gb_9 0)), (6, ov (PTR gb_12 0)), (7, ov (S (rI .i64) v_11)), (8, ov (PTR gb_14 0)), (9, ov (S (rI .i64) a_19)), (10, ov (PTR gb_21 0)), (35, ov (S rB v_22))], [cLK L K (.loop { lp with state := .busy }), cvar gb_7 (rW (PTR gb_4 0)) (), cvar gb_4 (rP (rW (MPV go_6)) (rP (rI .i64) (rP (rI .i64) r0))) ((), (ends_2, (lost_3, ()))), cmap go_6 (A r_net_pair) (S (rL (rL (rU UInt8)))) (some x_5), cvar gb_8 (rI .i64) place_1, cvar gb_9 (rP (rI .i64) (rP (rI .i64) (rP (rW (HDR none 0 0 0)) r0))) ((0 : Int), ((0 : Int), ((), ()))), cvar gb_12 r_api_Flight v_10, cvar gb_14 (rP (rI .i64) (rP (rI .i64) r0)) (v_10.From, (v_10.To, ())), cvar gb_21 r_api_Flight a_20], []⟩ (.cons rfl (.cons rfl (.cons rfl (.cons rfl (.cons rfl (.cons rfl (.cons rfl (.cons rfl (.cons rfl .nil))))))))) rfl rfl ?_
         refine jc (op_move lb (.tmp rfl)) ?_
         replace hx4 := iteB_inv hx4
         rcases hx4 with ⟨hc6, hx4⟩ | ⟨hc6, hx4⟩
         · refine JL.run (.yes rfl (ltB rfl) rfl hc6) (op_fieldAddr (off := 1) lb tf36_1 (.tmp rfl)) ?_
           refine JL.run (.yes rfl (ltB rfl) rfl hc6) (op_loadS (j := 8) lb tS3 (.tmp rfl) rfl (Comp.trans (Comp.self r_api_Flight a_20) (comp_api_Flight_To a_20) (Nat.le_of_ble_eq_true rfl)) rfl rfl) ?_
           refine JL.run (.yes rfl (ltB rfl) rfl hc6) (op_fieldAddr (off := 1) lb tf60_1 (.tmp rfl)) ?_
           refine JL.run (.yes rfl (ltB rfl) rfl hc6) (op_loadS (j := 7) lb tS3 (.tmp rfl) rfl (Comp.trans (Comp.self (rP (rI .i64) (rP (rI .i64) r0)) (v_10.From, (v_10.To, ()))) (Comp.at' (Comp.inS (Comp.inF (Comp.self (rI .i64) v_10.To) (Nat.le_of_ble_eq_true rfl))) (by rfl : _ = 1)) (Nat.le_of_ble_eq_true rfl)) rfl rfl) ?_
           replace hx4 := lt1_inv hx4
           obtain ⟨v_23, hv_v_23, hx4⟩ := hx4
           refine JL.run (.yes rfl (ltB rfl) rfl hc6) (op_cmpI lb (.tmp rfl) (.tmp rfl) (congrArg some hv_v_23)) ?_
           refine jc (op_pickT lb (.tmp rfl) hc6 (.tmp rfl)) ?_
           refine JL.nil ?_
           replace hx4 := Option.some.inj hx4
           first | subst hx4 | clear hx4
           exact JQ.join () (Imp.norm (js := [1, 1, 1, 1, 1, 1, 1, 0]) rfl (.cons rfl (.cons rfl (.cons rfl (.cons rfl (.cons rfl (.cons rfl (.cons rfl (.cons rfl .nil)))))))))
         · refine JL.skip (.no rfl (ltB rfl) rfl hc6) (fun d h => by cases h; exact ltB rfl) ?_
           refine JL.skip (.no rfl (ltB rfl) rfl hc6) (fun d h => by cases h; exact ltB rfl) ?_
           refine JL.skip (.no rfl (ltB rfl) rfl hc6) (fun d h => by cases h; exact ltB rfl) ?_
           refine JL.skip (.no rfl (ltB rfl) rfl hc6) (fun d h => by cases h; exact ltB rfl) ?_
           refine JL.skip (.no rfl (ltB rfl) rfl hc6) (fun d h => by cases h; exact ltB rfl) ?_
           refine jc (op_pickF lb (.tmp rfl) hc6 .cB) ?_
           refine JL.nil ?_
           replace hx4 := Option.some.inj hx4
           first | subst hx4 | clear hx4
           exact JQ.join () (Imp.norm (js := [1, 1, 1, 1, 1, 1, 1, 0]) rfl (.cons rfl (.cons rfl (.cons rfl (.cons rfl (.cons rfl (.cons rfl (.cons rfl (.cons rfl .nil)))))))))
     · intro s gK_33 gq0 hr
       obtain ⟨gq3, hgq⟩ : ∃ z, z = gq0 := ⟨_, rfl⟩
       subst hr
       dsimp only at hx2
       simp only [← hgq]
       refine JQ.pre (st' := ⟨[(2, ov (PTR gb_7 0)), (3, ov (PTR gb_8 0)), (4, ov (PTR gb_9 0)), (6, ov (PTR gb_12 0)), (7, ov (S (rI .i64) v_11)), (8, ov (PTR gb_14 0))], [cdef gK_33, cvar gb_7 (rW (PTR gb_4 0)) (), cvar gb_4 (rP (rW (MPV go_6)) (rP (rI .i64) (rP (rI .i64) r0))) ((), (ends_2, (lost_3, ()))), cmap go_6 (A r_net_pair) (S (rL (rL (rU UInt8)))) (some x_5), cvar gb_8 (rI .i64) place_1, cvar gb_9 (rP (rI .i64) (rP (rI .i64) (rP (rW (HDR none 0 0 0)) r0))) ((0 : Int), ((0 : Int), ((), ()))), cvar gb_12 r_api_Flight v_10, cvar gb_14 (rP (rI .i64) (rP (rI .i64) r0)) (v_10.From, (v_10.To, ()))], [gK_33]⟩) (Imp.norm (js := [0, 0, 0, 0, 0, 0, 0, 0]) rfl (.cons rfl (.cons rfl (.cons rfl (.cons rfl (.cons rfl (.cons rfl .nil))))))) ?_
       refine JQ.outNB ?_
       replace hx2 := Option.some.inj hx2
       first | subst hx2 | clear hx2
       exact JQ.join gK_33 (Imp.norm (js := [5, 5, 2, 2, 0]) rfl (.cons rfl (.cons rfl (.cons rfl .nil))))
     · intro u gK_33 gq0 hr
       obtain ⟨gq3, hgq⟩ : ∃ z, z = gq0 := ⟨_, rfl⟩
       obtain ⟨x_34, hvv⟩ : ∃ z, z = u := ⟨_, rfl⟩
       subst hvv
       subst hr
       dsimp only at hx2
       simp only [← hgq]
       refine JC.pre (st' := ⟨[(4, ov (PTR gb_9 0)), (6, ov (PTR gb_12 0)), (7, ov (S (rI .i64) v_11))], [cdef gK_33, cvar gb_9 (rP (rI .i64) (rP (rI .i64) (rP (rW (HDR none 0 0 0)) r0))) ((0 : Int), ((0 : Int), ((), ()))), cvar gb_12 r_api_Flight v_10, cvar gb_4 (rP (rW (MPV go_6)) (rP (rI .i64) (rP (rI .i64) r0))) ((), (ends_2, (lost_3, ()))), cmap go_6 (A r_net_pair) (S (rL (rL (rU UInt8)))) (some x_34), cvar gb_7 (rW (PTR gb_4 0)) (), cvar gb_8 (rI .i64) place_1, cvar gb_14 (rP (rI .i64) (rP (rI .i64) r0)) (v_10.From, (v_10.To, ()))], [gK_33]⟩) (Imp.norm (js := [0, 0, 0, 0, 0, 0, 0, 0]) rfl (.cons rfl (.cons rfl (.cons rfl .nil)))) ?_
       refine JC.exit (id := 0) ?_
       refine JQ.here ?_
       replace hx2 := Option.some.inj hx2
       first | subst hx2 | clear hx2
       exact JQ.join gK_33 (Imp.norm (js := [1, 1, 1, 1, 0]) rfl (.cons rfl (.cons rfl (.cons rfl .nil))))

theorem sim_ref12_Same (k : Nat) (a_1 : api_Flight) (b_2 : api_Flight) (r : Bool) (hm : ref12_Same k a_1 b_2 = some r) : Sim Try.prog 17 [A r_api_Flight a_1, A r_api_Flight b_2] [] (γ := Unit) (fun q => []) (fun q => .one (.val (S rB r))) := by
 unfold ref12_Same at hm
 refine Sim.of Try.func17 rfl rfl (Nat.le_of_ble_eq_true rfl) (fun e0 w0 => ?_)
 refine JC.at ⟨[(0, ov (A r_api_Flight a_1)), (1, ov (A r_api_Flight b_2))], [], []⟩ ?_
 refine JC.seq ?_
 refine JC.region ?_
 refine jx (op_boxA lb (.tmp rfl)) (fun q => ?_)
 obtain ⟨gb_3, hqq⟩ : ∃ z, z = q := ⟨_, rfl⟩
 subst hqq
 refine jx (op_boxA lb (.tmp rfl)) (fun q => ?_)
 obtain ⟨gb_4, hqq⟩ : ∃ z, z = q := ⟨_, rfl⟩
 subst hqq
 refine jc (op_assign lb .cB) ?_
 refine JL.nil ?_
 refine JQ.then ?_
 replace hm := bnd_inv hm
 obtain ⟨x_8, hx1, hq1⟩ := hm
 refine JC.seqJ (γ := Unit) (stj := fun q => ⟨[(4, ov (S rB x_8))], [], []⟩) (fun q => ?_) ?_
 · obtain _ := q
   refine JC.at ⟨[(4, ov (S rB x_8))], [], []⟩ ?_
   refine JC.ret ?_
   replace hq1 := Option.some.inj hq1
   subst hq1
   exact JQ.done (js := []) (ss := [.val (S rB x_8)]) () (.inl rfl) (.nil rfl) rfl (.cons (.tmp rfl) .nil) rfl rfl rfl
 · refine JC.region ?_
   refine jc (op_fieldAddr (off := 0) lb tf36_0 (.tmp rfl)) ?_
   refine jc (op_loadS (j := 0) lb tS3 (.tmp rfl) rfl (Comp.trans (Comp.self r_api_Flight a_1) (comp_api_Flight_From a_1) (Nat.le_of_ble_eq_true rfl)) rfl rfl) ?_
   refine jc (op_fieldAddr (off := 0) lb tf36_0 (.tmp rfl)) ?_
   refine jc (op_loadS (j := 1) lb tS3 (.tmp rfl) rfl (Comp.trans (Comp.self r_api_Flight b_2) (comp_api_Flight_From b_2) (Nat.le_of_ble_eq_true rfl)) rfl rfl) ?_
   replace hx1 := lt1_inv hx1
   obtain ⟨v_5, hv_v_5, hx1⟩ := hx1
   refine jc (op_cmpI lb (.tmp rfl) (.tmp rfl) (congrArg some hv_v_5)) ?_
   refine JL.sub ⟨[(2, ov (PTR gb_3 0)), (3, ov (PTR gb_4 0)), (4, ov (S rB false)), (9, ov (S rB v_5))], [cvar gb_3 r_api_Flight a_1, cvar gb_4 r_api_Flight b_2], []⟩ (.cons rfl (.cons rfl (.cons rfl (.cons rfl .nil)))) rfl rfl ?_
   refine jc (op_move lb (.tmp rfl)) ?_
   replace hx1 := iteB_inv hx1
   rcases hx1 with ⟨hc3, hx1⟩ | ⟨hc3, hx1⟩
   · refine JL.run (.yes rfl (ltB rfl) rfl hc3) (op_fieldAddr (off := 1) lb tf36_1 (.tmp rfl)) ?_
     refine JL.run (.yes rfl (ltB rfl) rfl hc3) (op_loadS (j := 0) lb tS3 (.tmp rfl) rfl (Comp.trans (Comp.self r_api_Flight a_1) (comp_api_Flight_To a_1) (Nat.le_of_ble_eq_true rfl)) rfl rfl) ?_
     refine JL.run (.yes rfl (ltB rfl) rfl hc3) (op_fieldAddr (off := 1) lb tf36_1 (.tmp rfl)) ?_
     refine JL.run (.yes rfl (ltB rfl) rfl hc3) (op_loadS (j := 1) lb tS3 (.tmp rfl) rfl (Comp.trans (Comp.self r_api_Flight b_2) (comp_api_Flight_To b_2) (Nat.le_of_ble_eq_true rfl)) rfl rfl) ?_
     replace hx1 := lt1_inv hx1
     obtain ⟨v_6, hv_v_6, hx1⟩ := hx1
     refine JL.run (.yes rfl (ltB rfl) rfl hc3) (op_cmpI lb (.tmp rfl) (.tmp rfl) (congrArg some hv_v_6)) ?_
     refine jc (op_pickT lb (.tmp rfl) hc3 (.tmp rfl)) ?_
     refine jc (op_move lb (.tmp rfl)) ?_
     replace hx1 := iteB_inv hx1
     rcases hx1 with ⟨hc5, hx1⟩ | ⟨hc5, hx1⟩
     · refine JL.run (.yes rfl (ltB rfl) rfl hc5) (op_fieldAddr (off := 2) lb tf36_2 (.tmp rfl)) ?_
       refine JL.run (.yes rfl (ltB rfl) rfl hc5) (op_loadS (j := 0) lb tS31 (.tmp rfl) rfl (Comp.trans (Comp.self r_api_Flight a_1) (comp_api_Flight_Bytes a_1) (Nat.le_of_ble_eq_true rfl)) rfl rfl) ?_
       refine JL.run (.yes rfl (ltB rfl) rfl hc5) (op_convBS lb tu31 tu5 tu9 (.tmp rfl)) ?_
       refine JL.run (.yes rfl (ltB rfl) rfl hc5) (op_fieldAddr (off := 2) lb tf36_2 (.tmp rfl)) ?_
       refine JL.nrm ⟨[(4, ov (S rB false)), (17, ov (S rB v_6)), (20, ov (S rS a_1.Bytes)), (21, ov (PTR gb_4 (0 + 2)))], [cvar gb_4 r_api_Flight b_2], []⟩ [1] rfl (.cons rfl (.cons rfl (.cons rfl (.cons rfl .nil)))) rfl ?_
       refine JL.run (.yes rfl (ltB rfl) rfl hc5) (op_loadS (j := 0) lb tS31 (.tmp rfl) rfl (Comp.trans (Comp.self r_api_Flight b_2) (comp_api_Flight_Bytes b_2) (Nat.le_of_ble_eq_true rfl)) rfl rfl) ?_
       refine JL.run (.yes rfl (ltB rfl) rfl hc5) (op_convBS lb tu31 tu5 tu9 (.tmp rfl)) ?_
       replace hx1 := lt1_inv hx1
       obtain ⟨v_7, hv_v_7, hx1⟩ := hx1
       refine JL.run (.yes rfl (ltB rfl) rfl hc5) (op_cmpS lb (.tmp rfl) (.tmp rfl) (congrArg some hv_v_7)) ?_
       refine jc (op_pickT lb (.tmp rfl) hc5 (.tmp rfl)) ?_
       refine jc (op_assign lb (.tmp rfl)) ?_
       refine JL.nil ?_
       replace hx1 := Option.some.inj hx1
       first | subst hx1 | clear hx1
       exact JQ.join () (Imp.norm (js := []) rfl (.cons rfl .nil))
     · refine JL.skip (.no rfl (ltB rfl) rfl hc5) (fun d h => by cases h; exact ltB rfl) ?_
       refine JL.skip (.no rfl (ltB rfl) rfl hc5) (fun d h => by cases h; exact ltB rfl) ?_
       refine JL.skip (.no rfl (ltB rfl) rfl hc5) (fun d h => by cases h; exact ltB rfl) ?_
       refine JL.skip (.no rfl (ltB rfl) rfl hc5) (fun d h => by cases h; exact ltB rfl) ?_
       refine JL.skip (.no rfl (ltB rfl) rfl hc5) (fun d h => by cases h; exact ltB rfl) ?_
       refine JL.skip (.no rfl (ltB rfl) rfl hc5) (fun d h => by cases h; exact ltB rfl) ?_
       refine JL.skip (.no rfl (ltB rfl) rfl hc5) (fun d h => by cases h; exact ltB rfl) ?_
       refine jc (op_pickF lb (.tmp rfl) hc5 .cB) ?_
       refine jc (op_assign lb (.tmp rfl)) ?_
       refine JL.nil ?_
       replace hx1 := Option.some.inj hx1
       first | subst hx1 | clear hx1
       exact JQ.join () (Imp.norm (js := []) rfl (.cons rfl .nil))
   · refine JL.skip (.no rfl (ltB rfl) rfl hc3) (fun d h => by cases h; exact ltB rfl) ?_
     refine JL.skip (.no rfl (ltB rfl) rfl hc3) (fun d h => by cases h; exact ltB rfl) ?_
     refine JL.skip (.no rfl (ltB rfl) rfl hc3) (fun d h => by cases h; exact ltB rfl) ?_
     refine JL.skip (.no rfl (ltB rfl) rfl hc3) (fun d h => by cases h; exact ltB rfl) ?_
     refine JL.skip (.no rfl (ltB rfl) rfl hc3) (fun d h => by cases h; exact ltB rfl) ?_
     refine jc (op_pickF lb (.tmp rfl) hc3 .cB) ?_
     refine jc (op_move lb (.tmp rfl)) ?_
     refine JL.skip (.no rfl (ltB rfl) rfl rfl) (fun d h => by cases h; exact ltB rfl) ?_
     refine JL.skip (.no rfl (ltB rfl) rfl rfl) (fun d h => by cases h; exact ltB rfl) ?_
     refine JL.skip (.no rfl (ltB rfl) rfl rfl) (fun d h => by cases h; exact ltB rfl) ?_
     refine JL.skip (.no rfl (ltB rfl) rfl rfl) (fun d h => by cases h; exact ltB rfl) ?_
     refine JL.skip (.no rfl (ltB rfl) rfl rfl) (fun d h => by cases h; exact ltB rfl) ?_
     refine JL.skip (.no rfl (ltB rfl) rfl rfl) (fun d h => by cases h; exact ltB rfl) ?_
     refine JL.skip (.no rfl (ltB rfl) rfl rfl) (fun d h => by cases h; exact ltB rfl) ?_
     refine jc (op_pickF lb (.tmp rfl) rfl .cB) ?_
     refine jc (op_assign lb (.tmp rfl)) ?_
     refine JL.nil ?_
     replace hx1 := Option.some.inj hx1
     first | subst hx1 | clear hx1
     exact JQ.join () (Imp.norm (js := []) rfl (.cons rfl .nil))

end Go.Proofs.Ytnadeehdnmgebaa
