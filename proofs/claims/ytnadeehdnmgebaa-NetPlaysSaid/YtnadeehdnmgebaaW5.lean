/- Walks. -/
import Derived.Test.YtnadeehdnmgebaaT
import Derived.Test.YtnadeehdnmgebaaW0
import Derived.Test.YtnadeehdnmgebaaW1
import Derived.Test.YtnadeehdnmgebaaW2
import Derived.Test.YtnadeehdnmgebaaW3
import Derived.Test.YtnadeehdnmgebaaW4
namespace Go.Proofs.Ytnadeehdnmgebaa
open Go Fw
set_option linter.unusedVariables false
set_option maxRecDepth 100000
set_option maxHeartbeats 4000000

theorem sim_law12_known'2 (k : Nat) (r : Bool) (hm : law12_known'2 k = some r) : Sim Try.prog 9 [] [] (γ := Unit) (fun q => []) (fun q => .one (.val (S rB r))) := by
 unfold law12_known'2 at hm
 refine Sim.of Try.func9 rfl rfl (Nat.le_of_ble_eq_true rfl) (fun e0 w0 => ?_)
 refine JC.at ⟨[], [], []⟩ ?_
 refine JC.seq ?_
 refine JC.region ?_
 refine jc (op_assign lb .cB) ?_
 refine JL.nil ?_
 refine JQ.then ?_
 refine JC.seq ?_
 refine JC.region ?_
 replace hm := bnd_inv hm
 obtain ⟨ts1, hs1, hm⟩ := hm
 rcases ts1 with ts1 | ts1
 · obtain _ := ts1
   dsimp only at hm
   refine jx (op_call (js := []) ld cl11 (sim_net_New_v0 k (3 : Int) () hs1) .func (.cons .cI .nil) rfl) (fun q => ?_)
   obtain ⟨gb_1, go_2⟩ := q
   refine jc (op_move lb (.tmp rfl)) ?_
   refine jc (op_extract (i := 0) lb (.tmp rfl) rfl) ?_
   refine jc (op_extract (i := 1) lb (.tmp rfl) rfl) ?_
   refine jc (op_assign lb (.tmp rfl)) ?_
   refine jc (op_assign lb (.tmp rfl)) ?_
   refine JL.nil ?_
   refine JQ.then ?_
   refine JC.seq ?_
   replace hm := bnd_inv hm
   obtain ⟨⟨x_23, lost_24, x_25⟩, hx2, hq2⟩ := hm
   refine JC.seqJ (γ := Unit) (stj := fun q => ⟨[(1, ov (PTR gb_1 0)), (38, ov (S rB x_25))], [cvar gb_1 (rP (rW (MPV go_2)) (rP (rI .i64) (rP (rI .i64) r0))) ((), ((3 : Int), (lost_24, ()))), cmap go_2 (A r_net_pair) (S (rL (rL (rU UInt8)))) (some x_23)], []⟩) (fun q => ?_) ?_
   · obtain _ := q
     refine JC.at ⟨[(1, ov (PTR gb_1 0)), (38, ov (S rB x_25))], [cvar gb_1 (rP (rW (MPV go_2)) (rP (rI .i64) (rP (rI .i64) r0))) ((), ((3 : Int), (lost_24, ()))), cmap go_2 (A r_net_pair) (S (rL (rL (rU UInt8)))) (some x_23)], []⟩ ?_
     replace hq2 := iteB_inv hq2
     rcases hq2 with ⟨hc3, hq2⟩ | ⟨hc3, hq2⟩
     · refine JC.condT (.tmp rfl) hc3 ?_
       refine JC.seq ?_
       refine JC.region ?_
       refine jc (op_assign lb .cB) ?_
       refine JL.nil ?_
       refine JQ.then ?_
       refine JC.ret ?_
       refine JQ.outR ?_
       replace hq2 := Option.some.inj hq2
       subst hq2
       exact JQ.done (js := []) (ss := [.val (S rB false)]) () (.inl rfl) (.nil rfl) rfl (.cons (.tmp rfl) .nil) rfl rfl rfl
     · refine JC.condF (.tmp rfl) hc3 ?_
       refine JC.skip ?_
       refine JQ.then ?_
       refine JC.seq ?_
       refine JC.region ?_
       refine jc (op_move lb (.tmp rfl)) ?_
       replace hq2 := bnd_inv hq2
       obtain ⟨⟨v_26, v_27⟩, hv_v_26, hq2⟩ := hq2
       refine jx (op_call (js := [0, 0]) ld cl14 (sim_net_Net_At k (0 : Int) (3 : Int) lost_24 x_23 gb_1 go_2 (v_26, v_27) hv_v_26) .func (.cons (.tmp rfl) (.cons .cI .nil)) rfl) (fun _ => ?_)
       refine jc (op_move lb (.tmp rfl)) ?_
       refine jc (op_extract (i := 0) lb (.tmp rfl) rfl) ?_
       refine jc (op_extract (i := 1) lb (.tmp rfl) rfl) ?_
       refine jx (op_alloc lb tZ36 zr36) (fun q => ?_)
       obtain ⟨gb_28, hqq⟩ : ∃ z, z = q := ⟨_, rfl⟩
       subst hqq
       refine jc (op_storeA (j := 2) tA36 (.tmp rfl) (.tmp rfl) rfl (UpdR.self (by rfl)) rfl) ?_
       refine jc (op_assign lb (.tmp rfl)) ?_
       refine JL.sub ⟨[(1, ov (PTR gb_1 0)), (3, ov (PTR gb_28 0)), (4, ov (S (rI .i64) v_27))], [cvar gb_1 (rP (rW (MPV go_2)) (rP (rI .i64) (rP (rI .i64) r0))) ((), ((3 : Int), (lost_24, ()))), cmap go_2 (A r_net_pair) (S (rL (rL (rU UInt8)))) (some x_23), cvar gb_28 r_api_Flight v_26], []⟩ (.cons rfl (.cons rfl (.cons rfl .nil))) rfl rfl ?_
       refine JL.nil ?_
       refine JQ.then ?_
       refine JC.seq ?_
       refine JC.region ?_
       refine jc (op_move lb (.tmp rfl)) ?_
       replace hq2 := bnd_inv hq2
       obtain ⟨⟨v_29, v_30, x_31⟩, hv_v_29, hq2⟩ := hq2
       refine jx (op_call (js := [0, 0]) ld cl15 (sim_net_Net_Take'2 k (2 : Int) (3 : Int) lost_24 x_23 gb_1 go_2 (v_29, v_30, x_31) hv_v_29) .func (.cons (.tmp rfl) (.cons .cI .nil)) rfl) (fun _ => ?_)
       refine jc (op_move lb (.tmp rfl)) ?_
       refine jc (op_extract (i := 0) lb (.tmp rfl) rfl) ?_
       refine jc (op_extract (i := 1) lb (.tmp rfl) rfl) ?_
       refine jx (op_alloc lb tZ36 zr36) (fun q => ?_)
       obtain ⟨gb_32, hqq⟩ : ∃ z, z = q := ⟨_, rfl⟩
       subst hqq
       refine jc (op_storeA (j := 3) tA36 (.tmp rfl) (.tmp rfl) rfl (UpdR.self (by rfl)) rfl) ?_
       refine JL.sub ⟨[(1, ov (PTR gb_1 0)), (3, ov (PTR gb_28 0)), (4, ov (S (rI .i64) v_27)), (5, ov (PTR gb_32 0)), (48, ov (S (rI .i64) v_30))], [cvar gb_1 (rP (rW (MPV go_2)) (rP (rI .i64) (rP (rI .i64) r0))) ((), ((3 : Int), (lost_24, ()))), cmap go_2 (A r_net_pair) (S (rL (rL (rU UInt8)))) (some (x_31)), cvar gb_28 r_api_Flight v_26, cvar gb_32 r_api_Flight v_29], []⟩ (.cons rfl (.cons rfl (.cons rfl (.cons rfl (.cons rfl .nil))))) rfl rfl ?_
       refine jc (op_assign lb (.tmp rfl)) ?_
       refine JL.nil ?_
       refine JQ.then ?_
       refine JC.seq ?_
       replace hq2 := bnd_inv hq2
       obtain ⟨x_46, hx4, hq4⟩ := hq2
       refine JC.seqJ (γ := Unit) (stj := fun q => ⟨[(1, ov (PTR gb_1 0)), (3, ov (PTR gb_28 0)), (75, ov (S rB x_46))], [cvar gb_1 (rP (rW (MPV go_2)) (rP (rI .i64) (rP (rI .i64) r0))) ((), ((3 : Int), (lost_24, ()))), cmap go_2 (A r_net_pair) (S (rL (rL (rU UInt8)))) (some (x_31)), cvar gb_28 r_api_Flight v_26], []⟩) (fun q => ?_) ?_
       · obtain _ := q
         refine JC.at ⟨[(1, ov (PTR gb_1 0)), (3, ov (PTR gb_28 0)), (75, ov (S rB x_46))], [cvar gb_1 (rP (rW (MPV go_2)) (rP (rI .i64) (rP (rI .i64) r0))) ((), ((3 : Int), (lost_24, ()))), cmap go_2 (A r_net_pair) (S (rL (rL (rU UInt8)))) (some (x_31)), cvar gb_28 r_api_Flight v_26], []⟩ ?_
         replace hq4 := iteB_inv hq4
         rcases hq4 with ⟨hc17, hq4⟩ | ⟨hc17, hq4⟩
         · refine JC.condT (.tmp rfl) hc17 ?_
           refine JC.seq ?_
           refine JC.region ?_
           refine jc (op_assign lb .cB) ?_
           refine JL.nil ?_
           refine JQ.then ?_
           refine JC.ret ?_
           refine JQ.outR ?_
           replace hq4 := Option.some.inj hq4
           subst hq4
           exact JQ.done (js := []) (ss := [.val (S rB false)]) () (.inl rfl) (.nil rfl) rfl (.cons (.tmp rfl) .nil) rfl rfl rfl
         · refine JC.condF (.tmp rfl) hc17 ?_
           refine JC.skip ?_
           refine JQ.then ?_
           refine JC.seq ?_
           refine JC.region ?_
           refine jc (op_move lb (.tmp rfl)) ?_
           replace hq4 := bnd_inv hq4
           obtain ⟨⟨v_47, x_48⟩, hv_v_47, hq4⟩ := hq4
           refine jx (op_call (js := [0, 0]) ld cl21 (sim_net_Net_Double k (0 : Int) (3 : Int) lost_24 (x_31) gb_1 go_2 (v_47, x_48) hv_v_47) .func (.cons (.tmp rfl) (.cons .cI .nil)) rfl) (fun _ => ?_)
           refine jc (op_assign lb (.tmp rfl)) ?_
           refine JL.nil ?_
           refine JQ.then ?_
           refine JC.seq ?_
           refine JC.region ?_
           refine jc (op_move lb (.tmp rfl)) ?_
           replace hq4 := bnd_inv hq4
           obtain ⟨⟨v_49, v_50, x_51⟩, hv_v_49, hq4⟩ := hq4
           refine jx (op_call (js := [0, 0]) ld cl15 (sim_net_Net_Take'2 k (1 : Int) (3 : Int) lost_24 (x_48) gb_1 go_2 (v_49, v_50, x_51) hv_v_49) .func (.cons (.tmp rfl) (.cons .cI .nil)) rfl) (fun _ => ?_)
           refine jc (op_move lb (.tmp rfl)) ?_
           refine jc (op_extract (i := 0) lb (.tmp rfl) rfl) ?_
           refine jc (op_extract (i := 1) lb (.tmp rfl) rfl) ?_
           refine JL.sub ⟨[(1, ov (PTR gb_1 0)), (3, ov (PTR gb_28 0)), (7, ov (S (rI .i64) v_47)), (81, ov (A r_api_Flight v_49)), (82, ov (S (rI .i64) v_50))], [cvar gb_1 (rP (rW (MPV go_2)) (rP (rI .i64) (rP (rI .i64) r0))) ((), ((3 : Int), (lost_24, ()))), cmap go_2 (A r_net_pair) (S (rL (rL (rU UInt8)))) (some (x_51)), cvar gb_28 r_api_Flight v_26], []⟩ (.cons rfl (.cons rfl (.cons rfl (.cons rfl (.cons rfl .nil))))) rfl rfl ?_
           refine jx (op_alloc lb tZ36 zr36) (fun q => ?_)
           obtain ⟨gb_52, hqq⟩ : ∃ z, z = q := ⟨_, rfl⟩
           subst hqq
           refine jc (op_storeA (j := 3) tA36 (.tmp rfl) (.tmp rfl) rfl (UpdR.self (by rfl)) rfl) ?_
           refine jc (op_assign lb (.tmp rfl)) ?_
           refine JL.nil ?_
           refine JQ.then ?_
           replace hq4 := bnd_inv hq4
           obtain ⟨t_69, hx18, hq18⟩ := hq4
           refine JC.seqJ (γ := Unit) (stj := fun q => ⟨[(0, ov (S rB t_69))], [], []⟩) (fun q => ?_) ?_
           · obtain _ := q
             refine JC.at ⟨[(0, ov (S rB t_69))], [], []⟩ ?_
             refine JC.ret ?_
             replace hq18 := Option.some.inj hq18
             subst hq18
             exact JQ.done (js := []) (ss := [.val (S rB t_69)]) () (.inl rfl) (.nil rfl) rfl (.cons (.tmp rfl) .nil) rfl rfl rfl
           · refine JC.region ?_
             refine jc (op_move lb (.tmp rfl)) ?_
             replace hx18 := bnd_inv hx18
             obtain ⟨_, hv_u_53, hx18⟩ := hx18
             refine jx (op_call (js := []) ld cl12 (sim_law12_num k v_47 () hv_u_53) .func (.cons (.tmp rfl) .nil) rfl) (fun _ => ?_)
             refine jc (op_move lb (.tmp rfl)) ?_
             replace hx18 := bnd_inv hx18
             obtain ⟨_, hv_u_54, hx18⟩ := hx18
             refine jx (op_call (js := []) ld cl12 (sim_law12_num k v_50 () hv_u_54) .func (.cons (.tmp rfl) .nil) rfl) (fun _ => ?_)
             replace hx18 := lt1_inv hx18
             obtain ⟨v_55, hv_v_55, hx18⟩ := hx18
             refine jc (op_arI lb (.tmp rfl) (.tmp rfl) (congrArg some hv_v_55)) ?_
             refine JL.sub ⟨[(1, ov (PTR gb_1 0)), (3, ov (PTR gb_28 0)), (8, ov (PTR gb_52 0)), (87, ov (S (rI .i64) v_55))], [cvar gb_1 (rP (rW (MPV go_2)) (rP (rI .i64) (rP (rI .i64) r0))) ((), ((3 : Int), (lost_24, ()))), cmap go_2 (A r_net_pair) (S (rL (rL (rU UInt8)))) (some (x_51)), cvar gb_28 r_api_Flight v_26, cvar gb_52 r_api_Flight v_49], []⟩ (.cons rfl (.cons rfl (.cons rfl (.cons rfl .nil)))) rfl rfl ?_
             replace hx18 := lt1_inv hx18
             obtain ⟨v_56, hv_v_56, hx18⟩ := hx18
             refine jc (op_cmpI lb (.tmp rfl) .cI (congrArg some hv_v_56)) ?_
             refine jc (op_move lb (.tmp rfl)) ?_
             refine JL.cnd (sv := ov (A r_api_Flight v_49)) (Guard.isT (ltB rfl) rfl rfl) rfl (ltB rfl) (fun hq_19 => op_loadA (j := 3) lb tA36 (.tmp rfl) rfl (Comp.self r_api_Flight v_49) rfl) ?_
             refine JL.cnd (sv := ov (A r_api_Flight v_26)) (Guard.isT (ltB rfl) rfl rfl) rfl (ltB rfl) (fun hq_20 => op_loadA (j := 2) lb tA36 (.tmp rfl) rfl (Comp.self r_api_Flight v_26) rfl) ?_
             replace hx18 := bnd_inv hx18
             obtain ⟨v_57, hv_v_57, hx18⟩ := hx18
             refine JL.cnd (sv := ov (S rB v_57)) (Guard.isT (ltB rfl) rfl rfl) rfl (ltB rfl) (fun hq_21 => (op_call (js := []) ld cl17 (sim_ref12_Same k v_49 v_26 v_57 (ifT hv_v_57 hq_21)) .func (.cons (HasO.cnd (.tmp rfl) hq_21) (.cons (HasO.cnd (.tmp rfl) hq_21) .nil)) rfl).post (fun _ => Imp.refl)) ?_
             replace hx18 := lt1_inv hx18
             obtain ⟨v_58, hv_v_58, hx18⟩ := hx18
             refine jc (op_pickCS lb (.tmp rfl) (fun hb22 => (HasO.cnd (.tmp rfl) hb22)) (fun hb22 => .cB) hv_v_58) ?_
             refine jc (op_move lb (.tmp rfl)) ?_
             replace hx18 := iteB_inv hx18
             rcases hx18 with ⟨hc24, hx18⟩ | ⟨hc24, hx18⟩
             · refine JL.run (.yes rfl (ltB rfl) rfl hc24) (op_move lb (.tmp rfl)) ?_
               replace hx18 := bnd_inv hx18
               obtain ⟨⟨v_59, x_60⟩, hv_v_59, hx18⟩ := hx18
               refine JL.runX (.yes rfl (ltB rfl) rfl hc24) (op_call (js := [0, 0]) ld cl28 (sim_net_Net_Drop k (9 : Int) (3 : Int) lost_24 (x_51) gb_1 go_2 (v_59, x_60) hv_v_59) .func (.cons (.tmp rfl) (.cons .cI .nil)) rfl) (fun _ => ?_)
               replace hx18 := bnd_inv hx18
               obtain ⟨_, hv_u_61, hx18⟩ := hx18
               refine JL.runX (.yes rfl (ltB rfl) rfl hc24) (op_call (js := []) ld cl12 (sim_law12_num k v_59 () hv_u_61) .func (.cons (.tmp rfl) .nil) rfl) (fun _ => ?_)
               refine JL.nrm ⟨[(1, ov (PTR gb_1 0)), (94, ov (S rB v_58)), (97, ov (S (rI .i64) v_59))], [cvar gb_1 (rP (rW (MPV go_2)) (rP (rI .i64) (rP (rI .i64) r0))) ((), ((3 : Int), (lost_24, ()))), cmap go_2 (A r_net_pair) (S (rL (rL (rU UInt8)))) (some (x_60))], []⟩ [0, 0] rfl (.cons rfl (.cons rfl (.cons rfl .nil))) rfl ?_
               replace hx18 := lt1_inv hx18
               obtain ⟨v_62, hv_v_62, hx18⟩ := hx18
               refine JL.run (.yes rfl (ltB rfl) rfl hc24) (op_cmpI lb (.tmp rfl) .cI (congrArg some hv_v_62)) ?_
               refine jc (op_pickT lb (.tmp rfl) hc24 (.tmp rfl)) ?_
               refine jc (op_move lb (.tmp rfl)) ?_
               replace hx18 := iteB_inv hx18
               rcases hx18 with ⟨hc26, hx18⟩ | ⟨hc26, hx18⟩
               · refine JL.run (.yes rfl (ltB rfl) rfl hc26) (op_move lb (.tmp rfl)) ?_
                 refine JL.runX (.yes rfl (ltB rfl) rfl hc26) (op_buildO (r := (rU UInt8)) lb tu31 tz5 tZ5 rfl (Nat.le_of_ble_eq_true rfl) (.S rfl (HasO.cU (x := (120 : UInt8)) rfl (by decide)) .nil) rfl) (fun q => ?_)
                 obtain ⟨gb_63, hqq⟩ : ∃ z, z = q := ⟨_, rfl⟩
                 subst hqq
                 refine JL.run (.yes rfl (ltB rfl) rfl hc26) (op_markO (j := 2) lb tu31 tu5 rfl (.tmp rfl) (Nat.le_of_ble_eq_true rfl)) ?_
                 replace hx18 := bnd_inv hx18
                 obtain ⟨⟨v_64, x_65, x_66⟩, hv_v_64, hx18⟩ := hx18
                 refine JL.pre (Imp.frz (j := 2) rfl (ImpK.slotH (s := 102) rfl (ImpK.slotH (s := 103) rfl ImpK.refl))) ?_
                 refine JL.runX (.yes rfl (ltB rfl) rfl hc26) (op_call (js := [0, 0]) ld cl13 (sim_net_Net_Send k (1 : Int) (1 : Int) ([(120 : UInt8)] : (List UInt8)) (3 : Int) lost_24 (x_60) gb_1 go_2 (v_64, x_65, x_66) hv_v_64) .func (.cons (.tmp rfl) (.cons .cI (.cons .cI (.cons (HasO.wk (.tmp rfl) wkHL) .nil)))) rfl) (fun _ => ?_)
                 replace hx18 := bnd_inv hx18
                 obtain ⟨_, hv_u_67, hx18⟩ := hx18
                 refine JL.runX (.yes rfl (ltB rfl) rfl hc26) (op_call (js := []) ld cl12 (sim_law12_num k v_64 () hv_u_67) .func (.cons (.tmp rfl) .nil) rfl) (fun _ => ?_)
                 refine JL.nrm ⟨[(100, ov (S rB v_62)), (105, ov (S (rI .i64) v_64))], [], []⟩ [] rfl (.cons rfl (.cons rfl .nil)) rfl ?_
                 replace hx18 := lt1_inv hx18
                 obtain ⟨v_68, hv_v_68, hx18⟩ := hx18
                 refine JL.run (.yes rfl (ltB rfl) rfl hc26) (op_cmpI lb (.tmp rfl) .cI (congrArg some hv_v_68)) ?_
                 refine jc (op_pickT lb (.tmp rfl) hc26 (.tmp rfl)) ?_
                 refine jc (op_assign lb (.tmp rfl)) ?_
                 refine JL.nil ?_
                 replace hx18 := Option.some.inj hx18
                 first | subst hx18 | clear hx18
                 exact JQ.join () (Imp.norm (js := []) rfl (.cons rfl .nil))
               · refine JL.skip (.no rfl (ltB rfl) rfl hc26) (fun d h => by cases h; exact ltB rfl) ?_
                 refine JL.skip (.no rfl (ltB rfl) rfl hc26) (fun d h => by cases h; exact ltB rfl) ?_
                 refine JL.skip (.no rfl (ltB rfl) rfl hc26) (fun d h => by cases h; exact ltB rfl) ?_
                 refine JL.skip (.no rfl (ltB rfl) rfl hc26) (fun d h => by cases h; exact ltB rfl) ?_
                 refine JL.skip (.no rfl (ltB rfl) rfl hc26) (fun d h => by cases h; exact ltB rfl) ?_
                 refine JL.skip (.no rfl (ltB rfl) rfl hc26) (fun d h => by cases h; exact ltB rfl) ?_
                 refine jc (op_pickF lb (.tmp rfl) hc26 .cB) ?_
                 refine jc (op_assign lb (.tmp rfl)) ?_
                 refine JL.nil ?_
                 replace hx18 := Option.some.inj hx18
                 first | subst hx18 | clear hx18
                 exact JQ.join () (Imp.norm (js := []) rfl (.cons rfl .nil))
             · refine JL.skip (.no rfl (ltB rfl) rfl hc24) (fun d h => by cases h; exact ltB rfl) ?_
               refine JL.skip (.no rfl (ltB rfl) rfl hc24) (fun d h => by cases h; exact ltB rfl) ?_
               refine JL.skip (.no rfl (ltB rfl) rfl hc24) (fun d h => by cases h; exact ltB rfl) ?_
               refine JL.skip (.no rfl (ltB rfl) rfl hc24) (fun d h => by cases h; exact ltB rfl) ?_
               refine jc (op_pickF lb (.tmp rfl) hc24 .cB) ?_
               refine jc (op_move lb (.tmp rfl)) ?_
               refine JL.skip (.no rfl (ltB rfl) rfl rfl) (fun d h => by cases h; exact ltB rfl) ?_
               refine JL.skip (.no rfl (ltB rfl) rfl rfl) (fun d h => by cases h; exact ltB rfl) ?_
               refine JL.skip (.no rfl (ltB rfl) rfl rfl) (fun d h => by cases h; exact ltB rfl) ?_
               refine JL.skip (.no rfl (ltB rfl) rfl rfl) (fun d h => by cases h; exact ltB rfl) ?_
               refine JL.skip (.no rfl (ltB rfl) rfl rfl) (fun d h => by cases h; exact ltB rfl) ?_
               refine JL.skip (.no rfl (ltB rfl) rfl rfl) (fun d h => by cases h; exact ltB rfl) ?_
               refine jc (op_pickF lb (.tmp rfl) rfl .cB) ?_
               refine jc (op_assign lb (.tmp rfl)) ?_
               refine JL.nil ?_
               replace hx18 := Option.some.inj hx18
               first | subst hx18 | clear hx18
               exact JQ.join () (Imp.norm (js := []) rfl (.cons rfl .nil))
       · refine JC.region ?_
         refine jc (op_loadA (j := 2) lb tA36 (.tmp rfl) rfl (Comp.self r_api_Flight v_26) rfl) ?_
         refine jx (op_buildO (r := (rU UInt8)) lb tu31 tz5 tZ5 rfl (Nat.le_of_ble_eq_true rfl) (.S rfl (HasO.cU (x := (98 : UInt8)) rfl (by decide)) .nil) rfl) (fun q => ?_)
         obtain ⟨gb_33, hqq⟩ : ∃ z, z = q := ⟨_, rfl⟩
         subst hqq
         refine jc (op_markO (j := 4) lb tu31 tu5 rfl (.tmp rfl) (Nat.le_of_ble_eq_true rfl)) ?_
         refine jc (op_build lb tZ36 zr36 tp36 (.S (off := 0) rfl .cI rfl ((UpdR.fst (UpdR.self (by rfl))).at (by rfl)) (.S (off := 1) rfl .cI rfl ((UpdR.snd (UpdR.fst (UpdR.self (by rfl)))).at (by rfl)) (.S (off := 2) (s := rW (HDR (some gb_33) 0 (List.length ([(98 : UInt8)] : (List UInt8))) (1))) (u := ()) rfl (HasO.wk (q := S (rW (HDR (some gb_33) 0 (List.length ([(98 : UInt8)] : (List UInt8))) (1))) ()) (.tmp rfl) wkV) rfl ((UpdR.snd (UpdR.snd (UpdR.fst (UpdR.self (by rfl))))).at (by rfl)) .nil))) rfl) ?_
         replace hx4 := bnd_inv hx4
         obtain ⟨v_34, hv_v_34, hx4⟩ := hx4
         refine JL.pre (Imp.frz (j := 4) rfl (ImpK.slotH (s := 50) rfl (ImpK.slotH (s := 51) rfl (ImpK.slotA (s := 52) (q := (rP (rI .i64) (rP (rI .i64) (rP (rW (HL (some gb_33) (rU UInt8) ([(98 : UInt8)] : (List UInt8)) (1))) r0)))) (y := ((1 : Int), ((2 : Int), ((), ())))) rfl (Wk.pair Wk.refl (Wk.pair Wk.refl (Wk.pair Wk.own Wk.refl))) ImpK.refl)))) ?_
         refine JL.pre (Imp.slotA (s := 52) rfl (Wk.st (Wk.pair Wk.refl (Wk.pair Wk.refl (Wk.pair Wk.hl Wk.refl))))) ?_
         refine jx (op_call (js := []) ld cl17 (sim_ref12_Same k v_26 (api_Flight.mk (1 : Int) (2 : Int) ([(98 : UInt8)] : (List UInt8))) v_34 hv_v_34) .func (.cons (.tmp rfl) (.cons (.tmp rfl) .nil)) rfl) (fun _ => ?_)
         replace hx4 := lt1_inv hx4
         obtain ⟨v_35, hv_v_35, hx4⟩ := hx4
         refine jc (op_not lb (.tmp rfl) hv_v_35) ?_
         refine jc (op_move lb (.tmp rfl)) ?_
         refine JL.nrm ⟨[(1, ov (PTR gb_1 0)), (3, ov (PTR gb_28 0)), (4, ov (S (rI .i64) v_27)), (5, ov (PTR gb_32 0)), (6, ov (S (rI .i64) v_30)), (55, ov (S rB v_35))], [cvar gb_1 (rP (rW (MPV go_2)) (rP (rI .i64) (rP (rI .i64) r0))) ((), ((3 : Int), (lost_24, ()))), cmap go_2 (A r_net_pair) (S (rL (rL (rU UInt8)))) (some (x_31)), cvar gb_28 r_api_Flight v_26, cvar gb_32 r_api_Flight v_29], []⟩ [0, 0, 0, 0] rfl (.cons rfl (.cons rfl (.cons rfl (.cons rfl (.cons rfl (.cons rfl .nil)))))) rfl ?_
         refine JL.cnd (sv := ov (A r_api_Flight v_29)) (Guard.isF (ltB rfl) rfl rfl) rfl (ltB rfl) (fun hq_5 => op_loadA (j := 3) lb tA36 (.tmp rfl) rfl (Comp.self r_api_Flight v_29) rfl) ?_
         replace hx4 := iteB_inv hx4
         rcases hx4 with ⟨hc7, hx4⟩ | ⟨hc7, hx4⟩
         · refine JL.skip (.no rfl (ltB rfl) rfl hc7) (fun d h => by cases h; exact ltB rfl) ?_
           refine JL.skip (.no rfl (ltB rfl) rfl hc7) (fun d h => by cases h; exact ltB rfl) ?_
           refine JL.skip (.no rfl (ltB rfl) rfl hc7) (fun d h => by cases h; exact ltB rfl) ?_
           refine JL.skip (.no rfl (ltB rfl) rfl hc7) (fun d h => by cases h; exact ltB rfl) ?_
           refine JL.skip (.no rfl (ltB rfl) rfl hc7) (fun d h => by cases h; exact ltB rfl) ?_
           refine jc (op_pickT lb (.tmp rfl) hc7 .cB) ?_
           refine jc (op_move lb (.tmp rfl)) ?_
           refine JL.skip (.no rfl (ltB rfl) rfl rfl) (fun d h => by cases h; exact ltB rfl) ?_
           refine JL.skip (.no rfl (ltB rfl) rfl rfl) (fun d h => by cases h; exact ltB rfl) ?_
           refine JL.skip (.no rfl (ltB rfl) rfl rfl) (fun d h => by cases h; exact ltB rfl) ?_
           refine JL.skip (.no rfl (ltB rfl) rfl rfl) (fun d h => by cases h; exact ltB rfl) ?_
           refine JL.skip (.no rfl (ltB rfl) rfl rfl) (fun d h => by cases h; exact ltB rfl) ?_
           refine JL.skip (.no rfl (ltB rfl) rfl rfl) (fun d h => by cases h; exact ltB rfl) ?_
           refine jc (op_pickT lb (.tmp rfl) rfl .cB) ?_
           refine jc (op_move lb (.tmp rfl)) ?_
           refine JL.skip (.no rfl (ltB rfl) rfl rfl) (fun d h => by cases h; exact ltB rfl) ?_
           refine JL.skip (.no rfl (ltB rfl) rfl rfl) (fun d h => by cases h; exact ltB rfl) ?_
           refine JL.skip (.no rfl (ltB rfl) rfl rfl) (fun d h => by cases h; exact ltB rfl) ?_
           refine jc (op_pickT lb (.tmp rfl) rfl .cB) ?_
           refine JL.nil ?_
           replace hx4 := Option.some.inj hx4
           first | subst hx4 | clear hx4
           exact JQ.join () (Imp.norm (js := [0, 0, 0]) rfl (.cons rfl (.cons rfl (.cons rfl .nil))))
         · refine JL.runX (.yes rfl (ltB rfl) rfl hc7) (op_buildO (r := (rU UInt8)) lb tu31 tz5 tZ5 rfl (Nat.le_of_ble_eq_true rfl) (.S rfl (HasO.cU (x := (97 : UInt8)) rfl (by decide)) .nil) rfl) (fun q => ?_)
           obtain ⟨gb_36, hqq⟩ : ∃ z, z = q := ⟨_, rfl⟩
           subst hqq
           refine JL.run (.yes rfl (ltB rfl) rfl hc7) (op_markO (j := 4) lb tu31 tu5 rfl (.tmp rfl) (Nat.le_of_ble_eq_true rfl)) ?_
           refine JL.run (.yes rfl (ltB rfl) rfl hc7) (op_build lb tZ36 zr36 tp36 (.S (off := 0) rfl .cI rfl ((UpdR.fst (UpdR.self (by rfl))).at (by rfl)) (.S (off := 1) rfl .cI rfl ((UpdR.snd (UpdR.fst (UpdR.self (by rfl)))).at (by rfl)) (.S (off := 2) (s := rW (HDR (some gb_36) 0 (List.length ([(97 : UInt8)] : (List UInt8))) (1))) (u := ()) rfl (HasO.wk (q := S (rW (HDR (some gb_36) 0 (List.length ([(97 : UInt8)] : (List UInt8))) (1))) ()) (.tmp rfl) wkV) rfl ((UpdR.snd (UpdR.snd (UpdR.fst (UpdR.self (by rfl))))).at (by rfl)) .nil))) rfl) ?_
           replace hx4 := bnd_inv hx4
           obtain ⟨v_37, hv_v_37, hx4⟩ := hx4
           refine JL.pre (Imp.frz (j := 4) rfl (ImpK.slotH (s := 57) rfl (ImpK.slotH (s := 58) rfl (ImpK.slotA (s := 59) (q := (rP (rI .i64) (rP (rI .i64) (rP (rW (HL (some gb_36) (rU UInt8) ([(97 : UInt8)] : (List UInt8)) (1))) r0)))) (y := ((2 : Int), ((1 : Int), ((), ())))) rfl (Wk.pair Wk.refl (Wk.pair Wk.refl (Wk.pair Wk.own Wk.refl))) ImpK.refl)))) ?_
           refine JL.pre (Imp.slotA (s := 59) rfl (Wk.st (Wk.pair Wk.refl (Wk.pair Wk.refl (Wk.pair Wk.hl Wk.refl))))) ?_
           refine JL.runX (.yes rfl (ltB rfl) rfl hc7) (op_call (js := []) ld cl17 (sim_ref12_Same k v_29 (api_Flight.mk (2 : Int) (1 : Int) ([(97 : UInt8)] : (List UInt8))) v_37 hv_v_37) .func (.cons (HasO.cnd (.tmp rfl) (notT hc7)) (.cons (.tmp rfl) .nil)) rfl) (fun _ => ?_)
           replace hx4 := lt1_inv hx4
           obtain ⟨v_38, hv_v_38, hx4⟩ := hx4
           refine JL.run (.yes rfl (ltB rfl) rfl hc7) (op_not lb (.tmp rfl) hv_v_38) ?_
           refine jc (op_pickF lb (.tmp rfl) hc7 (.tmp rfl)) ?_
           refine jc (op_move lb (.tmp rfl)) ?_
           refine JL.nrm ⟨[(1, ov (PTR gb_1 0)), (3, ov (PTR gb_28 0)), (4, ov (S (rI .i64) v_27)), (6, ov (S (rI .i64) v_30)), (63, ov (S rB v_38))], [cvar gb_1 (rP (rW (MPV go_2)) (rP (rI .i64) (rP (rI .i64) r0))) ((), ((3 : Int), (lost_24, ()))), cmap go_2 (A r_net_pair) (S (rL (rL (rU UInt8)))) (some (x_31)), cvar gb_28 r_api_Flight v_26], []⟩ [0, 0, 0] rfl (.cons rfl (.cons rfl (.cons rfl (.cons rfl (.cons rfl .nil))))) rfl ?_
           refine JL.cnd (sv := ov (S (rI .i64) v_27)) (Guard.isF (ltB rfl) rfl rfl) rfl (ltB rfl) (fun hq_8 => op_move lb (.tmp rfl)) ?_
           replace hx4 := bnd_inv hx4
           obtain ⟨_, hv_u_39, hx4⟩ := hx4
           refine JL.cnd (sv := ov (S (rI .i64) v_27)) (Guard.isF (ltB rfl) rfl rfl) rfl (ltB rfl) (fun hq_9 => (op_call (js := []) ld cl12 (sim_law12_num k v_27 () (ifT hv_u_39 hq_9)) .func (.cons (HasO.cnd (.tmp rfl) (notT (notF hq_9))) .nil) rfl).post (fun _ => Imp.refl)) ?_
           refine JL.cnd (sv := ov (S (rI .i64) v_30)) (Guard.isF (ltB rfl) rfl rfl) rfl (ltB rfl) (fun hq_10 => op_move lb (.tmp rfl)) ?_
           replace hx4 := bnd_inv hx4
           obtain ⟨_, hv_u_40, hx4⟩ := hx4
           refine JL.cnd (sv := ov (S (rI .i64) v_30)) (Guard.isF (ltB rfl) rfl rfl) rfl (ltB rfl) (fun hq_11 => (op_call (js := []) ld cl12 (sim_law12_num k v_30 () (ifT hv_u_40 hq_11)) .func (.cons (HasO.cnd (.tmp rfl) (notT (notF hq_11))) .nil) rfl).post (fun _ => Imp.refl)) ?_
           replace hx4 := lt1_inv hx4
           obtain ⟨v_41, hv_v_41, hx4⟩ := hx4
           refine JL.cnd (sv := ov (S (rI .i64) v_41)) (Guard.isF (ltB rfl) rfl rfl) rfl (ltB rfl) (fun hq_12 => op_arI lb (HasO.cnd (.tmp rfl) (notT (notF hq_12))) (HasO.cnd (.tmp rfl) (notT (notF hq_12))) (congrArg some hv_v_41)) ?_
           replace hx4 := lt1_inv hx4
           obtain ⟨v_42, hv_v_42, hx4⟩ := hx4
           refine JL.cnd (sv := ov (S rB v_42)) (Guard.isF (ltB rfl) rfl rfl) rfl (ltB rfl) (fun hq_13 => op_cmpI lb (HasO.cnd (.tmp rfl) (notT (notF hq_13))) .cI (congrArg some hv_v_42)) ?_
           replace hx4 := lt1_inv hx4
           obtain ⟨v_43, hv_v_43, hx4⟩ := hx4
           refine jc (op_pickCS lb (.tmp rfl) (fun hb14 => .cB) (fun hb14 => (HasO.cnd (.tmp rfl) (notT hb14))) hv_v_43) ?_
           refine jc (op_move lb (.tmp rfl)) ?_
           replace hx4 := iteB_inv hx4
           rcases hx4 with ⟨hc16, hx4⟩ | ⟨hc16, hx4⟩
           · refine JL.skip (.no rfl (ltB rfl) rfl hc16) (fun d h => by cases h; exact ltB rfl) ?_
             refine JL.skip (.no rfl (ltB rfl) rfl hc16) (fun d h => by cases h; exact ltB rfl) ?_
             refine JL.skip (.no rfl (ltB rfl) rfl hc16) (fun d h => by cases h; exact ltB rfl) ?_
             refine jc (op_pickT lb (.tmp rfl) hc16 .cB) ?_
             refine JL.nil ?_
             replace hx4 := Option.some.inj hx4
             first | subst hx4 | clear hx4
             exact JQ.join () (Imp.norm (js := [0, 0, 0]) rfl (.cons rfl (.cons rfl (.cons rfl .nil))))
           · refine JL.run (.yes rfl (ltB rfl) rfl hc16) (op_move lb (.tmp rfl)) ?_
             replace hx4 := bnd_inv hx4
             obtain ⟨v_44, hv_v_44, hx4⟩ := hx4
             refine JL.runX (.yes rfl (ltB rfl) rfl hc16) (op_call (js := [0, 0]) ld cl16 (sim_net_Net_Len k (3 : Int) lost_24 (x_31) gb_1 go_2 v_44 hv_v_44) .func (.cons (.tmp rfl) .nil) rfl) (fun _ => ?_)
             replace hx4 := lt1_inv hx4
             obtain ⟨v_45, hv_v_45, hx4⟩ := hx4
             refine JL.run (.yes rfl (ltB rfl) rfl hc16) (op_cmpI lb (.tmp rfl) .cI (congrArg some hv_v_45)) ?_
             refine jc (op_pickF lb (.tmp rfl) hc16 (.tmp rfl)) ?_
             refine JL.sub ⟨[(1, ov (PTR gb_1 0)), (3, ov (PTR gb_28 0)), (75, ov (S rB v_45))], [cvar gb_1 (rP (rW (MPV go_2)) (rP (rI .i64) (rP (rI .i64) r0))) ((), ((3 : Int), (lost_24, ()))), cmap go_2 (A r_net_pair) (S (rL (rL (rU UInt8)))) (some (x_31)), cvar gb_28 r_api_Flight v_26], []⟩ (.cons rfl (.cons rfl (.cons rfl .nil))) rfl rfl ?_
             refine JL.nil ?_
             replace hx4 := Option.some.inj hx4
             first | subst hx4 | clear hx4
             exact JQ.join () (Imp.norm (js := [0, 0, 0]) rfl (.cons rfl (.cons rfl (.cons rfl .nil))))
   · refine JC.region ?_
     refine jc (op_move lb (.tmp rfl)) ?_
     refine jc (op_nilP (neg := false) lb tu25 (.tmp rfl) (HasO.const (p := PTO none) fun _ => rfl)) ?_
     refine jc (op_move lb (.tmp rfl)) ?_
     refine JL.sub ⟨[(1, ov (PTR gb_1 0)), (2, ov (S (rI .i64) (0 : Int))), (16, ov (S rB false))], [cvar gb_1 (rP (rW (MPV go_2)) (rP (rI .i64) (rP (rI .i64) r0))) ((), ((3 : Int), ((0 : Int), ()))), cmap go_2 (A r_net_pair) (S (rL (rL (rU UInt8)))) (some ([] : (List (net_pair × (List (List UInt8))))))], []⟩ (.cons rfl (.cons rfl (.cons rfl .nil))) rfl rfl ?_
     refine JL.run (.yes rfl (ltB rfl) rfl rfl) (op_move lb (.tmp rfl)) ?_
     replace hx2 := bnd_inv hx2
     obtain ⟨_, hv_u_3, hx2⟩ := hx2
     refine JL.runX (.yes rfl (ltB rfl) rfl rfl) (op_call (js := []) ld cl12 (sim_law12_num k (0 : Int) () hv_u_3) .func (.cons (.tmp rfl) .nil) rfl) (fun _ => ?_)
     refine JL.run (.yes rfl (ltB rfl) rfl rfl) (op_move lb (.tmp rfl)) ?_
     refine JL.runX (.yes rfl (ltB rfl) rfl rfl) (op_buildO (r := (rU UInt8)) lb tu31 tz5 tZ5 rfl (Nat.le_of_ble_eq_true rfl) (.S rfl (HasO.cU (x := (97 : UInt8)) rfl (by decide)) .nil) rfl) (fun q => ?_)
     obtain ⟨gb_4, hqq⟩ : ∃ z, z = q := ⟨_, rfl⟩
     subst hqq
     refine JL.run (.yes rfl (ltB rfl) rfl rfl) (op_markO (j := 2) lb tu31 tu5 rfl (.tmp rfl) (Nat.le_of_ble_eq_true rfl)) ?_
     replace hx2 := bnd_inv hx2
     obtain ⟨⟨v_5, x_6, x_7⟩, hv_v_5, hx2⟩ := hx2
     refine JL.pre (Imp.frz (j := 2) rfl (ImpK.slotH (s := 20) rfl (ImpK.slotH (s := 21) rfl ImpK.refl))) ?_
     refine JL.runX (.yes rfl (ltB rfl) rfl rfl) (op_call (js := [0, 0]) ld cl13 (sim_net_Net_Send k (2 : Int) (1 : Int) ([(97 : UInt8)] : (List UInt8)) (3 : Int) (0 : Int) ([] : (List (net_pair × (List (List UInt8))))) gb_1 go_2 (v_5, x_6, x_7) hv_v_5) .func (.cons (.tmp rfl) (.cons .cI (.cons .cI (.cons (HasO.wk (.tmp rfl) wkHL) .nil)))) rfl) (fun _ => ?_)
     replace hx2 := bnd_inv hx2
     obtain ⟨_, hv_u_8, hx2⟩ := hx2
     refine JL.runX (.yes rfl (ltB rfl) rfl rfl) (op_call (js := []) ld cl12 (sim_law12_num k v_5 () hv_u_8) .func (.cons (.tmp rfl) .nil) rfl) (fun _ => ?_)
     replace hx2 := lt1_inv hx2
     obtain ⟨v_9, hv_v_9, hx2⟩ := hx2
     refine JL.run (.yes rfl (ltB rfl) rfl rfl) (op_arI lb (.tmp rfl) (.tmp rfl) (congrArg some hv_v_9)) ?_
     refine JL.nrm ⟨[(1, ov (PTR gb_1 0)), (16, ov (S rB false)), (24, ov (S (rI .i64) v_9))], [cvar gb_1 (rP (rW (MPV go_2)) (rP (rI .i64) (rP (rI .i64) r0))) ((), ((3 : Int), (x_7, ()))), cmap go_2 (A r_net_pair) (S (rL (rL (rU UInt8)))) (some (x_6))], []⟩ [0, 0] rfl (.cons rfl (.cons rfl (.cons rfl .nil))) rfl ?_
     refine JL.run (.yes rfl (ltB rfl) rfl rfl) (op_move lb (.tmp rfl)) ?_
     refine JL.runX (.yes rfl (ltB rfl) rfl rfl) (op_buildO (r := (rU UInt8)) lb tu31 tz5 tZ5 rfl (Nat.le_of_ble_eq_true rfl) (.S rfl (HasO.cU (x := (98 : UInt8)) rfl (by decide)) .nil) rfl) (fun q => ?_)
     obtain ⟨gb_10, hqq⟩ : ∃ z, z = q := ⟨_, rfl⟩
     subst hqq
     refine JL.run (.yes rfl (ltB rfl) rfl rfl) (op_markO (j := 2) lb tu31 tu5 rfl (.tmp rfl) (Nat.le_of_ble_eq_true rfl)) ?_
     replace hx2 := bnd_inv hx2
     obtain ⟨⟨v_11, x_12, x_13⟩, hv_v_11, hx2⟩ := hx2
     refine JL.pre (Imp.frz (j := 2) rfl (ImpK.slotH (s := 26) rfl (ImpK.slotH (s := 27) rfl ImpK.refl))) ?_
     refine JL.runX (.yes rfl (ltB rfl) rfl rfl) (op_call (js := [0, 0]) ld cl13 (sim_net_Net_Send k (1 : Int) (2 : Int) ([(98 : UInt8)] : (List UInt8)) (3 : Int) x_7 (x_6) gb_1 go_2 (v_11, x_12, x_13) hv_v_11) .func (.cons (.tmp rfl) (.cons .cI (.cons .cI (.cons (HasO.wk (.tmp rfl) wkHL) .nil)))) rfl) (fun _ => ?_)
     replace hx2 := bnd_inv hx2
     obtain ⟨_, hv_u_14, hx2⟩ := hx2
     refine JL.runX (.yes rfl (ltB rfl) rfl rfl) (op_call (js := []) ld cl12 (sim_law12_num k v_11 () hv_u_14) .func (.cons (.tmp rfl) .nil) rfl) (fun _ => ?_)
     replace hx2 := lt1_inv hx2
     obtain ⟨v_15, hv_v_15, hx2⟩ := hx2
     refine JL.run (.yes rfl (ltB rfl) rfl rfl) (op_arI lb (.tmp rfl) (.tmp rfl) (congrArg some hv_v_15)) ?_
     refine JL.run (.yes rfl (ltB rfl) rfl rfl) (op_move lb (.tmp rfl)) ?_
     refine JL.runX (.yes rfl (ltB rfl) rfl rfl) (op_buildO (r := (rU UInt8)) lb tu31 tz5 tZ5 rfl (Nat.le_of_ble_eq_true rfl) (.S rfl (HasO.cU (x := (99 : UInt8)) rfl (by decide)) .nil) rfl) (fun q => ?_)
     obtain ⟨gb_16, hqq⟩ : ∃ z, z = q := ⟨_, rfl⟩
     subst hqq
     refine JL.nrm ⟨[(1, ov (PTR gb_1 0)), (16, ov (S rB false)), (30, ov (S (rI .i64) v_15)), (31, ov (PTR gb_1 0)), (32, ov (HDR (some gb_16) 0 (List.length ([(99 : UInt8)] : (List UInt8))) (1)))], [cvar gb_1 (rP (rW (MPV go_2)) (rP (rI .i64) (rP (rI .i64) r0))) ((), ((3 : Int), (x_13, ()))), cmap go_2 (A r_net_pair) (S (rL (rL (rU UInt8)))) (some (x_12)), cown (some gb_16) (rU UInt8) ([(99 : UInt8)] : (List UInt8)) 0 (1)], []⟩ [0, 0, 1] rfl (.cons rfl (.cons rfl (.cons rfl (.cons rfl (.cons rfl .nil))))) rfl ?_
     refine JL.run (.yes rfl (ltB rfl) rfl rfl) (op_markO (j := 2) lb tu31 tu5 rfl (.tmp rfl) (Nat.le_of_ble_eq_true rfl)) ?_
     replace hx2 := bnd_inv hx2
     obtain ⟨⟨v_17, x_18, x_19⟩, hv_v_17, hx2⟩ := hx2
     refine JL.pre (Imp.frz (j := 2) rfl (ImpK.slotH (s := 32) rfl (ImpK.slotH (s := 33) rfl ImpK.refl))) ?_
     refine JL.runX (.yes rfl (ltB rfl) rfl rfl) (op_call (js := [0, 0]) ld cl13 (sim_net_Net_Send k (1 : Int) (3 : Int) ([(99 : UInt8)] : (List UInt8)) (3 : Int) x_13 (x_12) gb_1 go_2 (v_17, x_18, x_19) hv_v_17) .func (.cons (.tmp rfl) (.cons .cI (.cons .cI (.cons (HasO.wk (.tmp rfl) wkHL) .nil)))) rfl) (fun _ => ?_)
     replace hx2 := bnd_inv hx2
     obtain ⟨_, hv_u_20, hx2⟩ := hx2
     refine JL.runX (.yes rfl (ltB rfl) rfl rfl) (op_call (js := []) ld cl12 (sim_law12_num k v_17 () hv_u_20) .func (.cons (.tmp rfl) .nil) rfl) (fun _ => ?_)
     replace hx2 := lt1_inv hx2
     obtain ⟨v_21, hv_v_21, hx2⟩ := hx2
     refine JL.run (.yes rfl (ltB rfl) rfl rfl) (op_arI lb (.tmp rfl) (.tmp rfl) (congrArg some hv_v_21)) ?_
     replace hx2 := lt1_inv hx2
     obtain ⟨v_22, hv_v_22, hx2⟩ := hx2
     refine JL.run (.yes rfl (ltB rfl) rfl rfl) (op_cmpI lb (.tmp rfl) .cI (congrArg some hv_v_22)) ?_
     refine jc (op_pickF lb (.tmp rfl) rfl (.tmp rfl)) ?_
     refine JL.nil ?_
     replace hx2 := Option.some.inj hx2
     replace hx2 := Prod.mk.inj hx2
     obtain ⟨hx2_a, hx2⟩ := hx2
     first | subst hx2_a | clear hx2_a
     replace hx2 := Prod.mk.inj hx2
     obtain ⟨hx2_a, hx2⟩ := hx2
     first | subst hx2_a | clear hx2_a
     first | subst hx2 | clear hx2
     exact JQ.join () (Imp.norm (js := [0, 0]) rfl (.cons rfl (.cons rfl .nil)))
 · obtain _ := ts1
   dsimp only at hm
   refine jx (op_call (js := []) ld cl11 (sim_net_New_v1 k (3 : Int) () hs1) .func (.cons .cI .nil) rfl) (fun _ => ?_)
   refine jc (op_move lb (.tmp rfl)) ?_
   refine jc (op_extract (i := 0) lb (.tmp rfl) rfl) ?_
   refine jc (op_extract (i := 1) lb (.tmp rfl) rfl) ?_
   refine jc (op_assign lb (.tmp rfl)) ?_
   refine jc (op_assign lb (.tmp rfl)) ?_
   refine JL.nil ?_
   refine JQ.then ?_
   refine JC.seq ?_
   replace hm := bnd_inv hm
   obtain ⟨_, hx27, hq27⟩ := hm
   refine JC.seqJ (γ := Unit) (stj := fun q => ⟨[(1, ov (PTO none)), (38, ov (S rB true))], [], []⟩) (fun q => ?_) ?_
   · obtain _ := q
     refine JC.at ⟨[(1, ov (PTO none)), (38, ov (S rB true))], [], []⟩ ?_
     refine JC.condT (.tmp rfl) rfl ?_
     refine JC.seq ?_
     refine JC.region ?_
     refine jc (op_assign lb .cB) ?_
     refine JL.nil ?_
     refine JQ.then ?_
     refine JC.ret ?_
     refine JQ.outR ?_
     replace hq27 := Option.some.inj hq27
     subst hq27
     exact JQ.done (js := []) (ss := [.val (S rB false)]) () (.inl rfl) (.nil rfl) rfl (.cons (.tmp rfl) .nil) rfl rfl rfl
   · refine JC.region ?_
     refine jc (op_move lb (.tmp rfl)) ?_
     refine jc (op_nilO (neg := false) (ob := none) lb tu25 (.tmp rfl) (HasO.const (p := PTO none) fun _ => rfl) rfl) ?_
     refine jc (op_move lb (.tmp rfl)) ?_
     refine JL.sub ⟨[(1, ov (PTO none)), (2, ov (S (rI .i64) (2 : Int))), (16, ov (S rB true))], [], []⟩ (.cons rfl (.cons rfl (.cons rfl .nil))) rfl rfl ?_
     refine JL.skip (.no rfl (ltB rfl) rfl rfl) (fun d h => by cases h; exact ltB rfl) ?_
     refine JL.skip (.no rfl (ltB rfl) rfl rfl) (fun d h => by cases h; exact ltB rfl) ?_
     refine JL.skip (.no rfl (ltB rfl) rfl rfl) (fun d h => by cases h; exact ltB rfl) ?_
     refine JL.skip (.no rfl (ltB rfl) rfl rfl) (fun d h => by cases h; exact ltB rfl) ?_
     refine JL.skip (.no rfl (ltB rfl) rfl rfl) (fun d h => by cases h; exact ltB rfl) ?_
     refine JL.skip (.no rfl (ltB rfl) rfl rfl) (fun d h => by cases h; exact ltB rfl) ?_
     refine JL.skip (.no rfl (ltB rfl) rfl rfl) (fun d h => by cases h; exact ltB rfl) ?_
     refine JL.skip (.no rfl (ltB rfl) rfl rfl) (fun d h => by cases h; exact ltB rfl) ?_
     refine JL.skip (.no rfl (ltB rfl) rfl rfl) (fun d h => by cases h; exact ltB rfl) ?_
     refine JL.skip (.no rfl (ltB rfl) rfl rfl) (fun d h => by cases h; exact ltB rfl) ?_
     refine JL.skip (.no rfl (ltB rfl) rfl rfl) (fun d h => by cases h; exact ltB rfl) ?_
     refine JL.skip (.no rfl (ltB rfl) rfl rfl) (fun d h => by cases h; exact ltB rfl) ?_
     refine JL.skip (.no rfl (ltB rfl) rfl rfl) (fun d h => by cases h; exact ltB rfl) ?_
     refine JL.skip (.no rfl (ltB rfl) rfl rfl) (fun d h => by cases h; exact ltB rfl) ?_
     refine JL.skip (.no rfl (ltB rfl) rfl rfl) (fun d h => by cases h; exact ltB rfl) ?_
     refine JL.skip (.no rfl (ltB rfl) rfl rfl) (fun d h => by cases h; exact ltB rfl) ?_
     refine JL.skip (.no rfl (ltB rfl) rfl rfl) (fun d h => by cases h; exact ltB rfl) ?_
     refine JL.skip (.no rfl (ltB rfl) rfl rfl) (fun d h => by cases h; exact ltB rfl) ?_
     refine JL.skip (.no rfl (ltB rfl) rfl rfl) (fun d h => by cases h; exact ltB rfl) ?_
     refine JL.skip (.no rfl (ltB rfl) rfl rfl) (fun d h => by cases h; exact ltB rfl) ?_
     refine JL.skip (.no rfl (ltB rfl) rfl rfl) (fun d h => by cases h; exact ltB rfl) ?_
     refine jc (op_pickT lb (.tmp rfl) rfl .cB) ?_
     refine JL.nil ?_
     exact JQ.join () (Imp.norm (js := []) rfl (.cons rfl (.cons rfl .nil)))

end Go.Proofs.Ytnadeehdnmgebaa
