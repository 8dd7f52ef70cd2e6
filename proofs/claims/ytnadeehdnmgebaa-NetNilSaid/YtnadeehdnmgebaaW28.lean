/- Walks. -/
import Derived.Test.YtnadeehdnmgebaaT
import Derived.Test.YtnadeehdnmgebaaW0
import Derived.Test.YtnadeehdnmgebaaW1
import Derived.Test.YtnadeehdnmgebaaW10
import Derived.Test.YtnadeehdnmgebaaW19
import Derived.Test.YtnadeehdnmgebaaW25
import Derived.Test.YtnadeehdnmgebaaW27
import Derived.Test.YtnadeehdnmgebaaW4
import Derived.Test.YtnadeehdnmgebaaW5
namespace Go.Proofs.Ytnadeehdnmgebaa
open Go Fw
set_option linter.unusedVariables false
set_option maxRecDepth 100000
set_option maxHeartbeats 4000000

theorem sim_law12_NetNil (k : Nat) (r : Bool) (hm : law12_NetNil k = some r) : Sim Try.prog 8 [] [] (γ := Unit) (fun q => []) (fun q => .one (.val (S rB r))) := by
 unfold law12_NetNil at hm
 refine Sim.of Try.func8 rfl rfl (Nat.le_of_ble_eq_true rfl) (fun e0 w0 => ?_)
 refine JC.at ⟨[], [], []⟩ ?_
 refine JC.seq ?_
 refine JC.region ?_
 refine jc (op_assign lb .cB) ?_
 refine JL.nil ?_
 refine JQ.then ?_
 refine JC.seq ?_
 refine JC.region ?_
 replace hm := bnd_inv hm
 obtain ⟨ts1, hs1, hm⟩ := hm
 rcases ts1 with ts1 | ts1
 · obtain _ := ts1
   dsimp only at hm
   refine jx (op_call (js := []) ld cl11 (sim_net_New_v0 k (2 : Int) () hs1) .func (.cons .cI .nil) rfl) (fun q => ?_)
   obtain ⟨gb_1, go_2⟩ := q
   refine jc (op_move lb (.tmp rfl)) ?_
   refine jc (op_extract (i := 0) lb (.tmp rfl) rfl) ?_
   refine jc (op_extract (i := 1) lb (.tmp rfl) rfl) ?_
   refine jc (op_assign lb (.tmp rfl)) ?_
   refine jc (op_assign lb (.tmp rfl)) ?_
   refine JL.nil ?_
   refine JQ.then ?_
   refine JC.seq ?_
   replace hm := bnd_inv hm
   obtain ⟨⟨x_18, lost_19, x_20⟩, hx2, hq2⟩ := hm
   refine JC.seqJ (γ := Unit) (stj := fun q => ⟨[(1, ov (PTR gb_1 0)), (28, ov (S rB x_20))], [cvar gb_1 (rP (rW (MPV go_2)) (rP (rI .i64) (rP (rI .i64) r0))) ((), ((2 : Int), (lost_19, ()))), cmap go_2 (A r_net_pair) (S (rL (rL (rU UInt8)))) (some x_18)], []⟩) (fun q => ?_) ?_
   · obtain _ := q
     refine JC.at ⟨[(1, ov (PTR gb_1 0)), (28, ov (S rB x_20))], [cvar gb_1 (rP (rW (MPV go_2)) (rP (rI .i64) (rP (rI .i64) r0))) ((), ((2 : Int), (lost_19, ()))), cmap go_2 (A r_net_pair) (S (rL (rL (rU UInt8)))) (some x_18)], []⟩ ?_
     replace hq2 := iteB_inv hq2
     rcases hq2 with ⟨hc5, hq2⟩ | ⟨hc5, hq2⟩
     · refine JC.condT (.tmp rfl) hc5 ?_
       refine JC.seq ?_
       refine JC.region ?_
       refine jc (op_assign lb .cB) ?_
       refine JL.nil ?_
       refine JQ.then ?_
       refine JC.ret ?_
       refine JQ.outR ?_
       replace hq2 := Option.some.inj hq2
       subst hq2
       exact JQ.done (js := []) (ss := [.val (S rB false)]) () (.inl rfl) (.nil rfl) rfl (.cons (.tmp rfl) .nil) rfl rfl rfl
     · refine JC.condF (.tmp rfl) hc5 ?_
       refine JC.skip ?_
       refine JQ.then ?_
       replace hq2 := bnd_inv hq2
       obtain ⟨tv6, hx6, hq6⟩ := hq2
       refine JC.seqK (α := (List (net_pair × (List (List UInt8)))) × Int) (γ := Unit) (stj := fun v q => ⟨[(1, ov (PTR gb_1 0))], [cvar gb_1 (rP (rW (MPV go_2)) (rP (rI .i64) (rP (rI .i64) r0))) ((), ((2 : Int), (v.2, ()))), cmap go_2 (A r_net_pair) (S (rL (rL (rU UInt8)))) (some v.1)], []⟩) (p := fun v => tv6 = (.inl v)) (fun v q hv => ?_) ?_
       · subst hv
         obtain ⟨x_33, lost_34⟩ := v
         obtain _ := q
         dsimp only at hq6
         refine JC.at ⟨[(1, ov (PTR gb_1 0))], [cvar gb_1 (rP (rW (MPV go_2)) (rP (rI .i64) (rP (rI .i64) r0))) ((), ((2 : Int), (lost_34, ()))), cmap go_2 (A r_net_pair) (S (rL (rL (rU UInt8)))) (some x_33)], []⟩ ?_
         replace hq6 := bnd_inv hq6
         obtain ⟨t_64, hx10, hq10⟩ := hq6
         refine JC.seqJ (γ := Unit) (stj := fun q => ⟨[(0, ov (S rB t_64))], [], []⟩) (fun q => ?_) ?_
         · obtain _ := q
           refine JC.at ⟨[(0, ov (S rB t_64))], [], []⟩ ?_
           refine JC.ret ?_
           replace hq10 := Option.some.inj hq10
           subst hq10
           exact JQ.done (js := []) (ss := [.val (S rB t_64)]) () (.inl rfl) (.nil rfl) rfl (.cons (.tmp rfl) .nil) rfl rfl rfl
         · refine JC.region ?_
           refine jc (op_move lb (.tmp rfl)) ?_
           replace hx10 := bnd_inv hx10
           obtain ⟨⟨v_35, x_36, x_37⟩, hv_v_35, hx10⟩ := hx10
           refine jx (op_call (js := [0, 0]) ld cl13 (sim_net_Net_Send k (1 : Int) (2 : Int) ([] : (List UInt8)) (2 : Int) lost_34 x_33 gb_1 go_2 (v_35, x_36, x_37) hv_v_35) .func (.cons (.tmp rfl) (.cons .cI (.cons .cI (.cons (HasO.wk (q := S (rL (rU UInt8)) []) HasO.nilH wkNil) .nil)))) rfl) (fun _ => ?_)
           replace hx10 := bnd_inv hx10
           obtain ⟨_, hv_u_38, hx10⟩ := hx10
           refine jx (op_call (js := []) ld cl12 (sim_law12_num k v_35 () hv_u_38) .func (.cons (.tmp rfl) .nil) rfl) (fun _ => ?_)
           replace hx10 := lt1_inv hx10
           obtain ⟨v_39, hv_v_39, hx10⟩ := hx10
           refine jc (op_cmpI lb (.tmp rfl) .cI (congrArg some hv_v_39)) ?_
           refine jc (op_move lb (.tmp rfl)) ?_
           replace hx10 := iteB_inv hx10
           rcases hx10 with ⟨hc12, hx10⟩ | ⟨hc12, hx10⟩
           · refine JL.run (.yes rfl (ltB rfl) rfl hc12) (op_move lb (.tmp rfl)) ?_
             replace hx10 := bnd_inv hx10
             obtain ⟨⟨v_40, x_41⟩, hv_v_40, hx10⟩ := hx10
             refine JL.runX (.yes rfl (ltB rfl) rfl hc12) (op_call (js := [0, 0]) ld cl21 (sim_net_Net_Double k (3 : Int) (2 : Int) x_37 (x_36) gb_1 go_2 (v_40, x_41) hv_v_40) .func (.cons (.tmp rfl) (.cons .cI .nil)) rfl) (fun _ => ?_)
             replace hx10 := bnd_inv hx10
             obtain ⟨_, hv_u_42, hx10⟩ := hx10
             refine JL.runX (.yes rfl (ltB rfl) rfl hc12) (op_call (js := []) ld cl12 (sim_law12_num k v_40 () hv_u_42) .func (.cons (.tmp rfl) .nil) rfl) (fun _ => ?_)
             refine JL.sub ⟨[(1, ov (PTR gb_1 0)), (41, ov (S rB v_39)), (44, ov (S (rI .i64) v_40))], [cvar gb_1 (rP (rW (MPV go_2)) (rP (rI .i64) (rP (rI .i64) r0))) ((), ((2 : Int), (x_37, ()))), cmap go_2 (A r_net_pair) (S (rL (rL (rU UInt8)))) (some (x_41))], []⟩ (.cons rfl (.cons rfl (.cons rfl .nil))) rfl rfl ?_
             replace hx10 := lt1_inv hx10
             obtain ⟨v_43, hv_v_43, hx10⟩ := hx10
             refine JL.run (.yes rfl (ltB rfl) rfl hc12) (op_cmpI lb (.tmp rfl) .cI (congrArg some hv_v_43)) ?_
             refine jc (op_pickT lb (.tmp rfl) hc12 (.tmp rfl)) ?_
             refine jc (op_move lb (.tmp rfl)) ?_
             replace hx10 := iteB_inv hx10
             rcases hx10 with ⟨hc14, hx10⟩ | ⟨hc14, hx10⟩
             · refine JL.run (.yes rfl (ltB rfl) rfl hc14) (op_move lb (.tmp rfl)) ?_
               replace hx10 := bnd_inv hx10
               obtain ⟨⟨v_44, x_45, x_46⟩, hv_v_44, hx10⟩ := hx10
               refine JL.runX (.yes rfl (ltB rfl) rfl hc14) (op_call (js := [0, 0]) ld cl13 (sim_net_Net_Send k (2 : Int) (1 : Int) ([] : (List UInt8)) (2 : Int) x_37 (x_41) gb_1 go_2 (v_44, x_45, x_46) hv_v_44) .func (.cons (.tmp rfl) (.cons .cI (.cons .cI (.cons (HasO.wk (q := S (rL (rU UInt8)) []) HasO.nilH wkNil) .nil)))) rfl) (fun _ => ?_)
               replace hx10 := bnd_inv hx10
               obtain ⟨_, hv_u_47, hx10⟩ := hx10
               refine JL.runX (.yes rfl (ltB rfl) rfl hc14) (op_call (js := []) ld cl12 (sim_law12_num k v_44 () hv_u_47) .func (.cons (.tmp rfl) .nil) rfl) (fun _ => ?_)
               replace hx10 := lt1_inv hx10
               obtain ⟨v_48, hv_v_48, hx10⟩ := hx10
               refine JL.run (.yes rfl (ltB rfl) rfl hc14) (op_cmpI lb (.tmp rfl) .cI (congrArg some hv_v_48)) ?_
               refine jc (op_pickT lb (.tmp rfl) hc14 (.tmp rfl)) ?_
               refine jc (op_move lb (.tmp rfl)) ?_
               replace hx10 := iteB_inv hx10
               rcases hx10 with ⟨hc16, hx10⟩ | ⟨hc16, hx10⟩
               · refine JL.run (.yes rfl (ltB rfl) rfl hc16) (op_move lb (.tmp rfl)) ?_
                 refine JL.sub ⟨[(1, ov (PTR gb_1 0)), (53, ov (S rB v_48)), (54, ov (PTR gb_1 0))], [cvar gb_1 (rP (rW (MPV go_2)) (rP (rI .i64) (rP (rI .i64) r0))) ((), ((2 : Int), (x_46, ()))), cmap go_2 (A r_net_pair) (S (rL (rL (rU UInt8)))) (some (x_45))], []⟩ (.cons rfl (.cons rfl (.cons rfl .nil))) rfl rfl ?_
                 replace hx10 := bnd_inv hx10
                 obtain ⟨_, hv_u_49, hx10⟩ := hx10
                 refine JL.runX (.yes rfl (ltB rfl) rfl hc16) (op_call (js := [0, 0]) ld cl26 (sim_net_Net_Lost k (2 : Int) x_46 (x_45) gb_1 go_2 () hv_u_49) .func (.cons (.tmp rfl) .nil) rfl) (fun _ => ?_)
                 replace hx10 := lt1_inv hx10
                 obtain ⟨v_50, hv_v_50, hx10⟩ := hx10
                 refine JL.run (.yes rfl (ltB rfl) rfl hc16) (op_cmpI lb (.tmp rfl) .cI (congrArg some hv_v_50)) ?_
                 refine jc (op_pickT lb (.tmp rfl) hc16 (.tmp rfl)) ?_
                 refine jc (op_move lb (.tmp rfl)) ?_
                 replace hx10 := iteB_inv hx10
                 rcases hx10 with ⟨hc18, hx10⟩ | ⟨hc18, hx10⟩
                 · refine JL.run (.yes rfl (ltB rfl) rfl hc18) (op_move lb (.tmp rfl)) ?_
                   replace hx10 := bnd_inv hx10
                   obtain ⟨v_51, hv_v_51, hx10⟩ := hx10
                   refine JL.runX (.yes rfl (ltB rfl) rfl hc18) (op_call (js := [0, 0]) ld cl19 (sim_net_Net_Line k (1 : Int) (2 : Int) (2 : Int) x_46 (x_45) gb_1 go_2 v_51 hv_v_51) .func (.cons (.tmp rfl) (.cons .cI (.cons .cI .nil))) rfl) (fun _ => ?_)
                   replace hx10 := lt1_inv hx10
                   obtain ⟨v_52, hv_v_52, hx10⟩ := hx10
                   refine JL.run (.yes rfl (ltB rfl) rfl hc18) (op_cmpI lb (.tmp rfl) .cI (congrArg some hv_v_52)) ?_
                   refine jc (op_pickT lb (.tmp rfl) hc18 (.tmp rfl)) ?_
                   refine jc (op_move lb (.tmp rfl)) ?_
                   replace hx10 := iteB_inv hx10
                   rcases hx10 with ⟨hc20, hx10⟩ | ⟨hc20, hx10⟩
                   · refine JL.run (.yes rfl (ltB rfl) rfl hc20) (op_move lb (.tmp rfl)) ?_
                     replace hx10 := bnd_inv hx10
                     obtain ⟨⟨v_53, x_54⟩, hv_v_53, hx10⟩ := hx10
                     refine JL.runX (.yes rfl (ltB rfl) rfl hc20) (op_call (js := [0, 0]) ld cl20 (sim_net_Net_Clear k (2 : Int) (2 : Int) x_46 (x_45) gb_1 go_2 (v_53, x_54) hv_v_53) .func (.cons (.tmp rfl) (.cons .cI .nil)) rfl) (fun _ => ?_)
                     refine JL.sub ⟨[(1, ov (PTR gb_1 0)), (63, ov (S rB v_52)), (65, ov (S (rI .i64) v_53))], [cvar gb_1 (rP (rW (MPV go_2)) (rP (rI .i64) (rP (rI .i64) r0))) ((), ((2 : Int), (x_46, ()))), cmap go_2 (A r_net_pair) (S (rL (rL (rU UInt8)))) (some (x_54))], []⟩ (.cons rfl (.cons rfl (.cons rfl .nil))) rfl rfl ?_
                     replace hx10 := lt1_inv hx10
                     obtain ⟨v_55, hv_v_55, hx10⟩ := hx10
                     refine JL.run (.yes rfl (ltB rfl) rfl hc20) (op_cmpI lb (.tmp rfl) .cI (congrArg some hv_v_55)) ?_
                     refine jc (op_pickT lb (.tmp rfl) hc20 (.tmp rfl)) ?_
                     refine jc (op_move lb (.tmp rfl)) ?_
                     replace hx10 := iteB_inv hx10
                     rcases hx10 with ⟨hc22, hx10⟩ | ⟨hc22, hx10⟩
                     · refine JL.run (.yes rfl (ltB rfl) rfl hc22) (op_move lb (.tmp rfl)) ?_
                       replace hx10 := bnd_inv hx10
                       obtain ⟨v_56, hv_v_56, hx10⟩ := hx10
                       refine JL.runX (.yes rfl (ltB rfl) rfl hc22) (op_call (js := [0, 0]) ld cl16 (sim_net_Net_Len k (2 : Int) x_46 (x_54) gb_1 go_2 v_56 hv_v_56) .func (.cons (.tmp rfl) .nil) rfl) (fun _ => ?_)
                       replace hx10 := lt1_inv hx10
                       obtain ⟨v_57, hv_v_57, hx10⟩ := hx10
                       refine JL.run (.yes rfl (ltB rfl) rfl hc22) (op_cmpI lb (.tmp rfl) .cI (congrArg some hv_v_57)) ?_
                       refine jc (op_pickT lb (.tmp rfl) hc22 (.tmp rfl)) ?_
                       refine jc (op_move lb (.tmp rfl)) ?_
                       replace hx10 := bnd_inv hx10
                       obtain ⟨v_58, hv_v_58, hx10⟩ := hx10
                       refine JL.cnd (sv := ov (S rB v_58)) (Guard.isT (ltB rfl) rfl rfl) rfl (ltB rfl) (fun hq_23 => (op_call (js := []) ld cl27 (sim_law12_nothing k v_58 (ifT hv_v_58 hq_23)) .func (.cons (HasO.const (p := PTO none) fun _ => rfl) .nil) rfl).post (fun _ => Imp.refl)) ?_
                       replace hx10 := lt1_inv hx10
                       obtain ⟨v_59, hv_v_59, hx10⟩ := hx10
                       refine jc (op_pickCS lb (.tmp rfl) (fun hb24 => (HasO.cnd (.tmp rfl) hb24)) (fun hb24 => .cB) hv_v_59) ?_
                       refine jc (op_move lb (.tmp rfl)) ?_
                       refine JL.cnd (sv := ov (A (rP (rW (MPV none)) (rP (rI .i64) (rP (rI .i64) r0))) ((), ((0 : Int), ((0 : Int), ()))))) (Guard.isT (ltB rfl) rfl rfl) rfl (ltB rfl) (fun hq_25 => op_build lb tZ57 zr57 tp57 .nil rfl) ?_
                       refine JL.nrm ⟨[(76, ov (S rB v_59)), (77, bif v_59 then ov (A (rP (rW (MPV none)) (rP (rI .i64) (rP (rI .i64) r0))) ((), ((0 : Int), ((0 : Int), ())))) else .one .und)], [], []⟩ [] rfl (.cons rfl (.cons rfl .nil)) rfl ?_
                       replace hx10 := iteB_inv hx10
                       rcases hx10 with ⟨hc27, hx10⟩ | ⟨hc27, hx10⟩
                       · refine JL.runX (.yes rfl (ltB rfl) rfl hc27) (op_boxA lb (HasO.cnd (.tmp rfl) hc27)) (fun q => ?_)
                         obtain ⟨gb_60, hqq⟩ : ∃ z, z = q := ⟨_, rfl⟩
                         subst hqq
                         replace hx10 := bnd_inv hx10
                         obtain ⟨v_61, hv_v_61, hx10⟩ := hx10
                         refine JL.runX (.yes rfl (ltB rfl) rfl hc27) (op_call (js := [0]) ld cl27 (sim_law12_nothing'2 k (0 : Int) (0 : Int) gb_60 v_61 hv_v_61) .func (.cons (.tmp rfl) .nil) rfl) (fun _ => ?_)
                         refine jc (op_pickT lb (.tmp rfl) hc27 (.tmp rfl)) ?_
                         refine jc (op_move lb (.tmp rfl)) ?_
                         replace hx10 := bnd_inv hx10
                         obtain ⟨v_62, hv_v_62, hx10⟩ := hx10
                         refine JL.cnd (sv := ov (S rB v_62)) (Guard.isT (ltB rfl) rfl rfl) rfl (ltB rfl) (fun hq_28 => (op_call (js := []) ld cl9 (sim_law12_known'2 k v_62 (ifT hv_v_62 hq_28)) .func .nil rfl).post (fun _ => Imp.refl)) ?_
                         replace hx10 := lt1_inv hx10
                         obtain ⟨v_63, hv_v_63, hx10⟩ := hx10
                         refine jc (op_pickCS lb (.tmp rfl) (fun hb29 => (HasO.cnd (.tmp rfl) hb29)) (fun hb29 => .cB) hv_v_63) ?_
                         refine jc (op_assign lb (.tmp rfl)) ?_
                         refine JL.nil ?_
                         replace hx10 := Option.some.inj hx10
                         first | subst hx10 | clear hx10
                         exact JQ.join () (Imp.norm (js := []) rfl (.cons rfl .nil))
                       · refine JL.skip (.no rfl (ltB rfl) rfl hc27) (fun d h => by cases h; exact ltB rfl) ?_
                         refine JL.skip (.no rfl (ltB rfl) rfl hc27) (fun d h => by cases h; exact ltB rfl) ?_
                         refine jc (op_pickF lb (.tmp rfl) hc27 .cB) ?_
                         refine jc (op_move lb (.tmp rfl)) ?_
                         refine JL.skip (.no rfl (ltB rfl) rfl rfl) (fun d h => by cases h; exact ltB rfl) ?_
                         refine jc (op_pickF lb (.tmp rfl) rfl .cB) ?_
                         refine jc (op_assign lb (.tmp rfl)) ?_
                         refine JL.nil ?_
                         replace hx10 := Option.some.inj hx10
                         first | subst hx10 | clear hx10
                         exact JQ.join () (Imp.norm (js := []) rfl (.cons rfl .nil))
                     · refine JL.skip (.no rfl (ltB rfl) rfl hc22) (fun d h => by cases h; exact ltB rfl) ?_
                       refine JL.skip (.no rfl (ltB rfl) rfl hc22) (fun d h => by cases h; exact ltB rfl) ?_
                       refine JL.skip (.no rfl (ltB rfl) rfl hc22) (fun d h => by cases h; exact ltB rfl) ?_
                       refine jc (op_pickF lb (.tmp rfl) hc22 .cB) ?_
                       refine jc (op_move lb (.tmp rfl)) ?_
                       refine JL.skip (.no rfl (ltB rfl) rfl rfl) (fun d h => by cases h; exact ltB rfl) ?_
                       refine jc (op_pickF lb (.tmp rfl) rfl .cB) ?_
                       refine jc (op_move lb (.tmp rfl)) ?_
                       refine JL.skip (.no rfl (ltB rfl) rfl rfl) (fun d h => by cases h; exact ltB rfl) ?_
                       refine JL.skip (.no rfl (ltB rfl) rfl rfl) (fun d h => by cases h; exact ltB rfl) ?_
                       refine JL.skip (.no rfl (ltB rfl) rfl rfl) (fun d h => by cases h; exact ltB rfl) ?_
                       refine jc (op_pickF lb (.tmp rfl) rfl .cB) ?_
                       refine jc (op_move lb (.tmp rfl)) ?_
                       refine JL.skip (.no rfl (ltB rfl) rfl rfl) (fun d h => by cases h; exact ltB rfl) ?_
                       refine jc (op_pickF lb (.tmp rfl) rfl .cB) ?_
                       refine jc (op_assign lb (.tmp rfl)) ?_
                       refine JL.nil ?_
                       replace hx10 := Option.some.inj hx10
                       first | subst hx10 | clear hx10
                       exact JQ.join () (Imp.norm (js := []) rfl (.cons rfl .nil))
                   · refine JL.skip (.no rfl (ltB rfl) rfl hc20) (fun d h => by cases h; exact ltB rfl) ?_
                     refine JL.skip (.no rfl (ltB rfl) rfl hc20) (fun d h => by cases h; exact ltB rfl) ?_
                     refine JL.skip (.no rfl (ltB rfl) rfl hc20) (fun d h => by cases h; exact ltB rfl) ?_
                     refine jc (op_pickF lb (.tmp rfl) hc20 .cB) ?_
                     refine jc (op_move lb (.tmp rfl)) ?_
                     refine JL.skip (.no rfl (ltB rfl) rfl rfl) (fun d h => by cases h; exact ltB rfl) ?_
                     refine JL.skip (.no rfl (ltB rfl) rfl rfl) (fun d h => by cases h; exact ltB rfl) ?_
                     refine JL.skip (.no rfl (ltB rfl) rfl rfl) (fun d h => by cases h; exact ltB rfl) ?_
                     refine jc (op_pickF lb (.tmp rfl) rfl .cB) ?_
                     refine JL.nrm ⟨[(72, ov (S rB false))], [], []⟩ [] rfl (.cons rfl .nil) rfl ?_
                     refine jc (op_move lb (.tmp rfl)) ?_
                     refine JL.skip (.no rfl (ltB rfl) rfl rfl) (fun d h => by cases h; exact ltB rfl) ?_
                     refine jc (op_pickF lb (.tmp rfl) rfl .cB) ?_
                     refine jc (op_move lb (.tmp rfl)) ?_
                     refine JL.skip (.no rfl (ltB rfl) rfl rfl) (fun d h => by cases h; exact ltB rfl) ?_
                     refine JL.skip (.no rfl (ltB rfl) rfl rfl) (fun d h => by cases h; exact ltB rfl) ?_
                     refine JL.skip (.no rfl (ltB rfl) rfl rfl) (fun d h => by cases h; exact ltB rfl) ?_
                     refine jc (op_pickF lb (.tmp rfl) rfl .cB) ?_
                     refine jc (op_move lb (.tmp rfl)) ?_
                     refine JL.skip (.no rfl (ltB rfl) rfl rfl) (fun d h => by cases h; exact ltB rfl) ?_
                     refine jc (op_pickF lb (.tmp rfl) rfl .cB) ?_
                     refine jc (op_assign lb (.tmp rfl)) ?_
                     refine JL.nil ?_
                     replace hx10 := Option.some.inj hx10
                     first | subst hx10 | clear hx10
                     exact JQ.join () (Imp.norm (js := []) rfl (.cons rfl .nil))
                 · refine JL.skip (.no rfl (ltB rfl) rfl hc18) (fun d h => by cases h; exact ltB rfl) ?_
                   refine JL.skip (.no rfl (ltB rfl) rfl hc18) (fun d h => by cases h; exact ltB rfl) ?_
                   refine JL.skip (.no rfl (ltB rfl) rfl hc18) (fun d h => by cases h; exact ltB rfl) ?_
                   refine jc (op_pickF lb (.tmp rfl) hc18 .cB) ?_
                   refine jc (op_move lb (.tmp rfl)) ?_
                   refine JL.skip (.no rfl (ltB rfl) rfl rfl) (fun d h => by cases h; exact ltB rfl) ?_
                   refine JL.skip (.no rfl (ltB rfl) rfl rfl) (fun d h => by cases h; exact ltB rfl) ?_
                   refine JL.skip (.no rfl (ltB rfl) rfl rfl) (fun d h => by cases h; exact ltB rfl) ?_
                   refine jc (op_pickF lb (.tmp rfl) rfl .cB) ?_
                   refine jc (op_move lb (.tmp rfl)) ?_
                   refine JL.skip (.no rfl (ltB rfl) rfl rfl) (fun d h => by cases h; exact ltB rfl) ?_
                   refine JL.skip (.no rfl (ltB rfl) rfl rfl) (fun d h => by cases h; exact ltB rfl) ?_
                   refine JL.skip (.no rfl (ltB rfl) rfl rfl) (fun d h => by cases h; exact ltB rfl) ?_
                   refine jc (op_pickF lb (.tmp rfl) rfl .cB) ?_
                   refine jc (op_move lb (.tmp rfl)) ?_
                   refine JL.skip (.no rfl (ltB rfl) rfl rfl) (fun d h => by cases h; exact ltB rfl) ?_
                   refine jc (op_pickF lb (.tmp rfl) rfl .cB) ?_
                   refine jc (op_move lb (.tmp rfl)) ?_
                   refine JL.nrm ⟨[(76, ov (S rB false))], [], []⟩ [] rfl (.cons rfl .nil) rfl ?_
                   refine JL.skip (.no rfl (ltB rfl) rfl rfl) (fun d h => by cases h; exact ltB rfl) ?_
                   refine JL.skip (.no rfl (ltB rfl) rfl rfl) (fun d h => by cases h; exact ltB rfl) ?_
                   refine JL.skip (.no rfl (ltB rfl) rfl rfl) (fun d h => by cases h; exact ltB rfl) ?_
                   refine jc (op_pickF lb (.tmp rfl) rfl .cB) ?_
                   refine jc (op_move lb (.tmp rfl)) ?_
                   refine JL.skip (.no rfl (ltB rfl) rfl rfl) (fun d h => by cases h; exact ltB rfl) ?_
                   refine jc (op_pickF lb (.tmp rfl) rfl .cB) ?_
                   refine jc (op_assign lb (.tmp rfl)) ?_
                   refine JL.nil ?_
                   replace hx10 := Option.some.inj hx10
                   first | subst hx10 | clear hx10
                   exact JQ.join () (Imp.norm (js := []) rfl (.cons rfl .nil))
               · refine JL.skip (.no rfl (ltB rfl) rfl hc16) (fun d h => by cases h; exact ltB rfl) ?_
                 refine JL.skip (.no rfl (ltB rfl) rfl hc16) (fun d h => by cases h; exact ltB rfl) ?_
                 refine JL.skip (.no rfl (ltB rfl) rfl hc16) (fun d h => by cases h; exact ltB rfl) ?_
                 refine jc (op_pickF lb (.tmp rfl) hc16 .cB) ?_
                 refine JL.sub ⟨[(1, ov (PTR gb_1 0)), (57, ov (S rB false))], [cvar gb_1 (rP (rW (MPV go_2)) (rP (rI .i64) (rP (rI .i64) r0))) ((), ((2 : Int), (x_46, ()))), cmap go_2 (A r_net_pair) (S (rL (rL (rU UInt8)))) (some (x_45))], []⟩ (.cons rfl (.cons rfl .nil)) rfl rfl ?_
                 refine jc (op_move lb (.tmp rfl)) ?_
                 refine JL.skip (.no rfl (ltB rfl) rfl rfl) (fun d h => by cases h; exact ltB rfl) ?_
                 refine JL.skip (.no rfl (ltB rfl) rfl rfl) (fun d h => by cases h; exact ltB rfl) ?_
                 refine JL.skip (.no rfl (ltB rfl) rfl rfl) (fun d h => by cases h; exact ltB rfl) ?_
                 refine jc (op_pickF lb (.tmp rfl) rfl .cB) ?_
                 refine jc (op_move lb (.tmp rfl)) ?_
                 refine JL.skip (.no rfl (ltB rfl) rfl rfl) (fun d h => by cases h; exact ltB rfl) ?_
                 refine JL.skip (.no rfl (ltB rfl) rfl rfl) (fun d h => by cases h; exact ltB rfl) ?_
                 refine JL.skip (.no rfl (ltB rfl) rfl rfl) (fun d h => by cases h; exact ltB rfl) ?_
                 refine jc (op_pickF lb (.tmp rfl) rfl .cB) ?_
                 refine jc (op_move lb (.tmp rfl)) ?_
                 refine JL.skip (.no rfl (ltB rfl) rfl rfl) (fun d h => by cases h; exact ltB rfl) ?_
                 refine JL.skip (.no rfl (ltB rfl) rfl rfl) (fun d h => by cases h; exact ltB rfl) ?_
                 refine JL.skip (.no rfl (ltB rfl) rfl rfl) (fun d h => by cases h; exact ltB rfl) ?_
                 refine jc (op_pickF lb (.tmp rfl) rfl .cB) ?_
                 refine jc (op_move lb (.tmp rfl)) ?_
                 refine JL.skip (.no rfl (ltB rfl) rfl rfl) (fun d h => by cases h; exact ltB rfl) ?_
                 refine jc (op_pickF lb (.tmp rfl) rfl .cB) ?_
                 refine jc (op_move lb (.tmp rfl)) ?_
                 refine JL.skip (.no rfl (ltB rfl) rfl rfl) (fun d h => by cases h; exact ltB rfl) ?_
                 refine JL.skip (.no rfl (ltB rfl) rfl rfl) (fun d h => by cases h; exact ltB rfl) ?_
                 refine JL.skip (.no rfl (ltB rfl) rfl rfl) (fun d h => by cases h; exact ltB rfl) ?_
                 refine jc (op_pickF lb (.tmp rfl) rfl .cB) ?_
                 refine jc (op_move lb (.tmp rfl)) ?_
                 refine JL.skip (.no rfl (ltB rfl) rfl rfl) (fun d h => by cases h; exact ltB rfl) ?_
                 refine jc (op_pickF lb (.tmp rfl) rfl .cB) ?_
                 refine JL.nrm ⟨[(83, ov (S rB false))], [], []⟩ [] rfl (.cons rfl .nil) rfl ?_
                 refine jc (op_assign lb (.tmp rfl)) ?_
                 refine JL.nil ?_
                 replace hx10 := Option.some.inj hx10
                 first | subst hx10 | clear hx10
                 exact JQ.join () (Imp.norm (js := []) rfl (.cons rfl .nil))
             · refine JL.skip (.no rfl (ltB rfl) rfl hc14) (fun d h => by cases h; exact ltB rfl) ?_
               refine JL.skip (.no rfl (ltB rfl) rfl hc14) (fun d h => by cases h; exact ltB rfl) ?_
               refine JL.skip (.no rfl (ltB rfl) rfl hc14) (fun d h => by cases h; exact ltB rfl) ?_
               refine JL.skip (.no rfl (ltB rfl) rfl hc14) (fun d h => by cases h; exact ltB rfl) ?_
               refine jc (op_pickF lb (.tmp rfl) hc14 .cB) ?_
               refine jc (op_move lb (.tmp rfl)) ?_
               refine JL.skip (.no rfl (ltB rfl) rfl rfl) (fun d h => by cases h; exact ltB rfl) ?_
               refine JL.skip (.no rfl (ltB rfl) rfl rfl) (fun d h => by cases h; exact ltB rfl) ?_
               refine JL.skip (.no rfl (ltB rfl) rfl rfl) (fun d h => by cases h; exact ltB rfl) ?_
               refine jc (op_pickF lb (.tmp rfl) rfl .cB) ?_
               refine jc (op_move lb (.tmp rfl)) ?_
               refine JL.skip (.no rfl (ltB rfl) rfl rfl) (fun d h => by cases h; exact ltB rfl) ?_
               refine JL.skip (.no rfl (ltB rfl) rfl rfl) (fun d h => by cases h; exact ltB rfl) ?_
               refine JL.skip (.no rfl (ltB rfl) rfl rfl) (fun d h => by cases h; exact ltB rfl) ?_
               refine jc (op_pickF lb (.tmp rfl) rfl .cB) ?_
               refine jc (op_move lb (.tmp rfl)) ?_
               refine JL.skip (.no rfl (ltB rfl) rfl rfl) (fun d h => by cases h; exact ltB rfl) ?_
               refine JL.skip (.no rfl (ltB rfl) rfl rfl) (fun d h => by cases h; exact ltB rfl) ?_
               refine JL.skip (.no rfl (ltB rfl) rfl rfl) (fun d h => by cases h; exact ltB rfl) ?_
               refine jc (op_pickF lb (.tmp rfl) rfl .cB) ?_
               refine jc (op_move lb (.tmp rfl)) ?_
               refine JL.skip (.no rfl (ltB rfl) rfl rfl) (fun d h => by cases h; exact ltB rfl) ?_
               refine JL.skip (.no rfl (ltB rfl) rfl rfl) (fun d h => by cases h; exact ltB rfl) ?_
               refine JL.skip (.no rfl (ltB rfl) rfl rfl) (fun d h => by cases h; exact ltB rfl) ?_
               refine jc (op_pickF lb (.tmp rfl) rfl .cB) ?_
               refine JL.nrm ⟨[(72, ov (S rB false))], [], []⟩ [] rfl (.cons rfl .nil) rfl ?_
               refine jc (op_move lb (.tmp rfl)) ?_
               refine JL.skip (.no rfl (ltB rfl) rfl rfl) (fun d h => by cases h; exact ltB rfl) ?_
               refine jc (op_pickF lb (.tmp rfl) rfl .cB) ?_
               refine jc (op_move lb (.tmp rfl)) ?_
               refine JL.skip (.no rfl (ltB rfl) rfl rfl) (fun d h => by cases h; exact ltB rfl) ?_
               refine JL.skip (.no rfl (ltB rfl) rfl rfl) (fun d h => by cases h; exact ltB rfl) ?_
               refine JL.skip (.no rfl (ltB rfl) rfl rfl) (fun d h => by cases h; exact ltB rfl) ?_
               refine jc (op_pickF lb (.tmp rfl) rfl .cB) ?_
               refine jc (op_move lb (.tmp rfl)) ?_
               refine JL.skip (.no rfl (ltB rfl) rfl rfl) (fun d h => by cases h; exact ltB rfl) ?_
               refine jc (op_pickF lb (.tmp rfl) rfl .cB) ?_
               refine jc (op_assign lb (.tmp rfl)) ?_
               refine JL.nil ?_
               replace hx10 := Option.some.inj hx10
               first | subst hx10 | clear hx10
               exact JQ.join () (Imp.norm (js := []) rfl (.cons rfl .nil))
           · refine JL.skip (.no rfl (ltB rfl) rfl hc12) (fun d h => by cases h; exact ltB rfl) ?_
             refine JL.skip (.no rfl (ltB rfl) rfl hc12) (fun d h => by cases h; exact ltB rfl) ?_
             refine JL.skip (.no rfl (ltB rfl) rfl hc12) (fun d h => by cases h; exact ltB rfl) ?_
             refine JL.skip (.no rfl (ltB rfl) rfl hc12) (fun d h => by cases h; exact ltB rfl) ?_
             refine jc (op_pickF lb (.tmp rfl) hc12 .cB) ?_
             refine jc (op_move lb (.tmp rfl)) ?_
             refine JL.skip (.no rfl (ltB rfl) rfl rfl) (fun d h => by cases h; exact ltB rfl) ?_
             refine JL.skip (.no rfl (ltB rfl) rfl rfl) (fun d h => by cases h; exact ltB rfl) ?_
             refine JL.skip (.no rfl (ltB rfl) rfl rfl) (fun d h => by cases h; exact ltB rfl) ?_
             refine JL.skip (.no rfl (ltB rfl) rfl rfl) (fun d h => by cases h; exact ltB rfl) ?_
             refine jc (op_pickF lb (.tmp rfl) rfl .cB) ?_
             refine jc (op_move lb (.tmp rfl)) ?_
             refine JL.skip (.no rfl (ltB rfl) rfl rfl) (fun d h => by cases h; exact ltB rfl) ?_
             refine JL.skip (.no rfl (ltB rfl) rfl rfl) (fun d h => by cases h; exact ltB rfl) ?_
             refine JL.skip (.no rfl (ltB rfl) rfl rfl) (fun d h => by cases h; exact ltB rfl) ?_
             refine jc (op_pickF lb (.tmp rfl) rfl .cB) ?_
             refine JL.sub ⟨[(1, ov (PTR gb_1 0)), (57, ov (S rB false))], [cvar gb_1 (rP (rW (MPV go_2)) (rP (rI .i64) (rP (rI .i64) r0))) ((), ((2 : Int), (x_37, ()))), cmap go_2 (A r_net_pair) (S (rL (rL (rU UInt8)))) (some (x_36))], []⟩ (.cons rfl (.cons rfl .nil)) rfl rfl ?_
             refine jc (op_move lb (.tmp rfl)) ?_
             refine JL.skip (.no rfl (ltB rfl) rfl rfl) (fun d h => by cases h; exact ltB rfl) ?_
             refine JL.skip (.no rfl (ltB rfl) rfl rfl) (fun d h => by cases h; exact ltB rfl) ?_
             refine JL.skip (.no rfl (ltB rfl) rfl rfl) (fun d h => by cases h; exact ltB rfl) ?_
             refine jc (op_pickF lb (.tmp rfl) rfl .cB) ?_
             refine jc (op_move lb (.tmp rfl)) ?_
             refine JL.skip (.no rfl (ltB rfl) rfl rfl) (fun d h => by cases h; exact ltB rfl) ?_
             refine JL.skip (.no rfl (ltB rfl) rfl rfl) (fun d h => by cases h; exact ltB rfl) ?_
             refine JL.skip (.no rfl (ltB rfl) rfl rfl) (fun d h => by cases h; exact ltB rfl) ?_
             refine jc (op_pickF lb (.tmp rfl) rfl .cB) ?_
             refine jc (op_move lb (.tmp rfl)) ?_
             refine JL.skip (.no rfl (ltB rfl) rfl rfl) (fun d h => by cases h; exact ltB rfl) ?_
             refine JL.skip (.no rfl (ltB rfl) rfl rfl) (fun d h => by cases h; exact ltB rfl) ?_
             refine JL.skip (.no rfl (ltB rfl) rfl rfl) (fun d h => by cases h; exact ltB rfl) ?_
             refine jc (op_pickF lb (.tmp rfl) rfl .cB) ?_
             refine jc (op_move lb (.tmp rfl)) ?_
             refine JL.skip (.no rfl (ltB rfl) rfl rfl) (fun d h => by cases h; exact ltB rfl) ?_
             refine jc (op_pickF lb (.tmp rfl) rfl .cB) ?_
             refine jc (op_move lb (.tmp rfl)) ?_
             refine JL.skip (.no rfl (ltB rfl) rfl rfl) (fun d h => by cases h; exact ltB rfl) ?_
             refine JL.skip (.no rfl (ltB rfl) rfl rfl) (fun d h => by cases h; exact ltB rfl) ?_
             refine JL.skip (.no rfl (ltB rfl) rfl rfl) (fun d h => by cases h; exact ltB rfl) ?_
             refine jc (op_pickF lb (.tmp rfl) rfl .cB) ?_
             refine jc (op_move lb (.tmp rfl)) ?_
             refine JL.skip (.no rfl (ltB rfl) rfl rfl) (fun d h => by cases h; exact ltB rfl) ?_
             refine jc (op_pickF lb (.tmp rfl) rfl .cB) ?_
             refine JL.nrm ⟨[(83, ov (S rB false))], [], []⟩ [] rfl (.cons rfl .nil) rfl ?_
             refine jc (op_assign lb (.tmp rfl)) ?_
             refine JL.nil ?_
             replace hx10 := Option.some.inj hx10
             first | subst hx10 | clear hx10
             exact JQ.join () (Imp.norm (js := []) rfl (.cons rfl .nil))
       · refine JC.seq ?_
         refine JC.region ?_
         refine jc (op_assign lb .cI) ?_
         refine JL.nil ?_
         refine JQ.then ?_
         refine JC.block ?_
         replace hx6 := bnd_inv hx6
         obtain ⟨tv7, hL7, hq7⟩ := hx6
         refine JC.pre ?_ (JC.loop (γ := Unit) (stf := fun s q => ⟨[(1, ov (PTR gb_1 0)), (3, ov (S (rI .i64) s.2.2))], [cvar gb_1 (rP (rW (MPV go_2)) (rP (rI .i64) (rP (rI .i64) r0))) ((), ((2 : Int), (s.2.1, ()))), cmap go_2 (A r_net_pair) (S (rL (rL (rU UInt8)))) (some s.1)], []⟩) (q := ()) hL7 ?_)
         · exact (Imp.norm (js := [0, 0]) rfl (.cons rfl (.cons rfl .nil)))
         · intro s q x hx hr
           obtain ⟨x_21, lost_22, x_23⟩ := s
           obtain _ := q
           change law12_NetNil.b1 k x_21 lost_22 x_23 = some x at hx
           unfold law12_NetNil.b1 at hx
           refine JC.at ⟨[(1, ov (PTR gb_1 0)), (3, ov (S (rI .i64) x_23))], [cvar gb_1 (rP (rW (MPV go_2)) (rP (rI .i64) (rP (rI .i64) r0))) ((), ((2 : Int), (lost_22, ()))), cmap go_2 (A r_net_pair) (S (rL (rL (rU UInt8)))) (some x_21)], []⟩ ?_
           refine JC.seq ?_
           refine JC.seq ?_
           refine JC.region ?_
           refine jc (op_move lb (.tmp rfl)) ?_
           replace hx := lt1_inv hx
           obtain ⟨v_24, hv_v_24, hx⟩ := hx
           refine jc (op_cmpI lb (.tmp rfl) .cI (congrArg some hv_v_24)) ?_
           refine JL.nil ?_
           refine JQ.then ?_
           replace hx := iteB_inv hx
           rcases hx with ⟨hc8, hx⟩ | ⟨hc8, hx⟩
           · refine JC.condT (.tmp rfl) hc8 ?_
             refine JC.skip ?_
             refine JQ.then ?_
             refine JC.seq ?_
             refine JC.block ?_
             refine JC.seq ?_
             refine JC.region ?_
             refine jc (op_move lb (.tmp rfl)) ?_
             replace hx := bnd_inv hx
             obtain ⟨⟨v_25, x_26, x_27⟩, hv_v_25, hx⟩ := hx
             refine jx (op_call (js := [0, 0]) ld cl13 (sim_net_Net_Send k (1 : Int) (2 : Int) ([] : (List UInt8)) (2 : Int) lost_22 x_21 gb_1 go_2 (v_25, x_26, x_27) hv_v_25) .func (.cons (.tmp rfl) (.cons .cI (.cons .cI (.cons (HasO.wk (q := S (rL (rU UInt8)) []) HasO.nilH wkNil) .nil)))) rfl) (fun _ => ?_)
             replace hx := bnd_inv hx
             obtain ⟨_, hv_u_28, hx⟩ := hx
             refine jx (op_call (js := []) ld cl12 (sim_law12_num k v_25 () hv_u_28) .func (.cons (.tmp rfl) .nil) rfl) (fun _ => ?_)
             replace hx := lt1_inv hx
             obtain ⟨v_29, hv_v_29, hx⟩ := hx
             refine jc (op_cmpI lb (.tmp rfl) .cI (congrArg some hv_v_29)) ?_
             refine JL.nil ?_
             refine JQ.then ?_
             replace hx := iteB_inv hx
             rcases hx with ⟨hc9, hx⟩ | ⟨hc9, hx⟩
             · refine JC.condT (.tmp rfl) hc9 ?_
               refine JC.seq ?_
               refine JC.region ?_
               refine jc (op_assign lb .cB) ?_
               refine JL.nil ?_
               refine JQ.then ?_
               refine JC.ret ?_
               refine JQ.outRB ?_
               refine JQ.outR ?_
               replace hx := Option.some.inj hx
               first | subst hx | clear hx
               have ht := hr _ rfl
               clear hr
               first | subst ht | clear ht
               dsimp only at hq7
               refine JQ.outR ?_
               refine JQ.outRB ?_
               replace hq7 := Option.some.inj hq7
               first | subst hq7 | clear hq7
               dsimp only at hq6
               refine JQ.outR ?_
               replace hq6 := Option.some.inj hq6
               subst hq6
               exact JQ.done (js := []) (ss := [.val (S rB false)]) () (.inl rfl) (.nil rfl) rfl (.cons (.tmp rfl) .nil) rfl rfl rfl
             · refine JC.condF (.tmp rfl) hc9 ?_
               refine JC.skip ?_
               refine JQ.outNB ?_
               refine JQ.then ?_
               refine JC.region ?_
               refine jc (op_move lb (.tmp rfl)) ?_
               replace hx := lt1_inv hx
               obtain ⟨v_30, hv_v_30, hx⟩ := hx
               refine jc (op_arI lb (.tmp rfl) .cI (congrArg some hv_v_30)) ?_
               refine jc (op_assign lb (.tmp rfl)) ?_
               refine JL.nil ?_
               replace hx := Option.some.inj hx
               first | subst hx | clear hx
               exact JQ.next () rfl (Imp.norm (js := [0, 0]) rfl (.cons rfl (.cons rfl .nil)))
           · refine JC.condF (.tmp rfl) hc8 ?_
             refine JC.exit ?_
             refine JQ.outX ?_
             replace hx := Option.some.inj hx
             first | subst hx | clear hx
             have ht := hr _ rfl
             clear hr
             first | subst ht | clear ht
             dsimp only at hq7
             refine JQ.outX ?_
             refine JQ.here ?_
             replace hq7 := Option.some.inj hq7
             first | subst hq7 | clear hq7
             exact JQ.joinK (x_21, lost_22) () rfl (Imp.norm (js := [0, 0]) rfl (.cons rfl .nil))
   · refine JC.region ?_
     refine jc (op_move lb (.tmp rfl)) ?_
     refine jc (op_nilP (neg := false) lb tu25 (.tmp rfl) (HasO.const (p := PTO none) fun _ => rfl)) ?_
     refine jc (op_move lb (.tmp rfl)) ?_
     refine JL.sub ⟨[(1, ov (PTR gb_1 0)), (2, ov (S (rI .i64) (0 : Int))), (10, ov (S rB false))], [cvar gb_1 (rP (rW (MPV go_2)) (rP (rI .i64) (rP (rI .i64) r0))) ((), ((2 : Int), ((0 : Int), ()))), cmap go_2 (A r_net_pair) (S (rL (rL (rU UInt8)))) (some ([] : (List (net_pair × (List (List UInt8))))))], []⟩ (.cons rfl (.cons rfl (.cons rfl .nil))) rfl rfl ?_
     refine JL.run (.yes rfl (ltB rfl) rfl rfl) (op_move lb (.tmp rfl)) ?_
     replace hx2 := bnd_inv hx2
     obtain ⟨_, hv_u_3, hx2⟩ := hx2
     refine JL.runX (.yes rfl (ltB rfl) rfl rfl) (op_call (js := []) ld cl12 (sim_law12_num k (0 : Int) () hv_u_3) .func (.cons (.tmp rfl) .nil) rfl) (fun _ => ?_)
     refine JL.run (.yes rfl (ltB rfl) rfl rfl) (op_cmpI lb (.tmp rfl) .cI (congrArg some (by decide : ((0 : Int) != (0 : Int)) = false))) ?_
     refine jc (op_pickF lb (.tmp rfl) rfl (.tmp rfl)) ?_
     refine jc (op_move lb (.tmp rfl)) ?_
     refine JL.run (.yes rfl (ltB rfl) rfl rfl) (op_move lb (.tmp rfl)) ?_
     replace hx2 := bnd_inv hx2
     obtain ⟨v_4, hv_v_4, hx2⟩ := hx2
     refine JL.runX (.yes rfl (ltB rfl) rfl rfl) (op_makeOg lb tu31 tB5 zv5 .cI .cI hv_v_4) (fun q => ?_)
     obtain ⟨gb_5, hqq⟩ : ∃ z, z = q := ⟨_, rfl⟩
     subst hqq
     replace hx2 := bnd_inv hx2
     obtain ⟨⟨v_6, x_7, x_8⟩, hv_v_6, hx2⟩ := hx2
     refine JL.pre (Imp.frz (j := 2) rfl (ImpK.slotH (s := 17) rfl ImpK.refl)) ?_
     refine JL.runX (.yes rfl (ltB rfl) rfl rfl) (op_call (js := [0, 0]) ld cl13 (sim_net_Net_Send k (1 : Int) (2 : Int) v_4 (2 : Int) (0 : Int) ([] : (List (net_pair × (List (List UInt8))))) gb_1 go_2 (v_6, x_7, x_8) hv_v_6) .func (.cons (.tmp rfl) (.cons .cI (.cons .cI (.cons (HasO.wk (.tmp rfl) wkHL) .nil)))) rfl) (fun _ => ?_)
     refine JL.nrm ⟨[(1, ov (PTR gb_1 0)), (15, ov (S rB false)), (18, ov (S (rI .i64) v_6))], [cvar gb_1 (rP (rW (MPV go_2)) (rP (rI .i64) (rP (rI .i64) r0))) ((), ((2 : Int), (x_8, ()))), cmap go_2 (A r_net_pair) (S (rL (rL (rU UInt8)))) (some (x_7))], []⟩ [0, 0] rfl (.cons rfl (.cons rfl (.cons rfl .nil))) rfl ?_
     replace hx2 := bnd_inv hx2
     obtain ⟨_, hv_u_9, hx2⟩ := hx2
     refine JL.runX (.yes rfl (ltB rfl) rfl rfl) (op_call (js := []) ld cl12 (sim_law12_num k v_6 () hv_u_9) .func (.cons (.tmp rfl) .nil) rfl) (fun _ => ?_)
     replace hx2 := lt1_inv hx2
     obtain ⟨v_10, hv_v_10, hx2⟩ := hx2
     refine JL.run (.yes rfl (ltB rfl) rfl rfl) (op_cmpI lb (.tmp rfl) .cI (congrArg some hv_v_10)) ?_
     refine jc (op_pickF lb (.tmp rfl) rfl (.tmp rfl)) ?_
     refine jc (op_move lb (.tmp rfl)) ?_
     replace hx2 := iteB_inv hx2
     rcases hx2 with ⟨hc4, hx2⟩ | ⟨hc4, hx2⟩
     · refine JL.skip (.no rfl (ltB rfl) rfl hc4) (fun d h => by cases h; exact ltB rfl) ?_
       refine JL.skip (.no rfl (ltB rfl) rfl hc4) (fun d h => by cases h; exact ltB rfl) ?_
       refine JL.skip (.no rfl (ltB rfl) rfl hc4) (fun d h => by cases h; exact ltB rfl) ?_
       refine JL.skip (.no rfl (ltB rfl) rfl hc4) (fun d h => by cases h; exact ltB rfl) ?_
       refine JL.skip (.no rfl (ltB rfl) rfl hc4) (fun d h => by cases h; exact ltB rfl) ?_
       refine jc (op_pickT lb (.tmp rfl) hc4 .cB) ?_
       refine JL.nil ?_
       replace hx2 := Option.some.inj hx2
       replace hx2 := Prod.mk.inj hx2
       obtain ⟨hx2_a, hx2⟩ := hx2
       first | subst hx2_a | clear hx2_a
       replace hx2 := Prod.mk.inj hx2
       obtain ⟨hx2_a, hx2⟩ := hx2
       first | subst hx2_a | clear hx2_a
       first | subst hx2 | clear hx2
       exact JQ.join () (Imp.norm (js := [0, 0]) rfl (.cons rfl (.cons rfl .nil)))
     · refine JL.run (.yes rfl (ltB rfl) rfl hc4) (op_move lb (.tmp rfl)) ?_
       replace hx2 := bnd_inv hx2
       obtain ⟨v_11, hv_v_11, hx2⟩ := hx2
       refine JL.runX (.yes rfl (ltB rfl) rfl hc4) (op_makeOg lb tu31 tB5 zv5 .cI .cI hv_v_11) (fun q => ?_)
       obtain ⟨gb_12, hqq⟩ : ∃ z, z = q := ⟨_, rfl⟩
       subst hqq
       replace hx2 := bnd_inv hx2
       obtain ⟨⟨v_13, x_14, x_15⟩, hv_v_13, hx2⟩ := hx2
       refine JL.pre (Imp.frz (j := 2) rfl (ImpK.slotH (s := 24) rfl ImpK.refl)) ?_
       refine JL.runX (.yes rfl (ltB rfl) rfl hc4) (op_call (js := [0, 0]) ld cl13 (sim_net_Net_Send k (1 : Int) (2 : Int) v_11 (2 : Int) x_8 (x_7) gb_1 go_2 (v_13, x_14, x_15) hv_v_13) .func (.cons (.tmp rfl) (.cons .cI (.cons .cI (.cons (HasO.wk (.tmp rfl) wkHL) .nil)))) rfl) (fun _ => ?_)
       replace hx2 := bnd_inv hx2
       obtain ⟨_, hv_u_16, hx2⟩ := hx2
       refine JL.runX (.yes rfl (ltB rfl) rfl hc4) (op_call (js := []) ld cl12 (sim_law12_num k v_13 () hv_u_16) .func (.cons (.tmp rfl) .nil) rfl) (fun _ => ?_)
       refine JL.nrm ⟨[(1, ov (PTR gb_1 0)), (22, ov (S rB v_10)), (26, ov (S (rI .i64) v_13))], [cvar gb_1 (rP (rW (MPV go_2)) (rP (rI .i64) (rP (rI .i64) r0))) ((), ((2 : Int), (x_15, ()))), cmap go_2 (A r_net_pair) (S (rL (rL (rU UInt8)))) (some (x_14))], []⟩ [0, 0] rfl (.cons rfl (.cons rfl (.cons rfl .nil))) rfl ?_
       replace hx2 := lt1_inv hx2
       obtain ⟨v_17, hv_v_17, hx2⟩ := hx2
       refine JL.run (.yes rfl (ltB rfl) rfl hc4) (op_cmpI lb (.tmp rfl) .cI (congrArg some hv_v_17)) ?_
       refine jc (op_pickF lb (.tmp rfl) hc4 (.tmp rfl)) ?_
       refine JL.nil ?_
       replace hx2 := Option.some.inj hx2
       replace hx2 := Prod.mk.inj hx2
       obtain ⟨hx2_a, hx2⟩ := hx2
       first | subst hx2_a | clear hx2_a
       replace hx2 := Prod.mk.inj hx2
       obtain ⟨hx2_a, hx2⟩ := hx2
       first | subst hx2_a | clear hx2_a
       first | subst hx2 | clear hx2
       exact JQ.join () (Imp.norm (js := [0, 0]) rfl (.cons rfl (.cons rfl .nil)))
 · obtain _ := ts1
   dsimp only at hm
   refine jx (op_call (js := []) ld cl11 (sim_net_New_v1 k (2 : Int) () hs1) .func (.cons .cI .nil) rfl) (fun _ => ?_)
   refine jc (op_move lb (.tmp rfl)) ?_
   refine jc (op_extract (i := 0) lb (.tmp rfl) rfl) ?_
   refine jc (op_extract (i := 1) lb (.tmp rfl) rfl) ?_
   refine jc (op_assign lb (.tmp rfl)) ?_
   refine jc (op_assign lb (.tmp rfl)) ?_
   refine JL.nil ?_
   refine JQ.then ?_
   refine JC.seq ?_
   replace hm := bnd_inv hm
   obtain ⟨_, hx30, hq30⟩ := hm
   refine JC.seqJ (γ := Unit) (stj := fun q => ⟨[(1, ov (PTO none)), (28, ov (S rB true))], [], []⟩) (fun q => ?_) ?_
   · obtain _ := q
     refine JC.at ⟨[(1, ov (PTO none)), (28, ov (S rB true))], [], []⟩ ?_
     refine JC.condT (.tmp rfl) rfl ?_
     refine JC.seq ?_
     refine JC.region ?_
     refine jc (op_assign lb .cB) ?_
     refine JL.nil ?_
     refine JQ.then ?_
     refine JC.ret ?_
     refine JQ.outR ?_
     replace hq30 := Option.some.inj hq30
     subst hq30
     exact JQ.done (js := []) (ss := [.val (S rB false)]) () (.inl rfl) (.nil rfl) rfl (.cons (.tmp rfl) .nil) rfl rfl rfl
   · refine JC.region ?_
     refine jc (op_move lb (.tmp rfl)) ?_
     refine jc (op_nilO (neg := false) (ob := none) lb tu25 (.tmp rfl) (HasO.const (p := PTO none) fun _ => rfl) rfl) ?_
     refine jc (op_move lb (.tmp rfl)) ?_
     refine JL.sub ⟨[(1, ov (PTO none)), (2, ov (S (rI .i64) (2 : Int))), (10, ov (S rB true))], [], []⟩ (.cons rfl (.cons rfl (.cons rfl .nil))) rfl rfl ?_
     refine JL.skip (.no rfl (ltB rfl) rfl rfl) (fun d h => by cases h; exact ltB rfl) ?_
     refine JL.skip (.no rfl (ltB rfl) rfl rfl) (fun d h => by cases h; exact ltB rfl) ?_
     refine JL.skip (.no rfl (ltB rfl) rfl rfl) (fun d h => by cases h; exact ltB rfl) ?_
     refine jc (op_pickT lb (.tmp rfl) rfl .cB) ?_
     refine jc (op_move lb (.tmp rfl)) ?_
     refine JL.skip (.no rfl (ltB rfl) rfl rfl) (fun d h => by cases h; exact ltB rfl) ?_
     refine JL.skip (.no rfl (ltB rfl) rfl rfl) (fun d h => by cases h; exact ltB rfl) ?_
     refine JL.skip (.no rfl (ltB rfl) rfl rfl) (fun d h => by cases h; exact ltB rfl) ?_
     refine JL.skip (.no rfl (ltB rfl) rfl rfl) (fun d h => by cases h; exact ltB rfl) ?_
     refine JL.skip (.no rfl (ltB rfl) rfl rfl) (fun d h => by cases h; exact ltB rfl) ?_
     refine jc (op_pickT lb (.tmp rfl) rfl .cB) ?_
     refine jc (op_move lb (.tmp rfl)) ?_
     refine JL.skip (.no rfl (ltB rfl) rfl rfl) (fun d h => by cases h; exact ltB rfl) ?_
     refine JL.skip (.no rfl (ltB rfl) rfl rfl) (fun d h => by cases h; exact ltB rfl) ?_
     refine JL.skip (.no rfl (ltB rfl) rfl rfl) (fun d h => by cases h; exact ltB rfl) ?_
     refine JL.skip (.no rfl (ltB rfl) rfl rfl) (fun d h => by cases h; exact ltB rfl) ?_
     refine JL.skip (.no rfl (ltB rfl) rfl rfl) (fun d h => by cases h; exact ltB rfl) ?_
     refine jc (op_pickT lb (.tmp rfl) rfl .cB) ?_
     refine JL.nil ?_
     exact JQ.join () (Imp.norm (js := []) rfl (.cons rfl (.cons rfl .nil)))

end Go.Proofs.Ytnadeehdnmgebaa
