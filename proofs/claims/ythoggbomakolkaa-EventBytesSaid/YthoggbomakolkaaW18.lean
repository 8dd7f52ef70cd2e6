/- Walks. -/
import Derived.Test.YthoggbomakolkaaT
namespace Go.Proofs.Ythoggbomakolkaa
open Go Fw
set_option linter.unusedVariables false
set_option maxRecDepth 100000
set_option maxHeartbeats 4000000

theorem sim_ref09_Same (k : Nat) (ID_1 : api_Dot) (Topic_2 : (List UInt8)) (o_3 : Nat) (n_4 : Nat) (Past_5 : (Vector UInt64 16)) (To_6 : (List api_Dest)) (b_7 : api_Event) (x_8 : (List UInt8)) (go_9 : Option Nat) (gc_10 : Nat) (r : Bool) (hm : ref09_Same k ID_1 Topic_2 o_3 n_4 Past_5 To_6 b_7 x_8 = some r) : Sim Try.prog 23 [A (rP r_api_Dot (rP rS (rP (rW (HDX go_9 (o_3 * 1) n_4)) (rP (rV 16 (rU UInt64)) (rP (rL r_api_Dest) r0))))) (ID_1, (Topic_2, ((), (Past_5, (To_6, ()))))), A r_api_Event b_7] [cown go_9 (rU UInt8) x_8 0 gc_10] (γ := Unit) (fun q => [cown go_9 (rU UInt8) x_8 0 gc_10]) (fun q => .one (.val (S rB r))) := by
 unfold ref09_Same at hm
 refine Sim.of Try.func23 rfl rfl (Nat.le_of_ble_eq_true rfl) (fun e0 w0 => ?_)
 refine JC.at ⟨[(0, ov (A (rP r_api_Dot (rP rS (rP (rW (HDX go_9 (o_3 * 1) n_4)) (rP (rV 16 (rU UInt64)) (rP (rL r_api_Dest) r0))))) (ID_1, (Topic_2, ((), (Past_5, (To_6, ()))))))), (1, ov (A r_api_Event b_7))], [cown go_9 (rU UInt8) x_8 0 gc_10], []⟩ ?_
 refine JC.seq ?_
 refine JC.region ?_
 refine jx (op_boxA lb (.tmp rfl)) (fun q => ?_)
 obtain ⟨gb_11, hqq⟩ : ∃ z, z = q := ⟨_, rfl⟩
 subst hqq
 refine jx (op_boxA lb (.tmp rfl)) (fun q => ?_)
 obtain ⟨gb_12, hqq⟩ : ∃ z, z = q := ⟨_, rfl⟩
 subst hqq
 refine jc (op_assign lb .cB) ?_
 refine JL.nil ?_
 refine JQ.then ?_
 refine JC.seq ?_
 replace hm := bnd_inv hm
 obtain ⟨x_19, hx1, hq1⟩ := hm
 refine JC.seqJ (γ := Unit) (stj := fun q => ⟨[(2, ov (PTR gb_11 0)), (3, ov (PTR gb_12 0)), (42, ov (S rB x_19))], [cvar gb_11 (rP r_api_Dot (rP rS (rP (rW (HDX go_9 (o_3 * 1) n_4)) (rP (rV 16 (rU UInt64)) (rP (rL r_api_Dest) r0))))) (ID_1, (Topic_2, ((), (Past_5, (To_6, ()))))), cown go_9 (rU UInt8) x_8 0 gc_10, cvar gb_12 r_api_Event b_7], []⟩) (fun q => ?_) ?_
 · obtain _ := q
   refine JC.at ⟨[(2, ov (PTR gb_11 0)), (3, ov (PTR gb_12 0)), (42, ov (S rB x_19))], [cvar gb_11 (rP r_api_Dot (rP rS (rP (rW (HDX go_9 (o_3 * 1) n_4)) (rP (rV 16 (rU UInt64)) (rP (rL r_api_Dest) r0))))) (ID_1, (Topic_2, ((), (Past_5, (To_6, ()))))), cown go_9 (rU UInt8) x_8 0 gc_10, cvar gb_12 r_api_Event b_7], []⟩ ?_
   replace hq1 := iteB_inv hq1
   rcases hq1 with ⟨hc10, hq1⟩ | ⟨hc10, hq1⟩
   · refine JC.condT (.tmp rfl) hc10 ?_
     refine JC.seq ?_
     refine JC.region ?_
     refine jc (op_assign lb .cB) ?_
     refine JL.nil ?_
     refine JQ.then ?_
     refine JC.ret ?_
     refine JQ.outR ?_
     replace hq1 := Option.some.inj hq1
     subst hq1
     exact JQ.done (js := [1]) (ss := [.val (S rB false)]) () (.inl rfl) (.nil rfl) rfl (.cons (.tmp rfl) .nil) rfl rfl rfl
   · refine JC.condF (.tmp rfl) hc10 ?_
     refine JC.skip ?_
     refine JQ.then ?_
     replace hq1 := bnd_inv hq1
     obtain ⟨tv11, hx11, hq11⟩ := hq1
     refine JC.seqK (α := Unit) (γ := Unit) (stj := fun v q => ⟨[], [cown go_9 (rU UInt8) x_8 0 gc_10], []⟩) (p := fun v => tv11 = (.inl v)) (fun v q hv => ?_) ?_
     · subst hv
       skip
       obtain _ := q
       dsimp only at hq11
       refine JC.at ⟨[], [cown go_9 (rU UInt8) x_8 0 gc_10], []⟩ ?_
       refine JC.seq ?_
       refine JC.region ?_
       refine jc (op_assign lb .cB) ?_
       refine JL.nil ?_
       refine JQ.then ?_
       refine JC.ret ?_
       replace hq11 := Option.some.inj hq11
       subst hq11
       exact JQ.done (js := [0]) (ss := [.val (S rB true)]) () (.inl rfl) (.nil rfl) rfl (.cons (.tmp rfl) .nil) rfl rfl rfl
     · refine JC.seq ?_
       refine JC.region ?_
       refine jc (op_assign lb .cI) ?_
       refine JL.nil ?_
       refine JQ.then ?_
       refine JC.block ?_
       replace hx11 := bnd_inv hx11
       obtain ⟨tv12, hL12, hq12⟩ := hx11
       refine JC.pre ?_ (JC.loop (γ := Unit) (stf := fun s q => ⟨[(2, ov (PTR gb_11 0)), (3, ov (PTR gb_12 0)), (5, ov (S (rI .i64) s))], [cvar gb_11 (rP r_api_Dot (rP rS (rP (rW (HDX go_9 (o_3 * 1) n_4)) (rP (rV 16 (rU UInt64)) (rP (rL r_api_Dest) r0))))) (ID_1, (Topic_2, ((), (Past_5, (To_6, ()))))), cown go_9 (rU UInt8) x_8 0 gc_10, cvar gb_12 r_api_Event b_7], []⟩) (q := ()) hL12 ?_)
       · exact (Imp.norm (js := [0, 0, 0]) rfl (.cons rfl (.cons rfl (.cons rfl .nil))))
       · intro i_20 q x hx hr
         obtain _ := q
         change ref09_Same.b1 k To_6 b_7 i_20 = some x at hx
         unfold ref09_Same.b1 at hx
         refine JC.at ⟨[(2, ov (PTR gb_11 0)), (3, ov (PTR gb_12 0)), (5, ov (S (rI .i64) i_20))], [cvar gb_11 (rP r_api_Dot (rP rS (rP (rW (HDX go_9 (o_3 * 1) n_4)) (rP (rV 16 (rU UInt64)) (rP (rL r_api_Dest) r0))))) (ID_1, (Topic_2, ((), (Past_5, (To_6, ()))))), cown go_9 (rU UInt8) x_8 0 gc_10, cvar gb_12 r_api_Event b_7], []⟩ ?_
         refine JC.seq ?_
         refine JC.seq ?_
         refine JC.region ?_
         refine jc (op_move lb (.tmp rfl)) ?_
         refine jc (op_fieldAddr (off := 20) lb tf38_4 (.tmp rfl)) ?_
         refine jc (op_loadS (j := 0) lb tS36 (.tmp rfl) rfl (Comp.trans (Comp.self (rP r_api_Dot (rP rS (rP (rW (HDX go_9 (o_3 * 1) n_4)) (rP (rV 16 (rU UInt64)) (rP (rL r_api_Dest) r0))))) (ID_1, (Topic_2, ((), (Past_5, (To_6, ())))))) (Comp.at' (Comp.inS (Comp.inS (Comp.inS (Comp.inS (Comp.inF (Comp.self (rL r_api_Dest) To_6) (Nat.le_of_ble_eq_true rfl)))))) (by rfl : _ = 20)) (Nat.le_of_ble_eq_true rfl)) rfl rfl) ?_
         refine jc (op_lenL lb tu36 (.tmp rfl)) ?_
         replace hx := lt1_inv hx
         obtain ⟨v_21, hv_v_21, hx⟩ := hx
         refine jc (op_cmpI lb (.tmp rfl) (.tmp rfl) (congrArg some hv_v_21)) ?_
         refine JL.nil ?_
         refine JQ.then ?_
         replace hx := iteB_inv hx
         rcases hx with ⟨hc13, hx⟩ | ⟨hc13, hx⟩
         · refine JC.condT (.tmp rfl) hc13 ?_
           refine JC.skip ?_
           refine JQ.then ?_
           refine JC.seq ?_
           refine JC.block ?_
           refine JC.seq ?_
           replace hx := bnd_inv hx
           obtain ⟨v_22, hv_v_22, hx⟩ := hx
           replace hx := bnd_inv hx
           obtain ⟨v_23, hv_v_23, hx⟩ := hx
           replace hx := lt1_inv hx
           obtain ⟨v_24, hv_v_24, hx⟩ := hx
           refine JC.anyE (kl := []) (kk := 0) (base := [(2, ov (PTR gb_11 0)), (3, ov (PTR gb_12 0)), (5, ov (S (rI .i64) i_20))])
               (fs := fun γ => [⟨some 50, ov (PTR gb_11 (0 + 20))⟩, ⟨some 51, ov (S (rL r_api_Dest) To_6)⟩, ⟨some 52, ov (S (rI .i64) i_20)⟩, ⟨some 53, ov (PT r_api_Dest v_22)⟩, ⟨some 54, ov (A r_api_Dest v_22)⟩, ⟨some 55, ov (PTR gb_12 (0 + 20))⟩, ⟨some 56, ov (S (rL r_api_Dest) b_7.To)⟩, ⟨some 57, ov (S (rI .i64) i_20)⟩, ⟨some 58, ov (PT r_api_Dest v_23)⟩, ⟨some 59, ov (A r_api_Dest v_23)⟩, ⟨some 60, ov (S rB v_24)⟩])
               (rs := fun γ => [⟨cvar gb_11 (rP r_api_Dot (rP rS (rP (rW (HDX go_9 (o_3 * 1) n_4)) (rP (rV 16 (rU UInt64)) (rP (rL r_api_Dest) r0))))) (ID_1, (Topic_2, ((), (Past_5, (To_6, ()))))), none, none, [1]⟩, ⟨cown go_9 (rU UInt8) x_8 0 gc_10, none, none, []⟩, ⟨cvar gb_12 r_api_Event b_7, none, none, [6]⟩])
               (ds := [50, 51, 52, 53, 54, 55, 56, 57, 58, 59, 60]) (bs := [2, 3, 5]) (afts := [[], [], [], [], [], [], [], [], [], [], []]) (js := [0, 0, 0]) mixed (.cons rfl (.cons rfl (.cons rfl .nil))) (fun _ => rfl)
               (by
      refine dS 1 (fun γ ρ B hb hd => op_fieldAddr (off := 20) lb tf38_4 (.tmp (hb 2 _ rfl))) ?_
      refine DSteps.cons (j := 2) rfl (fun _ => rfl) (.run (fun γ ρ B hb hd => ⟨.none, OpStep.at ⟨ρ, (cvar gb_11 (rP r_api_Dot (rP rS (rP (rW (HDX go_9 (o_3 * 1) n_4)) (rP (rV 16 (rU UInt64)) (rP (rL r_api_Dest) r0))))) (ID_1, (Topic_2, ((), (Past_5, (To_6, ())))))) :: B, _⟩ (setO ⟨ρ, (cvar gb_11 (rP r_api_Dot (rP rS (rP (rW (HDX go_9 (o_3 * 1) n_4)) (rP (rV 16 (rU UInt64)) (rP (rL r_api_Dest) r0))))) (ID_1, (Topic_2, ((), (Past_5, (To_6, ())))))) :: B, _⟩ _ _) (op_loadS (j := 0) lb tS36 (.tmp (hl hd 0 50 rfl)) rfl (Comp.trans (Comp.self (rP r_api_Dot (rP rS (rP (rW (HDX go_9 (o_3 * 1) n_4)) (rP (rV 16 (rU UInt64)) (rP (rL r_api_Dest) r0))))) (ID_1, (Topic_2, ((), (Past_5, (To_6, ())))))) (Comp.at' (Comp.inS (Comp.inS (Comp.inS (Comp.inS (Comp.inF (Comp.self (rL r_api_Dest) To_6) (Nat.le_of_ble_eq_true rfl)))))) (by rfl : _ = 20)) (Nat.le_of_ble_eq_true rfl)) rfl rfl)⟩)) ?_
      refine dS 3 (fun γ ρ B hb hd => op_move lb (.tmp (hb 5 _ rfl))) ?_
      refine dS 4 (fun γ ρ B hb hd => op_indexAddrLg lb tu36 tz59 (.tmp (hl hd 1 51 rfl)) (.tmp (hl hd 2 52 rfl)) hv_v_22) ?_
      refine dS 5 (fun γ ρ B hb hd => op_loadPAg lb tA59 (.tmp (hl hd 3 53 rfl)) rfl) ?_
      refine dS 6 (fun γ ρ B hb hd => op_fieldAddr (off := 20) lb tf38_4 (.tmp (hb 3 _ rfl))) ?_
      refine DSteps.cons (j := 7) rfl (fun _ => rfl) (.run (fun γ ρ B hb hd => ⟨.none, OpStep.at ⟨ρ, (cvar gb_12 r_api_Event b_7) :: B, _⟩ (setO ⟨ρ, (cvar gb_12 r_api_Event b_7) :: B, _⟩ _ _) (op_loadS (j := 0) lb tS36 (.tmp (hl hd 5 55 rfl)) rfl (Comp.trans (Comp.self r_api_Event b_7) (comp_api_Event_To b_7) (Nat.le_of_ble_eq_true rfl)) rfl rfl)⟩)) ?_
      refine dS 8 (fun γ ρ B hb hd => op_move lb (.tmp (hb 5 _ rfl))) ?_
      refine dS 9 (fun γ ρ B hb hd => op_indexAddrLg lb tu36 tz59 (.tmp (hl hd 6 56 rfl)) (.tmp (hl hd 7 57 rfl)) hv_v_23) ?_
      refine dS 10 (fun γ ρ B hb hd => op_loadPAg lb tA59 (.tmp (hl hd 8 58 rfl)) rfl) ?_
      refine dS 11 (fun γ ρ B hb hd => op_neA lb qa59 (by decide) ng59 (.tmp (hl hd 4 54 rfl)) (.tmp (hl hd 9 59 rfl)) hv_v_24) ?_
      exact DSteps.nil)
               (by decide +kernel) (fun _ => rfl) rfl (fun _ => rfl) (fun _ => rfl) rfl (by decide) (by decide) (by decide +kernel) (fun _ d h => by cases h)
               (ρ' := fun γ => [(2, ov (PTR gb_11 0)), (3, ov (PTR gb_12 0)), (5, ov (S (rI .i64) i_20)), (60, ov (S rB v_24))])
               (X' := fun γ => [cvar gb_11 (rP r_api_Dot (rP rS (rP (rW (HDX go_9 (o_3 * 1) n_4)) (rP (rV 16 (rU UInt64)) (rP (rL r_api_Dest) r0))))) (ID_1, (Topic_2, ((), (Past_5, (To_6, ()))))), cown go_9 (rU UInt8) x_8 0 gc_10, cvar gb_12 r_api_Event b_7])
               (fun γ ρ hb hd => (.cons (hb 2 _ rfl (by decide)) (.cons (hb 3 _ rfl (by decide)) (.cons (hb 5 _ rfl (by decide)) (.cons (hdq hd 10 60 rfl) .nil))))) (fun _ => rfl) (fun γ => ?_)
           refine JQ.at ⟨[(2, ov (PTR gb_11 0)), (3, ov (PTR gb_12 0)), (5, ov (S (rI .i64) i_20)), (60, ov (S rB v_24))], [cvar gb_11 (rP r_api_Dot (rP rS (rP (rW (HDX go_9 (o_3 * 1) n_4)) (rP (rV 16 (rU UInt64)) (rP (rL r_api_Dest) r0))))) (ID_1, (Topic_2, ((), (Past_5, (To_6, ()))))), cown go_9 (rU UInt8) x_8 0 gc_10, cvar gb_12 r_api_Event b_7], []⟩ ?_
           refine JQ.then ?_
           replace hx := iteB_inv hx
           rcases hx with ⟨hc14, hx⟩ | ⟨hc14, hx⟩
           · refine JC.condT (.tmp rfl) hc14 ?_
             refine JC.seq ?_
             refine JC.region ?_
             refine jc (op_assign lb .cB) ?_
             refine JL.nil ?_
             refine JQ.then ?_
             refine JC.ret ?_
             refine JQ.outRB ?_
             refine JQ.outR ?_
             replace hx := Option.some.inj hx
             first | subst hx | clear hx
             have ht := hr _ rfl
             clear hr
             first | subst ht | clear ht
             dsimp only at hq12
             refine JQ.outR ?_
             refine JQ.outRB ?_
             replace hq12 := Option.some.inj hq12
             first | subst hq12 | clear hq12
             dsimp only at hq11
             refine JQ.outR ?_
             replace hq11 := Option.some.inj hq11
             subst hq11
             exact JQ.done (js := [1]) (ss := [.val (S rB false)]) () (.inl rfl) (.nil rfl) rfl (.cons (.tmp rfl) .nil) rfl rfl rfl
           · refine JC.condF (.tmp rfl) hc14 ?_
             refine JC.skip ?_
             refine JQ.outNB ?_
             refine JQ.then ?_
             refine JC.region ?_
             refine jc (op_move lb (.tmp rfl)) ?_
             replace hx := lt1_inv hx
             obtain ⟨v_25, hv_v_25, hx⟩ := hx
             refine jc (op_arI lb (.tmp rfl) .cI (congrArg some hv_v_25)) ?_
             refine jc (op_assign lb (.tmp rfl)) ?_
             refine JL.nil ?_
             replace hx := Option.some.inj hx
             first | subst hx | clear hx
             exact JQ.next () rfl (Imp.norm (js := [0, 0, 0]) rfl (.cons rfl (.cons rfl (.cons rfl .nil))))
         · refine JC.condF (.tmp rfl) hc13 ?_
           refine JC.exit ?_
           refine JQ.outX ?_
           replace hx := Option.some.inj hx
           first | subst hx | clear hx
           have ht := hr _ rfl
           clear hr
           first | subst ht | clear ht
           dsimp only at hq12
           refine JQ.outX ?_
           refine JQ.here ?_
           replace hq12 := Option.some.inj hq12
           first | subst hq12 | clear hq12
           exact JQ.joinK () () rfl (Imp.norm (js := [1]) rfl .nil)
 · refine JC.region ?_
   refine jc (op_fieldAddr (off := 0) lb tf38_0 (.tmp rfl)) ?_
   refine jc (op_loadA (j := 1) lb tA24 (.tmp rfl) rfl (Comp.trans (Comp.self (rP r_api_Dot (rP rS (rP (rW (HDX go_9 (o_3 * 1) n_4)) (rP (rV 16 (rU UInt64)) (rP (rL r_api_Dest) r0))))) (ID_1, (Topic_2, ((), (Past_5, (To_6, ())))))) (Comp.at' (Comp.inF (Comp.self r_api_Dot ID_1) (Nat.le_of_ble_eq_true rfl)) (by rfl : _ = 0)) (Nat.le_of_ble_eq_true rfl)) rfl) ?_
   refine jc (op_fieldAddr (off := 0) lb tf38_0 (.tmp rfl)) ?_
   refine jc (op_loadA (j := 2) lb tA24 (.tmp rfl) rfl (Comp.trans (Comp.self r_api_Event b_7) (comp_api_Event_ID b_7) (Nat.le_of_ble_eq_true rfl)) rfl) ?_
   replace hx1 := lt1_inv hx1
   obtain ⟨v_13, hv_v_13, hx1⟩ := hx1
   refine jc (op_neA lb qa24 (by decide) ng24 (.tmp rfl) (.tmp rfl) hv_v_13) ?_
   refine JL.sub ⟨[(2, ov (PTR gb_11 0)), (3, ov (PTR gb_12 0)), (10, ov (S rB v_13))], [cown go_9 (rU UInt8) x_8 0 gc_10, cvar gb_11 (rP r_api_Dot (rP rS (rP (rW (HDX go_9 (o_3 * 1) n_4)) (rP (rV 16 (rU UInt64)) (rP (rL r_api_Dest) r0))))) (ID_1, (Topic_2, ((), (Past_5, (To_6, ()))))), cvar gb_12 r_api_Event b_7], []⟩ (.cons rfl (.cons rfl (.cons rfl .nil))) rfl rfl ?_
   refine jc (op_move lb (.tmp rfl)) ?_
   replace hx1 := iteB_inv hx1
   rcases hx1 with ⟨hc3, hx1⟩ | ⟨hc3, hx1⟩
   · refine JL.skip (.no rfl (ltB rfl) rfl hc3) (fun d h => by cases h; exact ltB rfl) ?_
     refine JL.skip (.no rfl (ltB rfl) rfl hc3) (fun d h => by cases h; exact ltB rfl) ?_
     refine JL.skip (.no rfl (ltB rfl) rfl hc3) (fun d h => by cases h; exact ltB rfl) ?_
     refine JL.skip (.no rfl (ltB rfl) rfl hc3) (fun d h => by cases h; exact ltB rfl) ?_
     refine JL.skip (.no rfl (ltB rfl) rfl hc3) (fun d h => by cases h; exact ltB rfl) ?_
     refine jc (op_pickT lb (.tmp rfl) hc3 .cB) ?_
     refine jc (op_move lb (.tmp rfl)) ?_
     refine JL.skip (.no rfl (ltB rfl) rfl rfl) (fun d h => by cases h; exact ltB rfl) ?_
     refine JL.skip (.no rfl (ltB rfl) rfl rfl) (fun d h => by cases h; exact ltB rfl) ?_
     refine JL.skip (.no rfl (ltB rfl) rfl rfl) (fun d h => by cases h; exact ltB rfl) ?_
     refine JL.skip (.no rfl (ltB rfl) rfl rfl) (fun d h => by cases h; exact ltB rfl) ?_
     refine JL.skip (.no rfl (ltB rfl) rfl rfl) (fun d h => by cases h; exact ltB rfl) ?_
     refine JL.skip (.no rfl (ltB rfl) rfl rfl) (fun d h => by cases h; exact ltB rfl) ?_
     refine JL.skip (.no rfl (ltB rfl) rfl rfl) (fun d h => by cases h; exact ltB rfl) ?_
     refine jc (op_pickT lb (.tmp rfl) rfl .cB) ?_
     refine jc (op_move lb (.tmp rfl)) ?_
     refine JL.skip (.no rfl (ltB rfl) rfl rfl) (fun d h => by cases h; exact ltB rfl) ?_
     refine JL.skip (.no rfl (ltB rfl) rfl rfl) (fun d h => by cases h; exact ltB rfl) ?_
     refine JL.skip (.no rfl (ltB rfl) rfl rfl) (fun d h => by cases h; exact ltB rfl) ?_
     refine JL.skip (.no rfl (ltB rfl) rfl rfl) (fun d h => by cases h; exact ltB rfl) ?_
     refine JL.skip (.no rfl (ltB rfl) rfl rfl) (fun d h => by cases h; exact ltB rfl) ?_
     refine jc (op_pickT lb (.tmp rfl) rfl .cB) ?_
     refine jc (op_move lb (.tmp rfl)) ?_
     refine JL.skip (.no rfl (ltB rfl) rfl rfl) (fun d h => by cases h; exact ltB rfl) ?_
     refine JL.skip (.no rfl (ltB rfl) rfl rfl) (fun d h => by cases h; exact ltB rfl) ?_
     refine JL.skip (.no rfl (ltB rfl) rfl rfl) (fun d h => by cases h; exact ltB rfl) ?_
     refine JL.skip (.no rfl (ltB rfl) rfl rfl) (fun d h => by cases h; exact ltB rfl) ?_
     refine JL.skip (.no rfl (ltB rfl) rfl rfl) (fun d h => by cases h; exact ltB rfl) ?_
     refine JL.skip (.no rfl (ltB rfl) rfl rfl) (fun d h => by cases h; exact ltB rfl) ?_
     refine JL.skip (.no rfl (ltB rfl) rfl rfl) (fun d h => by cases h; exact ltB rfl) ?_
     refine jc (op_pickT lb (.tmp rfl) rfl .cB) ?_
     refine JL.nil ?_
     replace hx1 := Option.some.inj hx1
     first | subst hx1 | clear hx1
     refine JQ.pre (Imp.var (j := 1) (q := (rP r_api_Dot (rP rS (rP (rW (HDX go_9 (o_3 * 1) n_4)) (rP (rV 16 (rU UInt64)) (rP (rL r_api_Dest) r0)))))) (y := (ID_1, (Topic_2, ((), (Past_5, (To_6, ())))))) rfl Wk.refl) ?_
     exact JQ.join () (Imp.norm (js := [1, 0, 0]) rfl (.cons rfl (.cons rfl (.cons rfl .nil))))
   · refine JL.run (.yes rfl (ltB rfl) rfl hc3) (op_fieldAddr (off := 2) lb tf38_1 (.tmp rfl)) ?_
     refine JL.run (.yes rfl (ltB rfl) rfl hc3) (op_loadS (j := 1) lb tS9 (.tmp rfl) rfl (Comp.trans (Comp.self (rP r_api_Dot (rP rS (rP (rW (HDX go_9 (o_3 * 1) n_4)) (rP (rV 16 (rU UInt64)) (rP (rL r_api_Dest) r0))))) (ID_1, (Topic_2, ((), (Past_5, (To_6, ())))))) (Comp.at' (Comp.inS (Comp.inF (Comp.self rS Topic_2) (Nat.le_of_ble_eq_true rfl))) (by rfl : _ = 2)) (Nat.le_of_ble_eq_true rfl)) rfl rfl) ?_
     refine JL.run (.yes rfl (ltB rfl) rfl hc3) (op_fieldAddr (off := 2) lb tf38_1 (.tmp rfl)) ?_
     refine JL.run (.yes rfl (ltB rfl) rfl hc3) (op_loadS (j := 2) lb tS9 (.tmp rfl) rfl (Comp.trans (Comp.self r_api_Event b_7) (comp_api_Event_Topic b_7) (Nat.le_of_ble_eq_true rfl)) rfl rfl) ?_
     replace hx1 := lt1_inv hx1
     obtain ⟨v_14, hv_v_14, hx1⟩ := hx1
     refine JL.run (.yes rfl (ltB rfl) rfl hc3) (op_cmpS lb (.tmp rfl) (.tmp rfl) (congrArg some hv_v_14)) ?_
     refine jc (op_pickF lb (.tmp rfl) hc3 (.tmp rfl)) ?_
     refine jc (op_move lb (.tmp rfl)) ?_
     replace hx1 := iteB_inv hx1
     rcases hx1 with ⟨hc5, hx1⟩ | ⟨hc5, hx1⟩
     · refine JL.skip (.no rfl (ltB rfl) rfl hc5) (fun d h => by cases h; exact ltB rfl) ?_
       refine JL.skip (.no rfl (ltB rfl) rfl hc5) (fun d h => by cases h; exact ltB rfl) ?_
       refine JL.skip (.no rfl (ltB rfl) rfl hc5) (fun d h => by cases h; exact ltB rfl) ?_
       refine JL.skip (.no rfl (ltB rfl) rfl hc5) (fun d h => by cases h; exact ltB rfl) ?_
       refine JL.skip (.no rfl (ltB rfl) rfl hc5) (fun d h => by cases h; exact ltB rfl) ?_
       refine JL.skip (.no rfl (ltB rfl) rfl hc5) (fun d h => by cases h; exact ltB rfl) ?_
       refine JL.skip (.no rfl (ltB rfl) rfl hc5) (fun d h => by cases h; exact ltB rfl) ?_
       refine jc (op_pickT lb (.tmp rfl) hc5 .cB) ?_
       refine jc (op_move lb (.tmp rfl)) ?_
       refine JL.skip (.no rfl (ltB rfl) rfl rfl) (fun d h => by cases h; exact ltB rfl) ?_
       refine JL.skip (.no rfl (ltB rfl) rfl rfl) (fun d h => by cases h; exact ltB rfl) ?_
       refine JL.skip (.no rfl (ltB rfl) rfl rfl) (fun d h => by cases h; exact ltB rfl) ?_
       refine JL.skip (.no rfl (ltB rfl) rfl rfl) (fun d h => by cases h; exact ltB rfl) ?_
       refine JL.skip (.no rfl (ltB rfl) rfl rfl) (fun d h => by cases h; exact ltB rfl) ?_
       refine jc (op_pickT lb (.tmp rfl) rfl .cB) ?_
       refine jc (op_move lb (.tmp rfl)) ?_
       refine JL.sub ⟨[(2, ov (PTR gb_11 0)), (3, ov (PTR gb_12 0)), (34, ov (S rB true))], [cown go_9 (rU UInt8) x_8 0 gc_10, cvar gb_11 (rP r_api_Dot (rP rS (rP (rW (HDX go_9 (o_3 * 1) n_4)) (rP (rV 16 (rU UInt64)) (rP (rL r_api_Dest) r0))))) (ID_1, (Topic_2, ((), (Past_5, (To_6, ()))))), cvar gb_12 r_api_Event b_7], []⟩ (.cons rfl (.cons rfl (.cons rfl .nil))) rfl rfl ?_
       refine JL.skip (.no rfl (ltB rfl) rfl rfl) (fun d h => by cases h; exact ltB rfl) ?_
       refine JL.skip (.no rfl (ltB rfl) rfl rfl) (fun d h => by cases h; exact ltB rfl) ?_
       refine JL.skip (.no rfl (ltB rfl) rfl rfl) (fun d h => by cases h; exact ltB rfl) ?_
       refine JL.skip (.no rfl (ltB rfl) rfl rfl) (fun d h => by cases h; exact ltB rfl) ?_
       refine JL.skip (.no rfl (ltB rfl) rfl rfl) (fun d h => by cases h; exact ltB rfl) ?_
       refine JL.skip (.no rfl (ltB rfl) rfl rfl) (fun d h => by cases h; exact ltB rfl) ?_
       refine JL.skip (.no rfl (ltB rfl) rfl rfl) (fun d h => by cases h; exact ltB rfl) ?_
       refine jc (op_pickT lb (.tmp rfl) rfl .cB) ?_
       refine JL.nil ?_
       replace hx1 := Option.some.inj hx1
       first | subst hx1 | clear hx1
       refine JQ.pre (Imp.var (j := 1) (q := (rP r_api_Dot (rP rS (rP (rW (HDX go_9 (o_3 * 1) n_4)) (rP (rV 16 (rU UInt64)) (rP (rL r_api_Dest) r0)))))) (y := (ID_1, (Topic_2, ((), (Past_5, (To_6, ())))))) rfl Wk.refl) ?_
       exact JQ.join () (Imp.norm (js := [1, 0, 0]) rfl (.cons rfl (.cons rfl (.cons rfl .nil))))
     · refine JL.run (.yes rfl (ltB rfl) rfl hc5) (op_fieldAddr (off := 3) lb tf38_2 (.tmp rfl)) ?_
       refine JL.run (.yes rfl (ltB rfl) rfl hc5) (op_loadW (j := 1) lb tS35 (.tmp rfl) rfl (Comp.trans (Comp.self (rP r_api_Dot (rP rS (rP (rW (HDX go_9 (o_3 * 1) n_4)) (rP (rV 16 (rU UInt64)) (rP (rL r_api_Dest) r0))))) (ID_1, (Topic_2, ((), (Past_5, (To_6, ())))))) (Comp.at' (Comp.inS (Comp.inS (Comp.inF (Comp.self (rW (HDX go_9 (o_3 * 1) n_4)) ()) (Nat.le_of_ble_eq_true rfl)))) (by rfl : _ = 3)) (Nat.le_of_ble_eq_true rfl))) ?_
       replace hx1 := bnd_inv hx1
       obtain ⟨v_15, hv_v_15, hx1⟩ := hx1
       refine JL.run (.yes rfl (ltB rfl) rfl hc5) (op_convXS (j := 0) (o := o_3) lb tu35 tu5 tu9 rfl (.tmp rfl) hv_v_15) ?_
       refine JL.run (.yes rfl (ltB rfl) rfl hc5) (op_fieldAddr (off := 3) lb tf38_2 (.tmp rfl)) ?_
       refine JL.sub ⟨[(2, ov (PTR gb_11 0)), (3, ov (PTR gb_12 0)), (18, ov (S rB v_14)), (21, ov (S rS v_15)), (22, ov (PTR gb_12 (0 + 3)))], [cown go_9 (rU UInt8) x_8 0 gc_10, cvar gb_11 (rP r_api_Dot (rP rS (rP (rW (HDX go_9 (o_3 * 1) n_4)) (rP (rV 16 (rU UInt64)) (rP (rL r_api_Dest) r0))))) (ID_1, (Topic_2, ((), (Past_5, (To_6, ()))))), cvar gb_12 r_api_Event b_7], []⟩ (.cons rfl (.cons rfl (.cons rfl (.cons rfl (.cons rfl .nil))))) rfl rfl ?_
       refine JL.run (.yes rfl (ltB rfl) rfl hc5) (op_loadS (j := 2) lb tS35 (.tmp rfl) rfl (Comp.trans (Comp.self r_api_Event b_7) (comp_api_Event_Payload b_7) (Nat.le_of_ble_eq_true rfl)) rfl rfl) ?_
       refine JL.run (.yes rfl (ltB rfl) rfl hc5) (op_convBS lb tu35 tu5 tu9 (.tmp rfl)) ?_
       replace hx1 := lt1_inv hx1
       obtain ⟨v_16, hv_v_16, hx1⟩ := hx1
       refine JL.run (.yes rfl (ltB rfl) rfl hc5) (op_cmpS lb (.tmp rfl) (.tmp rfl) (congrArg some hv_v_16)) ?_
       refine jc (op_pickF lb (.tmp rfl) hc5 (.tmp rfl)) ?_
       refine jc (op_move lb (.tmp rfl)) ?_
       replace hx1 := iteB_inv hx1
       rcases hx1 with ⟨hc7, hx1⟩ | ⟨hc7, hx1⟩
       · refine JL.skip (.no rfl (ltB rfl) rfl hc7) (fun d h => by cases h; exact ltB rfl) ?_
         refine JL.skip (.no rfl (ltB rfl) rfl hc7) (fun d h => by cases h; exact ltB rfl) ?_
         refine JL.skip (.no rfl (ltB rfl) rfl hc7) (fun d h => by cases h; exact ltB rfl) ?_
         refine JL.skip (.no rfl (ltB rfl) rfl hc7) (fun d h => by cases h; exact ltB rfl) ?_
         refine JL.skip (.no rfl (ltB rfl) rfl hc7) (fun d h => by cases h; exact ltB rfl) ?_
         refine jc (op_pickT lb (.tmp rfl) hc7 .cB) ?_
         refine jc (op_move lb (.tmp rfl)) ?_
         refine JL.skip (.no rfl (ltB rfl) rfl rfl) (fun d h => by cases h; exact ltB rfl) ?_
         refine JL.skip (.no rfl (ltB rfl) rfl rfl) (fun d h => by cases h; exact ltB rfl) ?_
         refine JL.skip (.no rfl (ltB rfl) rfl rfl) (fun d h => by cases h; exact ltB rfl) ?_
         refine JL.skip (.no rfl (ltB rfl) rfl rfl) (fun d h => by cases h; exact ltB rfl) ?_
         refine JL.skip (.no rfl (ltB rfl) rfl rfl) (fun d h => by cases h; exact ltB rfl) ?_
         refine JL.skip (.no rfl (ltB rfl) rfl rfl) (fun d h => by cases h; exact ltB rfl) ?_
         refine JL.skip (.no rfl (ltB rfl) rfl rfl) (fun d h => by cases h; exact ltB rfl) ?_
         refine jc (op_pickT lb (.tmp rfl) rfl .cB) ?_
         refine JL.nil ?_
         replace hx1 := Option.some.inj hx1
         first | subst hx1 | clear hx1
         refine JQ.pre (Imp.var (j := 1) (q := (rP r_api_Dot (rP rS (rP (rW (HDX go_9 (o_3 * 1) n_4)) (rP (rV 16 (rU UInt64)) (rP (rL r_api_Dest) r0)))))) (y := (ID_1, (Topic_2, ((), (Past_5, (To_6, ())))))) rfl Wk.refl) ?_
         exact JQ.join () (Imp.norm (js := [1, 0, 0]) rfl (.cons rfl (.cons rfl (.cons rfl .nil))))
       · refine JL.run (.yes rfl (ltB rfl) rfl hc7) (op_fieldAddr (off := 4) lb tf38_3 (.tmp rfl)) ?_
         refine JL.run (.yes rfl (ltB rfl) rfl hc7) (op_loadA (j := 1) lb tA26 (.tmp rfl) rfl (Comp.trans (Comp.self (rP r_api_Dot (rP rS (rP (rW (HDX go_9 (o_3 * 1) n_4)) (rP (rV 16 (rU UInt64)) (rP (rL r_api_Dest) r0))))) (ID_1, (Topic_2, ((), (Past_5, (To_6, ())))))) (Comp.at' (Comp.inS (Comp.inS (Comp.inS (Comp.inF (Comp.self (rV 16 (rU UInt64)) Past_5) (Nat.le_of_ble_eq_true rfl))))) (by rfl : _ = 4)) (Nat.le_of_ble_eq_true rfl)) rfl) ?_
         refine JL.run (.yes rfl (ltB rfl) rfl hc7) (op_fieldAddr (off := 4) lb tf38_3 (.tmp rfl)) ?_
         refine JL.run (.yes rfl (ltB rfl) rfl hc7) (op_loadA (j := 2) lb tA26 (.tmp rfl) rfl (Comp.trans (Comp.self r_api_Event b_7) (comp_api_Event_Past b_7) (Nat.le_of_ble_eq_true rfl)) rfl) ?_
         replace hx1 := lt1_inv hx1
         obtain ⟨v_17, hv_v_17, hx1⟩ := hx1
         refine JL.run (.yes rfl (ltB rfl) rfl hc7) (op_neA lb qa26 (by decide) ng26 (.tmp rfl) (.tmp rfl) hv_v_17) ?_
         refine jc (op_pickF lb (.tmp rfl) hc7 (.tmp rfl)) ?_
         refine jc (op_move lb (.tmp rfl)) ?_
         refine JL.sub ⟨[(2, ov (PTR gb_11 0)), (3, ov (PTR gb_12 0)), (34, ov (S rB v_17))], [cown go_9 (rU UInt8) x_8 0 gc_10, cvar gb_11 (rP r_api_Dot (rP rS (rP (rW (HDX go_9 (o_3 * 1) n_4)) (rP (rV 16 (rU UInt64)) (rP (rL r_api_Dest) r0))))) (ID_1, (Topic_2, ((), (Past_5, (To_6, ()))))), cvar gb_12 r_api_Event b_7], []⟩ (.cons rfl (.cons rfl (.cons rfl .nil))) rfl rfl ?_
         replace hx1 := iteB_inv hx1
         rcases hx1 with ⟨hc9, hx1⟩ | ⟨hc9, hx1⟩
         · refine JL.skip (.no rfl (ltB rfl) rfl hc9) (fun d h => by cases h; exact ltB rfl) ?_
           refine JL.skip (.no rfl (ltB rfl) rfl hc9) (fun d h => by cases h; exact ltB rfl) ?_
           refine JL.skip (.no rfl (ltB rfl) rfl hc9) (fun d h => by cases h; exact ltB rfl) ?_
           refine JL.skip (.no rfl (ltB rfl) rfl hc9) (fun d h => by cases h; exact ltB rfl) ?_
           refine JL.skip (.no rfl (ltB rfl) rfl hc9) (fun d h => by cases h; exact ltB rfl) ?_
           refine JL.skip (.no rfl (ltB rfl) rfl hc9) (fun d h => by cases h; exact ltB rfl) ?_
           refine JL.skip (.no rfl (ltB rfl) rfl hc9) (fun d h => by cases h; exact ltB rfl) ?_
           refine jc (op_pickT lb (.tmp rfl) hc9 .cB) ?_
           refine JL.nil ?_
           replace hx1 := Option.some.inj hx1
           first | subst hx1 | clear hx1
           refine JQ.pre (Imp.var (j := 1) (q := (rP r_api_Dot (rP rS (rP (rW (HDX go_9 (o_3 * 1) n_4)) (rP (rV 16 (rU UInt64)) (rP (rL r_api_Dest) r0)))))) (y := (ID_1, (Topic_2, ((), (Past_5, (To_6, ())))))) rfl Wk.refl) ?_
           exact JQ.join () (Imp.norm (js := [1, 0, 0]) rfl (.cons rfl (.cons rfl (.cons rfl .nil))))
         · refine JL.run (.yes rfl (ltB rfl) rfl hc9) (op_fieldAddr (off := 20) lb tf38_4 (.tmp rfl)) ?_
           refine JL.run (.yes rfl (ltB rfl) rfl hc9) (op_loadS (j := 1) lb tS36 (.tmp rfl) rfl (Comp.trans (Comp.self (rP r_api_Dot (rP rS (rP (rW (HDX go_9 (o_3 * 1) n_4)) (rP (rV 16 (rU UInt64)) (rP (rL r_api_Dest) r0))))) (ID_1, (Topic_2, ((), (Past_5, (To_6, ())))))) (Comp.at' (Comp.inS (Comp.inS (Comp.inS (Comp.inS (Comp.inF (Comp.self (rL r_api_Dest) To_6) (Nat.le_of_ble_eq_true rfl)))))) (by rfl : _ = 20)) (Nat.le_of_ble_eq_true rfl)) rfl rfl) ?_
           refine JL.run (.yes rfl (ltB rfl) rfl hc9) (op_lenL lb tu36 (.tmp rfl)) ?_
           refine JL.run (.yes rfl (ltB rfl) rfl hc9) (op_fieldAddr (off := 20) lb tf38_4 (.tmp rfl)) ?_
           refine JL.run (.yes rfl (ltB rfl) rfl hc9) (op_loadS (j := 2) lb tS36 (.tmp rfl) rfl (Comp.trans (Comp.self r_api_Event b_7) (comp_api_Event_To b_7) (Nat.le_of_ble_eq_true rfl)) rfl rfl) ?_
           refine JL.run (.yes rfl (ltB rfl) rfl hc9) (op_lenL lb tu36 (.tmp rfl)) ?_
           replace hx1 := lt1_inv hx1
           obtain ⟨v_18, hv_v_18, hx1⟩ := hx1
           refine JL.run (.yes rfl (ltB rfl) rfl hc9) (op_cmpI lb (.tmp rfl) (.tmp rfl) (congrArg some hv_v_18)) ?_
           refine jc (op_pickF lb (.tmp rfl) hc9 (.tmp rfl)) ?_
           refine JL.nil ?_
           replace hx1 := Option.some.inj hx1
           first | subst hx1 | clear hx1
           refine JQ.pre (Imp.var (j := 1) (q := (rP r_api_Dot (rP rS (rP (rW (HDX go_9 (o_3 * 1) n_4)) (rP (rV 16 (rU UInt64)) (rP (rL r_api_Dest) r0)))))) (y := (ID_1, (Topic_2, ((), (Past_5, (To_6, ())))))) rfl Wk.refl) ?_
           exact JQ.join () (Imp.norm (js := [1, 0, 0]) rfl (.cons rfl (.cons rfl (.cons rfl .nil))))

end Go.Proofs.Ythoggbomakolkaa
