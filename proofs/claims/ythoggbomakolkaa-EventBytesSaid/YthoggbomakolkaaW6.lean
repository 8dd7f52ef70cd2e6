/- Walks. -/
import Derived.Test.YthoggbomakolkaaT
namespace Go.Proofs.Ythoggbomakolkaa
open Go Fw
set_option linter.unusedVariables false
set_option maxRecDepth 100000
set_option maxHeartbeats 4000000

theorem sim_ref09_MayVector (k : Nat) (v_1 : (Vector UInt64 16)) (r : Bool) (hm : ref09_MayVector k v_1 = some r) : Sim Try.prog 12 [A (rV 16 (rU UInt64)) v_1] [] (γ := Unit) (fun q => []) (fun q => .one (.val (S rB r))) := by
 unfold ref09_MayVector at hm
 refine Sim.of Try.func12 rfl rfl (Nat.le_of_ble_eq_true rfl) (fun e0 w0 => ?_)
 refine JC.at ⟨[(0, ov (A (rV 16 (rU UInt64)) v_1))], [], []⟩ ?_
 refine JC.seq ?_
 refine JC.region ?_
 refine jx (op_boxA lb (.tmp rfl)) (fun q => ?_)
 obtain ⟨gb_2, hqq⟩ : ∃ z, z = q := ⟨_, rfl⟩
 subst hqq
 refine jc (op_assign lb .cB) ?_
 refine JL.nil ?_
 refine JQ.then ?_
 replace hm := bnd_inv hm
 obtain ⟨tv1, hx1, hq1⟩ := hm
 refine JC.seqK (α := Unit) (γ := Unit) (stj := fun v q => ⟨[], [], []⟩) (p := fun v => tv1 = (.inl v)) (fun v q hv => ?_) ?_
 · subst hv
   skip
   obtain _ := q
   dsimp only at hq1
   refine JC.at ⟨[], [], []⟩ ?_
   refine JC.seq ?_
   refine JC.region ?_
   refine jc (op_assign lb .cB) ?_
   refine JL.nil ?_
   refine JQ.then ?_
   refine JC.ret ?_
   replace hq1 := Option.some.inj hq1
   subst hq1
   exact JQ.done (js := []) (ss := [.val (S rB true)]) () (.inl rfl) (.nil rfl) rfl (.cons (.tmp rfl) .nil) rfl rfl rfl
 · refine JC.seq ?_
   refine JC.region ?_
   refine jc (op_assign lb .cI) ?_
   refine JL.nil ?_
   refine JQ.then ?_
   refine JC.block ?_
   replace hx1 := bnd_inv hx1
   obtain ⟨tv2, hL2, hq2⟩ := hx1
   refine JC.pre ?_ (JC.loop (γ := Unit) (stf := fun s q => ⟨[(1, ov (PTR gb_2 0)), (3, ov (S (rI .i64) s))], [cvar gb_2 (rV 16 (rU UInt64)) v_1], []⟩) (q := ()) hL2 ?_)
   · exact (Imp.norm (js := [0]) rfl (.cons rfl (.cons rfl .nil)))
   · intro i_3 q x hx hr
     obtain _ := q
     change ref09_MayVector.b1 k v_1 i_3 = some x at hx
     unfold ref09_MayVector.b1 at hx
     refine JC.at ⟨[(1, ov (PTR gb_2 0)), (3, ov (S (rI .i64) i_3))], [cvar gb_2 (rV 16 (rU UInt64)) v_1], []⟩ ?_
     refine JC.seq ?_
     refine JC.seq ?_
     refine JC.region ?_
     refine jc (op_move lb (.tmp rfl)) ?_
     replace hx := lt1_inv hx
     obtain ⟨v_4, hv_v_4, hx⟩ := hx
     refine jc (op_cmpI lb (.tmp rfl) .cI (congrArg some hv_v_4)) ?_
     refine JL.nil ?_
     refine JQ.then ?_
     replace hx := iteB_inv hx
     rcases hx with ⟨hc3, hx⟩ | ⟨hc3, hx⟩
     · refine JC.condT (.tmp rfl) hc3 ?_
       refine JC.skip ?_
       refine JQ.then ?_
       refine JC.seq ?_
       refine JC.block ?_
       refine JC.seq ?_
       refine JC.region ?_
       refine jc (op_move lb (.tmp rfl)) ?_
       replace hx := bnd_inv hx
       obtain ⟨i_5, hv_i_5, hx⟩ := hx
       refine jc (op_indexAddrIF lb tr26 (.tmp rfl) (.tmp rfl) hv_i_5) ?_
       replace hx := lt1_inv hx
       obtain ⟨v_6, hv_v_6, hx⟩ := hx
       refine jc (op_loadS (j := 0) lb tS22 (.tmp rfl) rfl (Comp.at (Comp.self (rV 16 (rU UInt64)) v_1) i_5.2 rfl) rfl hv_v_6) ?_
       replace hx := lt1_inv hx
       obtain ⟨v_7, hv_v_7, hx⟩ := hx
       refine jc (op_cmpU lb (.tmp rfl) (HasO.cU (x := (4611686018427387904 : UInt64)) rfl (by decide)) (congrArg some hv_v_7)) ?_
       refine JL.nil ?_
       refine JQ.then ?_
       replace hx := iteB_inv hx
       rcases hx with ⟨hc4, hx⟩ | ⟨hc4, hx⟩
       · refine JC.condT (.tmp rfl) hc4 ?_
         refine JC.seq ?_
         refine JC.region ?_
         refine jc (op_assign lb .cB) ?_
         refine JL.nil ?_
         refine JQ.then ?_
         refine JC.ret ?_
         refine JQ.outRB ?_
         refine JQ.outR ?_
         replace hx := Option.some.inj hx
         first | subst hx | clear hx
         have ht := hr _ rfl
         clear hr
         first | subst ht | clear ht
         dsimp only at hq2
         refine JQ.outR ?_
         refine JQ.outRB ?_
         replace hq2 := Option.some.inj hq2
         first | subst hq2 | clear hq2
         dsimp only at hq1
         refine JQ.outR ?_
         replace hq1 := Option.some.inj hq1
         subst hq1
         exact JQ.done (js := []) (ss := [.val (S rB false)]) () (.inl rfl) (.nil rfl) rfl (.cons (.tmp rfl) .nil) rfl rfl rfl
       · refine JC.condF (.tmp rfl) hc4 ?_
         refine JC.skip ?_
         refine JQ.outNB ?_
         refine JQ.then ?_
         refine JC.region ?_
         refine jc (op_move lb (.tmp rfl)) ?_
         replace hx := lt1_inv hx
         obtain ⟨v_8, hv_v_8, hx⟩ := hx
         refine jc (op_arI lb (.tmp rfl) .cI (congrArg some hv_v_8)) ?_
         refine jc (op_assign lb (.tmp rfl)) ?_
         refine JL.nil ?_
         replace hx := Option.some.inj hx
         first | subst hx | clear hx
         exact JQ.next () rfl (Imp.norm (js := [0]) rfl (.cons rfl (.cons rfl .nil)))
     · refine JC.condF (.tmp rfl) hc3 ?_
       refine JC.exit ?_
       refine JQ.outX ?_
       replace hx := Option.some.inj hx
       first | subst hx | clear hx
       have ht := hr _ rfl
       clear hr
       first | subst ht | clear ht
       dsimp only at hq2
       refine JQ.outX ?_
       refine JQ.here ?_
       replace hq2 := Option.some.inj hq2
       first | subst hq2 | clear hq2
       exact JQ.joinK () () rfl (Imp.norm (js := []) rfl .nil)

theorem sim_ref09_MayName (k : Nat) (s_1 : (List UInt8)) (r : Bool) (hm : ref09_MayName k s_1 = some r) : Sim Try.prog 11 [S rS s_1] [] (γ := Unit) (fun q => []) (fun q => .one (.val (S rB r))) := by
 unfold ref09_MayName at hm
 refine Sim.of Try.func11 rfl rfl (Nat.le_of_ble_eq_true rfl) (fun e0 w0 => ?_)
 refine JC.at ⟨[(0, ov (S rS s_1))], [], []⟩ ?_
 refine JC.seq ?_
 refine JC.region ?_
 refine jc (op_assign lb .cB) ?_
 refine JL.nil ?_
 refine JQ.then ?_
 replace hm := bnd_inv hm
 obtain ⟨x_5, hx1, hq1⟩ := hm
 refine JC.seqJ (γ := Unit) (stj := fun q => ⟨[(2, ov (S rB x_5))], [], []⟩) (fun q => ?_) ?_
 · obtain _ := q
   refine JC.at ⟨[(2, ov (S rB x_5))], [], []⟩ ?_
   refine JC.ret ?_
   replace hq1 := Option.some.inj hq1
   subst hq1
   exact JQ.done (js := []) (ss := [.val (S rB x_5)]) () (.inl rfl) (.nil rfl) rfl (.cons (.tmp rfl) .nil) rfl rfl rfl
 · refine JC.region ?_
   refine jc (op_move lb (.tmp rfl)) ?_
   refine jc (op_lenS lb tu9 (.tmp rfl)) ?_
   replace hx1 := lt1_inv hx1
   obtain ⟨v_2, hv_v_2, hx1⟩ := hx1
   refine jc (op_cmpI lb (.tmp rfl) .cI (congrArg some hv_v_2)) ?_
   refine jc (op_move lb (.tmp rfl)) ?_
   refine JL.cnd (sv := ov (S rS s_1)) (Guard.isT (ltB rfl) rfl rfl) rfl (ltB rfl) (fun hq_2 => op_move lb (.tmp rfl)) ?_
   refine JL.cnd (sv := ov (S (rI .i64) (List.length s_1 : Int))) (Guard.isT (ltB rfl) rfl rfl) rfl (ltB rfl) (fun hq_3 => op_lenS lb tu9 (HasO.cnd (.tmp rfl) hq_3)) ?_
   replace hx1 := lt1_inv hx1
   obtain ⟨v_3, hv_v_3, hx1⟩ := hx1
   refine JL.cnd (sv := ov (S rB v_3)) (Guard.isT (ltB rfl) rfl rfl) rfl (ltB rfl) (fun hq_4 => op_cmpI lb (HasO.cnd (.tmp rfl) hq_4) .cI (congrArg some hv_v_3)) ?_
   replace hx1 := lt1_inv hx1
   obtain ⟨v_4, hv_v_4, hx1⟩ := hx1
   refine jc (op_pickCS lb (.tmp rfl) (fun hb5 => (HasO.cnd (.tmp rfl) hb5)) (fun hb5 => .cB) hv_v_4) ?_
   refine jc (op_assign lb (.tmp rfl)) ?_
   refine JL.nil ?_
   replace hx1 := Option.some.inj hx1
   first | subst hx1 | clear hx1
   exact JQ.join () (Imp.norm (js := []) rfl (.cons rfl .nil))

theorem sim_ref09_Less (k : Nat) (a_1 : api_Dot) (b_2 : api_Dot) (r : Bool) (hm : ref09_Less k a_1 b_2 = some r) : Sim Try.prog 32 [A r_api_Dot a_1, A r_api_Dot b_2] [] (γ := Unit) (fun q => []) (fun q => .one (.val (S rB r))) := by
 unfold ref09_Less at hm
 refine Sim.of Try.func32 rfl rfl (Nat.le_of_ble_eq_true rfl) (fun e0 w0 => ?_)
 refine JC.at ⟨[(0, ov (A r_api_Dot a_1)), (1, ov (A r_api_Dot b_2))], [], []⟩ ?_
 refine JC.seq ?_
 refine JC.region ?_
 refine jx (op_boxA lb (.tmp rfl)) (fun q => ?_)
 obtain ⟨gb_3, hqq⟩ : ∃ z, z = q := ⟨_, rfl⟩
 subst hqq
 refine jx (op_boxA lb (.tmp rfl)) (fun q => ?_)
 obtain ⟨gb_4, hqq⟩ : ∃ z, z = q := ⟨_, rfl⟩
 subst hqq
 refine jc (op_assign lb .cB) ?_
 refine JL.nil ?_
 refine JQ.then ?_
 replace hm := bnd_inv hm
 obtain ⟨x_8, hx1, hq1⟩ := hm
 refine JC.seqJ (γ := Unit) (stj := fun q => ⟨[(4, ov (S rB x_8))], [], []⟩) (fun q => ?_) ?_
 · obtain _ := q
   refine JC.at ⟨[(4, ov (S rB x_8))], [], []⟩ ?_
   refine JC.ret ?_
   replace hq1 := Option.some.inj hq1
   subst hq1
   exact JQ.done (js := []) (ss := [.val (S rB x_8)]) () (.inl rfl) (.nil rfl) rfl (.cons (.tmp rfl) .nil) rfl rfl rfl
 · refine JC.region ?_
   refine jc (op_fieldAddr (off := 0) lb tf24_0 (.tmp rfl)) ?_
   refine jc (op_loadS (j := 0) lb tS3 (.tmp rfl) rfl (Comp.trans (Comp.self r_api_Dot a_1) (comp_api_Dot_Region a_1) (Nat.le_of_ble_eq_true rfl)) rfl rfl) ?_
   refine jc (op_fieldAddr (off := 0) lb tf24_0 (.tmp rfl)) ?_
   refine jc (op_loadS (j := 1) lb tS3 (.tmp rfl) rfl (Comp.trans (Comp.self r_api_Dot b_2) (comp_api_Dot_Region b_2) (Nat.le_of_ble_eq_true rfl)) rfl rfl) ?_
   replace hx1 := lt1_inv hx1
   obtain ⟨v_5, hv_v_5, hx1⟩ := hx1
   refine jc (op_cmpI lb (.tmp rfl) (.tmp rfl) (congrArg some hv_v_5)) ?_
   refine JL.sub ⟨[(2, ov (PTR gb_3 0)), (3, ov (PTR gb_4 0)), (4, ov (S rB false)), (9, ov (S rB v_5))], [cvar gb_3 r_api_Dot a_1, cvar gb_4 r_api_Dot b_2], []⟩ (.cons rfl (.cons rfl (.cons rfl (.cons rfl .nil)))) rfl rfl ?_
   refine jc (op_move lb (.tmp rfl)) ?_
   replace hx1 := iteB_inv hx1
   rcases hx1 with ⟨hc3, hx1⟩ | ⟨hc3, hx1⟩
   · refine JL.skip (.no rfl (ltB rfl) rfl hc3) (fun d h => by cases h; exact ltB rfl) ?_
     refine JL.skip (.no rfl (ltB rfl) rfl hc3) (fun d h => by cases h; exact ltB rfl) ?_
     refine JL.skip (.no rfl (ltB rfl) rfl hc3) (fun d h => by cases h; exact ltB rfl) ?_
     refine JL.skip (.no rfl (ltB rfl) rfl hc3) (fun d h => by cases h; exact ltB rfl) ?_
     refine JL.skip (.no rfl (ltB rfl) rfl hc3) (fun d h => by cases h; exact ltB rfl) ?_
     refine JL.skip (.no rfl (ltB rfl) rfl hc3) (fun d h => by cases h; exact ltB rfl) ?_
     refine JL.skip (.und rfl (ltB rfl) rfl) (fun d h => by cases h; exact ltB rfl) ?_
     refine JL.skip (.und rfl (ltB rfl) rfl) (fun d h => by cases h; exact ltB rfl) ?_
     refine JL.skip (.und rfl (ltB rfl) rfl) (fun d h => by cases h; exact ltB rfl) ?_
     refine JL.skip (.und rfl (ltB rfl) rfl) (fun d h => by cases h; exact ltB rfl) ?_
     refine JL.skip (.und rfl (ltB rfl) rfl) (fun d h => by cases h; exact ltB rfl) ?_
     refine JL.skip (.no rfl (ltB rfl) rfl hc3) (fun d h => by cases h; exact ltB rfl) ?_
     refine jc (op_pickT lb (.tmp rfl) hc3 .cB) ?_
     refine jc (op_assign lb (.tmp rfl)) ?_
     refine JL.nil ?_
     replace hx1 := Option.some.inj hx1
     first | subst hx1 | clear hx1
     exact JQ.join () (Imp.norm (js := []) rfl (.cons rfl .nil))
   · refine JL.run (.yes rfl (ltB rfl) rfl hc3) (op_fieldAddr (off := 0) lb tf24_0 (.tmp rfl)) ?_
     refine JL.run (.yes rfl (ltB rfl) rfl hc3) (op_loadS (j := 0) lb tS3 (.tmp rfl) rfl (Comp.trans (Comp.self r_api_Dot a_1) (comp_api_Dot_Region a_1) (Nat.le_of_ble_eq_true rfl)) rfl rfl) ?_
     refine JL.run (.yes rfl (ltB rfl) rfl hc3) (op_fieldAddr (off := 0) lb tf24_0 (.tmp rfl)) ?_
     refine JL.run (.yes rfl (ltB rfl) rfl hc3) (op_loadS (j := 1) lb tS3 (.tmp rfl) rfl (Comp.trans (Comp.self r_api_Dot b_2) (comp_api_Dot_Region b_2) (Nat.le_of_ble_eq_true rfl)) rfl rfl) ?_
     replace hx1 := lt1_inv hx1
     obtain ⟨v_6, hv_v_6, hx1⟩ := hx1
     refine JL.run (.yes rfl (ltB rfl) rfl hc3) (op_cmpI lb (.tmp rfl) (.tmp rfl) (congrArg some hv_v_6)) ?_
     refine JL.run (.yes rfl (ltB rfl) rfl hc3) (op_move lb (.tmp rfl)) ?_
     replace hx1 := iteB_inv hx1
     rcases hx1 with ⟨hc5, hx1⟩ | ⟨hc5, hx1⟩
     · refine JL.run (.yes rfl (ltB rfl) rfl hc5) (op_fieldAddr (off := 1) lb tf24_1 (.tmp rfl)) ?_
       refine JL.run (.yes rfl (ltB rfl) rfl hc5) (op_loadS (j := 0) lb tS22 (.tmp rfl) rfl (Comp.trans (Comp.self r_api_Dot a_1) (comp_api_Dot_Count a_1) (Nat.le_of_ble_eq_true rfl)) rfl rfl) ?_
       refine JL.run (.yes rfl (ltB rfl) rfl hc5) (op_fieldAddr (off := 1) lb tf24_1 (.tmp rfl)) ?_
       refine JL.run (.yes rfl (ltB rfl) rfl hc5) (op_loadS (j := 1) lb tS22 (.tmp rfl) rfl (Comp.trans (Comp.self r_api_Dot b_2) (comp_api_Dot_Count b_2) (Nat.le_of_ble_eq_true rfl)) rfl rfl) ?_
       replace hx1 := lt1_inv hx1
       obtain ⟨v_7, hv_v_7, hx1⟩ := hx1
       refine JL.run (.yes rfl (ltB rfl) rfl hc5) (op_cmpU lb (.tmp rfl) (.tmp rfl) (congrArg some hv_v_7)) ?_
       refine JL.nrm ⟨[(4, ov (S rB false)), (10, ov (S rB v_5)), (16, ov (S rB v_6)), (21, ov (S rB v_7))], [], []⟩ [] rfl (.cons rfl (.cons rfl (.cons rfl (.cons rfl .nil)))) rfl ?_
       refine JL.run (.yes rfl (ltB rfl) rfl hc3) (op_pickT lb (.tmp rfl) hc5 (.tmp rfl)) ?_
       refine jc (op_pickF lb (.tmp rfl) hc3 (.tmp rfl)) ?_
       refine jc (op_assign lb (.tmp rfl)) ?_
       refine JL.nil ?_
       replace hx1 := Option.some.inj hx1
       first | subst hx1 | clear hx1
       exact JQ.join () (Imp.norm (js := []) rfl (.cons rfl .nil))
     · refine JL.skip (.no rfl (ltB rfl) rfl hc5) (fun d h => by cases h; exact ltB rfl) ?_
       refine JL.skip (.no rfl (ltB rfl) rfl hc5) (fun d h => by cases h; exact ltB rfl) ?_
       refine JL.skip (.no rfl (ltB rfl) rfl hc5) (fun d h => by cases h; exact ltB rfl) ?_
       refine JL.skip (.no rfl (ltB rfl) rfl hc5) (fun d h => by cases h; exact ltB rfl) ?_
       refine JL.skip (.no rfl (ltB rfl) rfl hc5) (fun d h => by cases h; exact ltB rfl) ?_
       refine JL.run (.yes rfl (ltB rfl) rfl hc3) (op_pickF lb (.tmp rfl) hc5 .cB) ?_
       refine jc (op_pickF lb (.tmp rfl) hc3 (.tmp rfl)) ?_
       refine jc (op_assign lb (.tmp rfl)) ?_
       refine JL.nil ?_
       replace hx1 := Option.some.inj hx1
       first | subst hx1 | clear hx1
       exact JQ.join () (Imp.norm (js := []) rfl (.cons rfl .nil))

end Go.Proofs.Ythoggbomakolkaa
