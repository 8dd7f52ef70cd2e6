/- Walks. -/
import Derived.Test.YtnadeehdnmgebaaT
namespace Go.Proofs.Ytnadeehdnmgebaa
open Go Fw
set_option linter.unusedVariables false
set_option maxRecDepth 100000
set_option maxHeartbeats 4000000

theorem sim_law12_much (k : Nat) (l_1 : (List law12_Act)) (r : Bool) (hm : law12_much k l_1 = some r) : Sim Try.prog 10 [S (rL r_law12_Act) l_1] [] (γ := Unit) (fun q => []) (fun q => .one (.val (S rB r))) := by
 unfold law12_much at hm
 refine Sim.of Try.func10 rfl rfl (Nat.le_of_ble_eq_true rfl) (fun e0 w0 => ?_)
 refine JC.at ⟨[(0, ov (S (rL r_law12_Act) l_1))], [], []⟩ ?_
 refine JC.seq ?_
 refine JC.region ?_
 refine jc (op_assign lb .cB) ?_
 refine JL.nil ?_
 refine JQ.then ?_
 refine JC.seq ?_
 refine JC.region ?_
 refine jc (op_assign lb .cI) ?_
 refine JL.nil ?_
 refine JQ.then ?_
 refine JC.seq ?_
 refine JC.region ?_
 refine jc (op_assign lb .cI) ?_
 refine JL.nil ?_
 refine JQ.then ?_
 replace hm := bnd_inv hm
 obtain ⟨tv1, hx1, hq1⟩ := hm
 refine JC.seqK (α := Int × Int) (γ := Unit) (stj := fun v q => ⟨[(0, ov (S (rL r_law12_Act) l_1)), (3, ov (S (rI .i64) v.1)), (4, ov (S (rI .i64) v.2))], [], []⟩) (p := fun v => tv1 = (.inl v)) (fun v q hv => ?_) ?_
 · subst hv
   obtain ⟨n_25, many_26⟩ := v
   obtain _ := q
   dsimp only at hq1
   refine JC.at ⟨[(0, ov (S (rL r_law12_Act) l_1)), (3, ov (S (rI .i64) n_25)), (4, ov (S (rI .i64) many_26))], [], []⟩ ?_
   replace hq1 := bnd_inv hq1
   obtain ⟨x_32, hx20, hq20⟩ := hq1
   refine JC.seqJ (γ := Unit) (stj := fun q => ⟨[(2, ov (S rB x_32))], [], []⟩) (fun q => ?_) ?_
   · obtain _ := q
     refine JC.at ⟨[(2, ov (S rB x_32))], [], []⟩ ?_
     refine JC.ret ?_
     replace hq20 := Option.some.inj hq20
     subst hq20
     exact JQ.done (js := []) (ss := [.val (S rB x_32)]) () (.inl rfl) (.nil rfl) rfl (.cons (.tmp rfl) .nil) rfl rfl rfl
   · refine JC.region ?_
     refine jc (op_move lb (.tmp rfl)) ?_
     replace hx20 := lt1_inv hx20
     obtain ⟨v_27, hv_v_27, hx20⟩ := hx20
     refine jc (op_cmpI lb (.tmp rfl) .cI (congrArg some hv_v_27)) ?_
     refine jc (op_move lb (.tmp rfl)) ?_
     refine JL.cnd (sv := ov (S (rI .i64) many_26)) (Guard.isF (ltB rfl) rfl rfl) rfl (ltB rfl) (fun hq_21 => op_move lb (.tmp rfl)) ?_
     replace hx20 := lt1_inv hx20
     obtain ⟨v_28, hv_v_28, hx20⟩ := hx20
     refine JL.cnd (sv := ov (S rB v_28)) (Guard.isF (ltB rfl) rfl rfl) rfl (ltB rfl) (fun hq_22 => op_cmpI lb (HasO.cnd (.tmp rfl) (notT (notF hq_22))) .cI (congrArg some hv_v_28)) ?_
     replace hx20 := lt1_inv hx20
     obtain ⟨v_29, hv_v_29, hx20⟩ := hx20
     refine jc (op_pickCS lb (.tmp rfl) (fun hb23 => .cB) (fun hb23 => (HasO.cnd (.tmp rfl) (notT hb23))) hv_v_29) ?_
     refine jc (op_move lb (.tmp rfl)) ?_
     refine JL.cnd (sv := ov (S (rL r_law12_Act) l_1)) (Guard.isF (ltB rfl) rfl rfl) rfl (ltB rfl) (fun hq_24 => op_move lb (.tmp rfl)) ?_
     refine JL.cnd (sv := ov (S (rI .i64) (List.length l_1 : Int))) (Guard.isF (ltB rfl) rfl rfl) rfl (ltB rfl) (fun hq_25 => op_lenL lb tu22 (HasO.cnd (.tmp rfl) (notT (notF hq_25)))) ?_
     replace hx20 := lt1_inv hx20
     obtain ⟨v_30, hv_v_30, hx20⟩ := hx20
     refine JL.cnd (sv := ov (S rB v_30)) (Guard.isF (ltB rfl) rfl rfl) rfl (ltB rfl) (fun hq_26 => op_cmpI lb (HasO.cnd (.tmp rfl) (notT (notF hq_26))) .cI (congrArg some hv_v_30)) ?_
     replace hx20 := lt1_inv hx20
     obtain ⟨v_31, hv_v_31, hx20⟩ := hx20
     refine jc (op_pickCS lb (.tmp rfl) (fun hb27 => .cB) (fun hb27 => (HasO.cnd (.tmp rfl) (notT hb27))) hv_v_31) ?_
     refine jc (op_assign lb (.tmp rfl)) ?_
     refine JL.sub ⟨[(2, ov (S rB v_31))], [], []⟩ (.cons rfl .nil) rfl rfl ?_
     refine JL.nil ?_
     replace hx20 := Option.some.inj hx20
     first | subst hx20 | clear hx20
     exact JQ.join () (Imp.norm (js := []) rfl (.cons rfl .nil))
 · refine JC.seq ?_
   refine JC.region ?_
   refine jc (op_assign lb .cI) ?_
   refine JL.nil ?_
   refine JQ.then ?_
   refine JC.block ?_
   replace hx1 := bnd_inv hx1
   obtain ⟨tv2, hL2, hq2⟩ := hx1
   refine JC.pre ?_ (JC.loop (γ := Unit) (stf := fun s q => ⟨[(0, ov (S (rL r_law12_Act) l_1)), (3, ov (S (rI .i64) s.1)), (4, ov (S (rI .i64) s.2.1)), (5, ov (S (rI .i64) s.2.2))], [], []⟩) (q := ()) hL2 ?_)
   · exact (Imp.norm (js := []) rfl (.cons rfl (.cons rfl (.cons rfl (.cons rfl .nil)))))
   · intro s q x hx hr
     obtain ⟨n_2, many_3, i_4⟩ := s
     obtain _ := q
     change law12_much.b1 k l_1 n_2 many_3 i_4 = some x at hx
     unfold law12_much.b1 at hx
     refine JC.at ⟨[(0, ov (S (rL r_law12_Act) l_1)), (3, ov (S (rI .i64) n_2)), (4, ov (S (rI .i64) many_3)), (5, ov (S (rI .i64) i_4))], [], []⟩ ?_
     refine JC.seq ?_
     replace hx := bnd_inv hx
     obtain ⟨x_8, hx3, hq3⟩ := hx
     refine JC.seqJ (γ := Unit) (stj := fun q => ⟨[(0, ov (S (rL r_law12_Act) l_1)), (3, ov (S (rI .i64) n_2)), (4, ov (S (rI .i64) many_3)), (5, ov (S (rI .i64) i_4)), (13, ov (S rB x_8))], [], []⟩) (fun q => ?_) ?_
     · obtain _ := q
       refine JC.at ⟨[(0, ov (S (rL r_law12_Act) l_1)), (3, ov (S (rI .i64) n_2)), (4, ov (S (rI .i64) many_3)), (5, ov (S (rI .i64) i_4)), (13, ov (S rB x_8))], [], []⟩ ?_
       replace hq3 := iteB_inv hq3
       rcases hq3 with ⟨hc7, hq3⟩ | ⟨hc7, hq3⟩
       · refine JC.condT (.tmp rfl) hc7 ?_
         refine JC.skip ?_
         refine JQ.then ?_
         refine JC.seq ?_
         refine JC.block ?_
         refine JC.seq ?_
         refine JC.region ?_
         refine jc (op_move lb (.tmp rfl)) ?_
         refine jc (op_move lb (.tmp rfl)) ?_
         refine jc (op_move lb (.tmp rfl)) ?_
         replace hq3 := bnd_inv hq3
         obtain ⟨v_9, hv_v_9, hq3⟩ := hq3
         refine jc (op_indexAddrLg lb tu22 tz33 (.tmp rfl) (.tmp rfl) hv_v_9) ?_
         refine jc (op_fieldAddrP lb tf33_3 (.tmp rfl) (comp_law12_Act_Bytes v_9)) ?_
         refine jc (op_loadPSg lb tS31 rfl (.tmp rfl) rfl) ?_
         refine jc (op_lenL lb tu31 (.tmp rfl)) ?_
         replace hq3 := lt1_inv hq3
         obtain ⟨v_10, hv_v_10, hq3⟩ := hq3
         refine jc (op_minI lb (.tmp rfl) .cI hv_v_10) ?_
         replace hq3 := lt1_inv hq3
         obtain ⟨v_11, hv_v_11, hq3⟩ := hq3
         refine jc (op_arI lb (.tmp rfl) (.tmp rfl) (congrArg some hv_v_11)) ?_
         refine jc (op_assign lb (.tmp rfl)) ?_
         refine JL.nil ?_
         refine JQ.then ?_
         replace hq3 := bnd_inv hq3
         obtain ⟨many_15, hx8, hq8⟩ := hq3
         refine JC.seqJ (γ := Unit) (stj := fun q => ⟨[(0, ov (S (rL r_law12_Act) l_1)), (3, ov (S (rI .i64) v_11)), (4, ov (S (rI .i64) many_15)), (5, ov (S (rI .i64) i_4))], [], []⟩) (fun q => ?_) ?_
         · obtain _ := q
           refine JC.at ⟨[(0, ov (S (rL r_law12_Act) l_1)), (3, ov (S (rI .i64) v_11)), (4, ov (S (rI .i64) many_15)), (5, ov (S (rI .i64) i_4))], [], []⟩ ?_
           replace hq8 := bnd_inv hq8
           obtain ⟨x_21, hx10, hq10⟩ := hq8
           refine JC.seqJ (γ := Unit) (stj := fun q => ⟨[(0, ov (S (rL r_law12_Act) l_1)), (3, ov (S (rI .i64) v_11)), (4, ov (S (rI .i64) many_15)), (5, ov (S (rI .i64) i_4)), (47, ov (S rB x_21))], [], []⟩) (fun q => ?_) ?_
           · obtain _ := q
             refine JC.at ⟨[(0, ov (S (rL r_law12_Act) l_1)), (3, ov (S (rI .i64) v_11)), (4, ov (S (rI .i64) many_15)), (5, ov (S (rI .i64) i_4)), (47, ov (S rB x_21))], [], []⟩ ?_
             replace hq10 := iteB_inv hq10
             rcases hq10 with ⟨hc19, hq10⟩ | ⟨hc19, hq10⟩
             · refine JC.condT (.tmp rfl) hc19 ?_
               refine JC.seq ?_
               refine JC.region ?_
               refine jc (op_assign lb .cB) ?_
               refine JL.nil ?_
               refine JQ.then ?_
               refine JC.ret ?_
               refine JQ.outRB ?_
               refine JQ.outR ?_
               replace hq10 := Option.some.inj hq10
               first | subst hq10 | clear hq10
               have ht := hr _ rfl
               clear hr
               first | subst ht | clear ht
               dsimp only at hq2
               refine JQ.outR ?_
               refine JQ.outRB ?_
               replace hq2 := Option.some.inj hq2
               first | subst hq2 | clear hq2
               dsimp only at hq1
               refine JQ.outR ?_
               replace hq1 := Option.some.inj hq1
               subst hq1
               exact JQ.done (js := []) (ss := [.val (S rB true)]) () (.inl rfl) (.nil rfl) rfl (.cons (.tmp rfl) .nil) rfl rfl rfl
             · refine JC.condF (.tmp rfl) hc19 ?_
               refine JC.skip ?_
               refine JQ.outNB ?_
               refine JQ.then ?_
               refine JC.region ?_
               refine jc (op_move lb (.tmp rfl)) ?_
               replace hq10 := lt1_inv hq10
               obtain ⟨v_22, hv_v_22, hq10⟩ := hq10
               refine jc (op_arI lb (.tmp rfl) .cI (congrArg some hv_v_22)) ?_
               refine jc (op_assign lb (.tmp rfl)) ?_
               refine JL.nil ?_
               replace hq10 := Option.some.inj hq10
               first | subst hq10 | clear hq10
               exact JQ.next () rfl (Imp.norm (js := []) rfl (.cons rfl (.cons rfl (.cons rfl (.cons rfl .nil)))))
           · refine JC.region ?_
             refine jc (op_move lb (.tmp rfl)) ?_
             refine jc (op_move lb (.tmp rfl)) ?_
             replace hx10 := bnd_inv hx10
             obtain ⟨v_16, hv_v_16, hx10⟩ := hx10
             refine jc (op_indexAddrLg lb tu22 tz33 (.tmp rfl) (.tmp rfl) hv_v_16) ?_
             refine jc (op_fieldAddrP lb tf33_0 (.tmp rfl) (comp_law12_Act_Kind v_16)) ?_
             refine jc (op_loadPSg lb tS3 rfl (.tmp rfl) rfl) ?_
             replace hx10 := lt1_inv hx10
             obtain ⟨v_17, hv_v_17, hx10⟩ := hx10
             refine jc (op_cmpI lb (.tmp rfl) .cI (congrArg some hv_v_17)) ?_
             refine jc (op_move lb (.tmp rfl)) ?_
             refine JL.cnd (sv := ov (S (rL r_law12_Act) l_1)) (Guard.isT (ltB rfl) rfl rfl) rfl (ltB rfl) (fun hq_11 => op_move lb (.tmp rfl)) ?_
             refine JL.cnd (sv := ov (S (rI .i64) i_4)) (Guard.isT (ltB rfl) rfl rfl) rfl (ltB rfl) (fun hq_12 => op_move lb (.tmp rfl)) ?_
             replace hx10 := bnd_inv hx10
             obtain ⟨v_18, hv_v_18, hx10⟩ := hx10
             refine JL.cnd (sv := ov (PT r_law12_Act v_18)) (Guard.isT (ltB rfl) rfl rfl) rfl (ltB rfl) (fun hq_13 => op_indexAddrLg lb tu22 tz33 (HasO.cnd (.tmp rfl) hq_13) (HasO.cnd (.tmp rfl) hq_13) (ifT hv_v_18 hq_13)) ?_
             refine JL.cnd (sv := ov (PT (rL (rU UInt8)) v_18.Bytes)) (Guard.isT (ltB rfl) rfl rfl) rfl (ltB rfl) (fun hq_14 => op_fieldAddrP lb tf33_3 (HasO.cnd (.tmp rfl) hq_14) (comp_law12_Act_Bytes v_18)) ?_
             refine JL.cnd (sv := ov (S (rL (rU UInt8)) v_18.Bytes)) (Guard.isT (ltB rfl) rfl rfl) rfl (ltB rfl) (fun hq_15 => op_loadPSg lb tS31 rfl (HasO.cnd (.tmp rfl) hq_15) rfl) ?_
             refine JL.sub ⟨[(0, ov (S (rL r_law12_Act) l_1)), (3, ov (S (rI .i64) v_11)), (4, ov (S (rI .i64) many_15)), (5, ov (S (rI .i64) i_4)), (39, ov (S rB v_17)), (44, bif v_17 then ov (S (rL (rU UInt8)) v_18.Bytes) else .one .und)], [], []⟩ (.cons rfl (.cons rfl (.cons rfl (.cons rfl (.cons rfl (.cons rfl .nil)))))) rfl rfl ?_
             refine JL.cnd (sv := ov (S (rI .i64) (List.length v_18.Bytes : Int))) (Guard.isT (ltB rfl) rfl rfl) rfl (ltB rfl) (fun hq_16 => op_lenL lb tu31 (HasO.cnd (.tmp rfl) hq_16)) ?_
             replace hx10 := lt1_inv hx10
             obtain ⟨v_19, hv_v_19, hx10⟩ := hx10
             refine JL.cnd (sv := ov (S rB v_19)) (Guard.isT (ltB rfl) rfl rfl) rfl (ltB rfl) (fun hq_17 => op_cmpI lb (HasO.cnd (.tmp rfl) hq_17) .cI (congrArg some hv_v_19)) ?_
             replace hx10 := lt1_inv hx10
             obtain ⟨v_20, hv_v_20, hx10⟩ := hx10
             refine jc (op_pickCS lb (.tmp rfl) (fun hb18 => (HasO.cnd (.tmp rfl) hb18)) (fun hb18 => .cB) hv_v_20) ?_
             refine JL.nil ?_
             replace hx10 := Option.some.inj hx10
             first | subst hx10 | clear hx10
             exact JQ.join () (Imp.norm (js := []) rfl (.cons rfl (.cons rfl (.cons rfl (.cons rfl (.cons rfl .nil))))))
         · refine JC.seq ?_
           refine JC.region ?_
           refine jc (op_move lb (.tmp rfl)) ?_
           refine jc (op_move lb (.tmp rfl)) ?_
           refine JL.sub ⟨[(0, ov (S (rL r_law12_Act) l_1)), (3, ov (S (rI .i64) v_11)), (4, ov (S (rI .i64) many_3)), (5, ov (S (rI .i64) i_4)), (25, ov (S (rL r_law12_Act) l_1)), (26, ov (S (rI .i64) i_4))], [], []⟩ (.cons rfl (.cons rfl (.cons rfl (.cons rfl (.cons rfl (.cons rfl .nil)))))) rfl rfl ?_
           replace hx8 := bnd_inv hx8
           obtain ⟨v_12, hv_v_12, hx8⟩ := hx8
           refine jc (op_indexAddrLg lb tu22 tz33 (.tmp rfl) (.tmp rfl) hv_v_12) ?_
           refine jc (op_fieldAddrP lb tf33_0 (.tmp rfl) (comp_law12_Act_Kind v_12)) ?_
           refine jc (op_loadPSg lb tS3 rfl (.tmp rfl) rfl) ?_
           replace hx8 := lt1_inv hx8
           obtain ⟨v_13, hv_v_13, hx8⟩ := hx8
           refine jc (op_cmpI lb (.tmp rfl) .cI (congrArg some hv_v_13)) ?_
           refine JL.nil ?_
           refine JQ.then ?_
           replace hx8 := iteB_inv hx8
           rcases hx8 with ⟨hc9, hx8⟩ | ⟨hc9, hx8⟩
           · refine JC.condT (.tmp rfl) hc9 ?_
             refine JC.region ?_
             refine jc (op_move lb (.tmp rfl)) ?_
             replace hx8 := lt1_inv hx8
             obtain ⟨v_14, hv_v_14, hx8⟩ := hx8
             refine jc (op_arI lb (.tmp rfl) .cI (congrArg some hv_v_14)) ?_
             refine jc (op_assign lb (.tmp rfl)) ?_
             refine JL.nil ?_
             replace hx8 := Option.some.inj hx8
             first | subst hx8 | clear hx8
             exact JQ.join () (Imp.norm (js := []) rfl (.cons rfl (.cons rfl (.cons rfl (.cons rfl .nil)))))
           · refine JC.condF (.tmp rfl) hc9 ?_
             refine JC.skip ?_
             replace hx8 := Option.some.inj hx8
             first | subst hx8 | clear hx8
             exact JQ.join () (Imp.norm (js := []) rfl (.cons rfl (.cons rfl (.cons rfl (.cons rfl .nil)))))
       · refine JC.condF (.tmp rfl) hc7 ?_
         refine JC.exit ?_
         refine JQ.outX ?_
         replace hq3 := Option.some.inj hq3
         first | subst hq3 | clear hq3
         have ht := hr _ rfl
         clear hr
         first | subst ht | clear ht
         dsimp only at hq2
         refine JQ.outX ?_
         refine JQ.here ?_
         replace hq2 := Option.some.inj hq2
         first | subst hq2 | clear hq2
         exact JQ.joinK (n_2, many_3) () rfl (Imp.norm (js := []) rfl (.cons rfl (.cons rfl (.cons rfl .nil))))
     · refine JC.region ?_
       refine jc (op_move lb (.tmp rfl)) ?_
       refine jc (op_move lb (.tmp rfl)) ?_
       refine jc (op_lenL lb tu22 (.tmp rfl)) ?_
       replace hx3 := lt1_inv hx3
       obtain ⟨v_5, hv_v_5, hx3⟩ := hx3
       refine jc (op_cmpI lb (.tmp rfl) (.tmp rfl) (congrArg some hv_v_5)) ?_
       refine jc (op_move lb (.tmp rfl)) ?_
       refine JL.cnd (sv := ov (S (rI .i64) i_4)) (Guard.isT (ltB rfl) rfl rfl) rfl (ltB rfl) (fun hq_4 => op_move lb (.tmp rfl)) ?_
       replace hx3 := lt1_inv hx3
       obtain ⟨v_6, hv_v_6, hx3⟩ := hx3
       refine JL.cnd (sv := ov (S rB v_6)) (Guard.isT (ltB rfl) rfl rfl) rfl (ltB rfl) (fun hq_5 => op_cmpI lb (HasO.cnd (.tmp rfl) hq_5) .cI (congrArg some hv_v_6)) ?_
       replace hx3 := lt1_inv hx3
       obtain ⟨v_7, hv_v_7, hx3⟩ := hx3
       refine jc (op_pickCS lb (.tmp rfl) (fun hb6 => (HasO.cnd (.tmp rfl) hb6)) (fun hb6 => .cB) hv_v_7) ?_
       refine JL.nil ?_
       replace hx3 := Option.some.inj hx3
       first | subst hx3 | clear hx3
       exact JQ.join () (Imp.norm (js := []) rfl (.cons rfl (.cons rfl (.cons rfl (.cons rfl (.cons rfl .nil))))))

end Go.Proofs.Ytnadeehdnmgebaa
