/- Walks. -/
import Derived.Test.YtkbkdfcakpbojaaT
import Derived.Test.YtkbkdfcakpbojaaW0
import Derived.Test.YtkbkdfcakpbojaaW1
import Derived.Test.YtkbkdfcakpbojaaW11
import Derived.Test.YtkbkdfcakpbojaaW13
import Derived.Test.YtkbkdfcakpbojaaW2
import Derived.Test.YtkbkdfcakpbojaaW6
import Derived.Test.YtkbkdfcakpbojaaW7
import Derived.Test.YtkbkdfcakpbojaaW9
namespace Go.Proofs.Ytkbkdfcakpbojaa
open Go Fw
set_option linter.unusedVariables false
set_option maxRecDepth 100000
set_option maxHeartbeats 4000000

theorem sim_law01_WireBack (k : Nat) (t_1 : UInt64) (a_2 : api_Dot) (a_3 : (Vector UInt64 16)) (a_4 : (List UInt8)) (r : Bool) (hm : law01_WireBack k t_1 a_2 a_3 a_4 = some r) : Sim Try.prog 8 [S (rU UInt64) t_1, A r_api_Dot a_2, A (rV 16 (rU UInt64)) a_3, S (rL (rU UInt8)) a_4] [] (γ := Unit) (fun q => []) (fun q => .one (.val (S rB r))) := by
 unfold law01_WireBack at hm
 refine Sim.of Try.func8 rfl rfl (Nat.le_of_ble_eq_true rfl) (fun e0 w0 => ?_)
 refine JC.at ⟨[(0, ov (S (rU UInt64) t_1)), (1, ov (A r_api_Dot a_2)), (2, ov (A (rV 16 (rU UInt64)) a_3)), (3, ov (S (rL (rU UInt8)) a_4))], [], []⟩ ?_
 refine JC.seq ?_
 refine JC.region ?_
 refine jx (op_boxA lb (.tmp rfl)) (fun q => ?_)
 obtain ⟨gb_5, hqq⟩ : ∃ z, z = q := ⟨_, rfl⟩
 subst hqq
 refine jx (op_boxA lb (.tmp rfl)) (fun q => ?_)
 obtain ⟨gb_6, hqq⟩ : ∃ z, z = q := ⟨_, rfl⟩
 subst hqq
 refine jc (op_assign lb .cB) ?_
 refine JL.nil ?_
 refine JQ.then ?_
 refine JC.seq ?_
 refine JC.seq ?_
 refine JC.region ?_
 replace hm := bnd_inv hm
 obtain ⟨v_7, hv_v_7, hm⟩ := hm
 refine jx (op_call (js := []) ld cl9 (sim_law01_known k v_7 hv_v_7) .func .nil rfl) (fun _ => ?_)
 replace hm := lt1_inv hm
 obtain ⟨v_8, hv_v_8, hm⟩ := hm
 refine jc (op_not lb (.tmp rfl) hv_v_8) ?_
 refine JL.nil ?_
 refine JQ.then ?_
 replace hm := iteB_inv hm
 rcases hm with ⟨hc1, hm⟩ | ⟨hc1, hm⟩
 · refine JC.condT (.tmp rfl) hc1 ?_
   refine JC.seq ?_
   refine JC.region ?_
   refine jc (op_assign lb .cB) ?_
   refine JL.nil ?_
   refine JQ.then ?_
   refine JC.ret ?_
   refine JQ.outR ?_
   replace hm := Option.some.inj hm
   subst hm
   exact JQ.done (js := []) (ss := [.val (S rB false)]) () (.inl rfl) (.nil rfl) rfl (.cons (.tmp rfl) .nil) rfl rfl rfl
 · refine JC.condF (.tmp rfl) hc1 ?_
   refine JC.skip ?_
   refine JQ.then ?_
   refine JC.seq ?_
   replace hm := bnd_inv hm
   obtain ⟨x_12, hx2, hq2⟩ := hm
   refine JC.seqJ (γ := Unit) (stj := fun q => ⟨[(0, ov (S (rU UInt64) t_1)), (3, ov (S (rL (rU UInt8)) a_4)), (5, ov (PTR gb_5 0)), (6, ov (PTR gb_6 0)), (32, ov (S rB x_12))], [cvar gb_5 r_api_Dot a_2, cvar gb_6 (rV 16 (rU UInt64)) a_3], []⟩) (fun q => ?_) ?_
   · obtain _ := q
     refine JC.at ⟨[(0, ov (S (rU UInt64) t_1)), (3, ov (S (rL (rU UInt8)) a_4)), (5, ov (PTR gb_5 0)), (6, ov (PTR gb_6 0)), (32, ov (S rB x_12))], [cvar gb_5 r_api_Dot a_2, cvar gb_6 (rV 16 (rU UInt64)) a_3], []⟩ ?_
     replace hq2 := iteB_inv hq2
     rcases hq2 with ⟨hc7, hq2⟩ | ⟨hc7, hq2⟩
     · refine JC.condT (.tmp rfl) hc7 ?_
       refine JC.seq ?_
       refine JC.region ?_
       refine jc (op_assign lb .cB) ?_
       refine JL.nil ?_
       refine JQ.then ?_
       refine JC.ret ?_
       refine JQ.outR ?_
       replace hq2 := Option.some.inj hq2
       subst hq2
       exact JQ.done (js := []) (ss := [.val (S rB true)]) () (.inl rfl) (.nil rfl) rfl (.cons (.tmp rfl) .nil) rfl rfl rfl
     · refine JC.condF (.tmp rfl) hc7 ?_
       refine JC.skip ?_
       refine JQ.then ?_
       refine JC.seq ?_
       refine JC.region ?_
       refine jc (op_move lb (.tmp rfl)) ?_
       replace hq2 := bnd_inv hq2
       obtain ⟨⟨v_13, v_14⟩, hv_v_13, hq2⟩ := hq2
       refine jx (op_call (js := []) ld cl10 (sim_wire_Put k t_1 (8 : Int) (v_13, v_14) hv_v_13) .func (.cons (.tmp rfl) (.cons .cI .nil)) rfl) (fun q => ?_)
       obtain ⟨go_15, gc_16⟩ := q
       refine jc (op_move lb (.tmp rfl)) ?_
       refine jc (op_extract (i := 0) lb (.tmp rfl) rfl) ?_
       refine jc (op_extract (i := 1) lb (.tmp rfl) rfl) ?_
       refine jc (op_assign lb (.tmp rfl)) ?_
       refine jc (op_assign lb (.tmp rfl)) ?_
       refine JL.nil ?_
       refine JQ.then ?_
       refine JC.seq ?_
       refine JC.region ?_
       refine jc (op_loadA (j := 1) lb tA48 (.tmp rfl) rfl (Comp.self r_api_Dot a_2) rfl) ?_
       replace hq2 := bnd_inv hq2
       obtain ⟨⟨v_17, v_18⟩, hv_v_17, hq2⟩ := hq2
       refine jx (op_call (js := []) ld cl30 (sim_wire_Dot k a_2 (v_17, v_18) hv_v_17) .func (.cons (.tmp rfl) .nil) rfl) (fun q => ?_)
       obtain ⟨go_19, gc_20⟩ := q
       refine JL.sub ⟨[(0, ov (S (rU UInt64) t_1)), (3, ov (S (rL (rU UInt8)) a_4)), (5, ov (PTR gb_5 0)), (6, ov (PTR gb_6 0)), (9, ov (HDR go_15 0 (List.length v_13) gc_16)), (10, ov (S (rI .i64) v_14)), (40, .tup [.val (HDR go_19 0 (List.length v_17) gc_20), .val (S (rI .i64) v_18)])], [cown go_19 (rU UInt8) v_17 0 gc_20, cown go_15 (rU UInt8) v_13 0 gc_16, cvar gb_5 r_api_Dot a_2, cvar gb_6 (rV 16 (rU UInt64)) a_3], []⟩ (.cons rfl (.cons rfl (.cons rfl (.cons rfl (.cons rfl (.cons rfl (.cons rfl .nil))))))) rfl rfl ?_
       refine jc (op_move lb (.tmp rfl)) ?_
       refine jc (op_extract (i := 0) lb (.tmp rfl) rfl) ?_
       refine jc (op_extract (i := 1) lb (.tmp rfl) rfl) ?_
       refine jc (op_assign lb (.tmp rfl)) ?_
       refine jc (op_assign lb (.tmp rfl)) ?_
       refine JL.nil ?_
       refine JQ.then ?_
       refine JC.seq ?_
       refine JC.region ?_
       refine jc (op_move lb (.tmp rfl)) ?_
       replace hq2 := bnd_inv hq2
       obtain ⟨⟨v_21, v_22⟩, hv_v_21, hq2⟩ := hq2
       refine jx (op_call (js := []) ld cl31 (sim_wire_Blob k a_4 (v_21, v_22) hv_v_21) .func (.cons (.tmp rfl) .nil) rfl) (fun q => ?_)
       obtain ⟨go_23, gc_24⟩ := q
       refine jc (op_move lb (.tmp rfl)) ?_
       refine jc (op_extract (i := 0) lb (.tmp rfl) rfl) ?_
       refine jc (op_extract (i := 1) lb (.tmp rfl) rfl) ?_
       refine JL.sub ⟨[(0, ov (S (rU UInt64) t_1)), (3, ov (S (rL (rU UInt8)) a_4)), (5, ov (PTR gb_5 0)), (6, ov (PTR gb_6 0)), (9, ov (HDR go_15 0 (List.length v_13) gc_16)), (10, ov (S (rI .i64) v_14)), (11, ov (HDR go_19 0 (List.length v_17) gc_20)), (12, ov (S (rI .i64) v_18)), (46, ov (HDR go_23 0 (List.length v_21) gc_24)), (47, ov (S (rI .i64) v_22))], [cown go_23 (rU UInt8) v_21 0 gc_24, cown go_19 (rU UInt8) v_17 0 gc_20, cown go_15 (rU UInt8) v_13 0 gc_16, cvar gb_5 r_api_Dot a_2, cvar gb_6 (rV 16 (rU UInt64)) a_3], []⟩ (.cons rfl (.cons rfl (.cons rfl (.cons rfl (.cons rfl (.cons rfl (.cons rfl (.cons rfl (.cons rfl (.cons rfl .nil)))))))))) rfl rfl ?_
       refine jc (op_assign lb (.tmp rfl)) ?_
       refine jc (op_assign lb (.tmp rfl)) ?_
       refine JL.nil ?_
       refine JQ.then ?_
       refine JC.seq ?_
       refine JC.region ?_
       refine jc (op_move lb (.tmp rfl)) ?_
       refine jc (op_move lb (.tmp rfl)) ?_
       refine jc (op_move lb (.tmp rfl)) ?_
       refine jc (op_loadA (j := 4) lb tA50 (.tmp rfl) rfl (Comp.self (rV 16 (rU UInt64)) a_3) rfl) ?_
       replace hq2 := bnd_inv hq2
       obtain ⟨v_25, hv_v_25, hq2⟩ := hq2
       refine jx (op_call (js := []) ld cl32 (sim_wire_Vector k a_3 v_25 hv_v_25) .func (.cons (.tmp rfl) .nil) rfl) (fun q => ?_)
       obtain ⟨go_26, gc_27⟩ := q
       refine jc (op_move lb (.tmp rfl)) ?_
       refine JL.pre (Imp.frz (j := 3) rfl (ImpK.slotH (s := 9) rfl (ImpK.slotH (s := 48) rfl ImpK.refl))) ?_
       refine JL.pre (Imp.frz (j := 1) rfl (ImpK.slotH (s := 13) rfl (ImpK.slotH (s := 46) rfl (ImpK.slotH (s := 49) rfl ImpK.refl)))) ?_
       refine JL.pre (Imp.frz (j := 2) rfl (ImpK.slotH (s := 11) rfl (ImpK.slotH (s := 50) rfl ImpK.refl))) ?_
       refine JL.pre (Imp.frz (j := 0) rfl (ImpK.slotH (s := 52) rfl ImpK.refl)) ?_
       refine jc (op_buildF (r := (rL (rU UInt8))) lb tu58 tz23 tZ23 rfl (Nat.le_of_ble_eq_true rfl) (.S rfl (HasO.wk (.tmp rfl) wkHL) (.S rfl (HasO.wk (.tmp rfl) wkHL) (.S rfl (HasO.wk (.tmp rfl) wkHL) (.S rfl (HasO.wk (.tmp rfl) wkHL) (.S rfl (.tmp rfl) .nil))))) rfl) ?_
       refine JL.nrm ⟨[(0, ov (S (rU UInt64) t_1)), (3, ov (S (rL (rU UInt8)) a_4)), (5, ov (PTR gb_5 0)), (6, ov (PTR gb_6 0)), (10, ov (S (rI .i64) v_14)), (12, ov (S (rI .i64) v_18)), (14, ov (S (rI .i64) v_22)), (54, ov (S (rL (rL (rU UInt8))) ([v_13, v_21, v_17, v_25, a_4] : (List (List UInt8)))))], [cvar gb_5 r_api_Dot a_2, cvar gb_6 (rV 16 (rU UInt64)) a_3], []⟩ [4, 4] rfl (.cons rfl (.cons rfl (.cons rfl (.cons rfl (.cons rfl (.cons rfl (.cons rfl (.cons rfl .nil)))))))) rfl ?_
       replace hq2 := bnd_inv hq2
       obtain ⟨v_28, hv_v_28, hq2⟩ := hq2
       refine jx (op_call (js := []) ld cl33 (sim_wire_Join k ([v_13, v_21, v_17, v_25, a_4] : (List (List UInt8))) v_28 hv_v_28) .func (.cons (.tmp rfl) .nil) rfl) (fun q => ?_)
       obtain ⟨go_29, gc_30⟩ := q
       replace hq2 := bnd_inv hq2
       obtain ⟨v_31, hv_v_31, hq2⟩ := hq2
       refine JL.pre (Imp.frz (j := 0) rfl (ImpK.slotH (s := 55) rfl ImpK.refl)) ?_
       refine jx (op_call (js := []) ld cl16 (sim_wire_Read k v_28 v_31 hv_v_31) .func (.cons (HasO.wk (.tmp rfl) wkHL) .nil) rfl) (fun q => ?_)
       obtain ⟨gb_32, go_33, gc_34⟩ := q
       refine JL.nrm ⟨[(0, ov (S (rU UInt64) t_1)), (3, ov (S (rL (rU UInt8)) a_4)), (5, ov (PTR gb_5 0)), (6, ov (PTR gb_6 0)), (10, ov (S (rI .i64) v_14)), (12, ov (S (rI .i64) v_18)), (14, ov (S (rI .i64) v_22)), (56, ov (PTR gb_32 0))], [cvar gb_32 (rP (rW (HDR go_33 0 (List.length v_31) gc_34)) (rP rB (rP rB r0))) ((), (true, (true, ()))), cown go_33 (rU UInt8) v_31 0 gc_34, cvar gb_5 r_api_Dot a_2, cvar gb_6 (rV 16 (rU UInt64)) a_3], []⟩ [0, 0, 1, 1] rfl (.cons rfl (.cons rfl (.cons rfl (.cons rfl (.cons rfl (.cons rfl (.cons rfl (.cons rfl .nil)))))))) rfl ?_
       refine jc (op_assign lb (.tmp rfl)) ?_
       refine JL.nil ?_
       refine JQ.then ?_
       refine JC.seq ?_
       replace hq2 := bnd_inv hq2
       obtain ⟨x_41, hx8, hq8⟩ := hq2
       refine JC.seqJ (γ := Unit) (stj := fun q => ⟨[(0, ov (S (rU UInt64) t_1)), (3, ov (S (rL (rU UInt8)) a_4)), (5, ov (PTR gb_5 0)), (6, ov (PTR gb_6 0)), (15, ov (PTR gb_32 0)), (69, ov (S rB x_41))], [cvar gb_5 r_api_Dot a_2, cvar gb_6 (rV 16 (rU UInt64)) a_3, cvar gb_32 (rP (rW (HDR go_33 0 (List.length v_31) gc_34)) (rP rB (rP rB r0))) ((), (true, (true, ()))), cown go_33 (rU UInt8) v_31 0 gc_34], []⟩) (fun q => ?_) ?_
       · obtain _ := q
         refine JC.at ⟨[(0, ov (S (rU UInt64) t_1)), (3, ov (S (rL (rU UInt8)) a_4)), (5, ov (PTR gb_5 0)), (6, ov (PTR gb_6 0)), (15, ov (PTR gb_32 0)), (69, ov (S rB x_41))], [cvar gb_5 r_api_Dot a_2, cvar gb_6 (rV 16 (rU UInt64)) a_3, cvar gb_32 (rP (rW (HDR go_33 0 (List.length v_31) gc_34)) (rP rB (rP rB r0))) ((), (true, (true, ()))), cown go_33 (rU UInt8) v_31 0 gc_34], []⟩ ?_
         replace hq8 := iteB_inv hq8
         rcases hq8 with ⟨hc9, hq8⟩ | ⟨hc9, hq8⟩
         · refine JC.condT (.tmp rfl) hc9 ?_
           refine JC.seq ?_
           refine JC.region ?_
           refine jc (op_assign lb .cB) ?_
           refine JL.nil ?_
           refine JQ.then ?_
           refine JC.ret ?_
           refine JQ.outR ?_
           replace hq8 := Option.some.inj hq8
           subst hq8
           exact JQ.done (js := []) (ss := [.val (S rB false)]) () (.inl rfl) (.nil rfl) rfl (.cons (.tmp rfl) .nil) rfl rfl rfl
         · refine JC.condF (.tmp rfl) hc9 ?_
           refine JC.skip ?_
           refine JQ.then ?_
           refine JC.seq ?_
           replace hq8 := bnd_inv hq8
           obtain ⟨⟨x_60, x_61⟩, hx10, hq10⟩ := hq8
           refine JC.seqJ (γ := Unit) (stj := fun q => ⟨[(3, ov (S (rL (rU UInt8)) a_4)), (15, ov (PTR gb_32 0)), (109, ov (S rB x_61))], [cvar gb_32 r_wire_Reader x_60], []⟩) (fun q => ?_) ?_
           · obtain _ := q
             refine JC.at ⟨[(3, ov (S (rL (rU UInt8)) a_4)), (15, ov (PTR gb_32 0)), (109, ov (S rB x_61))], [cvar gb_32 r_wire_Reader x_60], []⟩ ?_
             replace hq10 := iteB_inv hq10
             rcases hq10 with ⟨hc21, hq10⟩ | ⟨hc21, hq10⟩
             · refine JC.condT (.tmp rfl) hc21 ?_
               refine JC.seq ?_
               refine JC.region ?_
               refine jc (op_assign lb .cB) ?_
               refine JL.nil ?_
               refine JQ.then ?_
               refine JC.ret ?_
               refine JQ.outR ?_
               replace hq10 := Option.some.inj hq10
               subst hq10
               exact JQ.done (js := []) (ss := [.val (S rB false)]) () (.inl rfl) (.nil rfl) rfl (.cons (.tmp rfl) .nil) rfl rfl rfl
             · refine JC.condF (.tmp rfl) hc21 ?_
               refine JC.skip ?_
               refine JQ.then ?_
               refine JC.seq ?_
               refine JC.region ?_
               refine jc (op_move lb (.tmp rfl)) ?_
               replace hq10 := bnd_inv hq10
               obtain ⟨v_62, hv_v_62, hq10⟩ := hq10
               refine jx (op_call (js := []) ld cl37 (sim_wire_Hex k a_4 v_62 hv_v_62) .func (.cons (.tmp rfl) .nil) rfl) (fun _ => ?_)
               replace hq10 := bnd_inv hq10
               obtain ⟨⟨v_63, v_64⟩, hv_v_63, hq10⟩ := hq10
               refine jx (op_call (js := []) ld cl35 (sim_wire_Unhex k v_62 (v_63, v_64) hv_v_63) .func (.cons (.tmp rfl) .nil) rfl) (fun q => ?_)
               obtain ⟨go_65, gc_66⟩ := q
               refine jc (op_move lb (.tmp rfl)) ?_
               refine jc (op_extract (i := 0) lb (.tmp rfl) rfl) ?_
               refine jc (op_extract (i := 1) lb (.tmp rfl) rfl) ?_
               refine jc (op_assign lb (.tmp rfl)) ?_
               refine jc (op_assign lb (.tmp rfl)) ?_
               refine JL.nil ?_
               refine JQ.then ?_
               replace hq10 := bnd_inv hq10
               obtain ⟨x_74, hx22, hq22⟩ := hq10
               refine JC.seqJ (γ := Unit) (stj := fun q => ⟨[(8, ov (S rB x_74))], [], []⟩) (fun q => ?_) ?_
               · obtain _ := q
                 refine JC.at ⟨[(8, ov (S rB x_74))], [], []⟩ ?_
                 refine JC.ret ?_
                 replace hq22 := Option.some.inj hq22
                 subst hq22
                 exact JQ.done (js := []) (ss := [.val (S rB x_74)]) () (.inl rfl) (.nil rfl) rfl (.cons (.tmp rfl) .nil) rfl rfl rfl
               · refine JC.region ?_
                 refine jc (op_move lb (.tmp rfl)) ?_
                 replace hx22 := bnd_inv hx22
                 obtain ⟨_, hv_u_67, hx22⟩ := hx22
                 refine jx (op_call (js := []) ld cl13 (sim_law01_num k v_64 () hv_u_67) .func (.cons (.tmp rfl) .nil) rfl) (fun _ => ?_)
                 refine JL.sub ⟨[(3, ov (S (rL (rU UInt8)) a_4)), (15, ov (PTR gb_32 0)), (16, ov (HDR go_65 0 (List.length v_63) gc_66)), (117, ov (S (rI .i64) v_64))], [cown go_65 (rU UInt8) v_63 0 gc_66, cvar gb_32 r_wire_Reader x_60], []⟩ (.cons rfl (.cons rfl (.cons rfl (.cons rfl .nil)))) rfl rfl ?_
                 replace hx22 := lt1_inv hx22
                 obtain ⟨v_68, hv_v_68, hx22⟩ := hx22
                 refine jc (op_cmpI lb (.tmp rfl) .cI (congrArg some hv_v_68)) ?_
                 refine jc (op_move lb (.tmp rfl)) ?_
                 replace hx22 := iteB_inv hx22
                 rcases hx22 with ⟨hc24, hx22⟩ | ⟨hc24, hx22⟩
                 · refine JL.run (.yes rfl (ltB rfl) rfl hc24) (op_move lb (.tmp rfl)) ?_
                   refine JL.run (.yes rfl (ltB rfl) rfl hc24) (op_convOS (j := 0) lb tu23 tu5 tu9 rfl (.tmp rfl)) ?_
                   refine JL.run (.yes rfl (ltB rfl) rfl hc24) (op_move lb (.tmp rfl)) ?_
                   refine JL.run (.yes rfl (ltB rfl) rfl hc24) (op_convBS lb tu23 tu5 tu9 (.tmp rfl)) ?_
                   replace hx22 := lt1_inv hx22
                   obtain ⟨v_69, hv_v_69, hx22⟩ := hx22
                   refine JL.run (.yes rfl (ltB rfl) rfl hc24) (op_cmpS lb (.tmp rfl) (.tmp rfl) (congrArg some hv_v_69)) ?_
                   refine jc (op_pickT lb (.tmp rfl) hc24 (.tmp rfl)) ?_
                   refine jc (op_move lb (.tmp rfl)) ?_
                   replace hx22 := iteB_inv hx22
                   rcases hx22 with ⟨hc26, hx22⟩ | ⟨hc26, hx22⟩
                   · refine JL.run (.yes rfl (ltB rfl) rfl hc26) (op_move lb (.tmp rfl)) ?_
                     replace hx22 := bnd_inv hx22
                     obtain ⟨⟨v_70, x_71⟩, hv_v_70, hx22⟩ := hx22
                     refine JL.runX (.yes rfl (ltB rfl) rfl hc26) (op_call (js := [1]) ld cl39 (sim_wire_Reader_Number'2 k (1 : Int) x_60 gb_32 (v_70, x_71) hv_v_70) .func (.cons (.tmp rfl) (.cons .cI .nil)) rfl) (fun _ => ?_)
                     refine JL.nrm ⟨[(15, ov (PTR gb_32 0)), (126, ov (S rB v_69)), (128, ov (S (rU UInt64) v_70))], [cvar gb_32 r_wire_Reader x_71], []⟩ [0] rfl (.cons rfl (.cons rfl (.cons rfl .nil))) rfl ?_
                     replace hx22 := lt1_inv hx22
                     obtain ⟨v_72, hv_v_72, hx22⟩ := hx22
                     refine JL.run (.yes rfl (ltB rfl) rfl hc26) (op_cmpU lb (.tmp rfl) (HasO.cU (x := (0 : UInt64)) rfl (by decide)) (congrArg some hv_v_72)) ?_
                     refine jc (op_pickT lb (.tmp rfl) hc26 (.tmp rfl)) ?_
                     refine jc (op_move lb (.tmp rfl)) ?_
                     replace hx22 := iteB_inv hx22
                     rcases hx22 with ⟨hc28, hx22⟩ | ⟨hc28, hx22⟩
                     · refine JL.run (.yes rfl (ltB rfl) rfl hc28) (op_move lb (.tmp rfl)) ?_
                       replace hx22 := bnd_inv hx22
                       obtain ⟨v_73, hv_v_73, hx22⟩ := hx22
                       refine JL.runX (.yes rfl (ltB rfl) rfl hc28) (op_call (js := [0]) ld cl20 (sim_wire_Reader_Failed'2 k x_71 gb_32 v_73 hv_v_73) .func (.cons (.tmp rfl) .nil) rfl) (fun _ => ?_)
                       refine jc (op_pickT lb (.tmp rfl) hc28 (.tmp rfl)) ?_
                       refine jc (op_assign lb (.tmp rfl)) ?_
                       refine JL.nil ?_
                       replace hx22 := Option.some.inj hx22
                       first | subst hx22 | clear hx22
                       exact JQ.join () (Imp.norm (js := []) rfl (.cons rfl .nil))
                     · refine JL.skip (.no rfl (ltB rfl) rfl hc28) (fun d h => by cases h; exact ltB rfl) ?_
                       refine JL.skip (.no rfl (ltB rfl) rfl hc28) (fun d h => by cases h; exact ltB rfl) ?_
                       refine jc (op_pickF lb (.tmp rfl) hc28 .cB) ?_
                       refine jc (op_assign lb (.tmp rfl)) ?_
                       refine JL.nil ?_
                       replace hx22 := Option.some.inj hx22
                       first | subst hx22 | clear hx22
                       exact JQ.join () (Imp.norm (js := []) rfl (.cons rfl .nil))
                   · refine JL.skip (.no rfl (ltB rfl) rfl hc26) (fun d h => by cases h; exact ltB rfl) ?_
                     refine JL.skip (.no rfl (ltB rfl) rfl hc26) (fun d h => by cases h; exact ltB rfl) ?_
                     refine JL.skip (.no rfl (ltB rfl) rfl hc26) (fun d h => by cases h; exact ltB rfl) ?_
                     refine jc (op_pickF lb (.tmp rfl) hc26 .cB) ?_
                     refine jc (op_move lb (.tmp rfl)) ?_
                     refine JL.skip (.no rfl (ltB rfl) rfl rfl) (fun d h => by cases h; exact ltB rfl) ?_
                     refine JL.skip (.no rfl (ltB rfl) rfl rfl) (fun d h => by cases h; exact ltB rfl) ?_
                     refine jc (op_pickF lb (.tmp rfl) rfl .cB) ?_
                     refine JL.nrm ⟨[(134, ov (S rB false))], [], []⟩ [] rfl (.cons rfl .nil) rfl ?_
                     refine jc (op_assign lb (.tmp rfl)) ?_
                     refine JL.nil ?_
                     replace hx22 := Option.some.inj hx22
                     first | subst hx22 | clear hx22
                     exact JQ.join () (Imp.norm (js := []) rfl (.cons rfl .nil))
                 · refine JL.skip (.no rfl (ltB rfl) rfl hc24) (fun d h => by cases h; exact ltB rfl) ?_
                   refine JL.skip (.no rfl (ltB rfl) rfl hc24) (fun d h => by cases h; exact ltB rfl) ?_
                   refine JL.skip (.no rfl (ltB rfl) rfl hc24) (fun d h => by cases h; exact ltB rfl) ?_
                   refine JL.skip (.no rfl (ltB rfl) rfl hc24) (fun d h => by cases h; exact ltB rfl) ?_
                   refine JL.skip (.no rfl (ltB rfl) rfl hc24) (fun d h => by cases h; exact ltB rfl) ?_
                   refine jc (op_pickF lb (.tmp rfl) hc24 .cB) ?_
                   refine jc (op_move lb (.tmp rfl)) ?_
                   refine JL.skip (.no rfl (ltB rfl) rfl rfl) (fun d h => by cases h; exact ltB rfl) ?_
                   refine JL.skip (.no rfl (ltB rfl) rfl rfl) (fun d h => by cases h; exact ltB rfl) ?_
                   refine JL.skip (.no rfl (ltB rfl) rfl rfl) (fun d h => by cases h; exact ltB rfl) ?_
                   refine jc (op_pickF lb (.tmp rfl) rfl .cB) ?_
                   refine jc (op_move lb (.tmp rfl)) ?_
                   refine JL.skip (.no rfl (ltB rfl) rfl rfl) (fun d h => by cases h; exact ltB rfl) ?_
                   refine JL.skip (.no rfl (ltB rfl) rfl rfl) (fun d h => by cases h; exact ltB rfl) ?_
                   refine jc (op_pickF lb (.tmp rfl) rfl .cB) ?_
                   refine jc (op_assign lb (.tmp rfl)) ?_
                   refine JL.nil ?_
                   replace hx22 := Option.some.inj hx22
                   first | subst hx22 | clear hx22
                   exact JQ.join () (Imp.norm (js := []) rfl (.cons rfl .nil))
           · replace hx10 := bnd_inv hx10
             obtain ⟨⟨v_42, x_43⟩, hv_v_42, hx10⟩ := hx10
             replace hx10 := lt1_inv hx10
             obtain ⟨v_44, hv_v_44, hx10⟩ := hx10
             replace hx10 := iteB_inv hx10
             rcases hx10 with ⟨hc12, hx10⟩ | ⟨hc12, hx10⟩
             · refine JC.anyE (kl := []) (kk := 0) (base := [(0, ov (S (rU UInt64) t_1)), (3, ov (S (rL (rU UInt8)) a_4)), (15, ov (PTR gb_32 0))])
                   (fs := fun γ => [⟨some 70, ov (PTR gb_32 0)⟩, ⟨some 71, ov (S (rU UInt64) v_42)⟩, ⟨some 72, ov (S (rU UInt64) t_1)⟩, ⟨some 73, ov (S rB v_44)⟩, ⟨some 74, ov (S rB v_44)⟩, ⟨some 75, .one .und⟩, ⟨some 76, .one .und⟩, ⟨some 77, .one .und⟩, ⟨some 78, .one .und⟩, ⟨some 79, .one .und⟩, ⟨some 80, .one .und⟩, ⟨some 81, ov (S rB true)⟩, ⟨some 82, ov (S rB true)⟩, ⟨some 83, .one .und⟩, ⟨some 84, .one .und⟩, ⟨some 85, .one .und⟩, ⟨some 86, .one .und⟩, ⟨some 87, ov (S rB true)⟩, ⟨some 88, ov (S rB true)⟩, ⟨some 89, .one .und⟩, ⟨some 90, .one .und⟩, ⟨some 91, .one .und⟩, ⟨some 92, .one .und⟩, ⟨some 93, ov (S rB true)⟩, ⟨some 94, ov (S rB true)⟩, ⟨some 95, .one .und⟩, ⟨some 96, .one .und⟩, ⟨some 97, .one .und⟩, ⟨some 98, .one .und⟩, ⟨some 99, .one .und⟩, ⟨some 100, .one .und⟩, ⟨some 101, .one .und⟩, ⟨some 102, .one .und⟩, ⟨some 103, ov (S rB true)⟩, ⟨some 104, ov (S rB true)⟩, ⟨some 105, .one .und⟩, ⟨some 106, .one .und⟩, ⟨some 107, .one .und⟩, ⟨some 108, .one .und⟩, ⟨some 109, ov (S rB true)⟩])
                   (rs := fun γ => [⟨cvar gb_5 r_api_Dot a_2, none, none, []⟩, ⟨cvar gb_6 (rV 16 (rU UInt64)) a_3, none, none, []⟩, ⟨cvar gb_32 (rP (rW (HDR go_33 0 (List.length v_31) gc_34)) (rP rB (rP rB r0))) ((), (true, (true, ()))), none, (some 1), []⟩, ⟨cown go_33 (rU UInt8) v_31 0 gc_34, none, (some 1), []⟩, ⟨cvar gb_32 r_wire_Reader x_43, (some 1), none, []⟩, ⟨cown go_33 (rU UInt8) v_31 (List.length v_31) gc_34, (some 1), none, []⟩])
                   (ds := [70, 71, 72, 73, 74, 75, 76, 77, 78, 79, 80, 81, 82, 83, 84, 85, 86, 87, 88, 89, 90, 91, 92, 93, 94, 95, 96, 97, 98, 99, 100, 101, 102, 103, 104, 105, 106, 107, 108, 109]) (bs := [0, 3, 15]) (afts := [[], [], [], [], [], [], [], [], [], [], [], [], [], [], [], [], [], [], [], [], [], [], [], [], [], [], [], [], [], [], [], [], [], [], [], [], [], [], [], []]) (js := [0, 0, 0, 0]) mixed (.cons rfl (.cons rfl (.cons rfl .nil))) (fun _ => rfl)
                   (by
      refine dS 1 (fun γ ρ B hb hd => op_move lb (.tmp (hb 15 _ rfl))) ?_
      refine DSteps.cons (j := 2) rfl (fun _ => rfl) (.run (fun γ ρ B hb hd => ⟨.none, OpStep.at ⟨ρ, (cvar gb_32 (rP (rW (HDR go_33 0 (List.length v_31) gc_34)) (rP rB (rP rB r0))) ((), (true, (true, ())))) :: (cown go_33 (rU UInt8) v_31 0 gc_34) :: B, _⟩ (setO ⟨ρ, (cvar gb_32 r_wire_Reader x_43) :: (cown go_33 (rU UInt8) v_31 (List.length v_31) gc_34) :: B, _⟩ _ _) ((op_call (js := [0, 0]) ld cl39 (sim_wire_Reader_Number k (8 : Int) true true v_31 gb_32 go_33 gc_34 (v_42, x_43) hv_v_42) .func (.cons (.tmp (hl hd 0 70 rfl)) (.cons .cI .nil)) rfl).post (fun _ => Imp.refl))⟩)) ?_
      refine dS 3 (fun γ ρ B hb hd => op_move lb (.tmp (hb 0 _ rfl))) ?_
      refine dS 4 (fun γ ρ B hb hd => op_cmpU lb (.tmp (hl hd 1 71 rfl)) (.tmp (hl hd 2 72 rfl)) (congrArg some hv_v_44)) ?_
      refine dS 5 (fun γ ρ B hb hd => op_move lb (.tmp (hl hd 3 73 rfl))) ?_
      refine DSteps.cons (j := 6) rfl (fun _ => rfl) (.skip (fun γ ρ B hb hd => ⟨.no rfl (ltB rfl) (hl hd 4 74 rfl) hc12, rfl, rfl, rfl, fun d h => by cases h; exact ltB rfl⟩)) ?_
      refine DSteps.cons (j := 7) rfl (fun _ => rfl) (.skip (fun γ ρ B hb hd => ⟨.no rfl (ltB rfl) (hl hd 4 74 rfl) hc12, rfl, rfl, rfl, fun d h => by cases h; exact ltB rfl⟩)) ?_
      refine DSteps.cons (j := 8) rfl (fun _ => rfl) (.skip (fun γ ρ B hb hd => ⟨.no rfl (ltB rfl) (hl hd 4 74 rfl) hc12, rfl, rfl, rfl, fun d h => by cases h; exact ltB rfl⟩)) ?_
      refine DSteps.cons (j := 9) rfl (fun _ => rfl) (.skip (fun γ ρ B hb hd => ⟨.no rfl (ltB rfl) (hl hd 4 74 rfl) hc12, rfl, rfl, rfl, fun d h => by cases h; exact ltB rfl⟩)) ?_
      refine DSteps.cons (j := 10) rfl (fun _ => rfl) (.skip (fun γ ρ B hb hd => ⟨.no rfl (ltB rfl) (hl hd 4 74 rfl) hc12, rfl, rfl, rfl, fun d h => by cases h; exact ltB rfl⟩)) ?_
      refine DSteps.cons (j := 11) rfl (fun _ => rfl) (.skip (fun γ ρ B hb hd => ⟨.no rfl (ltB rfl) (hl hd 4 74 rfl) hc12, rfl, rfl, rfl, fun d h => by cases h; exact ltB rfl⟩)) ?_
      refine dS 12 (fun γ ρ B hb hd => op_pickT lb (.tmp (hl hd 4 74 rfl)) hc12 .cB) ?_
      refine dS 13 (fun γ ρ B hb hd => op_move lb (.tmp (hl hd 11 81 rfl))) ?_
      refine DSteps.cons (j := 14) rfl (fun _ => rfl) (.skip (fun γ ρ B hb hd => ⟨.no rfl (ltB rfl) (hl hd 12 82 rfl) rfl, rfl, rfl, rfl, fun d h => by cases h; exact ltB rfl⟩)) ?_
      refine DSteps.cons (j := 15) rfl (fun _ => rfl) (.skip (fun γ ρ B hb hd => ⟨.no rfl (ltB rfl) (hl hd 12 82 rfl) rfl, rfl, rfl, rfl, fun d h => by cases h; exact ltB rfl⟩)) ?_
      refine DSteps.cons (j := 16) rfl (fun _ => rfl) (.skip (fun γ ρ B hb hd => ⟨.no rfl (ltB rfl) (hl hd 12 82 rfl) rfl, rfl, rfl, rfl, fun d h => by cases h; exact ltB rfl⟩)) ?_
      refine DSteps.cons (j := 17) rfl (fun _ => rfl) (.skip (fun γ ρ B hb hd => ⟨.no rfl (ltB rfl) (hl hd 12 82 rfl) rfl, rfl, rfl, rfl, fun d h => by cases h; exact ltB rfl⟩)) ?_
      refine dS 18 (fun γ ρ B hb hd => op_pickT lb (.tmp (hl hd 12 82 rfl)) rfl .cB) ?_
      refine dS 19 (fun γ ρ B hb hd => op_move lb (.tmp (hl hd 17 87 rfl))) ?_
      refine DSteps.cons (j := 20) rfl (fun _ => rfl) (.skip (fun γ ρ B hb hd => ⟨.no rfl (ltB rfl) (hl hd 18 88 rfl) rfl, rfl, rfl, rfl, fun d h => by cases h; exact ltB rfl⟩)) ?_
      refine DSteps.cons (j := 21) rfl (fun _ => rfl) (.skip (fun γ ρ B hb hd => ⟨.no rfl (ltB rfl) (hl hd 18 88 rfl) rfl, rfl, rfl, rfl, fun d h => by cases h; exact ltB rfl⟩)) ?_
      refine DSteps.cons (j := 22) rfl (fun _ => rfl) (.skip (fun γ ρ B hb hd => ⟨.no rfl (ltB rfl) (hl hd 18 88 rfl) rfl, rfl, rfl, rfl, fun d h => by cases h; exact ltB rfl⟩)) ?_
      refine DSteps.cons (j := 23) rfl (fun _ => rfl) (.skip (fun γ ρ B hb hd => ⟨.no rfl (ltB rfl) (hl hd 18 88 rfl) rfl, rfl, rfl, rfl, fun d h => by cases h; exact ltB rfl⟩)) ?_
      refine dS 24 (fun γ ρ B hb hd => op_pickT lb (.tmp (hl hd 18 88 rfl)) rfl .cB) ?_
      refine dS 25 (fun γ ρ B hb hd => op_move lb (.tmp (hl hd 23 93 rfl))) ?_
      refine DSteps.cons (j := 26) rfl (fun _ => rfl) (.skip (fun γ ρ B hb hd => ⟨.no rfl (ltB rfl) (hl hd 24 94 rfl) rfl, rfl, rfl, rfl, fun d h => by cases h; exact ltB rfl⟩)) ?_
      refine DSteps.cons (j := 27) rfl (fun _ => rfl) (.skip (fun γ ρ B hb hd => ⟨.no rfl (ltB rfl) (hl hd 24 94 rfl) rfl, rfl, rfl, rfl, fun d h => by cases h; exact ltB rfl⟩)) ?_
      refine DSteps.cons (j := 28) rfl (fun _ => rfl) (.skip (fun γ ρ B hb hd => ⟨.no rfl (ltB rfl) (hl hd 24 94 rfl) rfl, rfl, rfl, rfl, fun d h => by cases h; exact ltB rfl⟩)) ?_
      refine DSteps.cons (j := 29) rfl (fun _ => rfl) (.skip (fun γ ρ B hb hd => ⟨.no rfl (ltB rfl) (hl hd 24 94 rfl) rfl, rfl, rfl, rfl, fun d h => by cases h; exact ltB rfl⟩)) ?_
      refine DSteps.cons (j := 30) rfl (fun _ => rfl) (.skip (fun γ ρ B hb hd => ⟨.no rfl (ltB rfl) (hl hd 24 94 rfl) rfl, rfl, rfl, rfl, fun d h => by cases h; exact ltB rfl⟩)) ?_
      refine DSteps.cons (j := 31) rfl (fun _ => rfl) (.skip (fun γ ρ B hb hd => ⟨.no rfl (ltB rfl) (hl hd 24 94 rfl) rfl, rfl, rfl, rfl, fun d h => by cases h; exact ltB rfl⟩)) ?_
      refine DSteps.cons (j := 32) rfl (fun _ => rfl) (.skip (fun γ ρ B hb hd => ⟨.no rfl (ltB rfl) (hl hd 24 94 rfl) rfl, rfl, rfl, rfl, fun d h => by cases h; exact ltB rfl⟩)) ?_
      refine DSteps.cons (j := 33) rfl (fun _ => rfl) (.skip (fun γ ρ B hb hd => ⟨.no rfl (ltB rfl) (hl hd 24 94 rfl) rfl, rfl, rfl, rfl, fun d h => by cases h; exact ltB rfl⟩)) ?_
      refine dS 34 (fun γ ρ B hb hd => op_pickT lb (.tmp (hl hd 24 94 rfl)) rfl .cB) ?_
      refine dS 35 (fun γ ρ B hb hd => op_move lb (.tmp (hl hd 33 103 rfl))) ?_
      refine DSteps.cons (j := 36) rfl (fun _ => rfl) (.skip (fun γ ρ B hb hd => ⟨.no rfl (ltB rfl) (hl hd 34 104 rfl) rfl, rfl, rfl, rfl, fun d h => by cases h; exact ltB rfl⟩)) ?_
      refine DSteps.cons (j := 37) rfl (fun _ => rfl) (.skip (fun γ ρ B hb hd => ⟨.no rfl (ltB rfl) (hl hd 34 104 rfl) rfl, rfl, rfl, rfl, fun d h => by cases h; exact ltB rfl⟩)) ?_
      refine DSteps.cons (j := 38) rfl (fun _ => rfl) (.skip (fun γ ρ B hb hd => ⟨.no rfl (ltB rfl) (hl hd 34 104 rfl) rfl, rfl, rfl, rfl, fun d h => by cases h; exact ltB rfl⟩)) ?_
      refine DSteps.cons (j := 39) rfl (fun _ => rfl) (.skip (fun γ ρ B hb hd => ⟨.no rfl (ltB rfl) (hl hd 34 104 rfl) rfl, rfl, rfl, rfl, fun d h => by cases h; exact ltB rfl⟩)) ?_
      refine dS 40 (fun γ ρ B hb hd => op_pickT lb (.tmp (hl hd 34 104 rfl)) rfl .cB) ?_
      exact DSteps.nil)
                   (by decide +kernel) (fun _ => rfl) rfl (fun _ => rfl) (fun _ => rfl) rfl (by decide) (by decide) (by decide +kernel) (fun _ d h => by cases h)
                   (ρ' := fun γ => [(3, ov (S (rL (rU UInt8)) a_4)), (15, ov (PTR gb_32 0)), (109, ov (S rB true))])
                   (X' := fun γ => [cvar gb_5 r_api_Dot a_2, cvar gb_6 (rV 16 (rU UInt64)) a_3, cvar gb_32 r_wire_Reader x_43, cown go_33 (rU UInt8) v_31 (List.length v_31) gc_34])
                   (fun γ ρ hb hd => (.cons (hb 3 _ rfl (by decide)) (.cons (hb 15 _ rfl (by decide)) (.cons (hdq hd 39 109 rfl) .nil)))) (fun _ => rfl) (fun γ => ?_)
               refine JQ.at ⟨[(3, ov (S (rL (rU UInt8)) a_4)), (15, ov (PTR gb_32 0)), (109, ov (S rB true))], [cvar gb_5 r_api_Dot a_2, cvar gb_6 (rV 16 (rU UInt64)) a_3, cvar gb_32 r_wire_Reader x_43, cown go_33 (rU UInt8) v_31 (List.length v_31) gc_34], []⟩ ?_
               replace hx10 := Option.some.inj hx10
               replace hx10 := Prod.mk.inj hx10
               obtain ⟨hx10_a, hx10⟩ := hx10
               first | subst hx10_a | clear hx10_a
               first | subst hx10 | clear hx10
               exact JQ.join () (Imp.norm (js := [2]) rfl (.cons rfl (.cons rfl (.cons rfl .nil))))
             · replace hx10 := bnd_inv hx10
               obtain ⟨⟨v_45, x_46⟩, hv_v_45, hx10⟩ := hx10
               replace hx10 := lt1_inv hx10
               obtain ⟨v_47, hv_v_47, hx10⟩ := hx10
               replace hx10 := iteB_inv hx10
               rcases hx10 with ⟨hc14, hx10⟩ | ⟨hc14, hx10⟩
               · refine JC.anyE (kl := []) (kk := 0) (base := [(0, ov (S (rU UInt64) t_1)), (3, ov (S (rL (rU UInt8)) a_4)), (15, ov (PTR gb_32 0))])
                     (fs := fun γ => [⟨some 70, ov (PTR gb_32 0)⟩, ⟨some 71, ov (S (rU UInt64) v_42)⟩, ⟨some 72, ov (S (rU UInt64) t_1)⟩, ⟨some 73, ov (S rB v_44)⟩, ⟨some 74, ov (S rB v_44)⟩, ⟨some 75, ov (PTR gb_32 0)⟩, ⟨some 76, ov (S (rL (rU UInt8)) v_45)⟩, ⟨some 77, ov (S rS v_45)⟩, ⟨some 78, ov (S (rL (rU UInt8)) a_4)⟩, ⟨some 79, ov (S rS a_4)⟩, ⟨some 80, ov (S rB v_47)⟩, ⟨some 81, ov (S rB v_47)⟩, ⟨some 82, ov (S rB v_47)⟩, ⟨some 83, .one .und⟩, ⟨some 84, .one .und⟩, ⟨some 85, .one .und⟩, ⟨some 86, .one .und⟩, ⟨some 87, ov (S rB true)⟩, ⟨some 88, ov (S rB true)⟩, ⟨some 89, .one .und⟩, ⟨some 90, .one .und⟩, ⟨some 91, .one .und⟩, ⟨some 92, .one .und⟩, ⟨some 93, ov (S rB true)⟩, ⟨some 94, ov (S rB true)⟩, ⟨some 95, .one .und⟩, ⟨some 96, .one .und⟩, ⟨some 97, .one .und⟩, ⟨some 98, .one .und⟩, ⟨some 99, .one .und⟩, ⟨some 100, .one .und⟩, ⟨some 101, .one .und⟩, ⟨some 102, .one .und⟩, ⟨some 103, ov (S rB true)⟩, ⟨some 104, ov (S rB true)⟩, ⟨some 105, .one .und⟩, ⟨some 106, .one .und⟩, ⟨some 107, .one .und⟩, ⟨some 108, .one .und⟩, ⟨some 109, ov (S rB true)⟩])
                     (rs := fun γ => [⟨cvar gb_5 r_api_Dot a_2, none, none, []⟩, ⟨cvar gb_6 (rV 16 (rU UInt64)) a_3, none, none, []⟩, ⟨cvar gb_32 (rP (rW (HDR go_33 0 (List.length v_31) gc_34)) (rP rB (rP rB r0))) ((), (true, (true, ()))), none, (some 1), []⟩, ⟨cown go_33 (rU UInt8) v_31 0 gc_34, none, (some 1), []⟩, ⟨cvar gb_32 r_wire_Reader x_43, (some 1), (some 6), []⟩, ⟨cown go_33 (rU UInt8) v_31 (List.length v_31) gc_34, (some 1), none, []⟩, ⟨cvar gb_32 r_wire_Reader x_46, (some 6), none, []⟩])
                     (ds := [70, 71, 72, 73, 74, 75, 76, 77, 78, 79, 80, 81, 82, 83, 84, 85, 86, 87, 88, 89, 90, 91, 92, 93, 94, 95, 96, 97, 98, 99, 100, 101, 102, 103, 104, 105, 106, 107, 108, 109]) (bs := [0, 3, 15]) (afts := [[], [], [], [], [], [], [], [], [], [], [], [], [], [], [], [], [], [], [], [], [], [], [], [], [], [], [], [], [], [], [], [], [], [], [], [], [], [], [], []]) (js := [0, 0, 0, 0]) mixed (.cons rfl (.cons rfl (.cons rfl .nil))) (fun _ => rfl)
                     (by
      refine dS 1 (fun γ ρ B hb hd => op_move lb (.tmp (hb 15 _ rfl))) ?_
      refine DSteps.cons (j := 2) rfl (fun _ => rfl) (.run (fun γ ρ B hb hd => ⟨.none, OpStep.at ⟨ρ, (cvar gb_32 (rP (rW (HDR go_33 0 (List.length v_31) gc_34)) (rP rB (rP rB r0))) ((), (true, (true, ())))) :: (cown go_33 (rU UInt8) v_31 0 gc_34) :: B, _⟩ (setO ⟨ρ, (cvar gb_32 r_wire_Reader x_43) :: (cown go_33 (rU UInt8) v_31 (List.length v_31) gc_34) :: B, _⟩ _ _) ((op_call (js := [0, 0]) ld cl39 (sim_wire_Reader_Number k (8 : Int) true true v_31 gb_32 go_33 gc_34 (v_42, x_43) hv_v_42) .func (.cons (.tmp (hl hd 0 70 rfl)) (.cons .cI .nil)) rfl).post (fun _ => Imp.refl))⟩)) ?_
      refine dS 3 (fun γ ρ B hb hd => op_move lb (.tmp (hb 0 _ rfl))) ?_
      refine dS 4 (fun γ ρ B hb hd => op_cmpU lb (.tmp (hl hd 1 71 rfl)) (.tmp (hl hd 2 72 rfl)) (congrArg some hv_v_44)) ?_
      refine dS 5 (fun γ ρ B hb hd => op_move lb (.tmp (hl hd 3 73 rfl))) ?_
      refine DSteps.cons (j := 6) rfl (fun _ => rfl) (.run (fun γ ρ B hb hd => ⟨.yes rfl (ltB rfl) (hl hd 4 74 rfl) hc12, OpStep.at ⟨ρ, B, _⟩ (setO ⟨ρ, B, _⟩ _ _) (op_move lb (.tmp (hb 15 _ rfl)))⟩)) ?_
      refine DSteps.cons (j := 7) rfl (fun _ => rfl) (.run (fun γ ρ B hb hd => ⟨.yes rfl (ltB rfl) (hl hd 4 74 rfl) hc12, OpStep.at ⟨ρ, (cvar gb_32 r_wire_Reader x_43) :: B, _⟩ (setO ⟨ρ, (cvar gb_32 r_wire_Reader x_46) :: B, _⟩ _ _) ((op_call (js := [0]) ld cl26 (sim_wire_Reader_Blob'2 k x_43 gb_32 (v_45, x_46) hv_v_45) .func (.cons (.tmp (hl hd 5 75 rfl)) .nil) rfl).post (fun _ => Imp.refl))⟩)) ?_
      refine DSteps.cons (j := 8) rfl (fun _ => rfl) (.run (fun γ ρ B hb hd => ⟨.yes rfl (ltB rfl) (hl hd 4 74 rfl) hc12, OpStep.at ⟨ρ, B, _⟩ (setO ⟨ρ, B, _⟩ _ _) (op_convBS lb tu23 tu5 tu9 (.tmp (hl hd 6 76 rfl)))⟩)) ?_
      refine DSteps.cons (j := 9) rfl (fun _ => rfl) (.run (fun γ ρ B hb hd => ⟨.yes rfl (ltB rfl) (hl hd 4 74 rfl) hc12, OpStep.at ⟨ρ, B, _⟩ (setO ⟨ρ, B, _⟩ _ _) (op_move lb (.tmp (hb 3 _ rfl)))⟩)) ?_
      refine DSteps.cons (j := 10) rfl (fun _ => rfl) (.run (fun γ ρ B hb hd => ⟨.yes rfl (ltB rfl) (hl hd 4 74 rfl) hc12, OpStep.at ⟨ρ, B, _⟩ (setO ⟨ρ, B, _⟩ _ _) (op_convBS lb tu23 tu5 tu9 (.tmp (hl hd 8 78 rfl)))⟩)) ?_
      refine DSteps.cons (j := 11) rfl (fun _ => rfl) (.run (fun γ ρ B hb hd => ⟨.yes rfl (ltB rfl) (hl hd 4 74 rfl) hc12, OpStep.at ⟨ρ, B, _⟩ (setO ⟨ρ, B, _⟩ _ _) (op_cmpS lb (.tmp (hl hd 7 77 rfl)) (.tmp (hl hd 9 79 rfl)) (congrArg some hv_v_47))⟩)) ?_
      refine dS 12 (fun γ ρ B hb hd => op_pickF lb (.tmp (hl hd 4 74 rfl)) hc12 (.tmp (hl hd 10 80 rfl))) ?_
      refine dS 13 (fun γ ρ B hb hd => op_move lb (.tmp (hl hd 11 81 rfl))) ?_
      refine DSteps.cons (j := 14) rfl (fun _ => rfl) (.skip (fun γ ρ B hb hd => ⟨.no rfl (ltB rfl) (hl hd 12 82 rfl) hc14, rfl, rfl, rfl, fun d h => by cases h; exact ltB rfl⟩)) ?_
      refine DSteps.cons (j := 15) rfl (fun _ => rfl) (.skip (fun γ ρ B hb hd => ⟨.no rfl (ltB rfl) (hl hd 12 82 rfl) hc14, rfl, rfl, rfl, fun d h => by cases h; exact ltB rfl⟩)) ?_
      refine DSteps.cons (j := 16) rfl (fun _ => rfl) (.skip (fun γ ρ B hb hd => ⟨.no rfl (ltB rfl) (hl hd 12 82 rfl) hc14, rfl, rfl, rfl, fun d h => by cases h; exact ltB rfl⟩)) ?_
      refine DSteps.cons (j := 17) rfl (fun _ => rfl) (.skip (fun γ ρ B hb hd => ⟨.no rfl (ltB rfl) (hl hd 12 82 rfl) hc14, rfl, rfl, rfl, fun d h => by cases h; exact ltB rfl⟩)) ?_
      refine dS 18 (fun γ ρ B hb hd => op_pickT lb (.tmp (hl hd 12 82 rfl)) hc14 .cB) ?_
      refine dS 19 (fun γ ρ B hb hd => op_move lb (.tmp (hl hd 17 87 rfl))) ?_
      refine DSteps.cons (j := 20) rfl (fun _ => rfl) (.skip (fun γ ρ B hb hd => ⟨.no rfl (ltB rfl) (hl hd 18 88 rfl) rfl, rfl, rfl, rfl, fun d h => by cases h; exact ltB rfl⟩)) ?_
      refine DSteps.cons (j := 21) rfl (fun _ => rfl) (.skip (fun γ ρ B hb hd => ⟨.no rfl (ltB rfl) (hl hd 18 88 rfl) rfl, rfl, rfl, rfl, fun d h => by cases h; exact ltB rfl⟩)) ?_
      refine DSteps.cons (j := 22) rfl (fun _ => rfl) (.skip (fun γ ρ B hb hd => ⟨.no rfl (ltB rfl) (hl hd 18 88 rfl) rfl, rfl, rfl, rfl, fun d h => by cases h; exact ltB rfl⟩)) ?_
      refine DSteps.cons (j := 23) rfl (fun _ => rfl) (.skip (fun γ ρ B hb hd => ⟨.no rfl (ltB rfl) (hl hd 18 88 rfl) rfl, rfl, rfl, rfl, fun d h => by cases h; exact ltB rfl⟩)) ?_
      refine dS 24 (fun γ ρ B hb hd => op_pickT lb (.tmp (hl hd 18 88 rfl)) rfl .cB) ?_
      refine dS 25 (fun γ ρ B hb hd => op_move lb (.tmp (hl hd 23 93 rfl))) ?_
      refine DSteps.cons (j := 26) rfl (fun _ => rfl) (.skip (fun γ ρ B hb hd => ⟨.no rfl (ltB rfl) (hl hd 24 94 rfl) rfl, rfl, rfl, rfl, fun d h => by cases h; exact ltB rfl⟩)) ?_
      refine DSteps.cons (j := 27) rfl (fun _ => rfl) (.skip (fun γ ρ B hb hd => ⟨.no rfl (ltB rfl) (hl hd 24 94 rfl) rfl, rfl, rfl, rfl, fun d h => by cases h; exact ltB rfl⟩)) ?_
      refine DSteps.cons (j := 28) rfl (fun _ => rfl) (.skip (fun γ ρ B hb hd => ⟨.no rfl (ltB rfl) (hl hd 24 94 rfl) rfl, rfl, rfl, rfl, fun d h => by cases h; exact ltB rfl⟩)) ?_
      refine DSteps.cons (j := 29) rfl (fun _ => rfl) (.skip (fun γ ρ B hb hd => ⟨.no rfl (ltB rfl) (hl hd 24 94 rfl) rfl, rfl, rfl, rfl, fun d h => by cases h; exact ltB rfl⟩)) ?_
      refine DSteps.cons (j := 30) rfl (fun _ => rfl) (.skip (fun γ ρ B hb hd => ⟨.no rfl (ltB rfl) (hl hd 24 94 rfl) rfl, rfl, rfl, rfl, fun d h => by cases h; exact ltB rfl⟩)) ?_
      refine DSteps.cons (j := 31) rfl (fun _ => rfl) (.skip (fun γ ρ B hb hd => ⟨.no rfl (ltB rfl) (hl hd 24 94 rfl) rfl, rfl, rfl, rfl, fun d h => by cases h; exact ltB rfl⟩)) ?_
      refine DSteps.cons (j := 32) rfl (fun _ => rfl) (.skip (fun γ ρ B hb hd => ⟨.no rfl (ltB rfl) (hl hd 24 94 rfl) rfl, rfl, rfl, rfl, fun d h => by cases h; exact ltB rfl⟩)) ?_
      refine DSteps.cons (j := 33) rfl (fun _ => rfl) (.skip (fun γ ρ B hb hd => ⟨.no rfl (ltB rfl) (hl hd 24 94 rfl) rfl, rfl, rfl, rfl, fun d h => by cases h; exact ltB rfl⟩)) ?_
      refine dS 34 (fun γ ρ B hb hd => op_pickT lb (.tmp (hl hd 24 94 rfl)) rfl .cB) ?_
      refine dS 35 (fun γ ρ B hb hd => op_move lb (.tmp (hl hd 33 103 rfl))) ?_
      refine DSteps.cons (j := 36) rfl (fun _ => rfl) (.skip (fun γ ρ B hb hd => ⟨.no rfl (ltB rfl) (hl hd 34 104 rfl) rfl, rfl, rfl, rfl, fun d h => by cases h; exact ltB rfl⟩)) ?_
      refine DSteps.cons (j := 37) rfl (fun _ => rfl) (.skip (fun γ ρ B hb hd => ⟨.no rfl (ltB rfl) (hl hd 34 104 rfl) rfl, rfl, rfl, rfl, fun d h => by cases h; exact ltB rfl⟩)) ?_
      refine DSteps.cons (j := 38) rfl (fun _ => rfl) (.skip (fun γ ρ B hb hd => ⟨.no rfl (ltB rfl) (hl hd 34 104 rfl) rfl, rfl, rfl, rfl, fun d h => by cases h; exact ltB rfl⟩)) ?_
      refine DSteps.cons (j := 39) rfl (fun _ => rfl) (.skip (fun γ ρ B hb hd => ⟨.no rfl (ltB rfl) (hl hd 34 104 rfl) rfl, rfl, rfl, rfl, fun d h => by cases h; exact ltB rfl⟩)) ?_
      refine dS 40 (fun γ ρ B hb hd => op_pickT lb (.tmp (hl hd 34 104 rfl)) rfl .cB) ?_
      exact DSteps.nil)
                     (by decide +kernel) (fun _ => rfl) rfl (fun _ => rfl) (fun _ => rfl) rfl (by decide) (by decide) (by decide +kernel) (fun _ d h => by cases h)
                     (ρ' := fun γ => [(3, ov (S (rL (rU UInt8)) a_4)), (15, ov (PTR gb_32 0)), (109, ov (S rB true))])
                     (X' := fun γ => [cvar gb_5 r_api_Dot a_2, cvar gb_6 (rV 16 (rU UInt64)) a_3, cown go_33 (rU UInt8) v_31 (List.length v_31) gc_34, cvar gb_32 r_wire_Reader x_46])
                     (fun γ ρ hb hd => (.cons (hb 3 _ rfl (by decide)) (.cons (hb 15 _ rfl (by decide)) (.cons (hdq hd 39 109 rfl) .nil)))) (fun _ => rfl) (fun γ => ?_)
                 refine JQ.at ⟨[(3, ov (S (rL (rU UInt8)) a_4)), (15, ov (PTR gb_32 0)), (109, ov (S rB true))], [cvar gb_5 r_api_Dot a_2, cvar gb_6 (rV 16 (rU UInt64)) a_3, cown go_33 (rU UInt8) v_31 (List.length v_31) gc_34, cvar gb_32 r_wire_Reader x_46], []⟩ ?_
                 replace hx10 := Option.some.inj hx10
                 replace hx10 := Prod.mk.inj hx10
                 obtain ⟨hx10_a, hx10⟩ := hx10
                 first | subst hx10_a | clear hx10_a
                 first | subst hx10 | clear hx10
                 exact JQ.join () (Imp.norm (js := [3]) rfl (.cons rfl (.cons rfl (.cons rfl .nil))))
               · replace hx10 := bnd_inv hx10
                 obtain ⟨⟨v_48, x_49⟩, hv_v_48, hx10⟩ := hx10
                 replace hx10 := lt1_inv hx10
                 obtain ⟨v_50, hv_v_50, hx10⟩ := hx10
                 replace hx10 := iteB_inv hx10
                 rcases hx10 with ⟨hc16, hx10⟩ | ⟨hc16, hx10⟩
                 · refine JC.anyE (kl := []) (kk := 0) (base := [(0, ov (S (rU UInt64) t_1)), (3, ov (S (rL (rU UInt8)) a_4)), (5, ov (PTR gb_5 0)), (15, ov (PTR gb_32 0))])
                       (fs := fun γ => [⟨some 70, ov (PTR gb_32 0)⟩, ⟨some 71, ov (S (rU UInt64) v_42)⟩, ⟨some 72, ov (S (rU UInt64) t_1)⟩, ⟨some 73, ov (S rB v_44)⟩, ⟨some 74, ov (S rB v_44)⟩, ⟨some 75, ov (PTR gb_32 0)⟩, ⟨some 76, ov (S (rL (rU UInt8)) v_45)⟩, ⟨some 77, ov (S rS v_45)⟩, ⟨some 78, ov (S (rL (rU UInt8)) a_4)⟩, ⟨some 79, ov (S rS a_4)⟩, ⟨some 80, ov (S rB v_47)⟩, ⟨some 81, ov (S rB v_47)⟩, ⟨some 82, ov (S rB v_47)⟩, ⟨some 83, ov (PTR gb_32 0)⟩, ⟨some 84, ov (A r_api_Dot v_48)⟩, ⟨some 85, ov (A r_api_Dot a_2)⟩, ⟨some 86, ov (S rB v_50)⟩, ⟨some 87, ov (S rB v_50)⟩, ⟨some 88, ov (S rB v_50)⟩, ⟨some 89, .one .und⟩, ⟨some 90, .one .und⟩, ⟨some 91, .one .und⟩, ⟨some 92, .one .und⟩, ⟨some 93, ov (S rB true)⟩, ⟨some 94, ov (S rB true)⟩, ⟨some 95, .one .und⟩, ⟨some 96, .one .und⟩, ⟨some 97, .one .und⟩, ⟨some 98, .one .und⟩, ⟨some 99, .one .und⟩, ⟨some 100, .one .und⟩, ⟨some 101, .one .und⟩, ⟨some 102, .one .und⟩, ⟨some 103, ov (S rB true)⟩, ⟨some 104, ov (S rB true)⟩, ⟨some 105, .one .und⟩, ⟨some 106, .one .und⟩, ⟨some 107, .one .und⟩, ⟨some 108, .one .und⟩, ⟨some 109, ov (S rB true)⟩])
                       (rs := fun γ => [⟨cvar gb_5 r_api_Dot a_2, none, none, [15]⟩, ⟨cvar gb_6 (rV 16 (rU UInt64)) a_3, none, none, []⟩, ⟨cvar gb_32 (rP (rW (HDR go_33 0 (List.length v_31) gc_34)) (rP rB (rP rB r0))) ((), (true, (true, ()))), none, (some 1), []⟩, ⟨cown go_33 (rU UInt8) v_31 0 gc_34, none, (some 1), []⟩, ⟨cvar gb_32 r_wire_Reader x_43, (some 1), (some 6), []⟩, ⟨cown go_33 (rU UInt8) v_31 (List.length v_31) gc_34, (some 1), none, []⟩, ⟨cvar gb_32 r_wire_Reader x_46, (some 6), (some 14), []⟩, ⟨cvar gb_32 r_wire_Reader x_49, (some 14), none, []⟩])
                       (ds := [70, 71, 72, 73, 74, 75, 76, 77, 78, 79, 80, 81, 82, 83, 84, 85, 86, 87, 88, 89, 90, 91, 92, 93, 94, 95, 96, 97, 98, 99, 100, 101, 102, 103, 104, 105, 106, 107, 108, 109]) (bs := [0, 3, 5, 15]) (afts := [[], [], [], [], [], [], [], [], [], [], [], [], [], [], [], [], [], [], [], [], [], [], [], [], [], [], [], [], [], [], [], [], [], [], [], [], [], [], [], []]) (js := [0, 0, 0, 0]) mixed (.cons rfl (.cons rfl (.cons rfl (.cons rfl .nil)))) (fun _ => rfl)
                       (by
      refine dS 1 (fun γ ρ B hb hd => op_move lb (.tmp (hb 15 _ rfl))) ?_
      refine DSteps.cons (j := 2) rfl (fun _ => rfl) (.run (fun γ ρ B hb hd => ⟨.none, OpStep.at ⟨ρ, (cvar gb_32 (rP (rW (HDR go_33 0 (List.length v_31) gc_34)) (rP rB (rP rB r0))) ((), (true, (true, ())))) :: (cown go_33 (rU UInt8) v_31 0 gc_34) :: B, _⟩ (setO ⟨ρ, (cvar gb_32 r_wire_Reader x_43) :: (cown go_33 (rU UInt8) v_31 (List.length v_31) gc_34) :: B, _⟩ _ _) ((op_call (js := [0, 0]) ld cl39 (sim_wire_Reader_Number k (8 : Int) true true v_31 gb_32 go_33 gc_34 (v_42, x_43) hv_v_42) .func (.cons (.tmp (hl hd 0 70 rfl)) (.cons .cI .nil)) rfl).post (fun _ => Imp.refl))⟩)) ?_
      refine dS 3 (fun γ ρ B hb hd => op_move lb (.tmp (hb 0 _ rfl))) ?_
      refine dS 4 (fun γ ρ B hb hd => op_cmpU lb (.tmp (hl hd 1 71 rfl)) (.tmp (hl hd 2 72 rfl)) (congrArg some hv_v_44)) ?_
      refine dS 5 (fun γ ρ B hb hd => op_move lb (.tmp (hl hd 3 73 rfl))) ?_
      refine DSteps.cons (j := 6) rfl (fun _ => rfl) (.run (fun γ ρ B hb hd => ⟨.yes rfl (ltB rfl) (hl hd 4 74 rfl) hc12, OpStep.at ⟨ρ, B, _⟩ (setO ⟨ρ, B, _⟩ _ _) (op_move lb (.tmp (hb 15 _ rfl)))⟩)) ?_
      refine DSteps.cons (j := 7) rfl (fun _ => rfl) (.run (fun γ ρ B hb hd => ⟨.yes rfl (ltB rfl) (hl hd 4 74 rfl) hc12, OpStep.at ⟨ρ, (cvar gb_32 r_wire_Reader x_43) :: B, _⟩ (setO ⟨ρ, (cvar gb_32 r_wire_Reader x_46) :: B, _⟩ _ _) ((op_call (js := [0]) ld cl26 (sim_wire_Reader_Blob'2 k x_43 gb_32 (v_45, x_46) hv_v_45) .func (.cons (.tmp (hl hd 5 75 rfl)) .nil) rfl).post (fun _ => Imp.refl))⟩)) ?_
      refine DSteps.cons (j := 8) rfl (fun _ => rfl) (.run (fun γ ρ B hb hd => ⟨.yes rfl (ltB rfl) (hl hd 4 74 rfl) hc12, OpStep.at ⟨ρ, B, _⟩ (setO ⟨ρ, B, _⟩ _ _) (op_convBS lb tu23 tu5 tu9 (.tmp (hl hd 6 76 rfl)))⟩)) ?_
      refine DSteps.cons (j := 9) rfl (fun _ => rfl) (.run (fun γ ρ B hb hd => ⟨.yes rfl (ltB rfl) (hl hd 4 74 rfl) hc12, OpStep.at ⟨ρ, B, _⟩ (setO ⟨ρ, B, _⟩ _ _) (op_move lb (.tmp (hb 3 _ rfl)))⟩)) ?_
      refine DSteps.cons (j := 10) rfl (fun _ => rfl) (.run (fun γ ρ B hb hd => ⟨.yes rfl (ltB rfl) (hl hd 4 74 rfl) hc12, OpStep.at ⟨ρ, B, _⟩ (setO ⟨ρ, B, _⟩ _ _) (op_convBS lb tu23 tu5 tu9 (.tmp (hl hd 8 78 rfl)))⟩)) ?_
      refine DSteps.cons (j := 11) rfl (fun _ => rfl) (.run (fun γ ρ B hb hd => ⟨.yes rfl (ltB rfl) (hl hd 4 74 rfl) hc12, OpStep.at ⟨ρ, B, _⟩ (setO ⟨ρ, B, _⟩ _ _) (op_cmpS lb (.tmp (hl hd 7 77 rfl)) (.tmp (hl hd 9 79 rfl)) (congrArg some hv_v_47))⟩)) ?_
      refine dS 12 (fun γ ρ B hb hd => op_pickF lb (.tmp (hl hd 4 74 rfl)) hc12 (.tmp (hl hd 10 80 rfl))) ?_
      refine dS 13 (fun γ ρ B hb hd => op_move lb (.tmp (hl hd 11 81 rfl))) ?_
      refine DSteps.cons (j := 14) rfl (fun _ => rfl) (.run (fun γ ρ B hb hd => ⟨.yes rfl (ltB rfl) (hl hd 12 82 rfl) hc14, OpStep.at ⟨ρ, B, _⟩ (setO ⟨ρ, B, _⟩ _ _) (op_move lb (.tmp (hb 15 _ rfl)))⟩)) ?_
      refine DSteps.cons (j := 15) rfl (fun _ => rfl) (.run (fun γ ρ B hb hd => ⟨.yes rfl (ltB rfl) (hl hd 12 82 rfl) hc14, OpStep.at ⟨ρ, (cvar gb_32 r_wire_Reader x_46) :: B, _⟩ (setO ⟨ρ, (cvar gb_32 r_wire_Reader x_49) :: B, _⟩ _ _) ((op_call (js := [0]) ld cl27 (sim_wire_Reader_Dot'2 k x_46 gb_32 (v_48, x_49) hv_v_48) .func (.cons (.tmp (hl hd 13 83 rfl)) .nil) rfl).post (fun _ => Imp.refl))⟩)) ?_
      refine DSteps.cons (j := 16) rfl (fun _ => rfl) (.run (fun γ ρ B hb hd => ⟨.yes rfl (ltB rfl) (hl hd 12 82 rfl) hc14, OpStep.at ⟨ρ, (cvar gb_5 r_api_Dot a_2) :: B, _⟩ (setO ⟨ρ, (cvar gb_5 r_api_Dot a_2) :: B, _⟩ _ _) (op_loadA (j := 0) lb tA48 (.tmp (hb 5 _ rfl)) rfl (Comp.self r_api_Dot a_2) rfl)⟩)) ?_
      refine DSteps.cons (j := 17) rfl (fun _ => rfl) (.run (fun γ ρ B hb hd => ⟨.yes rfl (ltB rfl) (hl hd 12 82 rfl) hc14, OpStep.at ⟨ρ, B, _⟩ (setO ⟨ρ, B, _⟩ _ _) (op_neA lb qa48 (by decide) ng48 (.tmp (hl hd 14 84 rfl)) (.tmp (hl hd 15 85 rfl)) hv_v_50)⟩)) ?_
      refine dS 18 (fun γ ρ B hb hd => op_pickF lb (.tmp (hl hd 12 82 rfl)) hc14 (.tmp (hl hd 16 86 rfl))) ?_
      refine dS 19 (fun γ ρ B hb hd => op_move lb (.tmp (hl hd 17 87 rfl))) ?_
      refine DSteps.cons (j := 20) rfl (fun _ => rfl) (.skip (fun γ ρ B hb hd => ⟨.no rfl (ltB rfl) (hl hd 18 88 rfl) hc16, rfl, rfl, rfl, fun d h => by cases h; exact ltB rfl⟩)) ?_
      refine DSteps.cons (j := 21) rfl (fun _ => rfl) (.skip (fun γ ρ B hb hd => ⟨.no rfl (ltB rfl) (hl hd 18 88 rfl) hc16, rfl, rfl, rfl, fun d h => by cases h; exact ltB rfl⟩)) ?_
      refine DSteps.cons (j := 22) rfl (fun _ => rfl) (.skip (fun γ ρ B hb hd => ⟨.no rfl (ltB rfl) (hl hd 18 88 rfl) hc16, rfl, rfl, rfl, fun d h => by cases h; exact ltB rfl⟩)) ?_
      refine DSteps.cons (j := 23) rfl (fun _ => rfl) (.skip (fun γ ρ B hb hd => ⟨.no rfl (ltB rfl) (hl hd 18 88 rfl) hc16, rfl, rfl, rfl, fun d h => by cases h; exact ltB rfl⟩)) ?_
      refine dS 24 (fun γ ρ B hb hd => op_pickT lb (.tmp (hl hd 18 88 rfl)) hc16 .cB) ?_
      refine dS 25 (fun γ ρ B hb hd => op_move lb (.tmp (hl hd 23 93 rfl))) ?_
      refine DSteps.cons (j := 26) rfl (fun _ => rfl) (.skip (fun γ ρ B hb hd => ⟨.no rfl (ltB rfl) (hl hd 24 94 rfl) rfl, rfl, rfl, rfl, fun d h => by cases h; exact ltB rfl⟩)) ?_
      refine DSteps.cons (j := 27) rfl (fun _ => rfl) (.skip (fun γ ρ B hb hd => ⟨.no rfl (ltB rfl) (hl hd 24 94 rfl) rfl, rfl, rfl, rfl, fun d h => by cases h; exact ltB rfl⟩)) ?_
      refine DSteps.cons (j := 28) rfl (fun _ => rfl) (.skip (fun γ ρ B hb hd => ⟨.no rfl (ltB rfl) (hl hd 24 94 rfl) rfl, rfl, rfl, rfl, fun d h => by cases h; exact ltB rfl⟩)) ?_
      refine DSteps.cons (j := 29) rfl (fun _ => rfl) (.skip (fun γ ρ B hb hd => ⟨.no rfl (ltB rfl) (hl hd 24 94 rfl) rfl, rfl, rfl, rfl, fun d h => by cases h; exact ltB rfl⟩)) ?_
      refine DSteps.cons (j := 30) rfl (fun _ => rfl) (.skip (fun γ ρ B hb hd => ⟨.no rfl (ltB rfl) (hl hd 24 94 rfl) rfl, rfl, rfl, rfl, fun d h => by cases h; exact ltB rfl⟩)) ?_
      refine DSteps.cons (j := 31) rfl (fun _ => rfl) (.skip (fun γ ρ B hb hd => ⟨.no rfl (ltB rfl) (hl hd 24 94 rfl) rfl, rfl, rfl, rfl, fun d h => by cases h; exact ltB rfl⟩)) ?_
      refine DSteps.cons (j := 32) rfl (fun _ => rfl) (.skip (fun γ ρ B hb hd => ⟨.no rfl (ltB rfl) (hl hd 24 94 rfl) rfl, rfl, rfl, rfl, fun d h => by cases h; exact ltB rfl⟩)) ?_
      refine DSteps.cons (j := 33) rfl (fun _ => rfl) (.skip (fun γ ρ B hb hd => ⟨.no rfl (ltB rfl) (hl hd 24 94 rfl) rfl, rfl, rfl, rfl, fun d h => by cases h; exact ltB rfl⟩)) ?_
      refine dS 34 (fun γ ρ B hb hd => op_pickT lb (.tmp (hl hd 24 94 rfl)) rfl .cB) ?_
      refine dS 35 (fun γ ρ B hb hd => op_move lb (.tmp (hl hd 33 103 rfl))) ?_
      refine DSteps.cons (j := 36) rfl (fun _ => rfl) (.skip (fun γ ρ B hb hd => ⟨.no rfl (ltB rfl) (hl hd 34 104 rfl) rfl, rfl, rfl, rfl, fun d h => by cases h; exact ltB rfl⟩)) ?_
      refine DSteps.cons (j := 37) rfl (fun _ => rfl) (.skip (fun γ ρ B hb hd => ⟨.no rfl (ltB rfl) (hl hd 34 104 rfl) rfl, rfl, rfl, rfl, fun d h => by cases h; exact ltB rfl⟩)) ?_
      refine DSteps.cons (j := 38) rfl (fun _ => rfl) (.skip (fun γ ρ B hb hd => ⟨.no rfl (ltB rfl) (hl hd 34 104 rfl) rfl, rfl, rfl, rfl, fun d h => by cases h; exact ltB rfl⟩)) ?_
      refine DSteps.cons (j := 39) rfl (fun _ => rfl) (.skip (fun γ ρ B hb hd => ⟨.no rfl (ltB rfl) (hl hd 34 104 rfl) rfl, rfl, rfl, rfl, fun d h => by cases h; exact ltB rfl⟩)) ?_
      refine dS 40 (fun γ ρ B hb hd => op_pickT lb (.tmp (hl hd 34 104 rfl)) rfl .cB) ?_
      exact DSteps.nil)
                       (by decide +kernel) (fun _ => rfl) rfl (fun _ => rfl) (fun _ => rfl) rfl (by decide) (by decide) (by decide +kernel) (fun _ d h => by cases h)
                       (ρ' := fun γ => [(3, ov (S (rL (rU UInt8)) a_4)), (15, ov (PTR gb_32 0)), (109, ov (S rB true))])
                       (X' := fun γ => [cvar gb_5 r_api_Dot a_2, cvar gb_6 (rV 16 (rU UInt64)) a_3, cown go_33 (rU UInt8) v_31 (List.length v_31) gc_34, cvar gb_32 r_wire_Reader x_49])
                       (fun γ ρ hb hd => (.cons (hb 3 _ rfl (by decide)) (.cons (hb 15 _ rfl (by decide)) (.cons (hdq hd 39 109 rfl) .nil)))) (fun _ => rfl) (fun γ => ?_)
                   refine JQ.at ⟨[(3, ov (S (rL (rU UInt8)) a_4)), (15, ov (PTR gb_32 0)), (109, ov (S rB true))], [cvar gb_5 r_api_Dot a_2, cvar gb_6 (rV 16 (rU UInt64)) a_3, cown go_33 (rU UInt8) v_31 (List.length v_31) gc_34, cvar gb_32 r_wire_Reader x_49], []⟩ ?_
                   replace hx10 := Option.some.inj hx10
                   replace hx10 := Prod.mk.inj hx10
                   obtain ⟨hx10_a, hx10⟩ := hx10
                   first | subst hx10_a | clear hx10_a
                   first | subst hx10 | clear hx10
                   exact JQ.join () (Imp.norm (js := [3]) rfl (.cons rfl (.cons rfl (.cons rfl .nil))))
                 · replace hx10 := bnd_inv hx10
                   obtain ⟨⟨v_51, x_52⟩, hv_v_51, hx10⟩ := hx10
                   replace hx10 := lt1_inv hx10
                   obtain ⟨v_53, hv_v_53, hx10⟩ := hx10
                   replace hx10 := iteB_inv hx10
                   rcases hx10 with ⟨hc18, hx10⟩ | ⟨hc18, hx10⟩
                   · refine JC.anyE (kl := []) (kk := 0) (base := [(0, ov (S (rU UInt64) t_1)), (3, ov (S (rL (rU UInt8)) a_4)), (5, ov (PTR gb_5 0)), (6, ov (PTR gb_6 0)), (15, ov (PTR gb_32 0))])
                         (fs := fun γ => [⟨some 70, ov (PTR gb_32 0)⟩, ⟨some 71, ov (S (rU UInt64) v_42)⟩, ⟨some 72, ov (S (rU UInt64) t_1)⟩, ⟨some 73, ov (S rB v_44)⟩, ⟨some 74, ov (S rB v_44)⟩, ⟨some 75, ov (PTR gb_32 0)⟩, ⟨some 76, ov (S (rL (rU UInt8)) v_45)⟩, ⟨some 77, ov (S rS v_45)⟩, ⟨some 78, ov (S (rL (rU UInt8)) a_4)⟩, ⟨some 79, ov (S rS a_4)⟩, ⟨some 80, ov (S rB v_47)⟩, ⟨some 81, ov (S rB v_47)⟩, ⟨some 82, ov (S rB v_47)⟩, ⟨some 83, ov (PTR gb_32 0)⟩, ⟨some 84, ov (A r_api_Dot v_48)⟩, ⟨some 85, ov (A r_api_Dot a_2)⟩, ⟨some 86, ov (S rB v_50)⟩, ⟨some 87, ov (S rB v_50)⟩, ⟨some 88, ov (S rB v_50)⟩, ⟨some 89, ov (PTR gb_32 0)⟩, ⟨some 90, ov (A (rV 16 (rU UInt64)) v_51)⟩, ⟨some 91, ov (A (rV 16 (rU UInt64)) a_3)⟩, ⟨some 92, ov (S rB v_53)⟩, ⟨some 93, ov (S rB v_53)⟩, ⟨some 94, ov (S rB v_53)⟩, ⟨some 95, .one .und⟩, ⟨some 96, .one .und⟩, ⟨some 97, .one .und⟩, ⟨some 98, .one .und⟩, ⟨some 99, .one .und⟩, ⟨some 100, .one .und⟩, ⟨some 101, .one .und⟩, ⟨some 102, .one .und⟩, ⟨some 103, ov (S rB true)⟩, ⟨some 104, ov (S rB true)⟩, ⟨some 105, .one .und⟩, ⟨some 106, .one .und⟩, ⟨some 107, .one .und⟩, ⟨some 108, .one .und⟩, ⟨some 109, ov (S rB true)⟩])
                         (rs := fun γ => [⟨cvar gb_5 r_api_Dot a_2, none, none, [15]⟩, ⟨cvar gb_6 (rV 16 (rU UInt64)) a_3, none, none, [21]⟩, ⟨cvar gb_32 (rP (rW (HDR go_33 0 (List.length v_31) gc_34)) (rP rB (rP rB r0))) ((), (true, (true, ()))), none, (some 1), []⟩, ⟨cown go_33 (rU UInt8) v_31 0 gc_34, none, (some 1), []⟩, ⟨cvar gb_32 r_wire_Reader x_43, (some 1), (some 6), []⟩, ⟨cown go_33 (rU UInt8) v_31 (List.length v_31) gc_34, (some 1), none, []⟩, ⟨cvar gb_32 r_wire_Reader x_46, (some 6), (some 14), []⟩, ⟨cvar gb_32 r_wire_Reader x_49, (some 14), (some 20), []⟩, ⟨cvar gb_32 r_wire_Reader x_52, (some 20), none, []⟩])
                         (ds := [70, 71, 72, 73, 74, 75, 76, 77, 78, 79, 80, 81, 82, 83, 84, 85, 86, 87, 88, 89, 90, 91, 92, 93, 94, 95, 96, 97, 98, 99, 100, 101, 102, 103, 104, 105, 106, 107, 108, 109]) (bs := [0, 3, 5, 6, 15]) (afts := [[], [], [], [], [], [], [], [], [], [], [], [], [], [], [], [], [], [], [], [], [], [], [], [], [], [], [], [], [], [], [], [], [], [], [], [], [], [], [], []]) (js := [0, 0, 0, 0]) mixed (.cons rfl (.cons rfl (.cons rfl (.cons rfl (.cons rfl .nil))))) (fun _ => rfl)
                         (by
      refine dS 1 (fun γ ρ B hb hd => op_move lb (.tmp (hb 15 _ rfl))) ?_
      refine DSteps.cons (j := 2) rfl (fun _ => rfl) (.run (fun γ ρ B hb hd => ⟨.none, OpStep.at ⟨ρ, (cvar gb_32 (rP (rW (HDR go_33 0 (List.length v_31) gc_34)) (rP rB (rP rB r0))) ((), (true, (true, ())))) :: (cown go_33 (rU UInt8) v_31 0 gc_34) :: B, _⟩ (setO ⟨ρ, (cvar gb_32 r_wire_Reader x_43) :: (cown go_33 (rU UInt8) v_31 (List.length v_31) gc_34) :: B, _⟩ _ _) ((op_call (js := [0, 0]) ld cl39 (sim_wire_Reader_Number k (8 : Int) true true v_31 gb_32 go_33 gc_34 (v_42, x_43) hv_v_42) .func (.cons (.tmp (hl hd 0 70 rfl)) (.cons .cI .nil)) rfl).post (fun _ => Imp.refl))⟩)) ?_
      refine dS 3 (fun γ ρ B hb hd => op_move lb (.tmp (hb 0 _ rfl))) ?_
      refine dS 4 (fun γ ρ B hb hd => op_cmpU lb (.tmp (hl hd 1 71 rfl)) (.tmp (hl hd 2 72 rfl)) (congrArg some hv_v_44)) ?_
      refine dS 5 (fun γ ρ B hb hd => op_move lb (.tmp (hl hd 3 73 rfl))) ?_
      refine DSteps.cons (j := 6) rfl (fun _ => rfl) (.run (fun γ ρ B hb hd => ⟨.yes rfl (ltB rfl) (hl hd 4 74 rfl) hc12, OpStep.at ⟨ρ, B, _⟩ (setO ⟨ρ, B, _⟩ _ _) (op_move lb (.tmp (hb 15 _ rfl)))⟩)) ?_
      refine DSteps.cons (j := 7) rfl (fun _ => rfl) (.run (fun γ ρ B hb hd => ⟨.yes rfl (ltB rfl) (hl hd 4 74 rfl) hc12, OpStep.at ⟨ρ, (cvar gb_32 r_wire_Reader x_43) :: B, _⟩ (setO ⟨ρ, (cvar gb_32 r_wire_Reader x_46) :: B, _⟩ _ _) ((op_call (js := [0]) ld cl26 (sim_wire_Reader_Blob'2 k x_43 gb_32 (v_45, x_46) hv_v_45) .func (.cons (.tmp (hl hd 5 75 rfl)) .nil) rfl).post (fun _ => Imp.refl))⟩)) ?_
      refine DSteps.cons (j := 8) rfl (fun _ => rfl) (.run (fun γ ρ B hb hd => ⟨.yes rfl (ltB rfl) (hl hd 4 74 rfl) hc12, OpStep.at ⟨ρ, B, _⟩ (setO ⟨ρ, B, _⟩ _ _) (op_convBS lb tu23 tu5 tu9 (.tmp (hl hd 6 76 rfl)))⟩)) ?_
      refine DSteps.cons (j := 9) rfl (fun _ => rfl) (.run (fun γ ρ B hb hd => ⟨.yes rfl (ltB rfl) (hl hd 4 74 rfl) hc12, OpStep.at ⟨ρ, B, _⟩ (setO ⟨ρ, B, _⟩ _ _) (op_move lb (.tmp (hb 3 _ rfl)))⟩)) ?_
      refine DSteps.cons (j := 10) rfl (fun _ => rfl) (.run (fun γ ρ B hb hd => ⟨.yes rfl (ltB rfl) (hl hd 4 74 rfl) hc12, OpStep.at ⟨ρ, B, _⟩ (setO ⟨ρ, B, _⟩ _ _) (op_convBS lb tu23 tu5 tu9 (.tmp (hl hd 8 78 rfl)))⟩)) ?_
      refine DSteps.cons (j := 11) rfl (fun _ => rfl) (.run (fun γ ρ B hb hd => ⟨.yes rfl (ltB rfl) (hl hd 4 74 rfl) hc12, OpStep.at ⟨ρ, B, _⟩ (setO ⟨ρ, B, _⟩ _ _) (op_cmpS lb (.tmp (hl hd 7 77 rfl)) (.tmp (hl hd 9 79 rfl)) (congrArg some hv_v_47))⟩)) ?_
      refine dS 12 (fun γ ρ B hb hd => op_pickF lb (.tmp (hl hd 4 74 rfl)) hc12 (.tmp (hl hd 10 80 rfl))) ?_
      refine dS 13 (fun γ ρ B hb hd => op_move lb (.tmp (hl hd 11 81 rfl))) ?_
      refine DSteps.cons (j := 14) rfl (fun _ => rfl) (.run (fun γ ρ B hb hd => ⟨.yes rfl (ltB rfl) (hl hd 12 82 rfl) hc14, OpStep.at ⟨ρ, B, _⟩ (setO ⟨ρ, B, _⟩ _ _) (op_move lb (.tmp (hb 15 _ rfl)))⟩)) ?_
      refine DSteps.cons (j := 15) rfl (fun _ => rfl) (.run (fun γ ρ B hb hd => ⟨.yes rfl (ltB rfl) (hl hd 12 82 rfl) hc14, OpStep.at ⟨ρ, (cvar gb_32 r_wire_Reader x_46) :: B, _⟩ (setO ⟨ρ, (cvar gb_32 r_wire_Reader x_49) :: B, _⟩ _ _) ((op_call (js := [0]) ld cl27 (sim_wire_Reader_Dot'2 k x_46 gb_32 (v_48, x_49) hv_v_48) .func (.cons (.tmp (hl hd 13 83 rfl)) .nil) rfl).post (fun _ => Imp.refl))⟩)) ?_
      refine DSteps.cons (j := 16) rfl (fun _ => rfl) (.run (fun γ ρ B hb hd => ⟨.yes rfl (ltB rfl) (hl hd 12 82 rfl) hc14, OpStep.at ⟨ρ, (cvar gb_5 r_api_Dot a_2) :: B, _⟩ (setO ⟨ρ, (cvar gb_5 r_api_Dot a_2) :: B, _⟩ _ _) (op_loadA (j := 0) lb tA48 (.tmp (hb 5 _ rfl)) rfl (Comp.self r_api_Dot a_2) rfl)⟩)) ?_
      refine DSteps.cons (j := 17) rfl (fun _ => rfl) (.run (fun γ ρ B hb hd => ⟨.yes rfl (ltB rfl) (hl hd 12 82 rfl) hc14, OpStep.at ⟨ρ, B, _⟩ (setO ⟨ρ, B, _⟩ _ _) (op_neA lb qa48 (by decide) ng48 (.tmp (hl hd 14 84 rfl)) (.tmp (hl hd 15 85 rfl)) hv_v_50)⟩)) ?_
      refine dS 18 (fun γ ρ B hb hd => op_pickF lb (.tmp (hl hd 12 82 rfl)) hc14 (.tmp (hl hd 16 86 rfl))) ?_
      refine dS 19 (fun γ ρ B hb hd => op_move lb (.tmp (hl hd 17 87 rfl))) ?_
      refine DSteps.cons (j := 20) rfl (fun _ => rfl) (.run (fun γ ρ B hb hd => ⟨.yes rfl (ltB rfl) (hl hd 18 88 rfl) hc16, OpStep.at ⟨ρ, B, _⟩ (setO ⟨ρ, B, _⟩ _ _) (op_move lb (.tmp (hb 15 _ rfl)))⟩)) ?_
      refine DSteps.cons (j := 21) rfl (fun _ => rfl) (.run (fun γ ρ B hb hd => ⟨.yes rfl (ltB rfl) (hl hd 18 88 rfl) hc16, OpStep.at ⟨ρ, (cvar gb_32 r_wire_Reader x_49) :: B, _⟩ (setO ⟨ρ, (cvar gb_32 r_wire_Reader x_52) :: B, _⟩ _ _) ((op_call (js := [0]) ld cl28 (sim_wire_Reader_Vector'2 k x_49 gb_32 (v_51, x_52) hv_v_51) .func (.cons (.tmp (hl hd 19 89 rfl)) .nil) rfl).post (fun _ => Imp.refl))⟩)) ?_
      refine DSteps.cons (j := 22) rfl (fun _ => rfl) (.run (fun γ ρ B hb hd => ⟨.yes rfl (ltB rfl) (hl hd 18 88 rfl) hc16, OpStep.at ⟨ρ, (cvar gb_6 (rV 16 (rU UInt64)) a_3) :: B, _⟩ (setO ⟨ρ, (cvar gb_6 (rV 16 (rU UInt64)) a_3) :: B, _⟩ _ _) (op_loadA (j := 0) lb tA50 (.tmp (hb 6 _ rfl)) rfl (Comp.self (rV 16 (rU UInt64)) a_3) rfl)⟩)) ?_
      refine DSteps.cons (j := 23) rfl (fun _ => rfl) (.run (fun γ ρ B hb hd => ⟨.yes rfl (ltB rfl) (hl hd 18 88 rfl) hc16, OpStep.at ⟨ρ, B, _⟩ (setO ⟨ρ, B, _⟩ _ _) (op_neA lb qa50 (by decide) ng50 (.tmp (hl hd 20 90 rfl)) (.tmp (hl hd 21 91 rfl)) hv_v_53)⟩)) ?_
      refine dS 24 (fun γ ρ B hb hd => op_pickF lb (.tmp (hl hd 18 88 rfl)) hc16 (.tmp (hl hd 22 92 rfl))) ?_
      refine dS 25 (fun γ ρ B hb hd => op_move lb (.tmp (hl hd 23 93 rfl))) ?_
      refine DSteps.cons (j := 26) rfl (fun _ => rfl) (.skip (fun γ ρ B hb hd => ⟨.no rfl (ltB rfl) (hl hd 24 94 rfl) hc18, rfl, rfl, rfl, fun d h => by cases h; exact ltB rfl⟩)) ?_
      refine DSteps.cons (j := 27) rfl (fun _ => rfl) (.skip (fun γ ρ B hb hd => ⟨.no rfl (ltB rfl) (hl hd 24 94 rfl) hc18, rfl, rfl, rfl, fun d h => by cases h; exact ltB rfl⟩)) ?_
      refine DSteps.cons (j := 28) rfl (fun _ => rfl) (.skip (fun γ ρ B hb hd => ⟨.no rfl (ltB rfl) (hl hd 24 94 rfl) hc18, rfl, rfl, rfl, fun d h => by cases h; exact ltB rfl⟩)) ?_
      refine DSteps.cons (j := 29) rfl (fun _ => rfl) (.skip (fun γ ρ B hb hd => ⟨.no rfl (ltB rfl) (hl hd 24 94 rfl) hc18, rfl, rfl, rfl, fun d h => by cases h; exact ltB rfl⟩)) ?_
      refine DSteps.cons (j := 30) rfl (fun _ => rfl) (.skip (fun γ ρ B hb hd => ⟨.no rfl (ltB rfl) (hl hd 24 94 rfl) hc18, rfl, rfl, rfl, fun d h => by cases h; exact ltB rfl⟩)) ?_
      refine DSteps.cons (j := 31) rfl (fun _ => rfl) (.skip (fun γ ρ B hb hd => ⟨.no rfl (ltB rfl) (hl hd 24 94 rfl) hc18, rfl, rfl, rfl, fun d h => by cases h; exact ltB rfl⟩)) ?_
      refine DSteps.cons (j := 32) rfl (fun _ => rfl) (.skip (fun γ ρ B hb hd => ⟨.no rfl (ltB rfl) (hl hd 24 94 rfl) hc18, rfl, rfl, rfl, fun d h => by cases h; exact ltB rfl⟩)) ?_
      refine DSteps.cons (j := 33) rfl (fun _ => rfl) (.skip (fun γ ρ B hb hd => ⟨.no rfl (ltB rfl) (hl hd 24 94 rfl) hc18, rfl, rfl, rfl, fun d h => by cases h; exact ltB rfl⟩)) ?_
      refine dS 34 (fun γ ρ B hb hd => op_pickT lb (.tmp (hl hd 24 94 rfl)) hc18 .cB) ?_
      refine dS 35 (fun γ ρ B hb hd => op_move lb (.tmp (hl hd 33 103 rfl))) ?_
      refine DSteps.cons (j := 36) rfl (fun _ => rfl) (.skip (fun γ ρ B hb hd => ⟨.no rfl (ltB rfl) (hl hd 34 104 rfl) rfl, rfl, rfl, rfl, fun d h => by cases h; exact ltB rfl⟩)) ?_
      refine DSteps.cons (j := 37) rfl (fun _ => rfl) (.skip (fun γ ρ B hb hd => ⟨.no rfl (ltB rfl) (hl hd 34 104 rfl) rfl, rfl, rfl, rfl, fun d h => by cases h; exact ltB rfl⟩)) ?_
      refine DSteps.cons (j := 38) rfl (fun _ => rfl) (.skip (fun γ ρ B hb hd => ⟨.no rfl (ltB rfl) (hl hd 34 104 rfl) rfl, rfl, rfl, rfl, fun d h => by cases h; exact ltB rfl⟩)) ?_
      refine DSteps.cons (j := 39) rfl (fun _ => rfl) (.skip (fun γ ρ B hb hd => ⟨.no rfl (ltB rfl) (hl hd 34 104 rfl) rfl, rfl, rfl, rfl, fun d h => by cases h; exact ltB rfl⟩)) ?_
      refine dS 40 (fun γ ρ B hb hd => op_pickT lb (.tmp (hl hd 34 104 rfl)) rfl .cB) ?_
      exact DSteps.nil)
                         (by decide +kernel) (fun _ => rfl) rfl (fun _ => rfl) (fun _ => rfl) rfl (by decide) (by decide) (by decide +kernel) (fun _ d h => by cases h)
                         (ρ' := fun γ => [(3, ov (S (rL (rU UInt8)) a_4)), (15, ov (PTR gb_32 0)), (109, ov (S rB true))])
                         (X' := fun γ => [cvar gb_5 r_api_Dot a_2, cvar gb_6 (rV 16 (rU UInt64)) a_3, cown go_33 (rU UInt8) v_31 (List.length v_31) gc_34, cvar gb_32 r_wire_Reader x_52])
                         (fun γ ρ hb hd => (.cons (hb 3 _ rfl (by decide)) (.cons (hb 15 _ rfl (by decide)) (.cons (hdq hd 39 109 rfl) .nil)))) (fun _ => rfl) (fun γ => ?_)
                     refine JQ.at ⟨[(3, ov (S (rL (rU UInt8)) a_4)), (15, ov (PTR gb_32 0)), (109, ov (S rB true))], [cvar gb_5 r_api_Dot a_2, cvar gb_6 (rV 16 (rU UInt64)) a_3, cown go_33 (rU UInt8) v_31 (List.length v_31) gc_34, cvar gb_32 r_wire_Reader x_52], []⟩ ?_
                     replace hx10 := Option.some.inj hx10
                     replace hx10 := Prod.mk.inj hx10
                     obtain ⟨hx10_a, hx10⟩ := hx10
                     first | subst hx10_a | clear hx10_a
                     first | subst hx10 | clear hx10
                     exact JQ.join () (Imp.norm (js := [3]) rfl (.cons rfl (.cons rfl (.cons rfl .nil))))
                   · replace hx10 := bnd_inv hx10
                     obtain ⟨⟨v_54, x_55⟩, hv_v_54, hx10⟩ := hx10
                     replace hx10 := lt1_inv hx10
                     obtain ⟨v_56, hv_v_56, hx10⟩ := hx10
                     replace hx10 := iteB_inv hx10
                     rcases hx10 with ⟨hc20, hx10⟩ | ⟨hc20, hx10⟩
                     · refine JC.anyE (kl := []) (kk := 0) (base := [(0, ov (S (rU UInt64) t_1)), (3, ov (S (rL (rU UInt8)) a_4)), (5, ov (PTR gb_5 0)), (6, ov (PTR gb_6 0)), (15, ov (PTR gb_32 0))])
                           (fs := fun γ => [⟨some 70, ov (PTR gb_32 0)⟩, ⟨some 71, ov (S (rU UInt64) v_42)⟩, ⟨some 72, ov (S (rU UInt64) t_1)⟩, ⟨some 73, ov (S rB v_44)⟩, ⟨some 74, ov (S rB v_44)⟩, ⟨some 75, ov (PTR gb_32 0)⟩, ⟨some 76, ov (S (rL (rU UInt8)) v_45)⟩, ⟨some 77, ov (S rS v_45)⟩, ⟨some 78, ov (S (rL (rU UInt8)) a_4)⟩, ⟨some 79, ov (S rS a_4)⟩, ⟨some 80, ov (S rB v_47)⟩, ⟨some 81, ov (S rB v_47)⟩, ⟨some 82, ov (S rB v_47)⟩, ⟨some 83, ov (PTR gb_32 0)⟩, ⟨some 84, ov (A r_api_Dot v_48)⟩, ⟨some 85, ov (A r_api_Dot a_2)⟩, ⟨some 86, ov (S rB v_50)⟩, ⟨some 87, ov (S rB v_50)⟩, ⟨some 88, ov (S rB v_50)⟩, ⟨some 89, ov (PTR gb_32 0)⟩, ⟨some 90, ov (A (rV 16 (rU UInt64)) v_51)⟩, ⟨some 91, ov (A (rV 16 (rU UInt64)) a_3)⟩, ⟨some 92, ov (S rB v_53)⟩, ⟨some 93, ov (S rB v_53)⟩, ⟨some 94, ov (S rB v_53)⟩, ⟨some 95, ov (PTR gb_32 0)⟩, ⟨some 96, ov (S (rL (rU UInt8)) a_4)⟩, ⟨some 97, ov (S (rI .i64) (List.length a_4 : Int))⟩, ⟨some 98, ov (S (rL (rU UInt8)) v_54)⟩, ⟨some 99, ov (S rS v_54)⟩, ⟨some 100, ov (S (rL (rU UInt8)) a_4)⟩, ⟨some 101, ov (S rS a_4)⟩, ⟨some 102, ov (S rB v_56)⟩, ⟨some 103, ov (S rB v_56)⟩, ⟨some 104, ov (S rB v_56)⟩, ⟨some 105, .one .und⟩, ⟨some 106, .one .und⟩, ⟨some 107, .one .und⟩, ⟨some 108, .one .und⟩, ⟨some 109, ov (S rB true)⟩])
                           (rs := fun γ => [⟨cvar gb_5 r_api_Dot a_2, none, none, [15]⟩, ⟨cvar gb_6 (rV 16 (rU UInt64)) a_3, none, none, [21]⟩, ⟨cvar gb_32 (rP (rW (HDR go_33 0 (List.length v_31) gc_34)) (rP rB (rP rB r0))) ((), (true, (true, ()))), none, (some 1), []⟩, ⟨cown go_33 (rU UInt8) v_31 0 gc_34, none, (some 1), []⟩, ⟨cvar gb_32 r_wire_Reader x_43, (some 1), (some 6), []⟩, ⟨cown go_33 (rU UInt8) v_31 (List.length v_31) gc_34, (some 1), none, []⟩, ⟨cvar gb_32 r_wire_Reader x_46, (some 6), (some 14), []⟩, ⟨cvar gb_32 r_wire_Reader x_49, (some 14), (some 20), []⟩, ⟨cvar gb_32 r_wire_Reader x_52, (some 20), (some 28), []⟩, ⟨cvar gb_32 r_wire_Reader x_55, (some 28), none, []⟩])
                           (ds := [70, 71, 72, 73, 74, 75, 76, 77, 78, 79, 80, 81, 82, 83, 84, 85, 86, 87, 88, 89, 90, 91, 92, 93, 94, 95, 96, 97, 98, 99, 100, 101, 102, 103, 104, 105, 106, 107, 108, 109]) (bs := [0, 3, 5, 6, 15]) (afts := [[], [], [], [], [], [], [], [], [], [], [], [], [], [], [], [], [], [], [], [], [], [], [], [], [], [], [], [], [], [], [], [], [], [], [], [], [], [], [], []]) (js := [0, 0, 0, 0]) mixed (.cons rfl (.cons rfl (.cons rfl (.cons rfl (.cons rfl .nil))))) (fun _ => rfl)
                           (by
      refine dS 1 (fun γ ρ B hb hd => op_move lb (.tmp (hb 15 _ rfl))) ?_
      refine DSteps.cons (j := 2) rfl (fun _ => rfl) (.run (fun γ ρ B hb hd => ⟨.none, OpStep.at ⟨ρ, (cvar gb_32 (rP (rW (HDR go_33 0 (List.length v_31) gc_34)) (rP rB (rP rB r0))) ((), (true, (true, ())))) :: (cown go_33 (rU UInt8) v_31 0 gc_34) :: B, _⟩ (setO ⟨ρ, (cvar gb_32 r_wire_Reader x_43) :: (cown go_33 (rU UInt8) v_31 (List.length v_31) gc_34) :: B, _⟩ _ _) ((op_call (js := [0, 0]) ld cl39 (sim_wire_Reader_Number k (8 : Int) true true v_31 gb_32 go_33 gc_34 (v_42, x_43) hv_v_42) .func (.cons (.tmp (hl hd 0 70 rfl)) (.cons .cI .nil)) rfl).post (fun _ => Imp.refl))⟩)) ?_
      refine dS 3 (fun γ ρ B hb hd => op_move lb (.tmp (hb 0 _ rfl))) ?_
      refine dS 4 (fun γ ρ B hb hd => op_cmpU lb (.tmp (hl hd 1 71 rfl)) (.tmp (hl hd 2 72 rfl)) (congrArg some hv_v_44)) ?_
      refine dS 5 (fun γ ρ B hb hd => op_move lb (.tmp (hl hd 3 73 rfl))) ?_
      refine DSteps.cons (j := 6) rfl (fun _ => rfl) (.run (fun γ ρ B hb hd => ⟨.yes rfl (ltB rfl) (hl hd 4 74 rfl) hc12, OpStep.at ⟨ρ, B, _⟩ (setO ⟨ρ, B, _⟩ _ _) (op_move lb (.tmp (hb 15 _ rfl)))⟩)) ?_
      refine DSteps.cons (j := 7) rfl (fun _ => rfl) (.run (fun γ ρ B hb hd => ⟨.yes rfl (ltB rfl) (hl hd 4 74 rfl) hc12, OpStep.at ⟨ρ, (cvar gb_32 r_wire_Reader x_43) :: B, _⟩ (setO ⟨ρ, (cvar gb_32 r_wire_Reader x_46) :: B, _⟩ _ _) ((op_call (js := [0]) ld cl26 (sim_wire_Reader_Blob'2 k x_43 gb_32 (v_45, x_46) hv_v_45) .func (.cons (.tmp (hl hd 5 75 rfl)) .nil) rfl).post (fun _ => Imp.refl))⟩)) ?_
      refine DSteps.cons (j := 8) rfl (fun _ => rfl) (.run (fun γ ρ B hb hd => ⟨.yes rfl (ltB rfl) (hl hd 4 74 rfl) hc12, OpStep.at ⟨ρ, B, _⟩ (setO ⟨ρ, B, _⟩ _ _) (op_convBS lb tu23 tu5 tu9 (.tmp (hl hd 6 76 rfl)))⟩)) ?_
      refine DSteps.cons (j := 9) rfl (fun _ => rfl) (.run (fun γ ρ B hb hd => ⟨.yes rfl (ltB rfl) (hl hd 4 74 rfl) hc12, OpStep.at ⟨ρ, B, _⟩ (setO ⟨ρ, B, _⟩ _ _) (op_move lb (.tmp (hb 3 _ rfl)))⟩)) ?_
      refine DSteps.cons (j := 10) rfl (fun _ => rfl) (.run (fun γ ρ B hb hd => ⟨.yes rfl (ltB rfl) (hl hd 4 74 rfl) hc12, OpStep.at ⟨ρ, B, _⟩ (setO ⟨ρ, B, _⟩ _ _) (op_convBS lb tu23 tu5 tu9 (.tmp (hl hd 8 78 rfl)))⟩)) ?_
      refine DSteps.cons (j := 11) rfl (fun _ => rfl) (.run (fun γ ρ B hb hd => ⟨.yes rfl (ltB rfl) (hl hd 4 74 rfl) hc12, OpStep.at ⟨ρ, B, _⟩ (setO ⟨ρ, B, _⟩ _ _) (op_cmpS lb (.tmp (hl hd 7 77 rfl)) (.tmp (hl hd 9 79 rfl)) (congrArg some hv_v_47))⟩)) ?_
      refine dS 12 (fun γ ρ B hb hd => op_pickF lb (.tmp (hl hd 4 74 rfl)) hc12 (.tmp (hl hd 10 80 rfl))) ?_
      refine dS 13 (fun γ ρ B hb hd => op_move lb (.tmp (hl hd 11 81 rfl))) ?_
      refine DSteps.cons (j := 14) rfl (fun _ => rfl) (.run (fun γ ρ B hb hd => ⟨.yes rfl (ltB rfl) (hl hd 12 82 rfl) hc14, OpStep.at ⟨ρ, B, _⟩ (setO ⟨ρ, B, _⟩ _ _) (op_move lb (.tmp (hb 15 _ rfl)))⟩)) ?_
      refine DSteps.cons (j := 15) rfl (fun _ => rfl) (.run (fun γ ρ B hb hd => ⟨.yes rfl (ltB rfl) (hl hd 12 82 rfl) hc14, OpStep.at ⟨ρ, (cvar gb_32 r_wire_Reader x_46) :: B, _⟩ (setO ⟨ρ, (cvar gb_32 r_wire_Reader x_49) :: B, _⟩ _ _) ((op_call (js := [0]) ld cl27 (sim_wire_Reader_Dot'2 k x_46 gb_32 (v_48, x_49) hv_v_48) .func (.cons (.tmp (hl hd 13 83 rfl)) .nil) rfl).post (fun _ => Imp.refl))⟩)) ?_
      refine DSteps.cons (j := 16) rfl (fun _ => rfl) (.run (fun γ ρ B hb hd => ⟨.yes rfl (ltB rfl) (hl hd 12 82 rfl) hc14, OpStep.at ⟨ρ, (cvar gb_5 r_api_Dot a_2) :: B, _⟩ (setO ⟨ρ, (cvar gb_5 r_api_Dot a_2) :: B, _⟩ _ _) (op_loadA (j := 0) lb tA48 (.tmp (hb 5 _ rfl)) rfl (Comp.self r_api_Dot a_2) rfl)⟩)) ?_
      refine DSteps.cons (j := 17) rfl (fun _ => rfl) (.run (fun γ ρ B hb hd => ⟨.yes rfl (ltB rfl) (hl hd 12 82 rfl) hc14, OpStep.at ⟨ρ, B, _⟩ (setO ⟨ρ, B, _⟩ _ _) (op_neA lb qa48 (by decide) ng48 (.tmp (hl hd 14 84 rfl)) (.tmp (hl hd 15 85 rfl)) hv_v_50)⟩)) ?_
      refine dS 18 (fun γ ρ B hb hd => op_pickF lb (.tmp (hl hd 12 82 rfl)) hc14 (.tmp (hl hd 16 86 rfl))) ?_
      refine dS 19 (fun γ ρ B hb hd => op_move lb (.tmp (hl hd 17 87 rfl))) ?_
      refine DSteps.cons (j := 20) rfl (fun _ => rfl) (.run (fun γ ρ B hb hd => ⟨.yes rfl (ltB rfl) (hl hd 18 88 rfl) hc16, OpStep.at ⟨ρ, B, _⟩ (setO ⟨ρ, B, _⟩ _ _) (op_move lb (.tmp (hb 15 _ rfl)))⟩)) ?_
      refine DSteps.cons (j := 21) rfl (fun _ => rfl) (.run (fun γ ρ B hb hd => ⟨.yes rfl (ltB rfl) (hl hd 18 88 rfl) hc16, OpStep.at ⟨ρ, (cvar gb_32 r_wire_Reader x_49) :: B, _⟩ (setO ⟨ρ, (cvar gb_32 r_wire_Reader x_52) :: B, _⟩ _ _) ((op_call (js := [0]) ld cl28 (sim_wire_Reader_Vector'2 k x_49 gb_32 (v_51, x_52) hv_v_51) .func (.cons (.tmp (hl hd 19 89 rfl)) .nil) rfl).post (fun _ => Imp.refl))⟩)) ?_
      refine DSteps.cons (j := 22) rfl (fun _ => rfl) (.run (fun γ ρ B hb hd => ⟨.yes rfl (ltB rfl) (hl hd 18 88 rfl) hc16, OpStep.at ⟨ρ, (cvar gb_6 (rV 16 (rU UInt64)) a_3) :: B, _⟩ (setO ⟨ρ, (cvar gb_6 (rV 16 (rU UInt64)) a_3) :: B, _⟩ _ _) (op_loadA (j := 0) lb tA50 (.tmp (hb 6 _ rfl)) rfl (Comp.self (rV 16 (rU UInt64)) a_3) rfl)⟩)) ?_
      refine DSteps.cons (j := 23) rfl (fun _ => rfl) (.run (fun γ ρ B hb hd => ⟨.yes rfl (ltB rfl) (hl hd 18 88 rfl) hc16, OpStep.at ⟨ρ, B, _⟩ (setO ⟨ρ, B, _⟩ _ _) (op_neA lb qa50 (by decide) ng50 (.tmp (hl hd 20 90 rfl)) (.tmp (hl hd 21 91 rfl)) hv_v_53)⟩)) ?_
      refine dS 24 (fun γ ρ B hb hd => op_pickF lb (.tmp (hl hd 18 88 rfl)) hc16 (.tmp (hl hd 22 92 rfl))) ?_
      refine dS 25 (fun γ ρ B hb hd => op_move lb (.tmp (hl hd 23 93 rfl))) ?_
      refine DSteps.cons (j := 26) rfl (fun _ => rfl) (.run (fun γ ρ B hb hd => ⟨.yes rfl (ltB rfl) (hl hd 24 94 rfl) hc18, OpStep.at ⟨ρ, B, _⟩ (setO ⟨ρ, B, _⟩ _ _) (op_move lb (.tmp (hb 15 _ rfl)))⟩)) ?_
      refine DSteps.cons (j := 27) rfl (fun _ => rfl) (.run (fun γ ρ B hb hd => ⟨.yes rfl (ltB rfl) (hl hd 24 94 rfl) hc18, OpStep.at ⟨ρ, B, _⟩ (setO ⟨ρ, B, _⟩ _ _) (op_move lb (.tmp (hb 3 _ rfl)))⟩)) ?_
      refine DSteps.cons (j := 28) rfl (fun _ => rfl) (.run (fun γ ρ B hb hd => ⟨.yes rfl (ltB rfl) (hl hd 24 94 rfl) hc18, OpStep.at ⟨ρ, B, _⟩ (setO ⟨ρ, B, _⟩ _ _) (op_lenL lb tu23 (.tmp (hl hd 26 96 rfl)))⟩)) ?_
      refine DSteps.cons (j := 29) rfl (fun _ => rfl) (.run (fun γ ρ B hb hd => ⟨.yes rfl (ltB rfl) (hl hd 24 94 rfl) hc18, OpStep.at ⟨ρ, (cvar gb_32 r_wire_Reader x_52) :: B, _⟩ (setO ⟨ρ, (cvar gb_32 r_wire_Reader x_55) :: B, _⟩ _ _) ((op_call (js := [0]) ld cl40 (sim_wire_Reader_Bytes k (List.length a_4 : Int) x_52 gb_32 (v_54, x_55) hv_v_54) .func (.cons (.tmp (hl hd 25 95 rfl)) (.cons (.tmp (hl hd 27 97 rfl)) .nil)) rfl).post (fun _ => Imp.refl))⟩)) ?_
      refine DSteps.cons (j := 30) rfl (fun _ => rfl) (.run (fun γ ρ B hb hd => ⟨.yes rfl (ltB rfl) (hl hd 24 94 rfl) hc18, OpStep.at ⟨ρ, B, _⟩ (setO ⟨ρ, B, _⟩ _ _) (op_convBS lb tu23 tu5 tu9 (.tmp (hl hd 28 98 rfl)))⟩)) ?_
      refine DSteps.cons (j := 31) rfl (fun _ => rfl) (.run (fun γ ρ B hb hd => ⟨.yes rfl (ltB rfl) (hl hd 24 94 rfl) hc18, OpStep.at ⟨ρ, B, _⟩ (setO ⟨ρ, B, _⟩ _ _) (op_move lb (.tmp (hb 3 _ rfl)))⟩)) ?_
      refine DSteps.cons (j := 32) rfl (fun _ => rfl) (.run (fun γ ρ B hb hd => ⟨.yes rfl (ltB rfl) (hl hd 24 94 rfl) hc18, OpStep.at ⟨ρ, B, _⟩ (setO ⟨ρ, B, _⟩ _ _) (op_convBS lb tu23 tu5 tu9 (.tmp (hl hd 30 100 rfl)))⟩)) ?_
      refine DSteps.cons (j := 33) rfl (fun _ => rfl) (.run (fun γ ρ B hb hd => ⟨.yes rfl (ltB rfl) (hl hd 24 94 rfl) hc18, OpStep.at ⟨ρ, B, _⟩ (setO ⟨ρ, B, _⟩ _ _) (op_cmpS lb (.tmp (hl hd 29 99 rfl)) (.tmp (hl hd 31 101 rfl)) (congrArg some hv_v_56))⟩)) ?_
      refine dS 34 (fun γ ρ B hb hd => op_pickF lb (.tmp (hl hd 24 94 rfl)) hc18 (.tmp (hl hd 32 102 rfl))) ?_
      refine dS 35 (fun γ ρ B hb hd => op_move lb (.tmp (hl hd 33 103 rfl))) ?_
      refine DSteps.cons (j := 36) rfl (fun _ => rfl) (.skip (fun γ ρ B hb hd => ⟨.no rfl (ltB rfl) (hl hd 34 104 rfl) hc20, rfl, rfl, rfl, fun d h => by cases h; exact ltB rfl⟩)) ?_
      refine DSteps.cons (j := 37) rfl (fun _ => rfl) (.skip (fun γ ρ B hb hd => ⟨.no rfl (ltB rfl) (hl hd 34 104 rfl) hc20, rfl, rfl, rfl, fun d h => by cases h; exact ltB rfl⟩)) ?_
      refine DSteps.cons (j := 38) rfl (fun _ => rfl) (.skip (fun γ ρ B hb hd => ⟨.no rfl (ltB rfl) (hl hd 34 104 rfl) hc20, rfl, rfl, rfl, fun d h => by cases h; exact ltB rfl⟩)) ?_
      refine DSteps.cons (j := 39) rfl (fun _ => rfl) (.skip (fun γ ρ B hb hd => ⟨.no rfl (ltB rfl) (hl hd 34 104 rfl) hc20, rfl, rfl, rfl, fun d h => by cases h; exact ltB rfl⟩)) ?_
      refine dS 40 (fun γ ρ B hb hd => op_pickT lb (.tmp (hl hd 34 104 rfl)) hc20 .cB) ?_
      exact DSteps.nil)
                           (by decide +kernel) (fun _ => rfl) rfl (fun _ => rfl) (fun _ => rfl) rfl (by decide) (by decide) (by decide +kernel) (fun _ d h => by cases h)
                           (ρ' := fun γ => [(3, ov (S (rL (rU UInt8)) a_4)), (15, ov (PTR gb_32 0)), (109, ov (S rB true))])
                           (X' := fun γ => [cvar gb_5 r_api_Dot a_2, cvar gb_6 (rV 16 (rU UInt64)) a_3, cown go_33 (rU UInt8) v_31 (List.length v_31) gc_34, cvar gb_32 r_wire_Reader x_55])
                           (fun γ ρ hb hd => (.cons (hb 3 _ rfl (by decide)) (.cons (hb 15 _ rfl (by decide)) (.cons (hdq hd 39 109 rfl) .nil)))) (fun _ => rfl) (fun γ => ?_)
                       refine JQ.at ⟨[(3, ov (S (rL (rU UInt8)) a_4)), (15, ov (PTR gb_32 0)), (109, ov (S rB true))], [cvar gb_5 r_api_Dot a_2, cvar gb_6 (rV 16 (rU UInt64)) a_3, cown go_33 (rU UInt8) v_31 (List.length v_31) gc_34, cvar gb_32 r_wire_Reader x_55], []⟩ ?_
                       replace hx10 := Option.some.inj hx10
                       replace hx10 := Prod.mk.inj hx10
                       obtain ⟨hx10_a, hx10⟩ := hx10
                       first | subst hx10_a | clear hx10_a
                       first | subst hx10 | clear hx10
                       exact JQ.join () (Imp.norm (js := [3]) rfl (.cons rfl (.cons rfl (.cons rfl .nil))))
                     · replace hx10 := bnd_inv hx10
                       obtain ⟨v_57, hv_v_57, hx10⟩ := hx10
                       replace hx10 := bnd_inv hx10
                       obtain ⟨_, hv_u_58, hx10⟩ := hx10
                       replace hx10 := lt1_inv hx10
                       obtain ⟨v_59, hv_v_59, hx10⟩ := hx10
                       refine JC.anyE (kl := []) (kk := 0) (base := [(0, ov (S (rU UInt64) t_1)), (3, ov (S (rL (rU UInt8)) a_4)), (5, ov (PTR gb_5 0)), (6, ov (PTR gb_6 0)), (15, ov (PTR gb_32 0))])
                           (fs := fun γ => [⟨some 70, ov (PTR gb_32 0)⟩, ⟨some 71, ov (S (rU UInt64) v_42)⟩, ⟨some 72, ov (S (rU UInt64) t_1)⟩, ⟨some 73, ov (S rB v_44)⟩, ⟨some 74, ov (S rB v_44)⟩, ⟨some 75, ov (PTR gb_32 0)⟩, ⟨some 76, ov (S (rL (rU UInt8)) v_45)⟩, ⟨some 77, ov (S rS v_45)⟩, ⟨some 78, ov (S (rL (rU UInt8)) a_4)⟩, ⟨some 79, ov (S rS a_4)⟩, ⟨some 80, ov (S rB v_47)⟩, ⟨some 81, ov (S rB v_47)⟩, ⟨some 82, ov (S rB v_47)⟩, ⟨some 83, ov (PTR gb_32 0)⟩, ⟨some 84, ov (A r_api_Dot v_48)⟩, ⟨some 85, ov (A r_api_Dot a_2)⟩, ⟨some 86, ov (S rB v_50)⟩, ⟨some 87, ov (S rB v_50)⟩, ⟨some 88, ov (S rB v_50)⟩, ⟨some 89, ov (PTR gb_32 0)⟩, ⟨some 90, ov (A (rV 16 (rU UInt64)) v_51)⟩, ⟨some 91, ov (A (rV 16 (rU UInt64)) a_3)⟩, ⟨some 92, ov (S rB v_53)⟩, ⟨some 93, ov (S rB v_53)⟩, ⟨some 94, ov (S rB v_53)⟩, ⟨some 95, ov (PTR gb_32 0)⟩, ⟨some 96, ov (S (rL (rU UInt8)) a_4)⟩, ⟨some 97, ov (S (rI .i64) (List.length a_4 : Int))⟩, ⟨some 98, ov (S (rL (rU UInt8)) v_54)⟩, ⟨some 99, ov (S rS v_54)⟩, ⟨some 100, ov (S (rL (rU UInt8)) a_4)⟩, ⟨some 101, ov (S rS a_4)⟩, ⟨some 102, ov (S rB v_56)⟩, ⟨some 103, ov (S rB v_56)⟩, ⟨some 104, ov (S rB v_56)⟩, ⟨some 105, ov (PTR gb_32 0)⟩, ⟨some 106, ov (S (rI .i64) v_57)⟩, ⟨some 107, ov (S (rI .i64) v_57)⟩, ⟨some 108, ov (S rB v_59)⟩, ⟨some 109, ov (S rB v_59)⟩])
                           (rs := fun γ => [⟨cvar gb_5 r_api_Dot a_2, none, none, [15]⟩, ⟨cvar gb_6 (rV 16 (rU UInt64)) a_3, none, none, [21]⟩, ⟨cvar gb_32 (rP (rW (HDR go_33 0 (List.length v_31) gc_34)) (rP rB (rP rB r0))) ((), (true, (true, ()))), none, (some 1), []⟩, ⟨cown go_33 (rU UInt8) v_31 0 gc_34, none, (some 1), []⟩, ⟨cvar gb_32 r_wire_Reader x_43, (some 1), (some 6), []⟩, ⟨cown go_33 (rU UInt8) v_31 (List.length v_31) gc_34, (some 1), none, []⟩, ⟨cvar gb_32 r_wire_Reader x_46, (some 6), (some 14), []⟩, ⟨cvar gb_32 r_wire_Reader x_49, (some 14), (some 20), []⟩, ⟨cvar gb_32 r_wire_Reader x_52, (some 20), (some 28), []⟩, ⟨cvar gb_32 r_wire_Reader x_55, (some 28), (some 36), []⟩, ⟨cvar gb_32 r_wire_Reader x_55, (some 36), none, []⟩])
                           (ds := [70, 71, 72, 73, 74, 75, 76, 77, 78, 79, 80, 81, 82, 83, 84, 85, 86, 87, 88, 89, 90, 91, 92, 93, 94, 95, 96, 97, 98, 99, 100, 101, 102, 103, 104, 105, 106, 107, 108, 109]) (bs := [0, 3, 5, 6, 15]) (afts := [[], [], [], [], [], [], [], [], [], [], [], [], [], [], [], [], [], [], [], [], [], [], [], [], [], [], [], [], [], [], [], [], [], [], [], [], [], [], [], []]) (js := [0, 0, 0, 0]) mixed (.cons rfl (.cons rfl (.cons rfl (.cons rfl (.cons rfl .nil))))) (fun _ => rfl)
                           (by
      refine dS 1 (fun γ ρ B hb hd => op_move lb (.tmp (hb 15 _ rfl))) ?_
      refine DSteps.cons (j := 2) rfl (fun _ => rfl) (.run (fun γ ρ B hb hd => ⟨.none, OpStep.at ⟨ρ, (cvar gb_32 (rP (rW (HDR go_33 0 (List.length v_31) gc_34)) (rP rB (rP rB r0))) ((), (true, (true, ())))) :: (cown go_33 (rU UInt8) v_31 0 gc_34) :: B, _⟩ (setO ⟨ρ, (cvar gb_32 r_wire_Reader x_43) :: (cown go_33 (rU UInt8) v_31 (List.length v_31) gc_34) :: B, _⟩ _ _) ((op_call (js := [0, 0]) ld cl39 (sim_wire_Reader_Number k (8 : Int) true true v_31 gb_32 go_33 gc_34 (v_42, x_43) hv_v_42) .func (.cons (.tmp (hl hd 0 70 rfl)) (.cons .cI .nil)) rfl).post (fun _ => Imp.refl))⟩)) ?_
      refine dS 3 (fun γ ρ B hb hd => op_move lb (.tmp (hb 0 _ rfl))) ?_
      refine dS 4 (fun γ ρ B hb hd => op_cmpU lb (.tmp (hl hd 1 71 rfl)) (.tmp (hl hd 2 72 rfl)) (congrArg some hv_v_44)) ?_
      refine dS 5 (fun γ ρ B hb hd => op_move lb (.tmp (hl hd 3 73 rfl))) ?_
      refine DSteps.cons (j := 6) rfl (fun _ => rfl) (.run (fun γ ρ B hb hd => ⟨.yes rfl (ltB rfl) (hl hd 4 74 rfl) hc12, OpStep.at ⟨ρ, B, _⟩ (setO ⟨ρ, B, _⟩ _ _) (op_move lb (.tmp (hb 15 _ rfl)))⟩)) ?_
      refine DSteps.cons (j := 7) rfl (fun _ => rfl) (.run (fun γ ρ B hb hd => ⟨.yes rfl (ltB rfl) (hl hd 4 74 rfl) hc12, OpStep.at ⟨ρ, (cvar gb_32 r_wire_Reader x_43) :: B, _⟩ (setO ⟨ρ, (cvar gb_32 r_wire_Reader x_46) :: B, _⟩ _ _) ((op_call (js := [0]) ld cl26 (sim_wire_Reader_Blob'2 k x_43 gb_32 (v_45, x_46) hv_v_45) .func (.cons (.tmp (hl hd 5 75 rfl)) .nil) rfl).post (fun _ => Imp.refl))⟩)) ?_
      refine DSteps.cons (j := 8) rfl (fun _ => rfl) (.run (fun γ ρ B hb hd => ⟨.yes rfl (ltB rfl) (hl hd 4 74 rfl) hc12, OpStep.at ⟨ρ, B, _⟩ (setO ⟨ρ, B, _⟩ _ _) (op_convBS lb tu23 tu5 tu9 (.tmp (hl hd 6 76 rfl)))⟩)) ?_
      refine DSteps.cons (j := 9) rfl (fun _ => rfl) (.run (fun γ ρ B hb hd => ⟨.yes rfl (ltB rfl) (hl hd 4 74 rfl) hc12, OpStep.at ⟨ρ, B, _⟩ (setO ⟨ρ, B, _⟩ _ _) (op_move lb (.tmp (hb 3 _ rfl)))⟩)) ?_
      refine DSteps.cons (j := 10) rfl (fun _ => rfl) (.run (fun γ ρ B hb hd => ⟨.yes rfl (ltB rfl) (hl hd 4 74 rfl) hc12, OpStep.at ⟨ρ, B, _⟩ (setO ⟨ρ, B, _⟩ _ _) (op_convBS lb tu23 tu5 tu9 (.tmp (hl hd 8 78 rfl)))⟩)) ?_
      refine DSteps.cons (j := 11) rfl (fun _ => rfl) (.run (fun γ ρ B hb hd => ⟨.yes rfl (ltB rfl) (hl hd 4 74 rfl) hc12, OpStep.at ⟨ρ, B, _⟩ (setO ⟨ρ, B, _⟩ _ _) (op_cmpS lb (.tmp (hl hd 7 77 rfl)) (.tmp (hl hd 9 79 rfl)) (congrArg some hv_v_47))⟩)) ?_
      refine dS 12 (fun γ ρ B hb hd => op_pickF lb (.tmp (hl hd 4 74 rfl)) hc12 (.tmp (hl hd 10 80 rfl))) ?_
      refine dS 13 (fun γ ρ B hb hd => op_move lb (.tmp (hl hd 11 81 rfl))) ?_
      refine DSteps.cons (j := 14) rfl (fun _ => rfl) (.run (fun γ ρ B hb hd => ⟨.yes rfl (ltB rfl) (hl hd 12 82 rfl) hc14, OpStep.at ⟨ρ, B, _⟩ (setO ⟨ρ, B, _⟩ _ _) (op_move lb (.tmp (hb 15 _ rfl)))⟩)) ?_
      refine DSteps.cons (j := 15) rfl (fun _ => rfl) (.run (fun γ ρ B hb hd => ⟨.yes rfl (ltB rfl) (hl hd 12 82 rfl) hc14, OpStep.at ⟨ρ, (cvar gb_32 r_wire_Reader x_46) :: B, _⟩ (setO ⟨ρ, (cvar gb_32 r_wire_Reader x_49) :: B, _⟩ _ _) ((op_call (js := [0]) ld cl27 (sim_wire_Reader_Dot'2 k x_46 gb_32 (v_48, x_49) hv_v_48) .func (.cons (.tmp (hl hd 13 83 rfl)) .nil) rfl).post (fun _ => Imp.refl))⟩)) ?_
      refine DSteps.cons (j := 16) rfl (fun _ => rfl) (.run (fun γ ρ B hb hd => ⟨.yes rfl (ltB rfl) (hl hd 12 82 rfl) hc14, OpStep.at ⟨ρ, (cvar gb_5 r_api_Dot a_2) :: B, _⟩ (setO ⟨ρ, (cvar gb_5 r_api_Dot a_2) :: B, _⟩ _ _) (op_loadA (j := 0) lb tA48 (.tmp (hb 5 _ rfl)) rfl (Comp.self r_api_Dot a_2) rfl)⟩)) ?_
      refine DSteps.cons (j := 17) rfl (fun _ => rfl) (.run (fun γ ρ B hb hd => ⟨.yes rfl (ltB rfl) (hl hd 12 82 rfl) hc14, OpStep.at ⟨ρ, B, _⟩ (setO ⟨ρ, B, _⟩ _ _) (op_neA lb qa48 (by decide) ng48 (.tmp (hl hd 14 84 rfl)) (.tmp (hl hd 15 85 rfl)) hv_v_50)⟩)) ?_
      refine dS 18 (fun γ ρ B hb hd => op_pickF lb (.tmp (hl hd 12 82 rfl)) hc14 (.tmp (hl hd 16 86 rfl))) ?_
      refine dS 19 (fun γ ρ B hb hd => op_move lb (.tmp (hl hd 17 87 rfl))) ?_
      refine DSteps.cons (j := 20) rfl (fun _ => rfl) (.run (fun γ ρ B hb hd => ⟨.yes rfl (ltB rfl) (hl hd 18 88 rfl) hc16, OpStep.at ⟨ρ, B, _⟩ (setO ⟨ρ, B, _⟩ _ _) (op_move lb (.tmp (hb 15 _ rfl)))⟩)) ?_
      refine DSteps.cons (j := 21) rfl (fun _ => rfl) (.run (fun γ ρ B hb hd => ⟨.yes rfl (ltB rfl) (hl hd 18 88 rfl) hc16, OpStep.at ⟨ρ, (cvar gb_32 r_wire_Reader x_49) :: B, _⟩ (setO ⟨ρ, (cvar gb_32 r_wire_Reader x_52) :: B, _⟩ _ _) ((op_call (js := [0]) ld cl28 (sim_wire_Reader_Vector'2 k x_49 gb_32 (v_51, x_52) hv_v_51) .func (.cons (.tmp (hl hd 19 89 rfl)) .nil) rfl).post (fun _ => Imp.refl))⟩)) ?_
      refine DSteps.cons (j := 22) rfl (fun _ => rfl) (.run (fun γ ρ B hb hd => ⟨.yes rfl (ltB rfl) (hl hd 18 88 rfl) hc16, OpStep.at ⟨ρ, (cvar gb_6 (rV 16 (rU UInt64)) a_3) :: B, _⟩ (setO ⟨ρ, (cvar gb_6 (rV 16 (rU UInt64)) a_3) :: B, _⟩ _ _) (op_loadA (j := 0) lb tA50 (.tmp (hb 6 _ rfl)) rfl (Comp.self (rV 16 (rU UInt64)) a_3) rfl)⟩)) ?_
      refine DSteps.cons (j := 23) rfl (fun _ => rfl) (.run (fun γ ρ B hb hd => ⟨.yes rfl (ltB rfl) (hl hd 18 88 rfl) hc16, OpStep.at ⟨ρ, B, _⟩ (setO ⟨ρ, B, _⟩ _ _) (op_neA lb qa50 (by decide) ng50 (.tmp (hl hd 20 90 rfl)) (.tmp (hl hd 21 91 rfl)) hv_v_53)⟩)) ?_
      refine dS 24 (fun γ ρ B hb hd => op_pickF lb (.tmp (hl hd 18 88 rfl)) hc16 (.tmp (hl hd 22 92 rfl))) ?_
      refine dS 25 (fun γ ρ B hb hd => op_move lb (.tmp (hl hd 23 93 rfl))) ?_
      refine DSteps.cons (j := 26) rfl (fun _ => rfl) (.run (fun γ ρ B hb hd => ⟨.yes rfl (ltB rfl) (hl hd 24 94 rfl) hc18, OpStep.at ⟨ρ, B, _⟩ (setO ⟨ρ, B, _⟩ _ _) (op_move lb (.tmp (hb 15 _ rfl)))⟩)) ?_
      refine DSteps.cons (j := 27) rfl (fun _ => rfl) (.run (fun γ ρ B hb hd => ⟨.yes rfl (ltB rfl) (hl hd 24 94 rfl) hc18, OpStep.at ⟨ρ, B, _⟩ (setO ⟨ρ, B, _⟩ _ _) (op_move lb (.tmp (hb 3 _ rfl)))⟩)) ?_
      refine DSteps.cons (j := 28) rfl (fun _ => rfl) (.run (fun γ ρ B hb hd => ⟨.yes rfl (ltB rfl) (hl hd 24 94 rfl) hc18, OpStep.at ⟨ρ, B, _⟩ (setO ⟨ρ, B, _⟩ _ _) (op_lenL lb tu23 (.tmp (hl hd 26 96 rfl)))⟩)) ?_
      refine DSteps.cons (j := 29) rfl (fun _ => rfl) (.run (fun γ ρ B hb hd => ⟨.yes rfl (ltB rfl) (hl hd 24 94 rfl) hc18, OpStep.at ⟨ρ, (cvar gb_32 r_wire_Reader x_52) :: B, _⟩ (setO ⟨ρ, (cvar gb_32 r_wire_Reader x_55) :: B, _⟩ _ _) ((op_call (js := [0]) ld cl40 (sim_wire_Reader_Bytes k (List.length a_4 : Int) x_52 gb_32 (v_54, x_55) hv_v_54) .func (.cons (.tmp (hl hd 25 95 rfl)) (.cons (.tmp (hl hd 27 97 rfl)) .nil)) rfl).post (fun _ => Imp.refl))⟩)) ?_
      refine DSteps.cons (j := 30) rfl (fun _ => rfl) (.run (fun γ ρ B hb hd => ⟨.yes rfl (ltB rfl) (hl hd 24 94 rfl) hc18, OpStep.at ⟨ρ, B, _⟩ (setO ⟨ρ, B, _⟩ _ _) (op_convBS lb tu23 tu5 tu9 (.tmp (hl hd 28 98 rfl)))⟩)) ?_
      refine DSteps.cons (j := 31) rfl (fun _ => rfl) (.run (fun γ ρ B hb hd => ⟨.yes rfl (ltB rfl) (hl hd 24 94 rfl) hc18, OpStep.at ⟨ρ, B, _⟩ (setO ⟨ρ, B, _⟩ _ _) (op_move lb (.tmp (hb 3 _ rfl)))⟩)) ?_
      refine DSteps.cons (j := 32) rfl (fun _ => rfl) (.run (fun γ ρ B hb hd => ⟨.yes rfl (ltB rfl) (hl hd 24 94 rfl) hc18, OpStep.at ⟨ρ, B, _⟩ (setO ⟨ρ, B, _⟩ _ _) (op_convBS lb tu23 tu5 tu9 (.tmp (hl hd 30 100 rfl)))⟩)) ?_
      refine DSteps.cons (j := 33) rfl (fun _ => rfl) (.run (fun γ ρ B hb hd => ⟨.yes rfl (ltB rfl) (hl hd 24 94 rfl) hc18, OpStep.at ⟨ρ, B, _⟩ (setO ⟨ρ, B, _⟩ _ _) (op_cmpS lb (.tmp (hl hd 29 99 rfl)) (.tmp (hl hd 31 101 rfl)) (congrArg some hv_v_56))⟩)) ?_
      refine dS 34 (fun γ ρ B hb hd => op_pickF lb (.tmp (hl hd 24 94 rfl)) hc18 (.tmp (hl hd 32 102 rfl))) ?_
      refine dS 35 (fun γ ρ B hb hd => op_move lb (.tmp (hl hd 33 103 rfl))) ?_
      refine DSteps.cons (j := 36) rfl (fun _ => rfl) (.run (fun γ ρ B hb hd => ⟨.yes rfl (ltB rfl) (hl hd 34 104 rfl) hc20, OpStep.at ⟨ρ, B, _⟩ (setO ⟨ρ, B, _⟩ _ _) (op_move lb (.tmp (hb 15 _ rfl)))⟩)) ?_
      refine DSteps.cons (j := 37) rfl (fun _ => rfl) (.run (fun γ ρ B hb hd => ⟨.yes rfl (ltB rfl) (hl hd 34 104 rfl) hc20, OpStep.at ⟨ρ, (cvar gb_32 r_wire_Reader x_55) :: B, _⟩ (setO ⟨ρ, (cvar gb_32 r_wire_Reader x_55) :: B, _⟩ _ _) ((op_call (js := [0]) ld cl21 (sim_wire_Reader_End k x_55 gb_32 v_57 hv_v_57) .func (.cons (.tmp (hl hd 35 105 rfl)) .nil) rfl).post (fun _ => Imp.refl))⟩)) ?_
      refine DSteps.cons (j := 38) rfl (fun _ => rfl) (.run (fun γ ρ B hb hd => ⟨.yes rfl (ltB rfl) (hl hd 34 104 rfl) hc20, OpStep.at ⟨ρ, B, _⟩ (setO ⟨ρ, B, _⟩ _ _) ((op_call (js := []) ld cl13 (sim_law01_num k v_57 () hv_u_58) .func (.cons (.tmp (hl hd 36 106 rfl)) .nil) rfl).post (fun _ => Imp.refl))⟩)) ?_
      refine DSteps.cons (j := 39) rfl (fun _ => rfl) (.run (fun γ ρ B hb hd => ⟨.yes rfl (ltB rfl) (hl hd 34 104 rfl) hc20, OpStep.at ⟨ρ, B, _⟩ (setO ⟨ρ, B, _⟩ _ _) (op_cmpI lb (.tmp (hl hd 37 107 rfl)) .cI (congrArg some hv_v_59))⟩)) ?_
      refine dS 40 (fun γ ρ B hb hd => op_pickF lb (.tmp (hl hd 34 104 rfl)) hc20 (.tmp (hl hd 38 108 rfl))) ?_
      exact DSteps.nil)
                           (by decide +kernel) (fun _ => rfl) rfl (fun _ => rfl) (fun _ => rfl) rfl (by decide) (by decide) (by decide +kernel) (fun _ d h => by cases h)
                           (ρ' := fun γ => [(3, ov (S (rL (rU UInt8)) a_4)), (15, ov (PTR gb_32 0)), (109, ov (S rB v_59))])
                           (X' := fun γ => [cvar gb_5 r_api_Dot a_2, cvar gb_6 (rV 16 (rU UInt64)) a_3, cown go_33 (rU UInt8) v_31 (List.length v_31) gc_34, cvar gb_32 r_wire_Reader x_55])
                           (fun γ ρ hb hd => (.cons (hb 3 _ rfl (by decide)) (.cons (hb 15 _ rfl (by decide)) (.cons (hdq hd 39 109 rfl) .nil)))) (fun _ => rfl) (fun γ => ?_)
                       refine JQ.at ⟨[(3, ov (S (rL (rU UInt8)) a_4)), (15, ov (PTR gb_32 0)), (109, ov (S rB v_59))], [cvar gb_5 r_api_Dot a_2, cvar gb_6 (rV 16 (rU UInt64)) a_3, cown go_33 (rU UInt8) v_31 (List.length v_31) gc_34, cvar gb_32 r_wire_Reader x_55], []⟩ ?_
                       replace hx10 := Option.some.inj hx10
                       replace hx10 := Prod.mk.inj hx10
                       obtain ⟨hx10_a, hx10⟩ := hx10
                       first | subst hx10_a | clear hx10_a
                       first | subst hx10 | clear hx10
                       exact JQ.join () (Imp.norm (js := [3]) rfl (.cons rfl (.cons rfl (.cons rfl .nil))))
       · refine JC.region ?_
         refine jc (op_move lb (.tmp rfl)) ?_
         refine jc (op_nilP (neg := false) lb tu36 (.tmp rfl) (HasO.const (p := PTO none) fun _ => rfl)) ?_
         refine jc (op_move lb (.tmp rfl)) ?_
         refine JL.run (.yes rfl (ltB rfl) rfl rfl) (op_move lb (.tmp rfl)) ?_
         replace hx8 := bnd_inv hx8
         obtain ⟨_, hv_u_35, hx8⟩ := hx8
         refine JL.runX (.yes rfl (ltB rfl) rfl rfl) (op_call (js := []) ld cl13 (sim_law01_num k v_14 () hv_u_35) .func (.cons (.tmp rfl) .nil) rfl) (fun _ => ?_)
         refine JL.run (.yes rfl (ltB rfl) rfl rfl) (op_move lb (.tmp rfl)) ?_
         replace hx8 := bnd_inv hx8
         obtain ⟨_, hv_u_36, hx8⟩ := hx8
         refine JL.runX (.yes rfl (ltB rfl) rfl rfl) (op_call (js := []) ld cl13 (sim_law01_num k v_18 () hv_u_36) .func (.cons (.tmp rfl) .nil) rfl) (fun _ => ?_)
         replace hx8 := lt1_inv hx8
         obtain ⟨v_37, hv_v_37, hx8⟩ := hx8
         refine JL.run (.yes rfl (ltB rfl) rfl rfl) (op_arI lb (.tmp rfl) (.tmp rfl) (congrArg some hv_v_37)) ?_
         refine JL.run (.yes rfl (ltB rfl) rfl rfl) (op_move lb (.tmp rfl)) ?_
         replace hx8 := bnd_inv hx8
         obtain ⟨_, hv_u_38, hx8⟩ := hx8
         refine JL.runX (.yes rfl (ltB rfl) rfl rfl) (op_call (js := []) ld cl13 (sim_law01_num k v_22 () hv_u_38) .func (.cons (.tmp rfl) .nil) rfl) (fun _ => ?_)
         replace hx8 := lt1_inv hx8
         obtain ⟨v_39, hv_v_39, hx8⟩ := hx8
         refine JL.run (.yes rfl (ltB rfl) rfl rfl) (op_arI lb (.tmp rfl) (.tmp rfl) (congrArg some hv_v_39)) ?_
         refine JL.sub ⟨[(0, ov (S (rU UInt64) t_1)), (3, ov (S (rL (rU UInt8)) a_4)), (5, ov (PTR gb_5 0)), (6, ov (PTR gb_6 0)), (15, ov (PTR gb_32 0)), (59, ov (S rB false)), (67, ov (S (rI .i64) v_39))], [cvar gb_32 (rP (rW (HDR go_33 0 (List.length v_31) gc_34)) (rP rB (rP rB r0))) ((), (true, (true, ()))), cown go_33 (rU UInt8) v_31 0 gc_34, cvar gb_5 r_api_Dot a_2, cvar gb_6 (rV 16 (rU UInt64)) a_3], []⟩ (.cons rfl (.cons rfl (.cons rfl (.cons rfl (.cons rfl (.cons rfl (.cons rfl .nil))))))) rfl rfl ?_
         replace hx8 := lt1_inv hx8
         obtain ⟨v_40, hv_v_40, hx8⟩ := hx8
         refine JL.run (.yes rfl (ltB rfl) rfl rfl) (op_cmpI lb (.tmp rfl) .cI (congrArg some hv_v_40)) ?_
         refine jc (op_pickF lb (.tmp rfl) rfl (.tmp rfl)) ?_
         refine JL.nil ?_
         replace hx8 := Option.some.inj hx8
         first | subst hx8 | clear hx8
         exact JQ.join () (Imp.norm (js := [2, 2, 0, 0]) rfl (.cons rfl (.cons rfl (.cons rfl (.cons rfl (.cons rfl (.cons rfl .nil)))))))
   · refine JC.region ?_
     refine jc (op_move lb (.tmp rfl)) ?_
     refine jc (op_lenL lb tu23 (.tmp rfl)) ?_
     replace hx2 := lt1_inv hx2
     obtain ⟨v_9, hv_v_9, hx2⟩ := hx2
     refine jc (op_cmpI lb (.tmp rfl) .cI (congrArg some hv_v_9)) ?_
     refine JL.sub ⟨[(0, ov (S (rU UInt64) t_1)), (3, ov (S (rL (rU UInt8)) a_4)), (5, ov (PTR gb_5 0)), (6, ov (PTR gb_6 0)), (22, ov (S rB v_9))], [cvar gb_5 r_api_Dot a_2, cvar gb_6 (rV 16 (rU UInt64)) a_3], []⟩ (.cons rfl (.cons rfl (.cons rfl (.cons rfl (.cons rfl .nil))))) rfl rfl ?_
     refine jc (op_move lb (.tmp rfl)) ?_
     replace hx2 := iteB_inv hx2
     rcases hx2 with ⟨hc4, hx2⟩ | ⟨hc4, hx2⟩
     · refine JL.skip (.no rfl (ltB rfl) rfl hc4) (fun d h => by cases h; exact ltB rfl) ?_
       refine JL.skip (.no rfl (ltB rfl) rfl hc4) (fun d h => by cases h; exact ltB rfl) ?_
       refine JL.skip (.no rfl (ltB rfl) rfl hc4) (fun d h => by cases h; exact ltB rfl) ?_
       refine jc (op_pickT lb (.tmp rfl) hc4 .cB) ?_
       refine jc (op_move lb (.tmp rfl)) ?_
       refine JL.skip (.no rfl (ltB rfl) rfl rfl) (fun d h => by cases h; exact ltB rfl) ?_
       refine JL.skip (.no rfl (ltB rfl) rfl rfl) (fun d h => by cases h; exact ltB rfl) ?_
       refine JL.skip (.no rfl (ltB rfl) rfl rfl) (fun d h => by cases h; exact ltB rfl) ?_
       refine jc (op_pickT lb (.tmp rfl) rfl .cB) ?_
       refine JL.nil ?_
       replace hx2 := Option.some.inj hx2
       first | subst hx2 | clear hx2
       exact JQ.join () (Imp.norm (js := [0, 0]) rfl (.cons rfl (.cons rfl (.cons rfl (.cons rfl (.cons rfl .nil))))))
     · refine JL.run (.yes rfl (ltB rfl) rfl hc4) (op_fieldAddr (off := 0) lb tf48_0 (.tmp rfl)) ?_
       refine JL.run (.yes rfl (ltB rfl) rfl hc4) (op_loadS (j := 0) lb tS3 (.tmp rfl) rfl (Comp.trans (Comp.self r_api_Dot a_2) (comp_api_Dot_Region a_2) (Nat.le_of_ble_eq_true rfl)) rfl rfl) ?_
       replace hx2 := lt1_inv hx2
       obtain ⟨v_10, hv_v_10, hx2⟩ := hx2
       refine JL.run (.yes rfl (ltB rfl) rfl hc4) (op_cmpI lb (.tmp rfl) .cI (congrArg some hv_v_10)) ?_
       refine jc (op_pickF lb (.tmp rfl) hc4 (.tmp rfl)) ?_
       refine jc (op_move lb (.tmp rfl)) ?_
       replace hx2 := iteB_inv hx2
       rcases hx2 with ⟨hc6, hx2⟩ | ⟨hc6, hx2⟩
       · refine JL.skip (.no rfl (ltB rfl) rfl hc6) (fun d h => by cases h; exact ltB rfl) ?_
         refine JL.skip (.no rfl (ltB rfl) rfl hc6) (fun d h => by cases h; exact ltB rfl) ?_
         refine JL.skip (.no rfl (ltB rfl) rfl hc6) (fun d h => by cases h; exact ltB rfl) ?_
         refine jc (op_pickT lb (.tmp rfl) hc6 .cB) ?_
         refine JL.nil ?_
         replace hx2 := Option.some.inj hx2
         first | subst hx2 | clear hx2
         exact JQ.join () (Imp.norm (js := [0, 0]) rfl (.cons rfl (.cons rfl (.cons rfl (.cons rfl (.cons rfl .nil))))))
       · refine JL.run (.yes rfl (ltB rfl) rfl hc6) (op_fieldAddr (off := 0) lb tf48_0 (.tmp rfl)) ?_
         refine JL.run (.yes rfl (ltB rfl) rfl hc6) (op_loadS (j := 0) lb tS3 (.tmp rfl) rfl (Comp.trans (Comp.self r_api_Dot a_2) (comp_api_Dot_Region a_2) (Nat.le_of_ble_eq_true rfl)) rfl rfl) ?_
         replace hx2 := lt1_inv hx2
         obtain ⟨v_11, hv_v_11, hx2⟩ := hx2
         refine JL.run (.yes rfl (ltB rfl) rfl hc6) (op_cmpI lb (.tmp rfl) .cI (congrArg some hv_v_11)) ?_
         refine jc (op_pickF lb (.tmp rfl) hc6 (.tmp rfl)) ?_
         refine JL.nil ?_
         replace hx2 := Option.some.inj hx2
         first | subst hx2 | clear hx2
         exact JQ.join () (Imp.norm (js := [0, 0]) rfl (.cons rfl (.cons rfl (.cons rfl (.cons rfl (.cons rfl .nil))))))

end Go.Proofs.Ytkbkdfcakpbojaa
