/- Walks. -/
import Derived.Test.YtdncoiehmkcajaaT
import Derived.Test.YtdncoiehmkcajaaW16
import Derived.Test.YtdncoiehmkcajaaW5
import Derived.Test.YtdncoiehmkcajaaW6
import Derived.Test.YtdncoiehmkcajaaW7
namespace Go.Proofs.Ytdncoiehmkcajaa
open Go Fw
set_option linter.unusedVariables false
set_option maxRecDepth 100000
set_option maxHeartbeats 4000000

theorem sim_law03_ShaBack (k : Nat) (t_1 : (Vector UInt8 32)) (a_2 : (List UInt8)) (a_3 : (List UInt8)) (a_4 : Int) (r : Bool) (hm : law03_ShaBack k t_1 a_2 a_3 a_4 = some r) : Sim Try.prog 6 [A (rV 32 (rU UInt8)) t_1, S (rL (rU UInt8)) a_2, S (rL (rU UInt8)) a_3, S (rI .i64) a_4] [] (γ := Unit) (fun q => []) (fun q => .one (.val (S rB r))) := by
  unfold law03_ShaBack at hm
  refine Sim.of Try.func6 rfl rfl (Nat.le_of_ble_eq_true rfl) (fun e0 w0 => ?_)
  refine JC.at ⟨[(0, .one (.val (A (rV 32 (rU UInt8)) t_1))), (1, .one (.val (S (rL (rU UInt8)) a_2))), (2, .one (.val (S (rL (rU UInt8)) a_3))), (3, .one (.val (S (rI .i64) a_4)))], [], []⟩ ?_
  refine JC.seq ?_
  refine JC.region ?_
  refine JL.consX rfl (op_boxA (ltB rfl) (.tmp rfl)) (fun q => ?_)
  obtain ⟨gb_5, hqq⟩ : ∃ z, z = q := ⟨_, rfl⟩
  subst hqq
  refine JL.pre (Imp.sub (ρ' := [(1, .one (.val (S (rL (rU UInt8)) a_2))), (2, .one (.val (S (rL (rU UInt8)) a_3))), (3, .one (.val (S (rI .i64) a_4))), (4, .one (.val (PTR gb_5 0)))]) (.cons rfl (.cons rfl (.cons rfl (.cons rfl .nil))))) ?_
  refine JL.at ⟨[(1, .one (.val (S (rL (rU UInt8)) a_2))), (2, .one (.val (S (rL (rU UInt8)) a_3))), (3, .one (.val (S (rI .i64) a_4))), (4, .one (.val (PTR gb_5 0)))], [cvar gb_5 (rV 32 (rU UInt8)) t_1], []⟩ ?_
  refine JL.cons rfl (op_assign (ltB rfl) .cB) ?_
  refine JL.nil ?_
  refine JQ.then ?_
  refine JC.seq ?_
  refine JC.seq ?_
  refine JC.region ?_
  replace hm := bnd_inv hm
  obtain ⟨v_6, hv_v_6, hm⟩ := hm
  refine JL.consX rfl (op_call (js := []) (ltD rfl) cl9 (sim_law03_known k v_6 hv_v_6) .func .nil rfl) (fun _ => ?_)
  replace hm := lt1_inv hm
  obtain ⟨v_7, hv_v_7, hm⟩ := hm
  refine JL.cons rfl (op_not (ltB rfl) (.tmp rfl) hv_v_7) ?_
  refine JL.nil ?_
  refine JQ.then ?_
  replace hm := iteB_inv hm
  rcases hm with ⟨hc1, hm⟩ | ⟨hc1, hm⟩
  · refine JC.condT (.tmp rfl) hc1 ?_
    refine JC.seq ?_
    refine JC.region ?_
    refine JL.cons rfl (op_assign (ltB rfl) .cB) ?_
    refine JL.nil ?_
    refine JQ.then ?_
    refine JC.ret ?_
    refine JQ.outR ?_
    replace hm := Option.some.inj hm
    subst hm
    exact JQ.done (js := []) (ss := [.val (S rB false)]) () (.inl rfl) (.nil rfl) rfl (.cons (.tmp rfl) .nil) rfl rfl rfl
  · refine JC.condF (.tmp rfl) hc1 ?_
    refine JC.skip ?_
    refine JQ.then ?_
    refine JC.seq ?_
    refine JC.region ?_
    refine JL.cons rfl (op_loadA (j := 0) (ltB rfl) tA28 (.tmp rfl) rfl (Comp.self (rV 32 (rU UInt8)) t_1) rfl) ?_
    replace hm := bnd_inv hm
    obtain ⟨v_8, hv_v_8, hm⟩ := hm
    refine JL.consX rfl (op_call (js := []) (ltD rfl) cl17 (sim_sha_Text k t_1 v_8 hv_v_8) .func (.cons (.tmp rfl) .nil) rfl) (fun _ => ?_)
    replace hm := bnd_inv hm
    obtain ⟨⟨v_9, v_10⟩, hv_v_9, hm⟩ := hm
    refine JL.consX rfl (op_call (js := []) (ltD rfl) cl16 (sim_sha_Of k v_8 (v_9, v_10) hv_v_9) .func (.cons (.tmp rfl) .nil) rfl) (fun _ => ?_)
    refine JL.pre (Imp.sub (ρ' := [(1, .one (.val (S (rL (rU UInt8)) a_2))), (2, .one (.val (S (rL (rU UInt8)) a_3))), (3, .one (.val (S (rI .i64) a_4))), (4, .one (.val (PTR gb_5 0))), (17, .tup [.val (A (rV 32 (rU UInt8)) v_9), .val (S (rI .i64) v_10)])]) (.cons rfl (.cons rfl (.cons rfl (.cons rfl (.cons rfl .nil)))))) ?_
    refine JL.at ⟨[(1, .one (.val (S (rL (rU UInt8)) a_2))), (2, .one (.val (S (rL (rU UInt8)) a_3))), (3, .one (.val (S (rI .i64) a_4))), (4, .one (.val (PTR gb_5 0))), (17, .tup [.val (A (rV 32 (rU UInt8)) v_9), .val (S (rI .i64) v_10)])], [cvar gb_5 (rV 32 (rU UInt8)) t_1], []⟩ ?_
    refine JL.cons rfl (op_move (ltB rfl) (.tmp rfl)) ?_
    refine JL.cons rfl (op_extract (i := 0) (ltB rfl) (.tmp rfl) rfl) ?_
    refine JL.cons rfl (op_extract (i := 1) (ltB rfl) (.tmp rfl) rfl) ?_
    refine JL.consX rfl (op_alloc (ltB rfl) tZ28 zr28) (fun q => ?_)
    obtain ⟨gb_11, hqq⟩ : ∃ z, z = q := ⟨_, rfl⟩
    subst hqq
    refine JL.pre (Imp.sub (ρ' := [(1, .one (.val (S (rL (rU UInt8)) a_2))), (2, .one (.val (S (rL (rU UInt8)) a_3))), (3, .one (.val (S (rI .i64) a_4))), (4, .one (.val (PTR gb_5 0))), (9, .one (.val (PTR gb_11 0))), (18, .one (.val (A (rV 32 (rU UInt8)) v_9))), (19, .one (.val (S (rI .i64) v_10)))]) (.cons rfl (.cons rfl (.cons rfl (.cons rfl (.cons rfl (.cons rfl (.cons rfl .nil)))))))) ?_
    refine JL.at ⟨[(1, .one (.val (S (rL (rU UInt8)) a_2))), (2, .one (.val (S (rL (rU UInt8)) a_3))), (3, .one (.val (S (rI .i64) a_4))), (4, .one (.val (PTR gb_5 0))), (9, .one (.val (PTR gb_11 0))), (18, .one (.val (A (rV 32 (rU UInt8)) v_9))), (19, .one (.val (S (rI .i64) v_10)))], [cvar gb_5 (rV 32 (rU UInt8)) t_1, cvar gb_11 (rV 32 (rU UInt8)) (Vector.replicate 32 (0 : UInt8))], []⟩ ?_
    refine JL.cons rfl (op_storeA (j := 1) tA28 (.tmp rfl) (.tmp rfl) rfl (UpdR.self (by rfl)) rfl) ?_
    refine JL.pre (Imp.sub (ρ' := [(1, .one (.val (S (rL (rU UInt8)) a_2))), (2, .one (.val (S (rL (rU UInt8)) a_3))), (3, .one (.val (S (rI .i64) a_4))), (4, .one (.val (PTR gb_5 0))), (9, .one (.val (PTR gb_11 0))), (19, .one (.val (S (rI .i64) v_10)))]) (.cons rfl (.cons rfl (.cons rfl (.cons rfl (.cons rfl (.cons rfl .nil))))))) ?_
    refine JL.at ⟨[(1, .one (.val (S (rL (rU UInt8)) a_2))), (2, .one (.val (S (rL (rU UInt8)) a_3))), (3, .one (.val (S (rI .i64) a_4))), (4, .one (.val (PTR gb_5 0))), (9, .one (.val (PTR gb_11 0))), (19, .one (.val (S (rI .i64) v_10)))], [cvar gb_5 (rV 32 (rU UInt8)) t_1, cvar gb_11 (rV 32 (rU UInt8)) v_9], []⟩ ?_
    refine JL.cons rfl (op_assign (ltB rfl) (.tmp rfl)) ?_
    refine JL.nil ?_
    refine JQ.then ?_
    refine JC.seq ?_
    replace hm := bnd_inv hm
    obtain ⟨x_16, hx2, hq2⟩ := hm
    refine JC.seqJ (γ := Unit) (stj := fun q => ⟨[(1, .one (.val (S (rL (rU UInt8)) a_2))), (2, .one (.val (S (rL (rU UInt8)) a_3))), (3, .one (.val (S (rI .i64) a_4))), (27, .one (.val (S rB x_16)))], [], []⟩) (fun q => ?_) ?_
    · obtain _ := q
      refine JC.at ⟨[(1, .one (.val (S (rL (rU UInt8)) a_2))), (2, .one (.val (S (rL (rU UInt8)) a_3))), (3, .one (.val (S (rI .i64) a_4))), (27, .one (.val (S rB x_16)))], [], []⟩ ?_
      replace hq2 := iteB_inv hq2
      rcases hq2 with ⟨hc7, hq2⟩ | ⟨hc7, hq2⟩
      · refine JC.condT (.tmp rfl) hc7 ?_
        refine JC.seq ?_
        refine JC.region ?_
        refine JL.cons rfl (op_assign (ltB rfl) .cB) ?_
        refine JL.nil ?_
        refine JQ.then ?_
        refine JC.ret ?_
        refine JQ.outR ?_
        replace hq2 := Option.some.inj hq2
        subst hq2
        exact JQ.done (js := []) (ss := [.val (S rB false)]) () (.inl rfl) (.nil rfl) rfl (.cons (.tmp rfl) .nil) rfl rfl rfl
      · refine JC.condF (.tmp rfl) hc7 ?_
        refine JC.skip ?_
        refine JQ.then ?_
        refine JC.seq ?_
        replace hq2 := bnd_inv hq2
        obtain ⟨x_24, hx8, hq8⟩ := hq2
        refine JC.seqJ (γ := Unit) (stj := fun q => ⟨[(1, .one (.val (S (rL (rU UInt8)) a_2))), (2, .one (.val (S (rL (rU UInt8)) a_3))), (3, .one (.val (S (rI .i64) a_4))), (45, .one (.val (S rB x_24)))], [], []⟩) (fun q => ?_) ?_
        · obtain _ := q
          refine JC.at ⟨[(1, .one (.val (S (rL (rU UInt8)) a_2))), (2, .one (.val (S (rL (rU UInt8)) a_3))), (3, .one (.val (S (rI .i64) a_4))), (45, .one (.val (S rB x_24)))], [], []⟩ ?_
          replace hq8 := iteB_inv hq8
          rcases hq8 with ⟨hc21, hq8⟩ | ⟨hc21, hq8⟩
          · refine JC.condT (.tmp rfl) hc21 ?_
            refine JC.seq ?_
            refine JC.region ?_
            refine JL.cons rfl (op_assign (ltB rfl) .cB) ?_
            refine JL.nil ?_
            refine JQ.then ?_
            refine JC.ret ?_
            refine JQ.outR ?_
            replace hq8 := Option.some.inj hq8
            subst hq8
            exact JQ.done (js := []) (ss := [.val (S rB true)]) () (.inl rfl) (.nil rfl) rfl (.cons (.tmp rfl) .nil) rfl rfl rfl
          · refine JC.condF (.tmp rfl) hc21 ?_
            refine JC.skip ?_
            refine JQ.then ?_
            refine JC.seq ?_
            refine JC.region ?_
            replace hq8 := bnd_inv hq8
            obtain ⟨v_25, hv_v_25, hq8⟩ := hq8
            refine JL.consX rfl (op_makeOg (ltB rfl) tu25 tB5 zv5 .cI .cI hv_v_25) (fun q => ?_)
            obtain ⟨gb_26, hqq⟩ : ∃ z, z = q := ⟨_, rfl⟩
            subst hqq
            refine JL.pre (Imp.sub (ρ' := [(1, .one (.val (S (rL (rU UInt8)) a_2))), (2, .one (.val (S (rL (rU UInt8)) a_3))), (3, .one (.val (S (rI .i64) a_4))), (46, .one (.val (HDR (some gb_26) 0 (List.length v_25) (Int.toNat (64 : Int)))))]) (.cons rfl (.cons rfl (.cons rfl (.cons rfl .nil))))) ?_
            refine JL.at ⟨[(1, .one (.val (S (rL (rU UInt8)) a_2))), (2, .one (.val (S (rL (rU UInt8)) a_3))), (3, .one (.val (S (rI .i64) a_4))), (46, .one (.val (HDR (some gb_26) 0 (List.length v_25) (Int.toNat (64 : Int)))))], [cown (some gb_26) (rU UInt8) v_25 0 (Int.toNat (64 : Int))], []⟩ ?_
            refine JL.cons rfl (op_assign (ltB rfl) (.tmp rfl)) ?_
            refine JL.nil ?_
            refine JQ.then ?_
            refine JC.seq ?_
            refine JC.region ?_
            refine JL.cons rfl (op_move (ltB rfl) (.tmp rfl)) ?_
            refine JL.cons rfl (op_move (ltB rfl) (.tmp rfl)) ?_
            replace hq8 := lt1_inv hq8
            obtain ⟨x_27, hv_x_27, hq8⟩ := hq8
            refine JL.cons rfl (op_copyO (j := 0) (ltD rfl) tu25 tz5 (.tmp rfl) rfl (fun e a w => SrcN.list (.tmp rfl)) hv_x_27 rfl) ?_
            refine JL.pre (Imp.slot (s := 11) (q := HDR (some gb_26) 0 (List.length x_27) (Int.toNat (64 : Int))) rfl (wkLen (cpL_len hv_x_27))) ?_
            refine JL.pre (Imp.slot (s := 46) (q := HDR (some gb_26) 0 (List.length x_27) (Int.toNat (64 : Int))) rfl (wkLen (cpL_len hv_x_27))) ?_
            refine JL.pre (Imp.slot (s := 47) (q := HDR (some gb_26) 0 (List.length x_27) (Int.toNat (64 : Int))) rfl (wkLen (cpL_len hv_x_27))) ?_
            refine JL.pre (Imp.sub (ρ' := [(1, .one (.val (S (rL (rU UInt8)) a_2))), (2, .one (.val (S (rL (rU UInt8)) a_3))), (3, .one (.val (S (rI .i64) a_4))), (11, .one (.val (HDR (some gb_26) 0 (List.length x_27) (Int.toNat (64 : Int)))))]) (.cons rfl (.cons rfl (.cons rfl (.cons rfl .nil))))) ?_
            refine JL.at ⟨[(1, .one (.val (S (rL (rU UInt8)) a_2))), (2, .one (.val (S (rL (rU UInt8)) a_3))), (3, .one (.val (S (rI .i64) a_4))), (11, .one (.val (HDR (some gb_26) 0 (List.length x_27) (Int.toNat (64 : Int)))))], [cown (some gb_26) (rU UInt8) x_27 0 (Int.toNat (64 : Int))], []⟩ ?_
            refine JL.nil ?_
            refine JQ.then ?_
            replace hq8 := bnd_inv hq8
            obtain ⟨x_38, hx22, hq22⟩ := hq8
            refine JC.seqJ (γ := Unit) (stj := fun q => ⟨[(8, .one (.val (S rB x_38)))], [], []⟩) (fun q => ?_) ?_
            · obtain _ := q
              refine JC.at ⟨[(8, .one (.val (S rB x_38)))], [], []⟩ ?_
              refine JC.ret ?_
              replace hq22 := Option.some.inj hq22
              subst hq22
              exact JQ.done (js := []) (ss := [.val (S rB x_38)]) () (.inl rfl) (.nil rfl) rfl (.cons (.tmp rfl) .nil) rfl rfl rfl
            · refine JC.pre (Imp.frz (j := 0) rfl (ImpK.slotH (s := 11) rfl ImpK.refl)) ?_
              replace hx22 := bnd_inv hx22
              obtain ⟨v_28, hv_v_28, hx22⟩ := hx22
              replace hx22 := bnd_inv hx22
              obtain ⟨v_29, hv_v_29, hx22⟩ := hx22
              replace hx22 := bnd_inv hx22
              obtain ⟨v_30, hv_v_30, hx22⟩ := hx22
              replace hx22 := bnd_inv hx22
              obtain ⟨v_31, hv_v_31, hx22⟩ := hx22
              replace hx22 := lt1_inv hx22
              obtain ⟨v_32, hv_v_32, hx22⟩ := hx22
              replace hx22 := bnd_inv hx22
              obtain ⟨v_33, hv_v_33, hx22⟩ := hx22
              replace hx22 := bnd_inv hx22
              obtain ⟨v_34, hv_v_34, hx22⟩ := hx22
              replace hx22 := bnd_inv hx22
              obtain ⟨v_35, hv_v_35, hx22⟩ := hx22
              replace hx22 := iteB_inv hx22
              rcases hx22 with ⟨hc33, hx22⟩ | ⟨hc33, hx22⟩
              · replace hx22 := bnd_inv hx22
                obtain ⟨v_36, hv_v_36, hx22⟩ := hx22
                replace hx22 := lt1_inv hx22
                obtain ⟨v_37, hv_v_37, hx22⟩ := hx22
                refine JC.anyE (kl := []) (kk := 0) (base := [(1, .one (.val (S (rL (rU UInt8)) a_2))), (2, .one (.val (S (rL (rU UInt8)) a_3))), (3, .one (.val (S (rI .i64) a_4))), (11, .one (.val (HL (some gb_26) (rU UInt8) x_27 (Int.toNat (64 : Int)))))])
                    (fs := fun γ => [⟨some 50, .one (.val (S (rL (rU UInt8)) a_3))⟩, ⟨some 51, .one (.val (S (rI .i64) a_4))⟩, ⟨some 52, .one (.val (S (rL (rU UInt8)) v_28))⟩, ⟨some 53, .one (.val (S (rL (rU UInt8)) a_3))⟩, ⟨some 54, .one (.val (S (rI .i64) a_4))⟩, ⟨some 55, .one (.val (S (rL (rU UInt8)) v_29))⟩, ⟨some 56, .one (.val (S (rL (rL (rU UInt8))) ([v_28, v_29] : (List (List UInt8)))))⟩, ⟨some 57, .one (.val (A (rV 32 (rU UInt8)) v_30))⟩, ⟨some 58, .one (.val (S (rL (rU UInt8)) a_3))⟩, ⟨some 59, .one (.val (S (rL (rL (rU UInt8))) ([a_3] : (List (List UInt8)))))⟩, ⟨some 60, .one (.val (A (rV 32 (rU UInt8)) v_31))⟩, ⟨some 61, .one (.val (S rB v_32))⟩, ⟨some 62, .one (.val (S rB v_32))⟩, ⟨some 63, bif v_32 then .one (.val (S (rL (rU UInt8)) a_2)) else .one .und⟩, ⟨some 64, bif v_32 then .one (.val (S (rL (rU UInt8)) a_3)) else .one .und⟩, ⟨some 65, bif v_32 then .one (.val (S (rI .i64) a_4)) else .one .und⟩, ⟨some 66, bif v_32 then .one (.val (S (rL (rU UInt8)) v_33)) else .one .und⟩, ⟨some 67, bif v_32 then .one (.val (S (rL (rU UInt8)) a_3)) else .one .und⟩, ⟨some 68, bif v_32 then .one (.val (S (rI .i64) a_4)) else .one .und⟩, ⟨some 69, bif v_32 then .one (.val (S (rL (rU UInt8)) v_34)) else .one .und⟩, ⟨some 70, bif v_32 then .one (.val (S (rL (rL (rU UInt8))) ([v_33, ([] : (List UInt8)), v_34] : (List (List UInt8))))) else .one .und⟩, ⟨some 71, bif v_32 then .one (.val (A (rV 32 (rU UInt8)) v_35)) else .one .und⟩, ⟨some 72, .one (.val (HL (some gb_26) (rU UInt8) x_27 (Int.toNat (64 : Int))))⟩, ⟨some 73, .one (.val (S (rL (rU UInt8)) a_3))⟩, ⟨some 74, .one (.val (S (rL (rL (rU UInt8))) ([a_3] : (List (List UInt8)))))⟩, ⟨some 75, .one (.val (A (rV 32 (rU UInt8)) v_36))⟩, ⟨some 76, .one (.val (S rB v_37))⟩, ⟨some 77, .one (.val (S rB v_37))⟩, ⟨some 8, .one (.val (S rB v_37))⟩])
                    (rs := fun γ => [⟨cown (some gb_26) (rU UInt8) x_27 (List.length x_27) (Int.toNat (64 : Int)), none, none, []⟩])
                    (ds := [50, 51, 52, 53, 54, 55, 56, 57, 58, 59, 60, 61, 62, 63, 64, 65, 66, 67, 68, 69, 70, 71, 72, 73, 74, 75, 76, 77, 8]) (bs := [1, 2, 3, 11]) (afts := [[], [], [], [], [], [], [], [], [], [], [], [], [], [], [], [], [], [], [], [], [], [], [], [], [], [], [], [], []]) (js := [0]) mixed (.cons rfl (.cons rfl (.cons rfl (.cons rfl .nil)))) (fun _ => rfl)
                    (by
      refine DSteps.cons (j := 1) rfl (fun _ => rfl) (.run (fun γ ρ B hb hd => ⟨.none, OpStep.at ⟨ρ, B, _⟩ (setO ⟨ρ, B, _⟩ (some 50) (.one (.val (S (rL (rU UInt8)) a_3)))) (op_move (ltB rfl) (.tmp (hb 2 _ rfl)))⟩)) ?_
      refine DSteps.cons (j := 2) rfl (fun _ => rfl) (.run (fun γ ρ B hb hd => ⟨.none, OpStep.at ⟨ρ, B, _⟩ (setO ⟨ρ, B, _⟩ (some 51) (.one (.val (S (rI .i64) a_4)))) (op_move (ltB rfl) (.tmp (hb 3 _ rfl)))⟩)) ?_
      refine DSteps.cons (j := 3) rfl (fun _ => rfl) (.run (fun γ ρ B hb hd => ⟨.none, OpStep.at ⟨ρ, B, _⟩ (setO ⟨ρ, B, _⟩ (some 52) (.one (.val (S (rL (rU UInt8)) v_28)))) (op_sliceLg (ltB rfl) tu25 tz5 (.tmp (hdl hd 0 50 rfl (by decide +kernel))) .none (.some (.tmp (hdl hd 1 51 rfl (by decide +kernel)))) hv_v_28)⟩)) ?_
      refine DSteps.cons (j := 4) rfl (fun _ => rfl) (.run (fun γ ρ B hb hd => ⟨.none, OpStep.at ⟨ρ, B, _⟩ (setO ⟨ρ, B, _⟩ (some 53) (.one (.val (S (rL (rU UInt8)) a_3)))) (op_move (ltB rfl) (.tmp (hb 2 _ rfl)))⟩)) ?_
      refine DSteps.cons (j := 5) rfl (fun _ => rfl) (.run (fun γ ρ B hb hd => ⟨.none, OpStep.at ⟨ρ, B, _⟩ (setO ⟨ρ, B, _⟩ (some 54) (.one (.val (S (rI .i64) a_4)))) (op_move (ltB rfl) (.tmp (hb 3 _ rfl)))⟩)) ?_
      refine DSteps.cons (j := 6) rfl (fun _ => rfl) (.run (fun γ ρ B hb hd => ⟨.none, OpStep.at ⟨ρ, B, _⟩ (setO ⟨ρ, B, _⟩ (some 55) (.one (.val (S (rL (rU UInt8)) v_29)))) (op_sliceLg (ltB rfl) tu25 tz5 (.tmp (hdl hd 3 53 rfl (by decide +kernel))) (.some (.tmp (hdl hd 4 54 rfl (by decide +kernel)))) .none hv_v_29)⟩)) ?_
      refine DSteps.cons (j := 7) rfl (fun _ => rfl) (.run (fun γ ρ B hb hd => ⟨.none, OpStep.at ⟨ρ, B, _⟩ (setO ⟨ρ, B, _⟩ (some 56) (.one (.val (S (rL (rL (rU UInt8))) ([v_28, v_29] : (List (List UInt8))))))) (op_buildF (r := (rL (rU UInt8))) (ltB rfl) tu22 tz25 tZ25 rfl (Nat.le_of_ble_eq_true rfl) (.S rfl (.tmp (hdl hd 2 52 rfl (by decide +kernel))) (.S rfl (.tmp (hdl hd 5 55 rfl (by decide +kernel))) .nil)) rfl)⟩)) ?_
      refine DSteps.cons (j := 8) rfl (fun _ => rfl) (.run (fun γ ρ B hb hd => ⟨.none, OpStep.at ⟨ρ, B, _⟩ (setO ⟨ρ, B, _⟩ (some 57) (.one (.val (A (rV 32 (rU UInt8)) v_30)))) ((op_call (js := []) (ltD rfl) cl11 (sim_sha_Sum k ([v_28, v_29] : (List (List UInt8))) v_30 hv_v_30) .func (.cons (.tmp (hdl hd 6 56 rfl (by decide +kernel))) .nil) rfl).post (fun _ => Imp.refl))⟩)) ?_
      refine DSteps.cons (j := 9) rfl (fun _ => rfl) (.run (fun γ ρ B hb hd => ⟨.none, OpStep.at ⟨ρ, B, _⟩ (setO ⟨ρ, B, _⟩ (some 58) (.one (.val (S (rL (rU UInt8)) a_3)))) (op_move (ltB rfl) (.tmp (hb 2 _ rfl)))⟩)) ?_
      refine DSteps.cons (j := 10) rfl (fun _ => rfl) (.run (fun γ ρ B hb hd => ⟨.none, OpStep.at ⟨ρ, B, _⟩ (setO ⟨ρ, B, _⟩ (some 59) (.one (.val (S (rL (rL (rU UInt8))) ([a_3] : (List (List UInt8))))))) (op_buildF (r := (rL (rU UInt8))) (ltB rfl) tu22 tz25 tZ25 rfl (Nat.le_of_ble_eq_true rfl) (.S rfl (.tmp (hdl hd 8 58 rfl (by decide +kernel))) .nil) rfl)⟩)) ?_
      refine DSteps.cons (j := 11) rfl (fun _ => rfl) (.run (fun γ ρ B hb hd => ⟨.none, OpStep.at ⟨ρ, B, _⟩ (setO ⟨ρ, B, _⟩ (some 60) (.one (.val (A (rV 32 (rU UInt8)) v_31)))) ((op_call (js := []) (ltD rfl) cl11 (sim_sha_Sum k ([a_3] : (List (List UInt8))) v_31 hv_v_31) .func (.cons (.tmp (hdl hd 9 59 rfl (by decide +kernel))) .nil) rfl).post (fun _ => Imp.refl))⟩)) ?_
      refine DSteps.cons (j := 12) rfl (fun _ => rfl) (.run (fun γ ρ B hb hd => ⟨.none, OpStep.at ⟨ρ, B, _⟩ (setO ⟨ρ, B, _⟩ (some 61) (.one (.val (S rB v_32)))) (op_eqA (ltB rfl) qa28 (by decide) ng28 (.tmp (hdl hd 7 57 rfl (by decide +kernel))) (.tmp (hdl hd 10 60 rfl (by decide +kernel))) hv_v_32)⟩)) ?_
      refine DSteps.cons (j := 13) rfl (fun _ => rfl) (.run (fun γ ρ B hb hd => ⟨.none, OpStep.at ⟨ρ, B, _⟩ (setO ⟨ρ, B, _⟩ (some 62) (.one (.val (S rB v_32)))) (op_move (ltB rfl) (.tmp (hdl hd 11 61 rfl (by decide +kernel))))⟩)) ?_
      refine DSteps.cons (j := 14) rfl (fun _ => rfl) (.cnd (q := v_32) (sv := fun γ => .one (.val (S (rL (rU UInt8)) a_2))) (fun _ => rfl) (fun _ => rfl) (fun d h => by cases h; exact ltB rfl) (fun _ => rfl) (fun γ ρ B hb hd => ⟨(Guard.isT (ltB rfl) rfl (hdl hd 12 62 rfl (by decide +kernel))), fun hq_23 => OpStep.at ⟨ρ, B, _⟩ (setO ⟨ρ, B, _⟩ (some 63) (.one (.val (S (rL (rU UInt8)) a_2)))) (op_move (ltB rfl) (.tmp (hb 1 _ rfl)))⟩)) ?_
      refine DSteps.cons (j := 15) rfl (fun _ => rfl) (.cnd (q := v_32) (sv := fun γ => .one (.val (S (rL (rU UInt8)) a_3))) (fun _ => rfl) (fun _ => rfl) (fun d h => by cases h; exact ltB rfl) (fun _ => rfl) (fun γ ρ B hb hd => ⟨(Guard.isT (ltB rfl) rfl (hdl hd 12 62 rfl (by decide +kernel))), fun hq_24 => OpStep.at ⟨ρ, B, _⟩ (setO ⟨ρ, B, _⟩ (some 64) (.one (.val (S (rL (rU UInt8)) a_3)))) (op_move (ltB rfl) (.tmp (hb 2 _ rfl)))⟩)) ?_
      refine DSteps.cons (j := 16) rfl (fun _ => rfl) (.cnd (q := v_32) (sv := fun γ => .one (.val (S (rI .i64) a_4))) (fun _ => rfl) (fun _ => rfl) (fun d h => by cases h; exact ltB rfl) (fun _ => rfl) (fun γ ρ B hb hd => ⟨(Guard.isT (ltB rfl) rfl (hdl hd 12 62 rfl (by decide +kernel))), fun hq_25 => OpStep.at ⟨ρ, B, _⟩ (setO ⟨ρ, B, _⟩ (some 65) (.one (.val (S (rI .i64) a_4)))) (op_move (ltB rfl) (.tmp (hb 3 _ rfl)))⟩)) ?_
      refine DSteps.cons (j := 17) rfl (fun _ => rfl) (.cnd (q := v_32) (sv := fun γ => .one (.val (S (rL (rU UInt8)) v_33))) (fun _ => rfl) (fun _ => rfl) (fun d h => by cases h; exact ltB rfl) (fun _ => rfl) (fun γ ρ B hb hd => ⟨(Guard.isT (ltB rfl) rfl (hdl hd 12 62 rfl (by decide +kernel))), fun hq_26 => OpStep.at ⟨ρ, B, _⟩ (setO ⟨ρ, B, _⟩ (some 66) (.one (.val (S (rL (rU UInt8)) v_33)))) (op_sliceLg (ltB rfl) tu25 tz5 (HasO.cnd (.tmp (hdl hd 14 64 rfl (by decide +kernel))) hq_26) .none (.some (HasO.cnd (.tmp (hdl hd 15 65 rfl (by decide +kernel))) hq_26)) (ifT hv_v_33 hq_26))⟩)) ?_
      refine DSteps.cons (j := 18) rfl (fun _ => rfl) (.cnd (q := v_32) (sv := fun γ => .one (.val (S (rL (rU UInt8)) a_3))) (fun _ => rfl) (fun _ => rfl) (fun d h => by cases h; exact ltB rfl) (fun _ => rfl) (fun γ ρ B hb hd => ⟨(Guard.isT (ltB rfl) rfl (hdl hd 12 62 rfl (by decide +kernel))), fun hq_27 => OpStep.at ⟨ρ, B, _⟩ (setO ⟨ρ, B, _⟩ (some 67) (.one (.val (S (rL (rU UInt8)) a_3)))) (op_move (ltB rfl) (.tmp (hb 2 _ rfl)))⟩)) ?_
      refine DSteps.cons (j := 19) rfl (fun _ => rfl) (.cnd (q := v_32) (sv := fun γ => .one (.val (S (rI .i64) a_4))) (fun _ => rfl) (fun _ => rfl) (fun d h => by cases h; exact ltB rfl) (fun _ => rfl) (fun γ ρ B hb hd => ⟨(Guard.isT (ltB rfl) rfl (hdl hd 12 62 rfl (by decide +kernel))), fun hq_28 => OpStep.at ⟨ρ, B, _⟩ (setO ⟨ρ, B, _⟩ (some 68) (.one (.val (S (rI .i64) a_4)))) (op_move (ltB rfl) (.tmp (hb 3 _ rfl)))⟩)) ?_
      refine DSteps.cons (j := 20) rfl (fun _ => rfl) (.cnd (q := v_32) (sv := fun γ => .one (.val (S (rL (rU UInt8)) v_34))) (fun _ => rfl) (fun _ => rfl) (fun d h => by cases h; exact ltB rfl) (fun _ => rfl) (fun γ ρ B hb hd => ⟨(Guard.isT (ltB rfl) rfl (hdl hd 12 62 rfl (by decide +kernel))), fun hq_29 => OpStep.at ⟨ρ, B, _⟩ (setO ⟨ρ, B, _⟩ (some 69) (.one (.val (S (rL (rU UInt8)) v_34)))) (op_sliceLg (ltB rfl) tu25 tz5 (HasO.cnd (.tmp (hdl hd 17 67 rfl (by decide +kernel))) hq_29) (.some (HasO.cnd (.tmp (hdl hd 18 68 rfl (by decide +kernel))) hq_29)) .none (ifT hv_v_34 hq_29))⟩)) ?_
      refine DSteps.cons (j := 21) rfl (fun _ => rfl) (.cnd (q := v_32) (sv := fun γ => .one (.val (S (rL (rL (rU UInt8))) ([v_33, ([] : (List UInt8)), v_34] : (List (List UInt8)))))) (fun _ => rfl) (fun _ => rfl) (fun d h => by cases h; exact ltB rfl) (fun _ => rfl) (fun γ ρ B hb hd => ⟨(Guard.isT (ltB rfl) rfl (hdl hd 12 62 rfl (by decide +kernel))), fun hq_30 => OpStep.at ⟨ρ, B, _⟩ (setO ⟨ρ, B, _⟩ (some 70) (.one (.val (S (rL (rL (rU UInt8))) ([v_33, ([] : (List UInt8)), v_34] : (List (List UInt8))))))) (op_buildF (r := (rL (rU UInt8))) (ltB rfl) tu22 tz25 tZ25 rfl (Nat.le_of_ble_eq_true rfl) (.S rfl (HasO.cnd (.tmp (hdl hd 16 66 rfl (by decide +kernel))) hq_30) (.S rfl (HasO.wk (q := S (rL (rU UInt8)) []) HasO.nilH wkNil) (.S rfl (HasO.cnd (.tmp (hdl hd 19 69 rfl (by decide +kernel))) hq_30) .nil))) rfl)⟩)) ?_
      refine DSteps.cons (j := 22) rfl (fun _ => rfl) (.cnd (q := v_32) (sv := fun γ => .one (.val (A (rV 32 (rU UInt8)) v_35))) (fun _ => rfl) (fun _ => rfl) (fun d h => by cases h; exact ltB rfl) (fun _ => rfl) (fun γ ρ B hb hd => ⟨(Guard.isT (ltB rfl) rfl (hdl hd 12 62 rfl (by decide +kernel))), fun hq_31 => OpStep.at ⟨ρ, B, _⟩ (setO ⟨ρ, B, _⟩ (some 71) (.one (.val (A (rV 32 (rU UInt8)) v_35)))) ((op_call (js := []) (ltD rfl) cl13 (sim_sha_Code k a_2 ([v_33, ([] : (List UInt8)), v_34] : (List (List UInt8))) v_35 (ifT hv_v_35 hq_31)) .func (.cons (HasO.cnd (.tmp (hdl hd 13 63 rfl (by decide +kernel))) hq_31) (.cons (HasO.cnd (.tmp (hdl hd 20 70 rfl (by decide +kernel))) hq_31) .nil)) rfl).post (fun _ => Imp.refl))⟩)) ?_
      refine DSteps.cons (j := 23) rfl (fun _ => rfl) (.run (fun γ ρ B hb hd => ⟨.yes rfl (ltB rfl) (hdl hd 12 62 rfl (by decide +kernel)) hc33, OpStep.at ⟨ρ, B, _⟩ (setO ⟨ρ, B, _⟩ (some 72) (.one (.val (HL (some gb_26) (rU UInt8) x_27 (Int.toNat (64 : Int)))))) (op_move (ltB rfl) (.tmp (hb 11 _ rfl)))⟩)) ?_
      refine DSteps.cons (j := 24) rfl (fun _ => rfl) (.run (fun γ ρ B hb hd => ⟨.yes rfl (ltB rfl) (hdl hd 12 62 rfl (by decide +kernel)) hc33, OpStep.at ⟨ρ, B, _⟩ (setO ⟨ρ, B, _⟩ (some 73) (.one (.val (S (rL (rU UInt8)) a_3)))) (op_move (ltB rfl) (.tmp (hb 2 _ rfl)))⟩)) ?_
      refine DSteps.cons (j := 25) rfl (fun _ => rfl) (.run (fun γ ρ B hb hd => ⟨.yes rfl (ltB rfl) (hdl hd 12 62 rfl (by decide +kernel)) hc33, OpStep.at ⟨ρ, B, _⟩ (setO ⟨ρ, B, _⟩ (some 74) (.one (.val (S (rL (rL (rU UInt8))) ([a_3] : (List (List UInt8))))))) (op_buildF (r := (rL (rU UInt8))) (ltB rfl) tu22 tz25 tZ25 rfl (Nat.le_of_ble_eq_true rfl) (.S rfl (.tmp (hdl hd 23 73 rfl (by decide +kernel))) .nil) rfl)⟩)) ?_
      refine DSteps.cons (j := 26) rfl (fun _ => rfl) (.run (fun γ ρ B hb hd => ⟨.yes rfl (ltB rfl) (hdl hd 12 62 rfl (by decide +kernel)) hc33, OpStep.at ⟨ρ, B, _⟩ (setO ⟨ρ, B, _⟩ (some 75) (.one (.val (A (rV 32 (rU UInt8)) v_36)))) ((op_call (js := []) (ltD rfl) cl13 (sim_sha_Code k x_27 ([a_3] : (List (List UInt8))) v_36 hv_v_36) .func (.cons (HasO.wk (.tmp (hdl hd 22 72 rfl (by decide +kernel))) wkHL) (.cons (.tmp (hdl hd 24 74 rfl (by decide +kernel))) .nil)) rfl).post (fun _ => Imp.refl))⟩)) ?_
      refine DSteps.cons (j := 27) rfl (fun _ => rfl) (.run (fun γ ρ B hb hd => ⟨.yes rfl (ltB rfl) (hdl hd 12 62 rfl (by decide +kernel)) hc33, OpStep.at ⟨ρ, B, _⟩ (setO ⟨ρ, B, _⟩ (some 76) (.one (.val (S rB v_37)))) (op_eqA (ltB rfl) qa28 (by decide) ng28 (HasO.cnd (.tmp (hdl hd 21 71 rfl (by decide +kernel))) hc33) (.tmp (hdl hd 25 75 rfl (by decide +kernel))) hv_v_37)⟩)) ?_
      refine DSteps.cons (j := 28) rfl (fun _ => rfl) (.run (fun γ ρ B hb hd => ⟨.none, OpStep.at ⟨ρ, B, _⟩ (setO ⟨ρ, B, _⟩ (some 77) (.one (.val (S rB v_37)))) (op_pickT (ltB rfl) (.tmp (hdl hd 12 62 rfl (by decide +kernel))) hc33 (.tmp (hdl hd 26 76 rfl (by decide +kernel))))⟩)) ?_
      refine DSteps.cons (j := 29) rfl (fun _ => rfl) (.run (fun γ ρ B hb hd => ⟨.none, OpStep.at ⟨ρ, B, _⟩ (setO ⟨ρ, B, _⟩ (some 8) (.one (.val (S rB v_37)))) (op_assign (ltB rfl) (.tmp (hdl hd 27 77 rfl (by decide +kernel))))⟩)) ?_
      exact DSteps.nil)
                    (by decide +kernel) (fun _ => rfl) rfl (fun _ => rfl) (fun _ => rfl) rfl (by decide) (by decide) (by decide +kernel) (fun _ d h => by cases h)
                    (ρ' := fun γ => [(8, .one (.val (S rB v_37)))])
                    (X' := fun γ => [cown (some gb_26) (rU UInt8) x_27 (List.length x_27) (Int.toNat (64 : Int))])
                    (fun γ ρ hb hd => (.cons (hdq hd 28 8 rfl) .nil)) (fun _ => rfl) (fun γ => ?_)
                refine JQ.at ⟨[(8, .one (.val (S rB v_37)))], [cown (some gb_26) (rU UInt8) x_27 (List.length x_27) (Int.toNat (64 : Int))], []⟩ ?_
                replace hx22 := Option.some.inj hx22
                first | subst hx22 | clear hx22
                exact JQ.join () (Imp.norm (js := []) rfl (.cons rfl .nil))
              · refine JC.anyE (kl := []) (kk := 0) (base := [(1, .one (.val (S (rL (rU UInt8)) a_2))), (2, .one (.val (S (rL (rU UInt8)) a_3))), (3, .one (.val (S (rI .i64) a_4)))])
                    (fs := fun γ => [⟨some 50, .one (.val (S (rL (rU UInt8)) a_3))⟩, ⟨some 51, .one (.val (S (rI .i64) a_4))⟩, ⟨some 52, .one (.val (S (rL (rU UInt8)) v_28))⟩, ⟨some 53, .one (.val (S (rL (rU UInt8)) a_3))⟩, ⟨some 54, .one (.val (S (rI .i64) a_4))⟩, ⟨some 55, .one (.val (S (rL (rU UInt8)) v_29))⟩, ⟨some 56, .one (.val (S (rL (rL (rU UInt8))) ([v_28, v_29] : (List (List UInt8)))))⟩, ⟨some 57, .one (.val (A (rV 32 (rU UInt8)) v_30))⟩, ⟨some 58, .one (.val (S (rL (rU UInt8)) a_3))⟩, ⟨some 59, .one (.val (S (rL (rL (rU UInt8))) ([a_3] : (List (List UInt8)))))⟩, ⟨some 60, .one (.val (A (rV 32 (rU UInt8)) v_31))⟩, ⟨some 61, .one (.val (S rB v_32))⟩, ⟨some 62, .one (.val (S rB v_32))⟩, ⟨some 63, bif v_32 then .one (.val (S (rL (rU UInt8)) a_2)) else .one .und⟩, ⟨some 64, bif v_32 then .one (.val (S (rL (rU UInt8)) a_3)) else .one .und⟩, ⟨some 65, bif v_32 then .one (.val (S (rI .i64) a_4)) else .one .und⟩, ⟨some 66, bif v_32 then .one (.val (S (rL (rU UInt8)) v_33)) else .one .und⟩, ⟨some 67, bif v_32 then .one (.val (S (rL (rU UInt8)) a_3)) else .one .und⟩, ⟨some 68, bif v_32 then .one (.val (S (rI .i64) a_4)) else .one .und⟩, ⟨some 69, bif v_32 then .one (.val (S (rL (rU UInt8)) v_34)) else .one .und⟩, ⟨some 70, bif v_32 then .one (.val (S (rL (rL (rU UInt8))) ([v_33, ([] : (List UInt8)), v_34] : (List (List UInt8))))) else .one .und⟩, ⟨some 71, bif v_32 then .one (.val (A (rV 32 (rU UInt8)) v_35)) else .one .und⟩, ⟨some 72, .one (.und)⟩, ⟨some 73, .one (.und)⟩, ⟨some 74, .one (.und)⟩, ⟨some 75, .one (.und)⟩, ⟨some 76, .one (.und)⟩, ⟨some 77, .one (.val (S rB false))⟩, ⟨some 8, .one (.val (S rB false))⟩])
                    (rs := fun γ => [⟨cown (some gb_26) (rU UInt8) x_27 (List.length x_27) (Int.toNat (64 : Int)), none, none, []⟩])
                    (ds := [50, 51, 52, 53, 54, 55, 56, 57, 58, 59, 60, 61, 62, 63, 64, 65, 66, 67, 68, 69, 70, 71, 72, 73, 74, 75, 76, 77, 8]) (bs := [1, 2, 3]) (afts := [[], [], [], [], [], [], [], [], [], [], [], [], [], [], [], [], [], [], [], [], [], [], [], [], [], [], [], [], []]) (js := [0]) mixed (.cons rfl (.cons rfl (.cons rfl .nil))) (fun _ => rfl)
                    (by
      refine DSteps.cons (j := 1) rfl (fun _ => rfl) (.run (fun γ ρ B hb hd => ⟨.none, OpStep.at ⟨ρ, B, _⟩ (setO ⟨ρ, B, _⟩ (some 50) (.one (.val (S (rL (rU UInt8)) a_3)))) (op_move (ltB rfl) (.tmp (hb 2 _ rfl)))⟩)) ?_
      refine DSteps.cons (j := 2) rfl (fun _ => rfl) (.run (fun γ ρ B hb hd => ⟨.none, OpStep.at ⟨ρ, B, _⟩ (setO ⟨ρ, B, _⟩ (some 51) (.one (.val (S (rI .i64) a_4)))) (op_move (ltB rfl) (.tmp (hb 3 _ rfl)))⟩)) ?_
      refine DSteps.cons (j := 3) rfl (fun _ => rfl) (.run (fun γ ρ B hb hd => ⟨.none, OpStep.at ⟨ρ, B, _⟩ (setO ⟨ρ, B, _⟩ (some 52) (.one (.val (S (rL (rU UInt8)) v_28)))) (op_sliceLg (ltB rfl) tu25 tz5 (.tmp (hdl hd 0 50 rfl (by decide +kernel))) .none (.some (.tmp (hdl hd 1 51 rfl (by decide +kernel)))) hv_v_28)⟩)) ?_
      refine DSteps.cons (j := 4) rfl (fun _ => rfl) (.run (fun γ ρ B hb hd => ⟨.none, OpStep.at ⟨ρ, B, _⟩ (setO ⟨ρ, B, _⟩ (some 53) (.one (.val (S (rL (rU UInt8)) a_3)))) (op_move (ltB rfl) (.tmp (hb 2 _ rfl)))⟩)) ?_
      refine DSteps.cons (j := 5) rfl (fun _ => rfl) (.run (fun γ ρ B hb hd => ⟨.none, OpStep.at ⟨ρ, B, _⟩ (setO ⟨ρ, B, _⟩ (some 54) (.one (.val (S (rI .i64) a_4)))) (op_move (ltB rfl) (.tmp (hb 3 _ rfl)))⟩)) ?_
      refine DSteps.cons (j := 6) rfl (fun _ => rfl) (.run (fun γ ρ B hb hd => ⟨.none, OpStep.at ⟨ρ, B, _⟩ (setO ⟨ρ, B, _⟩ (some 55) (.one (.val (S (rL (rU UInt8)) v_29)))) (op_sliceLg (ltB rfl) tu25 tz5 (.tmp (hdl hd 3 53 rfl (by decide +kernel))) (.some (.tmp (hdl hd 4 54 rfl (by decide +kernel)))) .none hv_v_29)⟩)) ?_
      refine DSteps.cons (j := 7) rfl (fun _ => rfl) (.run (fun γ ρ B hb hd => ⟨.none, OpStep.at ⟨ρ, B, _⟩ (setO ⟨ρ, B, _⟩ (some 56) (.one (.val (S (rL (rL (rU UInt8))) ([v_28, v_29] : (List (List UInt8))))))) (op_buildF (r := (rL (rU UInt8))) (ltB rfl) tu22 tz25 tZ25 rfl (Nat.le_of_ble_eq_true rfl) (.S rfl (.tmp (hdl hd 2 52 rfl (by decide +kernel))) (.S rfl (.tmp (hdl hd 5 55 rfl (by decide +kernel))) .nil)) rfl)⟩)) ?_
      refine DSteps.cons (j := 8) rfl (fun _ => rfl) (.run (fun γ ρ B hb hd => ⟨.none, OpStep.at ⟨ρ, B, _⟩ (setO ⟨ρ, B, _⟩ (some 57) (.one (.val (A (rV 32 (rU UInt8)) v_30)))) ((op_call (js := []) (ltD rfl) cl11 (sim_sha_Sum k ([v_28, v_29] : (List (List UInt8))) v_30 hv_v_30) .func (.cons (.tmp (hdl hd 6 56 rfl (by decide +kernel))) .nil) rfl).post (fun _ => Imp.refl))⟩)) ?_
      refine DSteps.cons (j := 9) rfl (fun _ => rfl) (.run (fun γ ρ B hb hd => ⟨.none, OpStep.at ⟨ρ, B, _⟩ (setO ⟨ρ, B, _⟩ (some 58) (.one (.val (S (rL (rU UInt8)) a_3)))) (op_move (ltB rfl) (.tmp (hb 2 _ rfl)))⟩)) ?_
      refine DSteps.cons (j := 10) rfl (fun _ => rfl) (.run (fun γ ρ B hb hd => ⟨.none, OpStep.at ⟨ρ, B, _⟩ (setO ⟨ρ, B, _⟩ (some 59) (.one (.val (S (rL (rL (rU UInt8))) ([a_3] : (List (List UInt8))))))) (op_buildF (r := (rL (rU UInt8))) (ltB rfl) tu22 tz25 tZ25 rfl (Nat.le_of_ble_eq_true rfl) (.S rfl (.tmp (hdl hd 8 58 rfl (by decide +kernel))) .nil) rfl)⟩)) ?_
      refine DSteps.cons (j := 11) rfl (fun _ => rfl) (.run (fun γ ρ B hb hd => ⟨.none, OpStep.at ⟨ρ, B, _⟩ (setO ⟨ρ, B, _⟩ (some 60) (.one (.val (A (rV 32 (rU UInt8)) v_31)))) ((op_call (js := []) (ltD rfl) cl11 (sim_sha_Sum k ([a_3] : (List (List UInt8))) v_31 hv_v_31) .func (.cons (.tmp (hdl hd 9 59 rfl (by decide +kernel))) .nil) rfl).post (fun _ => Imp.refl))⟩)) ?_
      refine DSteps.cons (j := 12) rfl (fun _ => rfl) (.run (fun γ ρ B hb hd => ⟨.none, OpStep.at ⟨ρ, B, _⟩ (setO ⟨ρ, B, _⟩ (some 61) (.one (.val (S rB v_32)))) (op_eqA (ltB rfl) qa28 (by decide) ng28 (.tmp (hdl hd 7 57 rfl (by decide +kernel))) (.tmp (hdl hd 10 60 rfl (by decide +kernel))) hv_v_32)⟩)) ?_
      refine DSteps.cons (j := 13) rfl (fun _ => rfl) (.run (fun γ ρ B hb hd => ⟨.none, OpStep.at ⟨ρ, B, _⟩ (setO ⟨ρ, B, _⟩ (some 62) (.one (.val (S rB v_32)))) (op_move (ltB rfl) (.tmp (hdl hd 11 61 rfl (by decide +kernel))))⟩)) ?_
      refine DSteps.cons (j := 14) rfl (fun _ => rfl) (.cnd (q := v_32) (sv := fun γ => .one (.val (S (rL (rU UInt8)) a_2))) (fun _ => rfl) (fun _ => rfl) (fun d h => by cases h; exact ltB rfl) (fun _ => rfl) (fun γ ρ B hb hd => ⟨(Guard.isT (ltB rfl) rfl (hdl hd 12 62 rfl (by decide +kernel))), fun hq_23 => OpStep.at ⟨ρ, B, _⟩ (setO ⟨ρ, B, _⟩ (some 63) (.one (.val (S (rL (rU UInt8)) a_2)))) (op_move (ltB rfl) (.tmp (hb 1 _ rfl)))⟩)) ?_
      refine DSteps.cons (j := 15) rfl (fun _ => rfl) (.cnd (q := v_32) (sv := fun γ => .one (.val (S (rL (rU UInt8)) a_3))) (fun _ => rfl) (fun _ => rfl) (fun d h => by cases h; exact ltB rfl) (fun _ => rfl) (fun γ ρ B hb hd => ⟨(Guard.isT (ltB rfl) rfl (hdl hd 12 62 rfl (by decide +kernel))), fun hq_24 => OpStep.at ⟨ρ, B, _⟩ (setO ⟨ρ, B, _⟩ (some 64) (.one (.val (S (rL (rU UInt8)) a_3)))) (op_move (ltB rfl) (.tmp (hb 2 _ rfl)))⟩)) ?_
      refine DSteps.cons (j := 16) rfl (fun _ => rfl) (.cnd (q := v_32) (sv := fun γ => .one (.val (S (rI .i64) a_4))) (fun _ => rfl) (fun _ => rfl) (fun d h => by cases h; exact ltB rfl) (fun _ => rfl) (fun γ ρ B hb hd => ⟨(Guard.isT (ltB rfl) rfl (hdl hd 12 62 rfl (by decide +kernel))), fun hq_25 => OpStep.at ⟨ρ, B, _⟩ (setO ⟨ρ, B, _⟩ (some 65) (.one (.val (S (rI .i64) a_4)))) (op_move (ltB rfl) (.tmp (hb 3 _ rfl)))⟩)) ?_
      refine DSteps.cons (j := 17) rfl (fun _ => rfl) (.cnd (q := v_32) (sv := fun γ => .one (.val (S (rL (rU UInt8)) v_33))) (fun _ => rfl) (fun _ => rfl) (fun d h => by cases h; exact ltB rfl) (fun _ => rfl) (fun γ ρ B hb hd => ⟨(Guard.isT (ltB rfl) rfl (hdl hd 12 62 rfl (by decide +kernel))), fun hq_26 => OpStep.at ⟨ρ, B, _⟩ (setO ⟨ρ, B, _⟩ (some 66) (.one (.val (S (rL (rU UInt8)) v_33)))) (op_sliceLg (ltB rfl) tu25 tz5 (HasO.cnd (.tmp (hdl hd 14 64 rfl (by decide +kernel))) hq_26) .none (.some (HasO.cnd (.tmp (hdl hd 15 65 rfl (by decide +kernel))) hq_26)) (ifT hv_v_33 hq_26))⟩)) ?_
      refine DSteps.cons (j := 18) rfl (fun _ => rfl) (.cnd (q := v_32) (sv := fun γ => .one (.val (S (rL (rU UInt8)) a_3))) (fun _ => rfl) (fun _ => rfl) (fun d h => by cases h; exact ltB rfl) (fun _ => rfl) (fun γ ρ B hb hd => ⟨(Guard.isT (ltB rfl) rfl (hdl hd 12 62 rfl (by decide +kernel))), fun hq_27 => OpStep.at ⟨ρ, B, _⟩ (setO ⟨ρ, B, _⟩ (some 67) (.one (.val (S (rL (rU UInt8)) a_3)))) (op_move (ltB rfl) (.tmp (hb 2 _ rfl)))⟩)) ?_
      refine DSteps.cons (j := 19) rfl (fun _ => rfl) (.cnd (q := v_32) (sv := fun γ => .one (.val (S (rI .i64) a_4))) (fun _ => rfl) (fun _ => rfl) (fun d h => by cases h; exact ltB rfl) (fun _ => rfl) (fun γ ρ B hb hd => ⟨(Guard.isT (ltB rfl) rfl (hdl hd 12 62 rfl (by decide +kernel))), fun hq_28 => OpStep.at ⟨ρ, B, _⟩ (setO ⟨ρ, B, _⟩ (some 68) (.one (.val (S (rI .i64) a_4)))) (op_move (ltB rfl) (.tmp (hb 3 _ rfl)))⟩)) ?_
      refine DSteps.cons (j := 20) rfl (fun _ => rfl) (.cnd (q := v_32) (sv := fun γ => .one (.val (S (rL (rU UInt8)) v_34))) (fun _ => rfl) (fun _ => rfl) (fun d h => by cases h; exact ltB rfl) (fun _ => rfl) (fun γ ρ B hb hd => ⟨(Guard.isT (ltB rfl) rfl (hdl hd 12 62 rfl (by decide +kernel))), fun hq_29 => OpStep.at ⟨ρ, B, _⟩ (setO ⟨ρ, B, _⟩ (some 69) (.one (.val (S (rL (rU UInt8)) v_34)))) (op_sliceLg (ltB rfl) tu25 tz5 (HasO.cnd (.tmp (hdl hd 17 67 rfl (by decide +kernel))) hq_29) (.some (HasO.cnd (.tmp (hdl hd 18 68 rfl (by decide +kernel))) hq_29)) .none (ifT hv_v_34 hq_29))⟩)) ?_
      refine DSteps.cons (j := 21) rfl (fun _ => rfl) (.cnd (q := v_32) (sv := fun γ => .one (.val (S (rL (rL (rU UInt8))) ([v_33, ([] : (List UInt8)), v_34] : (List (List UInt8)))))) (fun _ => rfl) (fun _ => rfl) (fun d h => by cases h; exact ltB rfl) (fun _ => rfl) (fun γ ρ B hb hd => ⟨(Guard.isT (ltB rfl) rfl (hdl hd 12 62 rfl (by decide +kernel))), fun hq_30 => OpStep.at ⟨ρ, B, _⟩ (setO ⟨ρ, B, _⟩ (some 70) (.one (.val (S (rL (rL (rU UInt8))) ([v_33, ([] : (List UInt8)), v_34] : (List (List UInt8))))))) (op_buildF (r := (rL (rU UInt8))) (ltB rfl) tu22 tz25 tZ25 rfl (Nat.le_of_ble_eq_true rfl) (.S rfl (HasO.cnd (.tmp (hdl hd 16 66 rfl (by decide +kernel))) hq_30) (.S rfl (HasO.wk (q := S (rL (rU UInt8)) []) HasO.nilH wkNil) (.S rfl (HasO.cnd (.tmp (hdl hd 19 69 rfl (by decide +kernel))) hq_30) .nil))) rfl)⟩)) ?_
      refine DSteps.cons (j := 22) rfl (fun _ => rfl) (.cnd (q := v_32) (sv := fun γ => .one (.val (A (rV 32 (rU UInt8)) v_35))) (fun _ => rfl) (fun _ => rfl) (fun d h => by cases h; exact ltB rfl) (fun _ => rfl) (fun γ ρ B hb hd => ⟨(Guard.isT (ltB rfl) rfl (hdl hd 12 62 rfl (by decide +kernel))), fun hq_31 => OpStep.at ⟨ρ, B, _⟩ (setO ⟨ρ, B, _⟩ (some 71) (.one (.val (A (rV 32 (rU UInt8)) v_35)))) ((op_call (js := []) (ltD rfl) cl13 (sim_sha_Code k a_2 ([v_33, ([] : (List UInt8)), v_34] : (List (List UInt8))) v_35 (ifT hv_v_35 hq_31)) .func (.cons (HasO.cnd (.tmp (hdl hd 13 63 rfl (by decide +kernel))) hq_31) (.cons (HasO.cnd (.tmp (hdl hd 20 70 rfl (by decide +kernel))) hq_31) .nil)) rfl).post (fun _ => Imp.refl))⟩)) ?_
      refine DSteps.cons (j := 23) rfl (fun _ => rfl) (.skip (fun γ ρ B hb hd => ⟨.no rfl (ltB rfl) (hdl hd 12 62 rfl (by decide +kernel)) hc33, rfl, rfl, rfl, fun d h => by cases h; exact ltB rfl⟩)) ?_
      refine DSteps.cons (j := 24) rfl (fun _ => rfl) (.skip (fun γ ρ B hb hd => ⟨.no rfl (ltB rfl) (hdl hd 12 62 rfl (by decide +kernel)) hc33, rfl, rfl, rfl, fun d h => by cases h; exact ltB rfl⟩)) ?_
      refine DSteps.cons (j := 25) rfl (fun _ => rfl) (.skip (fun γ ρ B hb hd => ⟨.no rfl (ltB rfl) (hdl hd 12 62 rfl (by decide +kernel)) hc33, rfl, rfl, rfl, fun d h => by cases h; exact ltB rfl⟩)) ?_
      refine DSteps.cons (j := 26) rfl (fun _ => rfl) (.skip (fun γ ρ B hb hd => ⟨.no rfl (ltB rfl) (hdl hd 12 62 rfl (by decide +kernel)) hc33, rfl, rfl, rfl, fun d h => by cases h; exact ltB rfl⟩)) ?_
      refine DSteps.cons (j := 27) rfl (fun _ => rfl) (.skip (fun γ ρ B hb hd => ⟨.no rfl (ltB rfl) (hdl hd 12 62 rfl (by decide +kernel)) hc33, rfl, rfl, rfl, fun d h => by cases h; exact ltB rfl⟩)) ?_
      refine DSteps.cons (j := 28) rfl (fun _ => rfl) (.run (fun γ ρ B hb hd => ⟨.none, OpStep.at ⟨ρ, B, _⟩ (setO ⟨ρ, B, _⟩ (some 77) (.one (.val (S rB false)))) (op_pickF (ltB rfl) (.tmp (hdl hd 12 62 rfl (by decide +kernel))) hc33 .cB)⟩)) ?_
      refine DSteps.cons (j := 29) rfl (fun _ => rfl) (.run (fun γ ρ B hb hd => ⟨.none, OpStep.at ⟨ρ, B, _⟩ (setO ⟨ρ, B, _⟩ (some 8) (.one (.val (S rB false)))) (op_assign (ltB rfl) (.tmp (hdl hd 27 77 rfl (by decide +kernel))))⟩)) ?_
      exact DSteps.nil)
                    (by decide +kernel) (fun _ => rfl) rfl (fun _ => rfl) (fun _ => rfl) rfl (by decide) (by decide) (by decide +kernel) (fun _ d h => by cases h)
                    (ρ' := fun γ => [(8, .one (.val (S rB false)))])
                    (X' := fun γ => [cown (some gb_26) (rU UInt8) x_27 (List.length x_27) (Int.toNat (64 : Int))])
                    (fun γ ρ hb hd => (.cons (hdq hd 28 8 rfl) .nil)) (fun _ => rfl) (fun γ => ?_)
                refine JQ.at ⟨[(8, .one (.val (S rB false)))], [cown (some gb_26) (rU UInt8) x_27 (List.length x_27) (Int.toNat (64 : Int))], []⟩ ?_
                replace hx22 := Option.some.inj hx22
                first | subst hx22 | clear hx22
                exact JQ.join () (Imp.norm (js := []) rfl (.cons rfl .nil))
        · refine JC.region ?_
          refine JL.cons rfl (op_move (ltB rfl) (.tmp rfl)) ?_
          refine JL.cons rfl (op_lenL (ltB rfl) tu25 (.tmp rfl)) ?_
          replace hx8 := lt1_inv hx8
          obtain ⟨v_17, hv_v_17, hx8⟩ := hx8
          refine JL.cons rfl (op_cmpI (ltB rfl) (.tmp rfl) .cI (congrArg some hv_v_17)) ?_
          refine JL.cons rfl (op_move (ltB rfl) (.tmp rfl)) ?_
          refine JL.cnd (sv := .one (.val (S (rL (rU UInt8)) a_3))) (Guard.isF (ltB rfl) rfl rfl) rfl (ltB rfl) (fun hq_9 => op_move (ltB rfl) (.tmp rfl)) ?_
          refine JL.cnd (sv := .one (.val (S (rI .i64) (List.length a_3 : Int)))) (Guard.isF (ltB rfl) rfl rfl) rfl (ltB rfl) (fun hq_10 => op_lenL (ltB rfl) tu25 (HasO.cnd (.tmp rfl) (notT (notF hq_10)))) ?_
          refine JL.pre (Imp.sub (ρ' := [(1, .one (.val (S (rL (rU UInt8)) a_2))), (2, .one (.val (S (rL (rU UInt8)) a_3))), (3, .one (.val (S (rI .i64) a_4))), (31, .one (.val (S rB v_17))), (33, bif (!v_17) then .one (.val (S (rI .i64) (List.length a_3 : Int))) else .one .und)]) (.cons rfl (.cons rfl (.cons rfl (.cons rfl (.cons rfl .nil)))))) ?_
          refine JL.at ⟨[(1, .one (.val (S (rL (rU UInt8)) a_2))), (2, .one (.val (S (rL (rU UInt8)) a_3))), (3, .one (.val (S (rI .i64) a_4))), (31, .one (.val (S rB v_17))), (33, bif (!v_17) then .one (.val (S (rI .i64) (List.length a_3 : Int))) else .one .und)], [], []⟩ ?_
          replace hx8 := lt1_inv hx8
          obtain ⟨v_18, hv_v_18, hx8⟩ := hx8
          refine JL.cnd (sv := .one (.val (S rB v_18))) (Guard.isF (ltB rfl) rfl rfl) rfl (ltB rfl) (fun hq_11 => op_cmpI (ltB rfl) (HasO.cnd (.tmp rfl) (notT (notF hq_11))) .cI (congrArg some hv_v_18)) ?_
          replace hx8 := lt1_inv hx8
          obtain ⟨v_19, hv_v_19, hx8⟩ := hx8
          refine JL.cons rfl (op_pickCS (ltB rfl) (.tmp rfl) (fun hb12 => .cB) (fun hb12 => (HasO.cnd (.tmp rfl) (notT hb12))) hv_v_19) ?_
          refine JL.cons rfl (op_move (ltB rfl) (.tmp rfl)) ?_
          refine JL.cnd (sv := .one (.val (S (rI .i64) a_4))) (Guard.isF (ltB rfl) rfl rfl) rfl (ltB rfl) (fun hq_13 => op_move (ltB rfl) (.tmp rfl)) ?_
          replace hx8 := lt1_inv hx8
          obtain ⟨v_20, hv_v_20, hx8⟩ := hx8
          refine JL.cnd (sv := .one (.val (S rB v_20))) (Guard.isF (ltB rfl) rfl rfl) rfl (ltB rfl) (fun hq_14 => op_cmpI (ltB rfl) (HasO.cnd (.tmp rfl) (notT (notF hq_14))) .cI (congrArg some hv_v_20)) ?_
          replace hx8 := lt1_inv hx8
          obtain ⟨v_21, hv_v_21, hx8⟩ := hx8
          refine JL.cons rfl (op_pickCS (ltB rfl) (.tmp rfl) (fun hb15 => .cB) (fun hb15 => (HasO.cnd (.tmp rfl) (notT hb15))) hv_v_21) ?_
          refine JL.pre (Imp.sub (ρ' := [(1, .one (.val (S (rL (rU UInt8)) a_2))), (2, .one (.val (S (rL (rU UInt8)) a_3))), (3, .one (.val (S (rI .i64) a_4))), (39, .one (.val (S rB v_21)))]) (.cons rfl (.cons rfl (.cons rfl (.cons rfl .nil))))) ?_
          refine JL.at ⟨[(1, .one (.val (S (rL (rU UInt8)) a_2))), (2, .one (.val (S (rL (rU UInt8)) a_3))), (3, .one (.val (S (rI .i64) a_4))), (39, .one (.val (S rB v_21)))], [], []⟩ ?_
          refine JL.cons rfl (op_move (ltB rfl) (.tmp rfl)) ?_
          refine JL.cnd (sv := .one (.val (S (rI .i64) a_4))) (Guard.isF (ltB rfl) rfl rfl) rfl (ltB rfl) (fun hq_16 => op_move (ltB rfl) (.tmp rfl)) ?_
          refine JL.cnd (sv := .one (.val (S (rL (rU UInt8)) a_3))) (Guard.isF (ltB rfl) rfl rfl) rfl (ltB rfl) (fun hq_17 => op_move (ltB rfl) (.tmp rfl)) ?_
          refine JL.cnd (sv := .one (.val (S (rI .i64) (List.length a_3 : Int)))) (Guard.isF (ltB rfl) rfl rfl) rfl (ltB rfl) (fun hq_18 => op_lenL (ltB rfl) tu25 (HasO.cnd (.tmp rfl) (notT (notF hq_18)))) ?_
          replace hx8 := lt1_inv hx8
          obtain ⟨v_22, hv_v_22, hx8⟩ := hx8
          refine JL.cnd (sv := .one (.val (S rB v_22))) (Guard.isF (ltB rfl) rfl rfl) rfl (ltB rfl) (fun hq_19 => op_cmpI (ltB rfl) (HasO.cnd (.tmp rfl) (notT (notF hq_19))) (HasO.cnd (.tmp rfl) (notT (notF hq_19))) (congrArg some hv_v_22)) ?_
          replace hx8 := lt1_inv hx8
          obtain ⟨v_23, hv_v_23, hx8⟩ := hx8
          refine JL.cons rfl (op_pickCS (ltB rfl) (.tmp rfl) (fun hb20 => .cB) (fun hb20 => (HasO.cnd (.tmp rfl) (notT hb20))) hv_v_23) ?_
          refine JL.pre (Imp.sub (ρ' := [(1, .one (.val (S (rL (rU UInt8)) a_2))), (2, .one (.val (S (rL (rU UInt8)) a_3))), (3, .one (.val (S (rI .i64) a_4))), (45, .one (.val (S rB v_23)))]) (.cons rfl (.cons rfl (.cons rfl (.cons rfl .nil))))) ?_
          refine JL.at ⟨[(1, .one (.val (S (rL (rU UInt8)) a_2))), (2, .one (.val (S (rL (rU UInt8)) a_3))), (3, .one (.val (S (rI .i64) a_4))), (45, .one (.val (S rB v_23)))], [], []⟩ ?_
          refine JL.nil ?_
          replace hx8 := Option.some.inj hx8
          first | subst hx8 | clear hx8
          exact JQ.join () (Imp.norm (js := []) rfl (.cons rfl (.cons rfl (.cons rfl (.cons rfl .nil)))))
    · refine JC.region ?_
      refine JL.cons rfl (op_move (ltB rfl) (.tmp rfl)) ?_
      replace hx2 := bnd_inv hx2
      obtain ⟨_, hv_u_12, hx2⟩ := hx2
      refine JL.consX rfl (op_call (js := []) (ltD rfl) cl18 (sim_law03_num k v_10 () hv_u_12) .func (.cons (.tmp rfl) .nil) rfl) (fun _ => ?_)
      replace hx2 := lt1_inv hx2
      obtain ⟨v_13, hv_v_13, hx2⟩ := hx2
      refine JL.cons rfl (op_cmpI (ltB rfl) (.tmp rfl) .cI (congrArg some hv_v_13)) ?_
      refine JL.cons rfl (op_move (ltB rfl) (.tmp rfl)) ?_
      refine JL.cnd (sv := .one (.val (A (rV 32 (rU UInt8)) v_9))) (Guard.isF (ltB rfl) rfl rfl) rfl (ltB rfl) (fun hq_3 => op_loadA (j := 1) (ltB rfl) tA28 (.tmp rfl) rfl (Comp.self (rV 32 (rU UInt8)) v_9) rfl) ?_
      refine JL.pre (Imp.norm (ρ' := [(1, .one (.val (S (rL (rU UInt8)) a_2))), (2, .one (.val (S (rL (rU UInt8)) a_3))), (3, .one (.val (S (rI .i64) a_4))), (4, .one (.val (PTR gb_5 0))), (23, .one (.val (S rB v_13))), (24, bif (!v_13) then .one (.val (A (rV 32 (rU UInt8)) v_9)) else .one .und)]) (js := [0]) rfl (.cons rfl (.cons rfl (.cons rfl (.cons rfl (.cons rfl (.cons rfl .nil))))))) ?_
      refine JL.at ⟨[(1, .one (.val (S (rL (rU UInt8)) a_2))), (2, .one (.val (S (rL (rU UInt8)) a_3))), (3, .one (.val (S (rI .i64) a_4))), (4, .one (.val (PTR gb_5 0))), (23, .one (.val (S rB v_13))), (24, bif (!v_13) then .one (.val (A (rV 32 (rU UInt8)) v_9)) else .one .und)], [cvar gb_5 (rV 32 (rU UInt8)) t_1], []⟩ ?_
      refine JL.cnd (sv := .one (.val (A (rV 32 (rU UInt8)) t_1))) (Guard.isF (ltB rfl) rfl rfl) rfl (ltB rfl) (fun hq_4 => op_loadA (j := 0) (ltB rfl) tA28 (.tmp rfl) rfl (Comp.self (rV 32 (rU UInt8)) t_1) rfl) ?_
      replace hx2 := lt1_inv hx2
      obtain ⟨v_14, hv_v_14, hx2⟩ := hx2
      refine JL.cnd (sv := .one (.val (S rB v_14))) (Guard.isF (ltB rfl) rfl rfl) rfl (ltB rfl) (fun hq_5 => op_neA (ltB rfl) qa28 (by decide) ng28 (HasO.cnd (.tmp rfl) (notT (notF hq_5))) (HasO.cnd (.tmp rfl) (notT (notF hq_5))) hv_v_14) ?_
      replace hx2 := lt1_inv hx2
      obtain ⟨v_15, hv_v_15, hx2⟩ := hx2
      refine JL.cons rfl (op_pickCS (ltB rfl) (.tmp rfl) (fun hb6 => .cB) (fun hb6 => (HasO.cnd (.tmp rfl) (notT hb6))) hv_v_15) ?_
      refine JL.nil ?_
      replace hx2 := Option.some.inj hx2
      first | subst hx2 | clear hx2
      exact JQ.join () (Imp.norm (js := []) rfl (.cons rfl (.cons rfl (.cons rfl (.cons rfl .nil)))))

end Go.Proofs.Ytdncoiehmkcajaa
