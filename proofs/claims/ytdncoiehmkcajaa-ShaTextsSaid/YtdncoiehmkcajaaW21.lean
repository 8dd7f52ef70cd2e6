/- Walks. -/
import Derived.Test.YtdncoiehmkcajaaT
import Derived.Test.YtdncoiehmkcajaaW16
import Derived.Test.YtdncoiehmkcajaaW19
import Derived.Test.YtdncoiehmkcajaaW20
import Derived.Test.YtdncoiehmkcajaaW6
import Derived.Test.YtdncoiehmkcajaaW7
namespace Go.Proofs.Ytdncoiehmkcajaa
open Go Fw
set_option linter.unusedVariables false
set_option maxRecDepth 100000
set_option maxHeartbeats 4000000

theorem sim_law03_ShaTexts (k : Nat) (t_1 : (Vector UInt8 32)) (a_2 : (Vector UInt8 32)) (a_3 : (List UInt8)) (a_4 : Int) (r : Bool) (hm : law03_ShaTexts k t_1 a_2 a_3 a_4 = some r) : Sim Try.prog 7 [A (rV 32 (rU UInt8)) t_1, A (rV 32 (rU UInt8)) a_2, S rS a_3, S (rI .i64) a_4] [] (γ := Unit) (fun q => []) (fun q => .one (.val (S rB r))) := by
  unfold law03_ShaTexts at hm
  refine Sim.of Try.func7 rfl rfl (Nat.le_of_ble_eq_true rfl) (fun e0 w0 => ?_)
  refine JC.at ⟨[(0, .one (.val (A (rV 32 (rU UInt8)) t_1))), (1, .one (.val (A (rV 32 (rU UInt8)) a_2))), (2, .one (.val (S rS a_3))), (3, .one (.val (S (rI .i64) a_4)))], [], []⟩ ?_
  refine JC.seq ?_
  refine JC.region ?_
  refine JL.consX rfl (op_boxA (ltB rfl) (.tmp rfl)) (fun q => ?_)
  obtain ⟨gb_5, hqq⟩ : ∃ z, z = q := ⟨_, rfl⟩
  subst hqq
  refine JL.pre (Imp.sub (ρ' := [(1, .one (.val (A (rV 32 (rU UInt8)) a_2))), (2, .one (.val (S rS a_3))), (3, .one (.val (S (rI .i64) a_4))), (4, .one (.val (PTR gb_5 0)))]) (.cons rfl (.cons rfl (.cons rfl (.cons rfl .nil))))) ?_
  refine JL.at ⟨[(1, .one (.val (A (rV 32 (rU UInt8)) a_2))), (2, .one (.val (S rS a_3))), (3, .one (.val (S (rI .i64) a_4))), (4, .one (.val (PTR gb_5 0)))], [cvar gb_5 (rV 32 (rU UInt8)) t_1], []⟩ ?_
  refine JL.consX rfl (op_boxA (ltB rfl) (.tmp rfl)) (fun q => ?_)
  obtain ⟨gb_6, hqq⟩ : ∃ z, z = q := ⟨_, rfl⟩
  subst hqq
  refine JL.pre (Imp.sub (ρ' := [(2, .one (.val (S rS a_3))), (3, .one (.val (S (rI .i64) a_4))), (4, .one (.val (PTR gb_5 0))), (5, .one (.val (PTR gb_6 0)))]) (.cons rfl (.cons rfl (.cons rfl (.cons rfl .nil))))) ?_
  refine JL.at ⟨[(2, .one (.val (S rS a_3))), (3, .one (.val (S (rI .i64) a_4))), (4, .one (.val (PTR gb_5 0))), (5, .one (.val (PTR gb_6 0)))], [cvar gb_5 (rV 32 (rU UInt8)) t_1, cvar gb_6 (rV 32 (rU UInt8)) a_2], []⟩ ?_
  refine JL.cons rfl (op_assign (ltB rfl) .cB) ?_
  refine JL.nil ?_
  refine JQ.then ?_
  refine JC.seq ?_
  refine JC.seq ?_
  refine JC.region ?_
  refine JL.cons rfl (op_move (ltB rfl) (.tmp rfl)) ?_
  refine JL.cons rfl (op_lenS (ltB rfl) tu9 (.tmp rfl)) ?_
  replace hm := lt1_inv hm
  obtain ⟨v_7, hv_v_7, hm⟩ := hm
  refine JL.cons rfl (op_cmpI (ltB rfl) (.tmp rfl) .cI (congrArg some hv_v_7)) ?_
  refine JL.nil ?_
  refine JQ.then ?_
  replace hm := iteB_inv hm
  rcases hm with ⟨hc1, hm⟩ | ⟨hc1, hm⟩
  · refine JC.condT (.tmp rfl) hc1 ?_
    refine JC.seq ?_
    refine JC.region ?_
    replace hm := bnd_inv hm
    obtain ⟨v_8, hv_v_8, hm⟩ := hm
    refine JL.consX rfl (op_call (js := []) (ltD rfl) cl9 (sim_law03_known k v_8 hv_v_8) .func .nil rfl) (fun _ => ?_)
    refine JL.cons rfl (op_assign (ltB rfl) (.tmp rfl)) ?_
    refine JL.pre (Imp.norm (ρ' := [(8, .one (.val (S rB v_8)))]) (js := []) rfl (.cons rfl .nil)) ?_
    refine JL.at ⟨[(8, .one (.val (S rB v_8)))], [], []⟩ ?_
    refine JL.nil ?_
    refine JQ.then ?_
    refine JC.ret ?_
    refine JQ.outR ?_
    replace hm := Option.some.inj hm
    subst hm
    exact JQ.done (js := []) (ss := [.val (S rB v_8)]) () (.inl rfl) (.nil rfl) rfl (.cons (.tmp rfl) .nil) rfl rfl rfl
  · refine JC.condF (.tmp rfl) hc1 ?_
    refine JC.skip ?_
    refine JQ.then ?_
    refine JC.seq ?_
    refine JC.region ?_
    refine JL.cons rfl (op_move (ltB rfl) (.tmp rfl)) ?_
    replace hm := bnd_inv hm
    obtain ⟨⟨v_9, v_10⟩, hv_v_9, hm⟩ := hm
    refine JL.consX rfl (op_call (js := []) (ltD rfl) cl16 (sim_sha_Of k a_3 (v_9, v_10) hv_v_9) .func (.cons (.tmp rfl) .nil) rfl) (fun _ => ?_)
    refine JL.pre (Imp.sub (ρ' := [(2, .one (.val (S rS a_3))), (3, .one (.val (S (rI .i64) a_4))), (4, .one (.val (PTR gb_5 0))), (5, .one (.val (PTR gb_6 0))), (19, .tup [.val (A (rV 32 (rU UInt8)) v_9), .val (S (rI .i64) v_10)])]) (.cons rfl (.cons rfl (.cons rfl (.cons rfl (.cons rfl .nil)))))) ?_
    refine JL.at ⟨[(2, .one (.val (S rS a_3))), (3, .one (.val (S (rI .i64) a_4))), (4, .one (.val (PTR gb_5 0))), (5, .one (.val (PTR gb_6 0))), (19, .tup [.val (A (rV 32 (rU UInt8)) v_9), .val (S (rI .i64) v_10)])], [cvar gb_5 (rV 32 (rU UInt8)) t_1, cvar gb_6 (rV 32 (rU UInt8)) a_2], []⟩ ?_
    refine JL.cons rfl (op_move (ltB rfl) (.tmp rfl)) ?_
    refine JL.cons rfl (op_extract (i := 0) (ltB rfl) (.tmp rfl) rfl) ?_
    refine JL.cons rfl (op_extract (i := 1) (ltB rfl) (.tmp rfl) rfl) ?_
    refine JL.consX rfl (op_alloc (ltB rfl) tZ28 zr28) (fun q => ?_)
    obtain ⟨gb_11, hqq⟩ : ∃ z, z = q := ⟨_, rfl⟩
    subst hqq
    refine JL.pre (Imp.sub (ρ' := [(2, .one (.val (S rS a_3))), (3, .one (.val (S (rI .i64) a_4))), (4, .one (.val (PTR gb_5 0))), (5, .one (.val (PTR gb_6 0))), (9, .one (.val (PTR gb_11 0))), (20, .one (.val (A (rV 32 (rU UInt8)) v_9))), (21, .one (.val (S (rI .i64) v_10)))]) (.cons rfl (.cons rfl (.cons rfl (.cons rfl (.cons rfl (.cons rfl (.cons rfl .nil)))))))) ?_
    refine JL.at ⟨[(2, .one (.val (S rS a_3))), (3, .one (.val (S (rI .i64) a_4))), (4, .one (.val (PTR gb_5 0))), (5, .one (.val (PTR gb_6 0))), (9, .one (.val (PTR gb_11 0))), (20, .one (.val (A (rV 32 (rU UInt8)) v_9))), (21, .one (.val (S (rI .i64) v_10)))], [cvar gb_5 (rV 32 (rU UInt8)) t_1, cvar gb_6 (rV 32 (rU UInt8)) a_2, cvar gb_11 (rV 32 (rU UInt8)) (Vector.replicate 32 (0 : UInt8))], []⟩ ?_
    refine JL.cons rfl (op_storeA (j := 2) tA28 (.tmp rfl) (.tmp rfl) rfl (UpdR.self (by rfl)) rfl) ?_
    refine JL.pre (Imp.sub (ρ' := [(2, .one (.val (S rS a_3))), (3, .one (.val (S (rI .i64) a_4))), (4, .one (.val (PTR gb_5 0))), (5, .one (.val (PTR gb_6 0))), (9, .one (.val (PTR gb_11 0))), (21, .one (.val (S (rI .i64) v_10)))]) (.cons rfl (.cons rfl (.cons rfl (.cons rfl (.cons rfl (.cons rfl .nil))))))) ?_
    refine JL.at ⟨[(2, .one (.val (S rS a_3))), (3, .one (.val (S (rI .i64) a_4))), (4, .one (.val (PTR gb_5 0))), (5, .one (.val (PTR gb_6 0))), (9, .one (.val (PTR gb_11 0))), (21, .one (.val (S (rI .i64) v_10)))], [cvar gb_5 (rV 32 (rU UInt8)) t_1, cvar gb_6 (rV 32 (rU UInt8)) a_2, cvar gb_11 (rV 32 (rU UInt8)) v_9], []⟩ ?_
    refine JL.cons rfl (op_assign (ltB rfl) (.tmp rfl)) ?_
    refine JL.nil ?_
    refine JQ.then ?_
    refine JC.seq ?_
    refine JC.region ?_
    refine JL.cons rfl (op_move (ltB rfl) (.tmp rfl)) ?_
    replace hm := bnd_inv hm
    obtain ⟨⟨v_12, v_13⟩, hv_v_12, hm⟩ := hm
    refine JL.consX rfl (op_call (js := []) (ltD rfl) cl19 (sim_ref03_Of k a_3 (v_12, v_13) hv_v_12) .func (.cons (.tmp rfl) .nil) rfl) (fun _ => ?_)
    refine JL.cons rfl (op_move (ltB rfl) (.tmp rfl)) ?_
    refine JL.cons rfl (op_extract (i := 0) (ltB rfl) (.tmp rfl) rfl) ?_
    refine JL.cons rfl (op_extract (i := 1) (ltB rfl) (.tmp rfl) rfl) ?_
    refine JL.pre (Imp.sub (ρ' := [(3, .one (.val (S (rI .i64) a_4))), (4, .one (.val (PTR gb_5 0))), (5, .one (.val (PTR gb_6 0))), (9, .one (.val (PTR gb_11 0))), (10, .one (.val (S (rI .i64) v_10))), (25, .one (.val (A (rV 32 (rU UInt8)) v_12))), (26, .one (.val (S rB v_13)))]) (.cons rfl (.cons rfl (.cons rfl (.cons rfl (.cons rfl (.cons rfl (.cons rfl .nil)))))))) ?_
    refine JL.at ⟨[(3, .one (.val (S (rI .i64) a_4))), (4, .one (.val (PTR gb_5 0))), (5, .one (.val (PTR gb_6 0))), (9, .one (.val (PTR gb_11 0))), (10, .one (.val (S (rI .i64) v_10))), (25, .one (.val (A (rV 32 (rU UInt8)) v_12))), (26, .one (.val (S rB v_13)))], [cvar gb_5 (rV 32 (rU UInt8)) t_1, cvar gb_6 (rV 32 (rU UInt8)) a_2, cvar gb_11 (rV 32 (rU UInt8)) v_9], []⟩ ?_
    refine JL.consX rfl (op_alloc (ltB rfl) tZ28 zr28) (fun q => ?_)
    obtain ⟨gb_14, hqq⟩ : ∃ z, z = q := ⟨_, rfl⟩
    subst hqq
    refine JL.pre (Imp.sub (ρ' := [(3, .one (.val (S (rI .i64) a_4))), (4, .one (.val (PTR gb_5 0))), (5, .one (.val (PTR gb_6 0))), (9, .one (.val (PTR gb_11 0))), (10, .one (.val (S (rI .i64) v_10))), (11, .one (.val (PTR gb_14 0))), (25, .one (.val (A (rV 32 (rU UInt8)) v_12))), (26, .one (.val (S rB v_13)))]) (.cons rfl (.cons rfl (.cons rfl (.cons rfl (.cons rfl (.cons rfl (.cons rfl (.cons rfl .nil))))))))) ?_
    refine JL.at ⟨[(3, .one (.val (S (rI .i64) a_4))), (4, .one (.val (PTR gb_5 0))), (5, .one (.val (PTR gb_6 0))), (9, .one (.val (PTR gb_11 0))), (10, .one (.val (S (rI .i64) v_10))), (11, .one (.val (PTR gb_14 0))), (25, .one (.val (A (rV 32 (rU UInt8)) v_12))), (26, .one (.val (S rB v_13)))], [cvar gb_5 (rV 32 (rU UInt8)) t_1, cvar gb_6 (rV 32 (rU UInt8)) a_2, cvar gb_11 (rV 32 (rU UInt8)) v_9, cvar gb_14 (rV 32 (rU UInt8)) (Vector.replicate 32 (0 : UInt8))], []⟩ ?_
    refine JL.cons rfl (op_storeA (j := 3) tA28 (.tmp rfl) (.tmp rfl) rfl (UpdR.self (by rfl)) rfl) ?_
    refine JL.pre (Imp.sub (ρ' := [(3, .one (.val (S (rI .i64) a_4))), (4, .one (.val (PTR gb_5 0))), (5, .one (.val (PTR gb_6 0))), (9, .one (.val (PTR gb_11 0))), (10, .one (.val (S (rI .i64) v_10))), (11, .one (.val (PTR gb_14 0))), (26, .one (.val (S rB v_13)))]) (.cons rfl (.cons rfl (.cons rfl (.cons rfl (.cons rfl (.cons rfl (.cons rfl .nil)))))))) ?_
    refine JL.at ⟨[(3, .one (.val (S (rI .i64) a_4))), (4, .one (.val (PTR gb_5 0))), (5, .one (.val (PTR gb_6 0))), (9, .one (.val (PTR gb_11 0))), (10, .one (.val (S (rI .i64) v_10))), (11, .one (.val (PTR gb_14 0))), (26, .one (.val (S rB v_13)))], [cvar gb_5 (rV 32 (rU UInt8)) t_1, cvar gb_6 (rV 32 (rU UInt8)) a_2, cvar gb_11 (rV 32 (rU UInt8)) v_9, cvar gb_14 (rV 32 (rU UInt8)) v_12], []⟩ ?_
    refine JL.cons rfl (op_assign (ltB rfl) (.tmp rfl)) ?_
    refine JL.nil ?_
    refine JQ.then ?_
    replace hm := bnd_inv hm
    obtain ⟨x_43, hx2, hq2⟩ := hm
    refine JC.seqJ (γ := Unit) (stj := fun q => ⟨[(8, .one (.val (S rB x_43)))], [], []⟩) (fun q => ?_) ?_
    · obtain _ := q
      refine JC.at ⟨[(8, .one (.val (S rB x_43)))], [], []⟩ ?_
      refine JC.ret ?_
      replace hq2 := Option.some.inj hq2
      subst hq2
      exact JQ.done (js := []) (ss := [.val (S rB x_43)]) () (.inl rfl) (.nil rfl) rfl (.cons (.tmp rfl) .nil) rfl rfl rfl
    · refine JC.pre (Imp.frzVar (j := 0) rfl (ImpK.slotP (s := 4) rfl (Comp.self (rV 32 (rU UInt8)) t_1) ImpK.refl)) ?_
      replace hx2 := bnd_inv hx2
      obtain ⟨v_15, hv_v_15, hx2⟩ := hx2
      replace hx2 := bnd_inv hx2
      obtain ⟨v_16, hv_v_16, hx2⟩ := hx2
      replace hx2 := bnd_inv hx2
      obtain ⟨v_17, hv_v_17, hx2⟩ := hx2
      replace hx2 := lt1_inv hx2
      obtain ⟨v_18, hv_v_18, hx2⟩ := hx2
      replace hx2 := bnd_inv hx2
      obtain ⟨v_19, hv_v_19, hx2⟩ := hx2
      replace hx2 := lt1_inv hx2
      obtain ⟨v_20, hv_v_20, hx2⟩ := hx2
      replace hx2 := lt1_inv hx2
      obtain ⟨v_21, hv_v_21, hx2⟩ := hx2
      replace hx2 := lt1_inv hx2
      obtain ⟨v_22, hv_v_22, hx2⟩ := hx2
      replace hx2 := lt1_inv hx2
      obtain ⟨v_23, hv_v_23, hx2⟩ := hx2
      replace hx2 := lt1_inv hx2
      obtain ⟨v_24, hv_v_24, hx2⟩ := hx2
      replace hx2 := bnd_inv hx2
      obtain ⟨_, hv_u_25, hx2⟩ := hx2
      replace hx2 := lt1_inv hx2
      obtain ⟨v_26, hv_v_26, hx2⟩ := hx2
      replace hx2 := lt1_inv hx2
      obtain ⟨v_27, hv_v_27, hx2⟩ := hx2
      replace hx2 := lt1_inv hx2
      obtain ⟨v_28, hv_v_28, hx2⟩ := hx2
      replace hx2 := bnd_inv hx2
      obtain ⟨_, hv_u_29, hx2⟩ := hx2
      replace hx2 := lt1_inv hx2
      obtain ⟨v_30, hv_v_30, hx2⟩ := hx2
      replace hx2 := lt1_inv hx2
      obtain ⟨v_31, hv_v_31, hx2⟩ := hx2
      replace hx2 := lt1_inv hx2
      obtain ⟨v_32, hv_v_32, hx2⟩ := hx2
      replace hx2 := bnd_inv hx2
      obtain ⟨v_33, hv_v_33, hx2⟩ := hx2
      replace hx2 := bnd_inv hx2
      obtain ⟨v_34, hv_v_34, hx2⟩ := hx2
      replace hx2 := lt1_inv hx2
      obtain ⟨v_35, hv_v_35, hx2⟩ := hx2
      replace hx2 := lt1_inv hx2
      obtain ⟨v_36, hv_v_36, hx2⟩ := hx2
      replace hx2 := bnd_inv hx2
      obtain ⟨v_37, hv_v_37, hx2⟩ := hx2
      replace hx2 := bnd_inv hx2
      obtain ⟨v_38, hv_v_38, hx2⟩ := hx2
      replace hx2 := lt1_inv hx2
      obtain ⟨v_39, hv_v_39, hx2⟩ := hx2
      replace hx2 := lt1_inv hx2
      obtain ⟨v_40, hv_v_40, hx2⟩ := hx2
      replace hx2 := bnd_inv hx2
      obtain ⟨v_41, hv_v_41, hx2⟩ := hx2
      replace hx2 := lt1_inv hx2
      obtain ⟨v_42, hv_v_42, hx2⟩ := hx2
      refine JC.anyE (kl := []) (kk := 0) (base := [(3, .one (.val (S (rI .i64) a_4))), (4, .one (.val (PT (rV 32 (rU UInt8)) t_1))), (5, .one (.val (PTR gb_6 0))), (9, .one (.val (PTR gb_11 0))), (10, .one (.val (S (rI .i64) v_10))), (11, .one (.val (PTR gb_14 0))), (12, .one (.val (S rB v_13)))])
          (fs := fun γ => [⟨some 27, .one (.val (A (rV 32 (rU UInt8)) t_1))⟩, ⟨some 28, .one (.val (S rS v_15))⟩, ⟨some 29, .one (.val (S (rL (rU UInt8)) v_16))⟩, ⟨some 30, .one (.val (S rS v_17))⟩, ⟨some 31, .one (.val (S rB v_18))⟩, ⟨some 32, .one (.val (S rB v_18))⟩, ⟨some 33, bif v_18 then .one (.val (A (rV 32 (rU UInt8)) t_1)) else .one .und⟩, ⟨some 34, bif v_18 then .one (.val (A (rV 32 (rU UInt8)) a_2)) else .one .und⟩, ⟨some 35, bif v_18 then .one (.val (S rB v_19)) else .one .und⟩, ⟨some 36, bif v_18 then .one (.val (A (rV 32 (rU UInt8)) t_1)) else .one .und⟩, ⟨some 37, bif v_18 then .one (.val (A (rV 32 (rU UInt8)) a_2)) else .one .und⟩, ⟨some 38, bif v_18 then .one (.val (S rB v_20)) else .one .und⟩, ⟨some 39, bif v_18 then .one (.val (S rB v_21)) else .one .und⟩, ⟨some 40, .one (.val (S rB v_22))⟩, ⟨some 41, .one (.val (S rB v_22))⟩, ⟨some 42, bif v_22 then .one (.val (A (rV 32 (rU UInt8)) v_9)) else .one .und⟩, ⟨some 43, bif v_22 then .one (.val (A (rV 32 (rU UInt8)) v_12)) else .one .und⟩, ⟨some 44, bif v_22 then .one (.val (S rB v_23)) else .one .und⟩, ⟨some 45, .one (.val (S rB v_24))⟩, ⟨some 46, .one (.val (S rB v_24))⟩, ⟨some 47, bif v_24 then .one (.val (S (rI .i64) v_10)) else .one .und⟩, ⟨some 48, bif v_24 then .one (.val (S (rI .i64) v_10)) else .one .und⟩, ⟨some 49, bif v_24 then .one (.val (S rB v_26)) else .one .und⟩, ⟨some 50, bif v_24 then .one (.val (S rB v_13)) else .one .und⟩, ⟨some 51, bif v_24 then .one (.val (S rB v_27)) else .one .und⟩, ⟨some 52, .one (.val (S rB v_28))⟩, ⟨some 53, .one (.val (S rB v_28))⟩, ⟨some 54, bif v_28 then .one (.val (S rB v_13)) else .one .und⟩, ⟨some 55, bif v_28 then .one (.val (S rB v_13)) else .one .und⟩, ⟨some 56, bif (v_28 && (!v_13)) then .one (.val (S (rI .i64) v_10)) else .one .und⟩, ⟨some 57, bif (v_28 && (!v_13)) then .one (.val (S (rI .i64) v_10)) else .one .und⟩, ⟨some 58, bif (v_28 && (!v_13)) then .one (.val (S rB v_30)) else .one .und⟩, ⟨some 59, bif v_28 then .one (.val (S rB v_31)) else .one .und⟩, ⟨some 60, .one (.val (S rB v_32))⟩, ⟨some 61, .one (.val (S rB v_32))⟩, ⟨some 62, bif v_32 then .one (.val (S (rI .i64) a_4)) else .one .und⟩, ⟨some 63, bif v_32 then .one (.val (S (rU UInt32) v_33)) else .one .und⟩, ⟨some 64, bif v_32 then .one (.val (S (rI .i64) a_4)) else .one .und⟩, ⟨some 65, bif v_32 then .one (.val (S (rU UInt32) v_34)) else .one .und⟩, ⟨some 66, bif v_32 then .one (.val (S rB v_35)) else .one .und⟩, ⟨some 67, .one (.val (S rB v_36))⟩, ⟨some 68, .one (.val (S rB v_36))⟩, ⟨some 69, bif v_36 then .one (.val (S (rI .i64) a_4)) else .one .und⟩, ⟨some 70, bif v_36 then .one (.val (S (rU UInt32) v_37)) else .one .und⟩, ⟨some 71, bif v_36 then .one (.val (S (rI .i64) a_4)) else .one .und⟩, ⟨some 72, bif v_36 then .one (.val (S (rU UInt32) v_38)) else .one .und⟩, ⟨some 73, bif v_36 then .one (.val (S rB v_39)) else .one .und⟩, ⟨some 74, .one (.val (S rB v_40))⟩, ⟨some 75, .one (.val (S rB v_40))⟩, ⟨some 76, bif v_40 then .one (.val (S rB v_41)) else .one .und⟩, ⟨some 77, .one (.val (S rB v_42))⟩, ⟨some 8, .one (.val (S rB v_42))⟩])
          (rs := fun γ => [⟨cvar gb_6 (rV 32 (rU UInt8)) a_2, none, none, [7, 10]⟩, ⟨cvar gb_11 (rV 32 (rU UInt8)) v_9, none, none, [15]⟩, ⟨cvar gb_14 (rV 32 (rU UInt8)) v_12, none, none, [16]⟩])
          (ds := [27, 28, 29, 30, 31, 32, 33, 34, 35, 36, 37, 38, 39, 40, 41, 42, 43, 44, 45, 46, 47, 48, 49, 50, 51, 52, 53, 54, 55, 56, 57, 58, 59, 60, 61, 62, 63, 64, 65, 66, 67, 68, 69, 70, 71, 72, 73, 74, 75, 76, 77, 8]) (bs := [3, 4, 5, 9, 10, 11, 12]) (afts := [[], [], [], [], [], [], [], [], [], [], [], [], [], [], [], [], [], [], [], [], [], [], [], [], [], [], [], [], [], [], [], [], [], [], [], [], [], [], [], [], [], [], [], [], [], [], [], [], [], [], [], []]) (js := [0, 0, 0]) mixed (.cons rfl (.cons rfl (.cons rfl (.cons rfl (.cons rfl (.cons rfl (.cons rfl .nil))))))) (fun _ => rfl)
          (by
      refine DSteps.cons (j := 1) rfl (fun _ => rfl) (.run (fun γ ρ B hb hd => ⟨.none, OpStep.at ⟨ρ, B, _⟩ (setO ⟨ρ, B, _⟩ (some 27) (.one (.val (A (rV 32 (rU UInt8)) t_1)))) (op_loadPAg (ltB rfl) tA28 (.tmp (hb 4 _ rfl)) rfl)⟩)) ?_
      refine DSteps.cons (j := 2) rfl (fun _ => rfl) (.run (fun γ ρ B hb hd => ⟨.none, OpStep.at ⟨ρ, B, _⟩ (setO ⟨ρ, B, _⟩ (some 28) (.one (.val (S rS v_15)))) ((op_call (js := []) (ltD rfl) cl17 (sim_sha_Text k t_1 v_15 hv_v_15) .func (.cons (.tmp (hdl hd 0 27 rfl (by decide +kernel))) .nil) rfl).post (fun _ => Imp.refl))⟩)) ?_
      refine DSteps.cons (j := 3) rfl (fun _ => rfl) (.run (fun γ ρ B hb hd => ⟨.none, OpStep.at ⟨ρ, B, _⟩ (setO ⟨ρ, B, _⟩ (some 29) (.one (.val (S (rL (rU UInt8)) v_16)))) (op_sliceP (ltB rfl) tu28 tz5 (.tmp (hb 4 _ rfl)) .none .none hv_v_16)⟩)) ?_
      refine DSteps.cons (j := 4) rfl (fun _ => rfl) (.run (fun γ ρ B hb hd => ⟨.none, OpStep.at ⟨ρ, B, _⟩ (setO ⟨ρ, B, _⟩ (some 30) (.one (.val (S rS v_17)))) ((op_call (js := []) (ltD rfl) cl20 (sim_ref01_Hex k v_16 v_17 hv_v_17) .func (.cons (.tmp (hdl hd 2 29 rfl (by decide +kernel))) .nil) rfl).post (fun _ => Imp.refl))⟩)) ?_
      refine DSteps.cons (j := 5) rfl (fun _ => rfl) (.run (fun γ ρ B hb hd => ⟨.none, OpStep.at ⟨ρ, B, _⟩ (setO ⟨ρ, B, _⟩ (some 31) (.one (.val (S rB v_18)))) (op_cmpS (ltB rfl) (.tmp (hdl hd 1 28 rfl (by decide +kernel))) (.tmp (hdl hd 3 30 rfl (by decide +kernel))) (congrArg some hv_v_18))⟩)) ?_
      refine DSteps.cons (j := 6) rfl (fun _ => rfl) (.run (fun γ ρ B hb hd => ⟨.none, OpStep.at ⟨ρ, B, _⟩ (setO ⟨ρ, B, _⟩ (some 32) (.one (.val (S rB v_18)))) (op_move (ltB rfl) (.tmp (hdl hd 4 31 rfl (by decide +kernel))))⟩)) ?_
      refine DSteps.cons (j := 7) rfl (fun _ => rfl) (.cnd (q := v_18) (sv := fun γ => .one (.val (A (rV 32 (rU UInt8)) t_1))) (fun _ => rfl) (fun _ => rfl) (fun d h => by cases h; exact ltB rfl) (fun _ => rfl) (fun γ ρ B hb hd => ⟨(Guard.isT (ltB rfl) rfl (hdl hd 5 32 rfl (by decide +kernel))), fun hq_3 => OpStep.at ⟨ρ, B, _⟩ (setO ⟨ρ, B, _⟩ (some 33) (.one (.val (A (rV 32 (rU UInt8)) t_1)))) (op_loadPAg (ltB rfl) tA28 (.tmp (hb 4 _ rfl)) rfl)⟩)) ?_
      refine DSteps.cons (j := 8) rfl (fun _ => rfl) (.cnd (q := v_18) (sv := fun γ => .one (.val (A (rV 32 (rU UInt8)) a_2))) (fun _ => rfl) (fun _ => rfl) (fun d h => by cases h; exact ltB rfl) (fun _ => rfl) (fun γ ρ B hb hd => ⟨(Guard.isT (ltB rfl) rfl (hdl hd 5 32 rfl (by decide +kernel))), fun hq_4 => OpStep.at ⟨ρ, (cvar gb_6 (rV 32 (rU UInt8)) a_2) :: B, _⟩ (setO ⟨ρ, (cvar gb_6 (rV 32 (rU UInt8)) a_2) :: B, _⟩ (some 34) (.one (.val (A (rV 32 (rU UInt8)) a_2)))) (op_loadA (j := 0) (ltB rfl) tA28 (.tmp (hb 5 _ rfl)) rfl (Comp.self (rV 32 (rU UInt8)) a_2) rfl)⟩)) ?_
      refine DSteps.cons (j := 9) rfl (fun _ => rfl) (.cnd (q := v_18) (sv := fun γ => .one (.val (S rB v_19))) (fun _ => rfl) (fun _ => rfl) (fun d h => by cases h; exact ltB rfl) (fun _ => rfl) (fun γ ρ B hb hd => ⟨(Guard.isT (ltB rfl) rfl (hdl hd 5 32 rfl (by decide +kernel))), fun hq_5 => OpStep.at ⟨ρ, B, _⟩ (setO ⟨ρ, B, _⟩ (some 35) (.one (.val (S rB v_19)))) ((op_call (js := []) (ltD rfl) cl21 (sim_sha_Equal k t_1 a_2 v_19 (ifT hv_v_19 hq_5)) .func (.cons (HasO.cnd (.tmp (hdl hd 6 33 rfl (by decide +kernel))) hq_5) (.cons (HasO.cnd (.tmp (hdl hd 7 34 rfl (by decide +kernel))) hq_5) .nil)) rfl).post (fun _ => Imp.refl))⟩)) ?_
      refine DSteps.cons (j := 10) rfl (fun _ => rfl) (.cnd (q := v_18) (sv := fun γ => .one (.val (A (rV 32 (rU UInt8)) t_1))) (fun _ => rfl) (fun _ => rfl) (fun d h => by cases h; exact ltB rfl) (fun _ => rfl) (fun γ ρ B hb hd => ⟨(Guard.isT (ltB rfl) rfl (hdl hd 5 32 rfl (by decide +kernel))), fun hq_6 => OpStep.at ⟨ρ, B, _⟩ (setO ⟨ρ, B, _⟩ (some 36) (.one (.val (A (rV 32 (rU UInt8)) t_1)))) (op_loadPAg (ltB rfl) tA28 (.tmp (hb 4 _ rfl)) rfl)⟩)) ?_
      refine DSteps.cons (j := 11) rfl (fun _ => rfl) (.cnd (q := v_18) (sv := fun γ => .one (.val (A (rV 32 (rU UInt8)) a_2))) (fun _ => rfl) (fun _ => rfl) (fun d h => by cases h; exact ltB rfl) (fun _ => rfl) (fun γ ρ B hb hd => ⟨(Guard.isT (ltB rfl) rfl (hdl hd 5 32 rfl (by decide +kernel))), fun hq_7 => OpStep.at ⟨ρ, (cvar gb_6 (rV 32 (rU UInt8)) a_2) :: B, _⟩ (setO ⟨ρ, (cvar gb_6 (rV 32 (rU UInt8)) a_2) :: B, _⟩ (some 37) (.one (.val (A (rV 32 (rU UInt8)) a_2)))) (op_loadA (j := 0) (ltB rfl) tA28 (.tmp (hb 5 _ rfl)) rfl (Comp.self (rV 32 (rU UInt8)) a_2) rfl)⟩)) ?_
      refine DSteps.cons (j := 12) rfl (fun _ => rfl) (.cnd (q := v_18) (sv := fun γ => .one (.val (S rB v_20))) (fun _ => rfl) (fun _ => rfl) (fun d h => by cases h; exact ltB rfl) (fun _ => rfl) (fun γ ρ B hb hd => ⟨(Guard.isT (ltB rfl) rfl (hdl hd 5 32 rfl (by decide +kernel))), fun hq_8 => OpStep.at ⟨ρ, B, _⟩ (setO ⟨ρ, B, _⟩ (some 38) (.one (.val (S rB v_20)))) (op_eqA (ltB rfl) qa28 (by decide) ng28 (HasO.cnd (.tmp (hdl hd 9 36 rfl (by decide +kernel))) hq_8) (HasO.cnd (.tmp (hdl hd 10 37 rfl (by decide +kernel))) hq_8) hv_v_20)⟩)) ?_
      refine DSteps.cons (j := 13) rfl (fun _ => rfl) (.cnd (q := v_18) (sv := fun γ => .one (.val (S rB v_21))) (fun _ => rfl) (fun _ => rfl) (fun d h => by cases h; exact ltB rfl) (fun _ => rfl) (fun γ ρ B hb hd => ⟨(Guard.isT (ltB rfl) rfl (hdl hd 5 32 rfl (by decide +kernel))), fun hq_9 => OpStep.at ⟨ρ, B, _⟩ (setO ⟨ρ, B, _⟩ (some 39) (.one (.val (S rB v_21)))) (op_eqB (ltB rfl) tu4 (HasO.cnd (.tmp (hdl hd 8 35 rfl (by decide +kernel))) hq_9) (HasO.cnd (.tmp (hdl hd 11 38 rfl (by decide +kernel))) hq_9) hv_v_21)⟩)) ?_
      refine DSteps.cons (j := 14) rfl (fun _ => rfl) (.run (fun γ ρ B hb hd => ⟨.none, OpStep.at ⟨ρ, B, _⟩ (setO ⟨ρ, B, _⟩ (some 40) (.one (.val (S rB v_22)))) (op_pickCS (ltB rfl) (.tmp (hdl hd 5 32 rfl (by decide +kernel))) (fun hb10 => (HasO.cnd (.tmp (hdl hd 12 39 rfl (by decide +kernel))) hb10)) (fun hb10 => .cB) hv_v_22)⟩)) ?_
      refine DSteps.cons (j := 15) rfl (fun _ => rfl) (.run (fun γ ρ B hb hd => ⟨.none, OpStep.at ⟨ρ, B, _⟩ (setO ⟨ρ, B, _⟩ (some 41) (.one (.val (S rB v_22)))) (op_move (ltB rfl) (.tmp (hdl hd 13 40 rfl (by decide +kernel))))⟩)) ?_
      refine DSteps.cons (j := 16) rfl (fun _ => rfl) (.cnd (q := v_22) (sv := fun γ => .one (.val (A (rV 32 (rU UInt8)) v_9))) (fun _ => rfl) (fun _ => rfl) (fun d h => by cases h; exact ltB rfl) (fun _ => rfl) (fun γ ρ B hb hd => ⟨(Guard.isT (ltB rfl) rfl (hdl hd 14 41 rfl (by decide +kernel))), fun hq_11 => OpStep.at ⟨ρ, (cvar gb_11 (rV 32 (rU UInt8)) v_9) :: B, _⟩ (setO ⟨ρ, (cvar gb_11 (rV 32 (rU UInt8)) v_9) :: B, _⟩ (some 42) (.one (.val (A (rV 32 (rU UInt8)) v_9)))) (op_loadA (j := 0) (ltB rfl) tA28 (.tmp (hb 9 _ rfl)) rfl (Comp.self (rV 32 (rU UInt8)) v_9) rfl)⟩)) ?_
      refine DSteps.cons (j := 17) rfl (fun _ => rfl) (.cnd (q := v_22) (sv := fun γ => .one (.val (A (rV 32 (rU UInt8)) v_12))) (fun _ => rfl) (fun _ => rfl) (fun d h => by cases h; exact ltB rfl) (fun _ => rfl) (fun γ ρ B hb hd => ⟨(Guard.isT (ltB rfl) rfl (hdl hd 14 41 rfl (by decide +kernel))), fun hq_12 => OpStep.at ⟨ρ, (cvar gb_14 (rV 32 (rU UInt8)) v_12) :: B, _⟩ (setO ⟨ρ, (cvar gb_14 (rV 32 (rU UInt8)) v_12) :: B, _⟩ (some 43) (.one (.val (A (rV 32 (rU UInt8)) v_12)))) (op_loadA (j := 0) (ltB rfl) tA28 (.tmp (hb 11 _ rfl)) rfl (Comp.self (rV 32 (rU UInt8)) v_12) rfl)⟩)) ?_
      refine DSteps.cons (j := 18) rfl (fun _ => rfl) (.cnd (q := v_22) (sv := fun γ => .one (.val (S rB v_23))) (fun _ => rfl) (fun _ => rfl) (fun d h => by cases h; exact ltB rfl) (fun _ => rfl) (fun γ ρ B hb hd => ⟨(Guard.isT (ltB rfl) rfl (hdl hd 14 41 rfl (by decide +kernel))), fun hq_13 => OpStep.at ⟨ρ, B, _⟩ (setO ⟨ρ, B, _⟩ (some 44) (.one (.val (S rB v_23)))) (op_eqA (ltB rfl) qa28 (by decide) ng28 (HasO.cnd (.tmp (hdl hd 15 42 rfl (by decide +kernel))) hq_13) (HasO.cnd (.tmp (hdl hd 16 43 rfl (by decide +kernel))) hq_13) hv_v_23)⟩)) ?_
      refine DSteps.cons (j := 19) rfl (fun _ => rfl) (.run (fun γ ρ B hb hd => ⟨.none, OpStep.at ⟨ρ, B, _⟩ (setO ⟨ρ, B, _⟩ (some 45) (.one (.val (S rB v_24)))) (op_pickCS (ltB rfl) (.tmp (hdl hd 14 41 rfl (by decide +kernel))) (fun hb14 => (HasO.cnd (.tmp (hdl hd 17 44 rfl (by decide +kernel))) hb14)) (fun hb14 => .cB) hv_v_24)⟩)) ?_
      refine DSteps.cons (j := 20) rfl (fun _ => rfl) (.run (fun γ ρ B hb hd => ⟨.none, OpStep.at ⟨ρ, B, _⟩ (setO ⟨ρ, B, _⟩ (some 46) (.one (.val (S rB v_24)))) (op_move (ltB rfl) (.tmp (hdl hd 18 45 rfl (by decide +kernel))))⟩)) ?_
      refine DSteps.cons (j := 21) rfl (fun _ => rfl) (.cnd (q := v_24) (sv := fun γ => .one (.val (S (rI .i64) v_10))) (fun _ => rfl) (fun _ => rfl) (fun d h => by cases h; exact ltB rfl) (fun _ => rfl) (fun γ ρ B hb hd => ⟨(Guard.isT (ltB rfl) rfl (hdl hd 19 46 rfl (by decide +kernel))), fun hq_15 => OpStep.at ⟨ρ, B, _⟩ (setO ⟨ρ, B, _⟩ (some 47) (.one (.val (S (rI .i64) v_10)))) (op_move (ltB rfl) (.tmp (hb 10 _ rfl)))⟩)) ?_
      refine DSteps.cons (j := 22) rfl (fun _ => rfl) (.cnd (q := v_24) (sv := fun γ => .one (.val (S (rI .i64) v_10))) (fun _ => rfl) (fun _ => rfl) (fun d h => by cases h; exact ltB rfl) (fun _ => rfl) (fun γ ρ B hb hd => ⟨(Guard.isT (ltB rfl) rfl (hdl hd 19 46 rfl (by decide +kernel))), fun hq_16 => OpStep.at ⟨ρ, B, _⟩ (setO ⟨ρ, B, _⟩ (some 48) (.one (.val (S (rI .i64) v_10)))) ((op_call (js := []) (ltD rfl) cl18 (sim_law03_num k v_10 () (ifT hv_u_25 hq_16)) .func (.cons (HasO.cnd (.tmp (hdl hd 20 47 rfl (by decide +kernel))) hq_16) .nil) rfl).post (fun _ => Imp.refl))⟩)) ?_
      refine DSteps.cons (j := 23) rfl (fun _ => rfl) (.cnd (q := v_24) (sv := fun γ => .one (.val (S rB v_26))) (fun _ => rfl) (fun _ => rfl) (fun d h => by cases h; exact ltB rfl) (fun _ => rfl) (fun γ ρ B hb hd => ⟨(Guard.isT (ltB rfl) rfl (hdl hd 19 46 rfl (by decide +kernel))), fun hq_17 => OpStep.at ⟨ρ, B, _⟩ (setO ⟨ρ, B, _⟩ (some 49) (.one (.val (S rB v_26)))) (op_cmpI (ltB rfl) (HasO.cnd (.tmp (hdl hd 21 48 rfl (by decide +kernel))) hq_17) .cI (congrArg some hv_v_26))⟩)) ?_
      refine DSteps.cons (j := 24) rfl (fun _ => rfl) (.cnd (q := v_24) (sv := fun γ => .one (.val (S rB v_13))) (fun _ => rfl) (fun _ => rfl) (fun d h => by cases h; exact ltB rfl) (fun _ => rfl) (fun γ ρ B hb hd => ⟨(Guard.isT (ltB rfl) rfl (hdl hd 19 46 rfl (by decide +kernel))), fun hq_18 => OpStep.at ⟨ρ, B, _⟩ (setO ⟨ρ, B, _⟩ (some 50) (.one (.val (S rB v_13)))) (op_move (ltB rfl) (.tmp (hb 12 _ rfl)))⟩)) ?_
      refine DSteps.cons (j := 25) rfl (fun _ => rfl) (.cnd (q := v_24) (sv := fun γ => .one (.val (S rB v_27))) (fun _ => rfl) (fun _ => rfl) (fun d h => by cases h; exact ltB rfl) (fun _ => rfl) (fun γ ρ B hb hd => ⟨(Guard.isT (ltB rfl) rfl (hdl hd 19 46 rfl (by decide +kernel))), fun hq_19 => OpStep.at ⟨ρ, B, _⟩ (setO ⟨ρ, B, _⟩ (some 51) (.one (.val (S rB v_27)))) (op_eqB (ltB rfl) tu4 (HasO.cnd (.tmp (hdl hd 22 49 rfl (by decide +kernel))) hq_19) (HasO.cnd (.tmp (hdl hd 23 50 rfl (by decide +kernel))) hq_19) hv_v_27)⟩)) ?_
      refine DSteps.cons (j := 26) rfl (fun _ => rfl) (.run (fun γ ρ B hb hd => ⟨.none, OpStep.at ⟨ρ, B, _⟩ (setO ⟨ρ, B, _⟩ (some 52) (.one (.val (S rB v_28)))) (op_pickCS (ltB rfl) (.tmp (hdl hd 19 46 rfl (by decide +kernel))) (fun hb20 => (HasO.cnd (.tmp (hdl hd 24 51 rfl (by decide +kernel))) hb20)) (fun hb20 => .cB) hv_v_28)⟩)) ?_
      refine DSteps.cons (j := 27) rfl (fun _ => rfl) (.run (fun γ ρ B hb hd => ⟨.none, OpStep.at ⟨ρ, B, _⟩ (setO ⟨ρ, B, _⟩ (some 53) (.one (.val (S rB v_28)))) (op_move (ltB rfl) (.tmp (hdl hd 25 52 rfl (by decide +kernel))))⟩)) ?_
      refine DSteps.cons (j := 28) rfl (fun _ => rfl) (.cnd (q := v_28) (sv := fun γ => .one (.val (S rB v_13))) (fun _ => rfl) (fun _ => rfl) (fun d h => by cases h; exact ltB rfl) (fun _ => rfl) (fun γ ρ B hb hd => ⟨(Guard.isT (ltB rfl) rfl (hdl hd 26 53 rfl (by decide +kernel))), fun hq_21 => OpStep.at ⟨ρ, B, _⟩ (setO ⟨ρ, B, _⟩ (some 54) (.one (.val (S rB v_13)))) (op_move (ltB rfl) (.tmp (hb 12 _ rfl)))⟩)) ?_
      refine DSteps.cons (j := 29) rfl (fun _ => rfl) (.cnd (q := v_28) (sv := fun γ => .one (.val (S rB v_13))) (fun _ => rfl) (fun _ => rfl) (fun d h => by cases h; exact ltB rfl) (fun _ => rfl) (fun γ ρ B hb hd => ⟨(Guard.isT (ltB rfl) rfl (hdl hd 26 53 rfl (by decide +kernel))), fun hq_22 => OpStep.at ⟨ρ, B, _⟩ (setO ⟨ρ, B, _⟩ (some 55) (.one (.val (S rB v_13)))) (op_move (ltB rfl) (HasO.cnd (.tmp (hdl hd 27 54 rfl (by decide +kernel))) hq_22))⟩)) ?_
      refine DSteps.cons (j := 30) rfl (fun _ => rfl) (.cnd (q := (v_28 && (!v_13))) (sv := fun γ => .one (.val (S (rI .i64) v_10))) (fun _ => rfl) (fun _ => rfl) (fun d h => by cases h; exact ltB rfl) (fun _ => rfl) (fun γ ρ B hb hd => ⟨(Guard.cF (q := v_28) (ltB rfl) rfl (hdl hd 28 55 rfl (by decide +kernel))), fun hq_23 => OpStep.at ⟨ρ, B, _⟩ (setO ⟨ρ, B, _⟩ (some 56) (.one (.val (S (rI .i64) v_10)))) (op_move (ltB rfl) (.tmp (hb 10 _ rfl)))⟩)) ?_
      refine DSteps.cons (j := 31) rfl (fun _ => rfl) (.cnd (q := (v_28 && (!v_13))) (sv := fun γ => .one (.val (S (rI .i64) v_10))) (fun _ => rfl) (fun _ => rfl) (fun d h => by cases h; exact ltB rfl) (fun _ => rfl) (fun γ ρ B hb hd => ⟨(Guard.cF (q := v_28) (ltB rfl) rfl (hdl hd 28 55 rfl (by decide +kernel))), fun hq_24 => OpStep.at ⟨ρ, B, _⟩ (setO ⟨ρ, B, _⟩ (some 57) (.one (.val (S (rI .i64) v_10)))) ((op_call (js := []) (ltD rfl) cl18 (sim_law03_num k v_10 () (ifT hv_u_29 hq_24)) .func (.cons (HasO.cnd (.tmp (hdl hd 29 56 rfl (by decide +kernel))) (andI (andL hq_24) (notT (notF (andR hq_24))))) .nil) rfl).post (fun _ => Imp.refl))⟩)) ?_
      refine DSteps.cons (j := 32) rfl (fun _ => rfl) (.cnd (q := (v_28 && (!v_13))) (sv := fun γ => .one (.val (S rB v_30))) (fun _ => rfl) (fun _ => rfl) (fun d h => by cases h; exact ltB rfl) (fun _ => rfl) (fun γ ρ B hb hd => ⟨(Guard.cF (q := v_28) (ltB rfl) rfl (hdl hd 28 55 rfl (by decide +kernel))), fun hq_25 => OpStep.at ⟨ρ, B, _⟩ (setO ⟨ρ, B, _⟩ (some 58) (.one (.val (S rB v_30)))) (op_cmpI (ltB rfl) (HasO.cnd (.tmp (hdl hd 30 57 rfl (by decide +kernel))) (andI (andL hq_25) (notT (notF (andR hq_25))))) .cI (congrArg some hv_v_30))⟩)) ?_
      refine DSteps.cons (j := 33) rfl (fun _ => rfl) (.cnd (q := v_28) (sv := fun γ => .one (.val (S rB v_31))) (fun _ => rfl) (fun _ => rfl) (fun d h => by cases h; exact ltB rfl) (fun _ => rfl) (fun γ ρ B hb hd => ⟨(Guard.isT (ltB rfl) rfl (hdl hd 26 53 rfl (by decide +kernel))), fun hq_26 => OpStep.at ⟨ρ, B, _⟩ (setO ⟨ρ, B, _⟩ (some 59) (.one (.val (S rB v_31)))) (op_pickCS (ltB rfl) (HasO.cnd (.tmp (hdl hd 28 55 rfl (by decide +kernel))) hq_26) (fun hb27 => .cB) (fun hb27 => (HasO.cnd (.tmp (hdl hd 31 58 rfl (by decide +kernel))) (andI hq_26 (notT hb27)))) hv_v_31)⟩)) ?_
      refine DSteps.cons (j := 34) rfl (fun _ => rfl) (.run (fun γ ρ B hb hd => ⟨.none, OpStep.at ⟨ρ, B, _⟩ (setO ⟨ρ, B, _⟩ (some 60) (.one (.val (S rB v_32)))) (op_pickCS (ltB rfl) (.tmp (hdl hd 26 53 rfl (by decide +kernel))) (fun hb28 => (HasO.cnd (.tmp (hdl hd 32 59 rfl (by decide +kernel))) hb28)) (fun hb28 => .cB) hv_v_32)⟩)) ?_
      refine DSteps.cons (j := 35) rfl (fun _ => rfl) (.run (fun γ ρ B hb hd => ⟨.none, OpStep.at ⟨ρ, B, _⟩ (setO ⟨ρ, B, _⟩ (some 61) (.one (.val (S rB v_32)))) (op_move (ltB rfl) (.tmp (hdl hd 33 60 rfl (by decide +kernel))))⟩)) ?_
      refine DSteps.cons (j := 36) rfl (fun _ => rfl) (.cnd (q := v_32) (sv := fun γ => .one (.val (S (rI .i64) a_4))) (fun _ => rfl) (fun _ => rfl) (fun d h => by cases h; exact ltB rfl) (fun _ => rfl) (fun γ ρ B hb hd => ⟨(Guard.isT (ltB rfl) rfl (hdl hd 34 61 rfl (by decide +kernel))), fun hq_29 => OpStep.at ⟨ρ, B, _⟩ (setO ⟨ρ, B, _⟩ (some 62) (.one (.val (S (rI .i64) a_4)))) (op_move (ltB rfl) (.tmp (hb 3 _ rfl)))⟩)) ?_
      refine DSteps.cons (j := 37) rfl (fun _ => rfl) (.cnd (q := v_32) (sv := fun γ => .one (.val (S (rU UInt32) v_33))) (fun _ => rfl) (fun _ => rfl) (fun d h => by cases h; exact ltB rfl) (fun _ => rfl) (fun γ ρ B hb hd => ⟨(Guard.isT (ltB rfl) rfl (hdl hd 34 61 rfl (by decide +kernel))), fun hq_30 => OpStep.at ⟨ρ, B, _⟩ (setO ⟨ρ, B, _⟩ (some 63) (.one (.val (S (rU UInt32) v_33)))) ((op_call (js := []) (ltD rfl) cl22 (sim_sha_Start k a_4 v_33 (ifT hv_v_33 hq_30)) .func (.cons (HasO.cnd (.tmp (hdl hd 35 62 rfl (by decide +kernel))) hq_30) .nil) rfl).post (fun _ => Imp.refl))⟩)) ?_
      refine DSteps.cons (j := 38) rfl (fun _ => rfl) (.cnd (q := v_32) (sv := fun γ => .one (.val (S (rI .i64) a_4))) (fun _ => rfl) (fun _ => rfl) (fun d h => by cases h; exact ltB rfl) (fun _ => rfl) (fun γ ρ B hb hd => ⟨(Guard.isT (ltB rfl) rfl (hdl hd 34 61 rfl (by decide +kernel))), fun hq_31 => OpStep.at ⟨ρ, B, _⟩ (setO ⟨ρ, B, _⟩ (some 64) (.one (.val (S (rI .i64) a_4)))) (op_move (ltB rfl) (.tmp (hb 3 _ rfl)))⟩)) ?_
      refine DSteps.cons (j := 39) rfl (fun _ => rfl) (.cnd (q := v_32) (sv := fun γ => .one (.val (S (rU UInt32) v_34))) (fun _ => rfl) (fun _ => rfl) (fun d h => by cases h; exact ltB rfl) (fun _ => rfl) (fun γ ρ B hb hd => ⟨(Guard.isT (ltB rfl) rfl (hdl hd 34 61 rfl (by decide +kernel))), fun hq_32 => OpStep.at ⟨ρ, B, _⟩ (setO ⟨ρ, B, _⟩ (some 65) (.one (.val (S (rU UInt32) v_34)))) ((op_call (js := []) (ltD rfl) cl23 (sim_ref03_Start k a_4 v_34 (ifT hv_v_34 hq_32)) .func (.cons (HasO.cnd (.tmp (hdl hd 37 64 rfl (by decide +kernel))) hq_32) .nil) rfl).post (fun _ => Imp.refl))⟩)) ?_
      refine DSteps.cons (j := 40) rfl (fun _ => rfl) (.cnd (q := v_32) (sv := fun γ => .one (.val (S rB v_35))) (fun _ => rfl) (fun _ => rfl) (fun d h => by cases h; exact ltB rfl) (fun _ => rfl) (fun γ ρ B hb hd => ⟨(Guard.isT (ltB rfl) rfl (hdl hd 34 61 rfl (by decide +kernel))), fun hq_33 => OpStep.at ⟨ρ, B, _⟩ (setO ⟨ρ, B, _⟩ (some 66) (.one (.val (S rB v_35)))) (op_cmpU (ltB rfl) (HasO.cnd (.tmp (hdl hd 36 63 rfl (by decide +kernel))) hq_33) (HasO.cnd (.tmp (hdl hd 38 65 rfl (by decide +kernel))) hq_33) (congrArg some hv_v_35))⟩)) ?_
      refine DSteps.cons (j := 41) rfl (fun _ => rfl) (.run (fun γ ρ B hb hd => ⟨.none, OpStep.at ⟨ρ, B, _⟩ (setO ⟨ρ, B, _⟩ (some 67) (.one (.val (S rB v_36)))) (op_pickCS (ltB rfl) (.tmp (hdl hd 34 61 rfl (by decide +kernel))) (fun hb34 => (HasO.cnd (.tmp (hdl hd 39 66 rfl (by decide +kernel))) hb34)) (fun hb34 => .cB) hv_v_36)⟩)) ?_
      refine DSteps.cons (j := 42) rfl (fun _ => rfl) (.run (fun γ ρ B hb hd => ⟨.none, OpStep.at ⟨ρ, B, _⟩ (setO ⟨ρ, B, _⟩ (some 68) (.one (.val (S rB v_36)))) (op_move (ltB rfl) (.tmp (hdl hd 40 67 rfl (by decide +kernel))))⟩)) ?_
      refine DSteps.cons (j := 43) rfl (fun _ => rfl) (.cnd (q := v_36) (sv := fun γ => .one (.val (S (rI .i64) a_4))) (fun _ => rfl) (fun _ => rfl) (fun d h => by cases h; exact ltB rfl) (fun _ => rfl) (fun γ ρ B hb hd => ⟨(Guard.isT (ltB rfl) rfl (hdl hd 41 68 rfl (by decide +kernel))), fun hq_35 => OpStep.at ⟨ρ, B, _⟩ (setO ⟨ρ, B, _⟩ (some 69) (.one (.val (S (rI .i64) a_4)))) (op_move (ltB rfl) (.tmp (hb 3 _ rfl)))⟩)) ?_
      refine DSteps.cons (j := 44) rfl (fun _ => rfl) (.cnd (q := v_36) (sv := fun γ => .one (.val (S (rU UInt32) v_37))) (fun _ => rfl) (fun _ => rfl) (fun d h => by cases h; exact ltB rfl) (fun _ => rfl) (fun γ ρ B hb hd => ⟨(Guard.isT (ltB rfl) rfl (hdl hd 41 68 rfl (by decide +kernel))), fun hq_36 => OpStep.at ⟨ρ, B, _⟩ (setO ⟨ρ, B, _⟩ (some 70) (.one (.val (S (rU UInt32) v_37)))) ((op_call (js := []) (ltD rfl) cl24 (sim_sha_Constant k a_4 v_37 (ifT hv_v_37 hq_36)) .func (.cons (HasO.cnd (.tmp (hdl hd 42 69 rfl (by decide +kernel))) hq_36) .nil) rfl).post (fun _ => Imp.refl))⟩)) ?_
      refine DSteps.cons (j := 45) rfl (fun _ => rfl) (.cnd (q := v_36) (sv := fun γ => .one (.val (S (rI .i64) a_4))) (fun _ => rfl) (fun _ => rfl) (fun d h => by cases h; exact ltB rfl) (fun _ => rfl) (fun γ ρ B hb hd => ⟨(Guard.isT (ltB rfl) rfl (hdl hd 41 68 rfl (by decide +kernel))), fun hq_37 => OpStep.at ⟨ρ, B, _⟩ (setO ⟨ρ, B, _⟩ (some 71) (.one (.val (S (rI .i64) a_4)))) (op_move (ltB rfl) (.tmp (hb 3 _ rfl)))⟩)) ?_
      refine DSteps.cons (j := 46) rfl (fun _ => rfl) (.cnd (q := v_36) (sv := fun γ => .one (.val (S (rU UInt32) v_38))) (fun _ => rfl) (fun _ => rfl) (fun d h => by cases h; exact ltB rfl) (fun _ => rfl) (fun γ ρ B hb hd => ⟨(Guard.isT (ltB rfl) rfl (hdl hd 41 68 rfl (by decide +kernel))), fun hq_38 => OpStep.at ⟨ρ, B, _⟩ (setO ⟨ρ, B, _⟩ (some 72) (.one (.val (S (rU UInt32) v_38)))) ((op_call (js := []) (ltD rfl) cl25 (sim_ref03_Constant k a_4 v_38 (ifT hv_v_38 hq_38)) .func (.cons (HasO.cnd (.tmp (hdl hd 44 71 rfl (by decide +kernel))) hq_38) .nil) rfl).post (fun _ => Imp.refl))⟩)) ?_
      refine DSteps.cons (j := 47) rfl (fun _ => rfl) (.cnd (q := v_36) (sv := fun γ => .one (.val (S rB v_39))) (fun _ => rfl) (fun _ => rfl) (fun d h => by cases h; exact ltB rfl) (fun _ => rfl) (fun γ ρ B hb hd => ⟨(Guard.isT (ltB rfl) rfl (hdl hd 41 68 rfl (by decide +kernel))), fun hq_39 => OpStep.at ⟨ρ, B, _⟩ (setO ⟨ρ, B, _⟩ (some 73) (.one (.val (S rB v_39)))) (op_cmpU (ltB rfl) (HasO.cnd (.tmp (hdl hd 43 70 rfl (by decide +kernel))) hq_39) (HasO.cnd (.tmp (hdl hd 45 72 rfl (by decide +kernel))) hq_39) (congrArg some hv_v_39))⟩)) ?_
      refine DSteps.cons (j := 48) rfl (fun _ => rfl) (.run (fun γ ρ B hb hd => ⟨.none, OpStep.at ⟨ρ, B, _⟩ (setO ⟨ρ, B, _⟩ (some 74) (.one (.val (S rB v_40)))) (op_pickCS (ltB rfl) (.tmp (hdl hd 41 68 rfl (by decide +kernel))) (fun hb40 => (HasO.cnd (.tmp (hdl hd 46 73 rfl (by decide +kernel))) hb40)) (fun hb40 => .cB) hv_v_40)⟩)) ?_
      refine DSteps.cons (j := 49) rfl (fun _ => rfl) (.run (fun γ ρ B hb hd => ⟨.none, OpStep.at ⟨ρ, B, _⟩ (setO ⟨ρ, B, _⟩ (some 75) (.one (.val (S rB v_40)))) (op_move (ltB rfl) (.tmp (hdl hd 47 74 rfl (by decide +kernel))))⟩)) ?_
      refine DSteps.cons (j := 50) rfl (fun _ => rfl) (.cnd (q := v_40) (sv := fun γ => .one (.val (S rB v_41))) (fun _ => rfl) (fun _ => rfl) (fun d h => by cases h; exact ltB rfl) (fun _ => rfl) (fun γ ρ B hb hd => ⟨(Guard.isT (ltB rfl) rfl (hdl hd 48 75 rfl (by decide +kernel))), fun hq_41 => OpStep.at ⟨ρ, B, _⟩ (setO ⟨ρ, B, _⟩ (some 76) (.one (.val (S rB v_41)))) ((op_call (js := []) (ltD rfl) cl9 (sim_law03_known k v_41 (ifT hv_v_41 hq_41)) .func .nil rfl).post (fun _ => Imp.refl))⟩)) ?_
      refine DSteps.cons (j := 51) rfl (fun _ => rfl) (.run (fun γ ρ B hb hd => ⟨.none, OpStep.at ⟨ρ, B, _⟩ (setO ⟨ρ, B, _⟩ (some 77) (.one (.val (S rB v_42)))) (op_pickCS (ltB rfl) (.tmp (hdl hd 48 75 rfl (by decide +kernel))) (fun hb42 => (HasO.cnd (.tmp (hdl hd 49 76 rfl (by decide +kernel))) hb42)) (fun hb42 => .cB) hv_v_42)⟩)) ?_
      refine DSteps.cons (j := 52) rfl (fun _ => rfl) (.run (fun γ ρ B hb hd => ⟨.none, OpStep.at ⟨ρ, B, _⟩ (setO ⟨ρ, B, _⟩ (some 8) (.one (.val (S rB v_42)))) (op_assign (ltB rfl) (.tmp (hdl hd 50 77 rfl (by decide +kernel))))⟩)) ?_
      exact DSteps.nil)
          (by decide +kernel) (fun _ => rfl) rfl (fun _ => rfl) (fun _ => rfl) rfl (by decide) (by decide) (by decide +kernel) (fun _ d h => by cases h)
          (ρ' := fun γ => [(8, .one (.val (S rB v_42)))])
          (X' := fun γ => [cvar gb_6 (rV 32 (rU UInt8)) a_2, cvar gb_11 (rV 32 (rU UInt8)) v_9, cvar gb_14 (rV 32 (rU UInt8)) v_12])
          (fun γ ρ hb hd => (.cons (hdq hd 51 8 rfl) .nil)) (fun _ => rfl) (fun γ => ?_)
      refine JQ.at ⟨[(8, .one (.val (S rB v_42)))], [cvar gb_6 (rV 32 (rU UInt8)) a_2, cvar gb_11 (rV 32 (rU UInt8)) v_9, cvar gb_14 (rV 32 (rU UInt8)) v_12], []⟩ ?_
      replace hx2 := Option.some.inj hx2
      first | subst hx2 | clear hx2
      exact JQ.join () (Imp.norm (js := []) rfl (.cons rfl .nil))

end Go.Proofs.Ytdncoiehmkcajaa
