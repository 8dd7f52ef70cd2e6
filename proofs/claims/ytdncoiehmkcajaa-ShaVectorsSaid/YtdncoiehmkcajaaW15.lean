/- Walks. -/
import Derived.Test.YtdncoiehmkcajaaT
import Derived.Test.YtdncoiehmkcajaaW5
import Derived.Test.YtdncoiehmkcajaaW6
import Derived.Test.YtdncoiehmkcajaaW7
namespace Go.Proofs.Ytdncoiehmkcajaa
open Go Fw
set_option linter.unusedVariables false
set_option maxRecDepth 100000
set_option maxHeartbeats 4000000

theorem sim_law03_ShaVectors (k : Nat) (r : Bool) (hm : law03_ShaVectors k = some r) : Sim Try.prog 5 [] [] (γ := Unit) (fun q => []) (fun q => .one (.val (S rB r))) := by
  unfold law03_ShaVectors at hm
  refine Sim.of Try.func5 rfl rfl (Nat.le_of_ble_eq_true rfl) (fun e0 w0 => ?_)
  refine JC.at ⟨[], [], []⟩ ?_
  refine JC.seq ?_
  refine JC.region ?_
  refine JL.cons rfl (op_assign (ltB rfl) .cB) ?_
  refine JL.nil ?_
  refine JQ.then ?_
  refine JC.seq ?_
  refine JC.region ?_
  replace hm := bnd_inv hm
  obtain ⟨v_1, hv_v_1, hm⟩ := hm
  refine JL.consX rfl (op_makeOg (ltB rfl) tu25 tB5 zv5 .cI .cI hv_v_1) (fun q => ?_)
  obtain ⟨gb_2, hqq⟩ : ∃ z, z = q := ⟨_, rfl⟩
  subst hqq
  refine JL.pre (Imp.sub (ρ' := [(7, .one (.val (HDR (some gb_2) 0 (List.length v_1) (Int.toNat (1000 : Int)))))]) (.cons rfl .nil)) ?_
  refine JL.at ⟨[(7, .one (.val (HDR (some gb_2) 0 (List.length v_1) (Int.toNat (1000 : Int)))))], [cown (some gb_2) (rU UInt8) v_1 0 (Int.toNat (1000 : Int))], []⟩ ?_
  refine JL.cons rfl (op_assign (ltB rfl) (.tmp rfl)) ?_
  refine JL.nil ?_
  refine JQ.then ?_
  replace hm := bnd_inv hm
  obtain ⟨x_9, hx1, hq1⟩ := hm
  refine JC.seqJ (γ := Unit) (stj := fun q => ⟨[(1, .one (.val (HDR (some gb_2) 0 (List.length x_9) (Int.toNat (1000 : Int)))))], [cown (some gb_2) (rU UInt8) x_9 0 (Int.toNat (1000 : Int))], []⟩) (fun q => ?_) ?_
  · obtain _ := q
    refine JC.at ⟨[(1, .one (.val (HDR (some gb_2) 0 (List.length x_9) (Int.toNat (1000 : Int)))))], [cown (some gb_2) (rU UInt8) x_9 0 (Int.toNat (1000 : Int))], []⟩ ?_
    refine JC.seq ?_
    refine JC.region ?_
    replace hq1 := bnd_inv hq1
    obtain ⟨v_10, hv_v_10, hq1⟩ := hq1
    refine JL.consX rfl (op_makeOg (ltB rfl) tu25 tB5 zv5 .cI .cI hv_v_10) (fun q => ?_)
    obtain ⟨gb_11, hqq⟩ : ∃ z, z = q := ⟨_, rfl⟩
    subst hqq
    refine JL.pre (Imp.sub (ρ' := [(1, .one (.val (HDR (some gb_2) 0 (List.length x_9) (Int.toNat (1000 : Int))))), (17, .one (.val (HDR (some gb_11) 0 (List.length v_10) (Int.toNat (131 : Int)))))]) (.cons rfl (.cons rfl .nil))) ?_
    refine JL.at ⟨[(1, .one (.val (HDR (some gb_2) 0 (List.length x_9) (Int.toNat (1000 : Int))))), (17, .one (.val (HDR (some gb_11) 0 (List.length v_10) (Int.toNat (131 : Int)))))], [cown (some gb_2) (rU UInt8) x_9 0 (Int.toNat (1000 : Int)), cown (some gb_11) (rU UInt8) v_10 0 (Int.toNat (131 : Int))], []⟩ ?_
    refine JL.cons rfl (op_assign (ltB rfl) (.tmp rfl)) ?_
    refine JL.nil ?_
    refine JQ.then ?_
    replace hq1 := bnd_inv hq1
    obtain ⟨x_18, hx4, hq4⟩ := hq1
    refine JC.seqJ (γ := Unit) (stj := fun q => ⟨[(1, .one (.val (HDR (some gb_2) 0 (List.length x_9) (Int.toNat (1000 : Int))))), (3, .one (.val (HDR (some gb_11) 0 (List.length x_18) (Int.toNat (131 : Int)))))], [cown (some gb_2) (rU UInt8) x_9 0 (Int.toNat (1000 : Int)), cown (some gb_11) (rU UInt8) x_18 0 (Int.toNat (131 : Int))], []⟩) (fun q => ?_) ?_
    · obtain _ := q
      refine JC.at ⟨[(1, .one (.val (HDR (some gb_2) 0 (List.length x_9) (Int.toNat (1000 : Int))))), (3, .one (.val (HDR (some gb_11) 0 (List.length x_18) (Int.toNat (131 : Int)))))], [cown (some gb_2) (rU UInt8) x_9 0 (Int.toNat (1000 : Int)), cown (some gb_11) (rU UInt8) x_18 0 (Int.toNat (131 : Int))], []⟩ ?_
      refine JC.seq ?_
      refine JC.region ?_
      replace hq4 := bnd_inv hq4
      obtain ⟨v_19, hv_v_19, hq4⟩ := hq4
      refine JL.consX rfl (op_makeOg (ltB rfl) tu25 tB5 zv5 .cI .cI hv_v_19) (fun q => ?_)
      obtain ⟨gb_20, hqq⟩ : ∃ z, z = q := ⟨_, rfl⟩
      subst hqq
      refine JL.pre (Imp.sub (ρ' := [(1, .one (.val (HDR (some gb_2) 0 (List.length x_9) (Int.toNat (1000 : Int))))), (3, .one (.val (HDR (some gb_11) 0 (List.length x_18) (Int.toNat (131 : Int))))), (27, .one (.val (HDR (some gb_20) 0 (List.length v_19) (Int.toNat (20 : Int)))))]) (.cons rfl (.cons rfl (.cons rfl .nil)))) ?_
      refine JL.at ⟨[(1, .one (.val (HDR (some gb_2) 0 (List.length x_9) (Int.toNat (1000 : Int))))), (3, .one (.val (HDR (some gb_11) 0 (List.length x_18) (Int.toNat (131 : Int))))), (27, .one (.val (HDR (some gb_20) 0 (List.length v_19) (Int.toNat (20 : Int)))))], [cown (some gb_2) (rU UInt8) x_9 0 (Int.toNat (1000 : Int)), cown (some gb_11) (rU UInt8) x_18 0 (Int.toNat (131 : Int)), cown (some gb_20) (rU UInt8) v_19 0 (Int.toNat (20 : Int))], []⟩ ?_
      refine JL.cons rfl (op_assign (ltB rfl) (.tmp rfl)) ?_
      refine JL.nil ?_
      refine JQ.then ?_
      replace hq4 := bnd_inv hq4
      obtain ⟨x_27, hx7, hq7⟩ := hq4
      refine JC.seqJ (γ := Unit) (stj := fun q => ⟨[(1, .one (.val (HDR (some gb_2) 0 (List.length x_9) (Int.toNat (1000 : Int))))), (3, .one (.val (HDR (some gb_11) 0 (List.length x_18) (Int.toNat (131 : Int))))), (5, .one (.val (HDR (some gb_20) 0 (List.length x_27) (Int.toNat (20 : Int)))))], [cown (some gb_2) (rU UInt8) x_9 0 (Int.toNat (1000 : Int)), cown (some gb_11) (rU UInt8) x_18 0 (Int.toNat (131 : Int)), cown (some gb_20) (rU UInt8) x_27 0 (Int.toNat (20 : Int))], []⟩) (fun q => ?_) ?_
      · obtain _ := q
        refine JC.at ⟨[(1, .one (.val (HDR (some gb_2) 0 (List.length x_9) (Int.toNat (1000 : Int))))), (3, .one (.val (HDR (some gb_11) 0 (List.length x_18) (Int.toNat (131 : Int))))), (5, .one (.val (HDR (some gb_20) 0 (List.length x_27) (Int.toNat (20 : Int)))))], [cown (some gb_2) (rU UInt8) x_9 0 (Int.toNat (1000 : Int)), cown (some gb_11) (rU UInt8) x_18 0 (Int.toNat (131 : Int)), cown (some gb_20) (rU UInt8) x_27 0 (Int.toNat (20 : Int))], []⟩ ?_
        replace hq7 := bnd_inv hq7
        obtain ⟨t_41, hx10, hq10⟩ := hq7
        refine JC.seqJ (γ := Unit) (stj := fun q => ⟨[(0, .one (.val (S rB t_41)))], [], []⟩) (fun q => ?_) ?_
        · obtain _ := q
          refine JC.at ⟨[(0, .one (.val (S rB t_41)))], [], []⟩ ?_
          refine JC.ret ?_
          replace hq10 := Option.some.inj hq10
          subst hq10
          exact JQ.done (js := []) (ss := [.val (S rB t_41)]) () (.inl rfl) (.nil rfl) rfl (.cons (.tmp rfl) .nil) rfl rfl rfl
        · refine JC.region ?_
          refine JL.consX rfl (op_buildO (r := (rU UInt8)) (ltB rfl) tu25 tz5 tZ5 rfl (Nat.le_of_ble_eq_true rfl) (.S rfl (HasO.cU (x := (97 : UInt8)) rfl (by decide)) (.S rfl (HasO.cU (x := (98 : UInt8)) rfl (by decide)) (.S rfl (HasO.cU (x := (99 : UInt8)) rfl (by decide)) (.S rfl (HasO.cU (x := (100 : UInt8)) rfl (by decide)) (.S rfl (HasO.cU (x := (98 : UInt8)) rfl (by decide)) (.S rfl (HasO.cU (x := (99 : UInt8)) rfl (by decide)) (.S rfl (HasO.cU (x := (100 : UInt8)) rfl (by decide)) (.S rfl (HasO.cU (x := (101 : UInt8)) rfl (by decide)) (.S rfl (HasO.cU (x := (99 : UInt8)) rfl (by decide)) (.S rfl (HasO.cU (x := (100 : UInt8)) rfl (by decide)) (.S rfl (HasO.cU (x := (101 : UInt8)) rfl (by decide)) (.S rfl (HasO.cU (x := (102 : UInt8)) rfl (by decide)) (.S rfl (HasO.cU (x := (100 : UInt8)) rfl (by decide)) (.S rfl (HasO.cU (x := (101 : UInt8)) rfl (by decide)) (.S rfl (HasO.cU (x := (102 : UInt8)) rfl (by decide)) (.S rfl (HasO.cU (x := (103 : UInt8)) rfl (by decide)) (.S rfl (HasO.cU (x := (101 : UInt8)) rfl (by decide)) (.S rfl (HasO.cU (x := (102 : UInt8)) rfl (by decide)) (.S rfl (HasO.cU (x := (103 : UInt8)) rfl (by decide)) (.S rfl (HasO.cU (x := (104 : UInt8)) rfl (by decide)) (.S rfl (HasO.cU (x := (102 : UInt8)) rfl (by decide)) (.S rfl (HasO.cU (x := (103 : UInt8)) rfl (by decide)) (.S rfl (HasO.cU (x := (104 : UInt8)) rfl (by decide)) (.S rfl (HasO.cU (x := (105 : UInt8)) rfl (by decide)) (.S rfl (HasO.cU (x := (103 : UInt8)) rfl (by decide)) (.S rfl (HasO.cU (x := (104 : UInt8)) rfl (by decide)) (.S rfl (HasO.cU (x := (105 : UInt8)) rfl (by decide)) (.S rfl (HasO.cU (x := (106 : UInt8)) rfl (by decide)) (.S rfl (HasO.cU (x := (104 : UInt8)) rfl (by decide)) (.S rfl (HasO.cU (x := (105 : UInt8)) rfl (by decide)) (.S rfl (HasO.cU (x := (106 : UInt8)) rfl (by decide)) (.S rfl (HasO.cU (x := (107 : UInt8)) rfl (by decide)) (.S rfl (HasO.cU (x := (105 : UInt8)) rfl (by decide)) (.S rfl (HasO.cU (x := (106 : UInt8)) rfl (by decide)) (.S rfl (HasO.cU (x := (107 : UInt8)) rfl (by decide)) (.S rfl (HasO.cU (x := (108 : UInt8)) rfl (by decide)) (.S rfl (HasO.cU (x := (106 : UInt8)) rfl (by decide)) (.S rfl (HasO.cU (x := (107 : UInt8)) rfl (by decide)) (.S rfl (HasO.cU (x := (108 : UInt8)) rfl (by decide)) (.S rfl (HasO.cU (x := (109 : UInt8)) rfl (by decide)) (.S rfl (HasO.cU (x := (107 : UInt8)) rfl (by decide)) (.S rfl (HasO.cU (x := (108 : UInt8)) rfl (by decide)) (.S rfl (HasO.cU (x := (109 : UInt8)) rfl (by decide)) (.S rfl (HasO.cU (x := (110 : UInt8)) rfl (by decide)) (.S rfl (HasO.cU (x := (108 : UInt8)) rfl (by decide)) (.S rfl (HasO.cU (x := (109 : UInt8)) rfl (by decide)) (.S rfl (HasO.cU (x := (110 : UInt8)) rfl (by decide)) (.S rfl (HasO.cU (x := (111 : UInt8)) rfl (by decide)) (.S rfl (HasO.cU (x := (109 : UInt8)) rfl (by decide)) (.S rfl (HasO.cU (x := (110 : UInt8)) rfl (by decide)) (.S rfl (HasO.cU (x := (111 : UInt8)) rfl (by decide)) (.S rfl (HasO.cU (x := (112 : UInt8)) rfl (by decide)) (.S rfl (HasO.cU (x := (110 : UInt8)) rfl (by decide)) (.S rfl (HasO.cU (x := (111 : UInt8)) rfl (by decide)) (.S rfl (HasO.cU (x := (112 : UInt8)) rfl (by decide)) (.S rfl (HasO.cU (x := (113 : UInt8)) rfl (by decide)) .nil)))))))))))))))))))))))))))))))))))))))))))))))))))))))) rfl) (fun q => ?_)
          obtain ⟨gb_28, hqq⟩ : ∃ z, z = q := ⟨_, rfl⟩
          subst hqq
          refine JL.pre (Imp.sub (ρ' := [(1, .one (.val (HDR (some gb_2) 0 (List.length x_9) (Int.toNat (1000 : Int))))), (3, .one (.val (HDR (some gb_11) 0 (List.length x_18) (Int.toNat (131 : Int))))), (5, .one (.val (HDR (some gb_20) 0 (List.length x_27) (Int.toNat (20 : Int))))), (37, .one (.val (HDR (some gb_28) 0 (List.length ([(97 : UInt8), (98 : UInt8), (99 : UInt8), (100 : UInt8), (98 : UInt8), (99 : UInt8), (100 : UInt8), (101 : UInt8), (99 : UInt8), (100 : UInt8), (101 : UInt8), (102 : UInt8), (100 : UInt8), (101 : UInt8), (102 : UInt8), (103 : UInt8), (101 : UInt8), (102 : UInt8), (103 : UInt8), (104 : UInt8), (102 : UInt8), (103 : UInt8), (104 : UInt8), (105 : UInt8), (103 : UInt8), (104 : UInt8), (105 : UInt8), (106 : UInt8), (104 : UInt8), (105 : UInt8), (106 : UInt8), (107 : UInt8), (105 : UInt8), (106 : UInt8), (107 : UInt8), (108 : UInt8), (106 : UInt8), (107 : UInt8), (108 : UInt8), (109 : UInt8), (107 : UInt8), (108 : UInt8), (109 : UInt8), (110 : UInt8), (108 : UInt8), (109 : UInt8), (110 : UInt8), (111 : UInt8), (109 : UInt8), (110 : UInt8), (111 : UInt8), (112 : UInt8), (110 : UInt8), (111 : UInt8), (112 : UInt8), (113 : UInt8)] : (List UInt8))) (56))))]) (.cons rfl (.cons rfl (.cons rfl (.cons rfl .nil))))) ?_
          refine JL.at ⟨[(1, .one (.val (HDR (some gb_2) 0 (List.length x_9) (Int.toNat (1000 : Int))))), (3, .one (.val (HDR (some gb_11) 0 (List.length x_18) (Int.toNat (131 : Int))))), (5, .one (.val (HDR (some gb_20) 0 (List.length x_27) (Int.toNat (20 : Int))))), (37, .one (.val (HDR (some gb_28) 0 (List.length ([(97 : UInt8), (98 : UInt8), (99 : UInt8), (100 : UInt8), (98 : UInt8), (99 : UInt8), (100 : UInt8), (101 : UInt8), (99 : UInt8), (100 : UInt8), (101 : UInt8), (102 : UInt8), (100 : UInt8), (101 : UInt8), (102 : UInt8), (103 : UInt8), (101 : UInt8), (102 : UInt8), (103 : UInt8), (104 : UInt8), (102 : UInt8), (103 : UInt8), (104 : UInt8), (105 : UInt8), (103 : UInt8), (104 : UInt8), (105 : UInt8), (106 : UInt8), (104 : UInt8), (105 : UInt8), (106 : UInt8), (107 : UInt8), (105 : UInt8), (106 : UInt8), (107 : UInt8), (108 : UInt8), (106 : UInt8), (107 : UInt8), (108 : UInt8), (109 : UInt8), (107 : UInt8), (108 : UInt8), (109 : UInt8), (110 : UInt8), (108 : UInt8), (109 : UInt8), (110 : UInt8), (111 : UInt8), (109 : UInt8), (110 : UInt8), (111 : UInt8), (112 : UInt8), (110 : UInt8), (111 : UInt8), (112 : UInt8), (113 : UInt8)] : (List UInt8))) (56))))], [cown (some gb_2) (rU UInt8) x_9 0 (Int.toNat (1000 : Int)), cown (some gb_11) (rU UInt8) x_18 0 (Int.toNat (131 : Int)), cown (some gb_20) (rU UInt8) x_27 0 (Int.toNat (20 : Int)), cown (some gb_28) (rU UInt8) ([(97 : UInt8), (98 : UInt8), (99 : UInt8), (100 : UInt8), (98 : UInt8), (99 : UInt8), (100 : UInt8), (101 : UInt8), (99 : UInt8), (100 : UInt8), (101 : UInt8), (102 : UInt8), (100 : UInt8), (101 : UInt8), (102 : UInt8), (103 : UInt8), (101 : UInt8), (102 : UInt8), (103 : UInt8), (104 : UInt8), (102 : UInt8), (103 : UInt8), (104 : UInt8), (105 : UInt8), (103 : UInt8), (104 : UInt8), (105 : UInt8), (106 : UInt8), (104 : UInt8), (105 : UInt8), (106 : UInt8), (107 : UInt8), (105 : UInt8), (106 : UInt8), (107 : UInt8), (108 : UInt8), (106 : UInt8), (107 : UInt8), (108 : UInt8), (109 : UInt8), (107 : UInt8), (108 : UInt8), (109 : UInt8), (110 : UInt8), (108 : UInt8), (109 : UInt8), (110 : UInt8), (111 : UInt8), (109 : UInt8), (110 : UInt8), (111 : UInt8), (112 : UInt8), (110 : UInt8), (111 : UInt8), (112 : UInt8), (113 : UInt8)] : (List UInt8)) 0 (56)], []⟩ ?_
          refine JL.cons rfl (op_markO (j := 3) (ltB rfl) tu25 tu5 rfl (.tmp rfl) (Nat.le_of_ble_eq_true rfl)) ?_
          refine JL.pre (Imp.frz (j := 3) rfl (ImpK.slotH (s := 37) rfl (ImpK.slotH (s := 38) rfl ImpK.refl))) ?_
          refine JL.cons rfl (op_buildF (r := (rL (rU UInt8))) (ltB rfl) tu22 tz25 tZ25 rfl (Nat.le_of_ble_eq_true rfl) (.S rfl (HasO.wk (.tmp rfl) wkHL) .nil) rfl) ?_
          refine JL.pre (Imp.norm (ρ' := [(1, .one (.val (HDR (some gb_2) 0 (List.length x_9) (Int.toNat (1000 : Int))))), (3, .one (.val (HDR (some gb_11) 0 (List.length x_18) (Int.toNat (131 : Int))))), (5, .one (.val (HDR (some gb_20) 0 (List.length x_27) (Int.toNat (20 : Int))))), (39, .one (.val (S (rL (rL (rU UInt8))) ([([(97 : UInt8), (98 : UInt8), (99 : UInt8), (100 : UInt8), (98 : UInt8), (99 : UInt8), (100 : UInt8), (101 : UInt8), (99 : UInt8), (100 : UInt8), (101 : UInt8), (102 : UInt8), (100 : UInt8), (101 : UInt8), (102 : UInt8), (103 : UInt8), (101 : UInt8), (102 : UInt8), (103 : UInt8), (104 : UInt8), (102 : UInt8), (103 : UInt8), (104 : UInt8), (105 : UInt8), (103 : UInt8), (104 : UInt8), (105 : UInt8), (106 : UInt8), (104 : UInt8), (105 : UInt8), (106 : UInt8), (107 : UInt8), (105 : UInt8), (106 : UInt8), (107 : UInt8), (108 : UInt8), (106 : UInt8), (107 : UInt8), (108 : UInt8), (109 : UInt8), (107 : UInt8), (108 : UInt8), (109 : UInt8), (110 : UInt8), (108 : UInt8), (109 : UInt8), (110 : UInt8), (111 : UInt8), (109 : UInt8), (110 : UInt8), (111 : UInt8), (112 : UInt8), (110 : UInt8), (111 : UInt8), (112 : UInt8), (113 : UInt8)] : (List UInt8))] : (List (List UInt8))))))]) (js := [0, 0, 0]) rfl (.cons rfl (.cons rfl (.cons rfl (.cons rfl .nil))))) ?_
          refine JL.at ⟨[(1, .one (.val (HDR (some gb_2) 0 (List.length x_9) (Int.toNat (1000 : Int))))), (3, .one (.val (HDR (some gb_11) 0 (List.length x_18) (Int.toNat (131 : Int))))), (5, .one (.val (HDR (some gb_20) 0 (List.length x_27) (Int.toNat (20 : Int))))), (39, .one (.val (S (rL (rL (rU UInt8))) ([([(97 : UInt8), (98 : UInt8), (99 : UInt8), (100 : UInt8), (98 : UInt8), (99 : UInt8), (100 : UInt8), (101 : UInt8), (99 : UInt8), (100 : UInt8), (101 : UInt8), (102 : UInt8), (100 : UInt8), (101 : UInt8), (102 : UInt8), (103 : UInt8), (101 : UInt8), (102 : UInt8), (103 : UInt8), (104 : UInt8), (102 : UInt8), (103 : UInt8), (104 : UInt8), (105 : UInt8), (103 : UInt8), (104 : UInt8), (105 : UInt8), (106 : UInt8), (104 : UInt8), (105 : UInt8), (106 : UInt8), (107 : UInt8), (105 : UInt8), (106 : UInt8), (107 : UInt8), (108 : UInt8), (106 : UInt8), (107 : UInt8), (108 : UInt8), (109 : UInt8), (107 : UInt8), (108 : UInt8), (109 : UInt8), (110 : UInt8), (108 : UInt8), (109 : UInt8), (110 : UInt8), (111 : UInt8), (109 : UInt8), (110 : UInt8), (111 : UInt8), (112 : UInt8), (110 : UInt8), (111 : UInt8), (112 : UInt8), (113 : UInt8)] : (List UInt8))] : (List (List UInt8))))))], [cown (some gb_2) (rU UInt8) x_9 0 (Int.toNat (1000 : Int)), cown (some gb_11) (rU UInt8) x_18 0 (Int.toNat (131 : Int)), cown (some gb_20) (rU UInt8) x_27 0 (Int.toNat (20 : Int))], []⟩ ?_
          replace hx10 := bnd_inv hx10
          obtain ⟨v_29, hv_v_29, hx10⟩ := hx10
          refine JL.consX rfl (op_call (js := []) (ltD rfl) cl11 (sim_sha_Sum k ([([(97 : UInt8), (98 : UInt8), (99 : UInt8), (100 : UInt8), (98 : UInt8), (99 : UInt8), (100 : UInt8), (101 : UInt8), (99 : UInt8), (100 : UInt8), (101 : UInt8), (102 : UInt8), (100 : UInt8), (101 : UInt8), (102 : UInt8), (103 : UInt8), (101 : UInt8), (102 : UInt8), (103 : UInt8), (104 : UInt8), (102 : UInt8), (103 : UInt8), (104 : UInt8), (105 : UInt8), (103 : UInt8), (104 : UInt8), (105 : UInt8), (106 : UInt8), (104 : UInt8), (105 : UInt8), (106 : UInt8), (107 : UInt8), (105 : UInt8), (106 : UInt8), (107 : UInt8), (108 : UInt8), (106 : UInt8), (107 : UInt8), (108 : UInt8), (109 : UInt8), (107 : UInt8), (108 : UInt8), (109 : UInt8), (110 : UInt8), (108 : UInt8), (109 : UInt8), (110 : UInt8), (111 : UInt8), (109 : UInt8), (110 : UInt8), (111 : UInt8), (112 : UInt8), (110 : UInt8), (111 : UInt8), (112 : UInt8), (113 : UInt8)] : (List UInt8))] : (List (List UInt8))) v_29 hv_v_29) .func (.cons (.tmp rfl) .nil) rfl) (fun _ => ?_)
          replace hx10 := bnd_inv hx10
          obtain ⟨v_30, hv_v_30, hx10⟩ := hx10
          refine JL.consX rfl (op_call (js := []) (ltD rfl) cl15 (sim_law03_begins k v_29 (36 : UInt8) (141 : UInt8) (106 : UInt8) (97 : UInt8) v_30 hv_v_30) .func (.cons (.tmp rfl) (.cons (HasO.cU (x := (36 : UInt8)) rfl (by decide)) (.cons (HasO.cU (x := (141 : UInt8)) rfl (by decide)) (.cons (HasO.cU (x := (106 : UInt8)) rfl (by decide)) (.cons (HasO.cU (x := (97 : UInt8)) rfl (by decide)) .nil))))) rfl) (fun _ => ?_)
          refine JL.cons rfl (op_move (ltB rfl) (.tmp rfl)) ?_
          replace hx10 := iteB_inv hx10
          rcases hx10 with ⟨hc12, hx10⟩ | ⟨hc12, hx10⟩
          · refine JL.run (.yes rfl (ltB rfl) rfl hc12) (op_move (ltB rfl) (.tmp rfl)) ?_
            refine JL.pre (Imp.frz (j := 0) rfl (ImpK.slotH (s := 1) rfl (ImpK.slotH (s := 43) rfl ImpK.refl))) ?_
            refine JL.run (.yes rfl (ltB rfl) rfl hc12) (op_buildF (r := (rL (rU UInt8))) (ltB rfl) tu22 tz25 tZ25 rfl (Nat.le_of_ble_eq_true rfl) (.S rfl (HasO.wk (.tmp rfl) wkHL) .nil) rfl) ?_
            refine JL.pre (Imp.norm (ρ' := [(3, .one (.val (HDR (some gb_11) 0 (List.length x_18) (Int.toNat (131 : Int))))), (5, .one (.val (HDR (some gb_20) 0 (List.length x_27) (Int.toNat (20 : Int))))), (42, .one (.val (S rB v_30))), (44, .one (.val (S (rL (rL (rU UInt8))) ([x_9] : (List (List UInt8))))))]) (js := [1, 1]) rfl (.cons rfl (.cons rfl (.cons rfl (.cons rfl .nil))))) ?_
            refine JL.at ⟨[(3, .one (.val (HDR (some gb_11) 0 (List.length x_18) (Int.toNat (131 : Int))))), (5, .one (.val (HDR (some gb_20) 0 (List.length x_27) (Int.toNat (20 : Int))))), (42, .one (.val (S rB v_30))), (44, .one (.val (S (rL (rL (rU UInt8))) ([x_9] : (List (List UInt8))))))], [cown (some gb_11) (rU UInt8) x_18 0 (Int.toNat (131 : Int)), cown (some gb_20) (rU UInt8) x_27 0 (Int.toNat (20 : Int))], []⟩ ?_
            replace hx10 := bnd_inv hx10
            obtain ⟨v_31, hv_v_31, hx10⟩ := hx10
            refine JL.runX (.yes rfl (ltB rfl) rfl hc12) (op_call (js := []) (ltD rfl) cl11 (sim_sha_Sum k ([x_9] : (List (List UInt8))) v_31 hv_v_31) .func (.cons (.tmp rfl) .nil) rfl) (fun _ => ?_)
            replace hx10 := bnd_inv hx10
            obtain ⟨v_32, hv_v_32, hx10⟩ := hx10
            refine JL.runX (.yes rfl (ltB rfl) rfl hc12) (op_call (js := []) (ltD rfl) cl15 (sim_law03_begins k v_31 (65 : UInt8) (237 : UInt8) (236 : UInt8) (228 : UInt8) v_32 hv_v_32) .func (.cons (.tmp rfl) (.cons (HasO.cU (x := (65 : UInt8)) rfl (by decide)) (.cons (HasO.cU (x := (237 : UInt8)) rfl (by decide)) (.cons (HasO.cU (x := (236 : UInt8)) rfl (by decide)) (.cons (HasO.cU (x := (228 : UInt8)) rfl (by decide)) .nil))))) rfl) (fun _ => ?_)
            refine JL.cons rfl (op_pickT (ltB rfl) (.tmp rfl) hc12 (.tmp rfl)) ?_
            refine JL.cons rfl (op_move (ltB rfl) (.tmp rfl)) ?_
            replace hx10 := iteB_inv hx10
            rcases hx10 with ⟨hc14, hx10⟩ | ⟨hc14, hx10⟩
            · refine JL.run (.yes rfl (ltB rfl) rfl hc14) (op_move (ltB rfl) (.tmp rfl)) ?_
              refine JL.runX (.yes rfl (ltB rfl) rfl hc14) (op_buildO (r := (rU UInt8)) (ltB rfl) tu25 tz5 tZ5 rfl (Nat.le_of_ble_eq_true rfl) (.S rfl (HasO.cU (x := (72 : UInt8)) rfl (by decide)) (.S rfl (HasO.cU (x := (105 : UInt8)) rfl (by decide)) (.S rfl (HasO.cU (x := (32 : UInt8)) rfl (by decide)) (.S rfl (HasO.cU (x := (84 : UInt8)) rfl (by decide)) (.S rfl (HasO.cU (x := (104 : UInt8)) rfl (by decide)) (.S rfl (HasO.cU (x := (101 : UInt8)) rfl (by decide)) (.S rfl (HasO.cU (x := (114 : UInt8)) rfl (by decide)) (.S rfl (HasO.cU (x := (101 : UInt8)) rfl (by decide)) .nil)))))))) rfl) (fun q => ?_)
              obtain ⟨gb_33, hqq⟩ : ∃ z, z = q := ⟨_, rfl⟩
              subst hqq
              refine JL.pre (Imp.sub (ρ' := [(3, .one (.val (HDR (some gb_11) 0 (List.length x_18) (Int.toNat (131 : Int))))), (48, .one (.val (S rB v_32))), (49, .one (.val (HDR (some gb_20) 0 (List.length x_27) (Int.toNat (20 : Int))))), (50, .one (.val (HDR (some gb_33) 0 (List.length ([(72 : UInt8), (105 : UInt8), (32 : UInt8), (84 : UInt8), (104 : UInt8), (101 : UInt8), (114 : UInt8), (101 : UInt8)] : (List UInt8))) (8))))]) (.cons rfl (.cons rfl (.cons rfl (.cons rfl .nil))))) ?_
              refine JL.at ⟨[(3, .one (.val (HDR (some gb_11) 0 (List.length x_18) (Int.toNat (131 : Int))))), (48, .one (.val (S rB v_32))), (49, .one (.val (HDR (some gb_20) 0 (List.length x_27) (Int.toNat (20 : Int))))), (50, .one (.val (HDR (some gb_33) 0 (List.length ([(72 : UInt8), (105 : UInt8), (32 : UInt8), (84 : UInt8), (104 : UInt8), (101 : UInt8), (114 : UInt8), (101 : UInt8)] : (List UInt8))) (8))))], [cown (some gb_11) (rU UInt8) x_18 0 (Int.toNat (131 : Int)), cown (some gb_20) (rU UInt8) x_27 0 (Int.toNat (20 : Int)), cown (some gb_33) (rU UInt8) ([(72 : UInt8), (105 : UInt8), (32 : UInt8), (84 : UInt8), (104 : UInt8), (101 : UInt8), (114 : UInt8), (101 : UInt8)] : (List UInt8)) 0 (8)], []⟩ ?_
              refine JL.run (.yes rfl (ltB rfl) rfl hc14) (op_markO (j := 2) (ltB rfl) tu25 tu5 rfl (.tmp rfl) (Nat.le_of_ble_eq_true rfl)) ?_
              refine JL.pre (Imp.frz (j := 2) rfl (ImpK.slotH (s := 50) rfl (ImpK.slotH (s := 51) rfl ImpK.refl))) ?_
              refine JL.run (.yes rfl (ltB rfl) rfl hc14) (op_buildF (r := (rL (rU UInt8))) (ltB rfl) tu22 tz25 tZ25 rfl (Nat.le_of_ble_eq_true rfl) (.S rfl (HasO.wk (.tmp rfl) wkHL) .nil) rfl) ?_
              refine JL.pre (Imp.norm (ρ' := [(3, .one (.val (HDR (some gb_11) 0 (List.length x_18) (Int.toNat (131 : Int))))), (48, .one (.val (S rB v_32))), (49, .one (.val (HDR (some gb_20) 0 (List.length x_27) (Int.toNat (20 : Int))))), (52, .one (.val (S (rL (rL (rU UInt8))) ([([(72 : UInt8), (105 : UInt8), (32 : UInt8), (84 : UInt8), (104 : UInt8), (101 : UInt8), (114 : UInt8), (101 : UInt8)] : (List UInt8))] : (List (List UInt8))))))]) (js := [0, 0]) rfl (.cons rfl (.cons rfl (.cons rfl (.cons rfl .nil))))) ?_
              refine JL.at ⟨[(3, .one (.val (HDR (some gb_11) 0 (List.length x_18) (Int.toNat (131 : Int))))), (48, .one (.val (S rB v_32))), (49, .one (.val (HDR (some gb_20) 0 (List.length x_27) (Int.toNat (20 : Int))))), (52, .one (.val (S (rL (rL (rU UInt8))) ([([(72 : UInt8), (105 : UInt8), (32 : UInt8), (84 : UInt8), (104 : UInt8), (101 : UInt8), (114 : UInt8), (101 : UInt8)] : (List UInt8))] : (List (List UInt8))))))], [cown (some gb_11) (rU UInt8) x_18 0 (Int.toNat (131 : Int)), cown (some gb_20) (rU UInt8) x_27 0 (Int.toNat (20 : Int))], []⟩ ?_
              replace hx10 := bnd_inv hx10
              obtain ⟨v_34, hv_v_34, hx10⟩ := hx10
              refine JL.pre (Imp.frz (j := 1) rfl (ImpK.slotH (s := 49) rfl ImpK.refl)) ?_
              refine JL.runX (.yes rfl (ltB rfl) rfl hc14) (op_call (js := []) (ltD rfl) cl13 (sim_sha_Code k x_27 ([([(72 : UInt8), (105 : UInt8), (32 : UInt8), (84 : UInt8), (104 : UInt8), (101 : UInt8), (114 : UInt8), (101 : UInt8)] : (List UInt8))] : (List (List UInt8))) v_34 hv_v_34) .func (.cons (HasO.wk (.tmp rfl) wkHL) (.cons (.tmp rfl) .nil)) rfl) (fun _ => ?_)
              refine JL.pre (Imp.norm (ρ' := [(3, .one (.val (HDR (some gb_11) 0 (List.length x_18) (Int.toNat (131 : Int))))), (48, .one (.val (S rB v_32))), (53, .one (.val (A (rV 32 (rU UInt8)) v_34)))]) (js := [0]) rfl (.cons rfl (.cons rfl (.cons rfl .nil)))) ?_
              refine JL.at ⟨[(3, .one (.val (HDR (some gb_11) 0 (List.length x_18) (Int.toNat (131 : Int))))), (48, .one (.val (S rB v_32))), (53, .one (.val (A (rV 32 (rU UInt8)) v_34)))], [cown (some gb_11) (rU UInt8) x_18 0 (Int.toNat (131 : Int))], []⟩ ?_
              replace hx10 := bnd_inv hx10
              obtain ⟨v_35, hv_v_35, hx10⟩ := hx10
              refine JL.runX (.yes rfl (ltB rfl) rfl hc14) (op_call (js := []) (ltD rfl) cl15 (sim_law03_begins k v_34 (176 : UInt8) (52 : UInt8) (76 : UInt8) (97 : UInt8) v_35 hv_v_35) .func (.cons (.tmp rfl) (.cons (HasO.cU (x := (176 : UInt8)) rfl (by decide)) (.cons (HasO.cU (x := (52 : UInt8)) rfl (by decide)) (.cons (HasO.cU (x := (76 : UInt8)) rfl (by decide)) (.cons (HasO.cU (x := (97 : UInt8)) rfl (by decide)) .nil))))) rfl) (fun _ => ?_)
              refine JL.cons rfl (op_pickT (ltB rfl) (.tmp rfl) hc14 (.tmp rfl)) ?_
              refine JL.cons rfl (op_move (ltB rfl) (.tmp rfl)) ?_
              replace hx10 := iteB_inv hx10
              rcases hx10 with ⟨hc16, hx10⟩ | ⟨hc16, hx10⟩
              · refine JL.run (.yes rfl (ltB rfl) rfl hc16) (op_move (ltB rfl) (.tmp rfl)) ?_
                refine JL.runX (.yes rfl (ltB rfl) rfl hc16) (op_buildO (r := (rU UInt8)) (ltB rfl) tu25 tz5 tZ5 rfl (Nat.le_of_ble_eq_true rfl) (.S rfl (HasO.cU (x := (84 : UInt8)) rfl (by decide)) (.S rfl (HasO.cU (x := (101 : UInt8)) rfl (by decide)) (.S rfl (HasO.cU (x := (115 : UInt8)) rfl (by decide)) (.S rfl (HasO.cU (x := (116 : UInt8)) rfl (by decide)) (.S rfl (HasO.cU (x := (32 : UInt8)) rfl (by decide)) (.S rfl (HasO.cU (x := (85 : UInt8)) rfl (by decide)) (.S rfl (HasO.cU (x := (115 : UInt8)) rfl (by decide)) (.S rfl (HasO.cU (x := (105 : UInt8)) rfl (by decide)) (.S rfl (HasO.cU (x := (110 : UInt8)) rfl (by decide)) (.S rfl (HasO.cU (x := (103 : UInt8)) rfl (by decide)) (.S rfl (HasO.cU (x := (32 : UInt8)) rfl (by decide)) (.S rfl (HasO.cU (x := (76 : UInt8)) rfl (by decide)) (.S rfl (HasO.cU (x := (97 : UInt8)) rfl (by decide)) (.S rfl (HasO.cU (x := (114 : UInt8)) rfl (by decide)) (.S rfl (HasO.cU (x := (103 : UInt8)) rfl (by decide)) (.S rfl (HasO.cU (x := (101 : UInt8)) rfl (by decide)) (.S rfl (HasO.cU (x := (114 : UInt8)) rfl (by decide)) (.S rfl (HasO.cU (x := (32 : UInt8)) rfl (by decide)) (.S rfl (HasO.cU (x := (84 : UInt8)) rfl (by decide)) (.S rfl (HasO.cU (x := (104 : UInt8)) rfl (by decide)) (.S rfl (HasO.cU (x := (97 : UInt8)) rfl (by decide)) (.S rfl (HasO.cU (x := (110 : UInt8)) rfl (by decide)) (.S rfl (HasO.cU (x := (32 : UInt8)) rfl (by decide)) (.S rfl (HasO.cU (x := (66 : UInt8)) rfl (by decide)) (.S rfl (HasO.cU (x := (108 : UInt8)) rfl (by decide)) (.S rfl (HasO.cU (x := (111 : UInt8)) rfl (by decide)) (.S rfl (HasO.cU (x := (99 : UInt8)) rfl (by decide)) (.S rfl (HasO.cU (x := (107 : UInt8)) rfl (by decide)) (.S rfl (HasO.cU (x := (45 : UInt8)) rfl (by decide)) (.S rfl (HasO.cU (x := (83 : UInt8)) rfl (by decide)) (.S rfl (HasO.cU (x := (105 : UInt8)) rfl (by decide)) (.S rfl (HasO.cU (x := (122 : UInt8)) rfl (by decide)) (.S rfl (HasO.cU (x := (101 : UInt8)) rfl (by decide)) (.S rfl (HasO.cU (x := (32 : UInt8)) rfl (by decide)) (.S rfl (HasO.cU (x := (75 : UInt8)) rfl (by decide)) (.S rfl (HasO.cU (x := (101 : UInt8)) rfl (by decide)) (.S rfl (HasO.cU (x := (121 : UInt8)) rfl (by decide)) (.S rfl (HasO.cU (x := (32 : UInt8)) rfl (by decide)) (.S rfl (HasO.cU (x := (45 : UInt8)) rfl (by decide)) (.S rfl (HasO.cU (x := (32 : UInt8)) rfl (by decide)) (.S rfl (HasO.cU (x := (72 : UInt8)) rfl (by decide)) (.S rfl (HasO.cU (x := (97 : UInt8)) rfl (by decide)) (.S rfl (HasO.cU (x := (115 : UInt8)) rfl (by decide)) (.S rfl (HasO.cU (x := (104 : UInt8)) rfl (by decide)) (.S rfl (HasO.cU (x := (32 : UInt8)) rfl (by decide)) (.S rfl (HasO.cU (x := (75 : UInt8)) rfl (by decide)) (.S rfl (HasO.cU (x := (101 : UInt8)) rfl (by decide)) (.S rfl (HasO.cU (x := (121 : UInt8)) rfl (by decide)) (.S rfl (HasO.cU (x := (32 : UInt8)) rfl (by decide)) (.S rfl (HasO.cU (x := (70 : UInt8)) rfl (by decide)) (.S rfl (HasO.cU (x := (105 : UInt8)) rfl (by decide)) (.S rfl (HasO.cU (x := (114 : UInt8)) rfl (by decide)) (.S rfl (HasO.cU (x := (115 : UInt8)) rfl (by decide)) (.S rfl (HasO.cU (x := (116 : UInt8)) rfl (by decide)) .nil)))))))))))))))))))))))))))))))))))))))))))))))))))))) rfl) (fun q => ?_)
                obtain ⟨gb_36, hqq⟩ : ∃ z, z = q := ⟨_, rfl⟩
                subst hqq
                refine JL.pre (Imp.sub (ρ' := [(56, .one (.val (S rB v_35))), (57, .one (.val (HDR (some gb_11) 0 (List.length x_18) (Int.toNat (131 : Int))))), (58, .one (.val (HDR (some gb_36) 0 (List.length ([(84 : UInt8), (101 : UInt8), (115 : UInt8), (116 : UInt8), (32 : UInt8), (85 : UInt8), (115 : UInt8), (105 : UInt8), (110 : UInt8), (103 : UInt8), (32 : UInt8), (76 : UInt8), (97 : UInt8), (114 : UInt8), (103 : UInt8), (101 : UInt8), (114 : UInt8), (32 : UInt8), (84 : UInt8), (104 : UInt8), (97 : UInt8), (110 : UInt8), (32 : UInt8), (66 : UInt8), (108 : UInt8), (111 : UInt8), (99 : UInt8), (107 : UInt8), (45 : UInt8), (83 : UInt8), (105 : UInt8), (122 : UInt8), (101 : UInt8), (32 : UInt8), (75 : UInt8), (101 : UInt8), (121 : UInt8), (32 : UInt8), (45 : UInt8), (32 : UInt8), (72 : UInt8), (97 : UInt8), (115 : UInt8), (104 : UInt8), (32 : UInt8), (75 : UInt8), (101 : UInt8), (121 : UInt8), (32 : UInt8), (70 : UInt8), (105 : UInt8), (114 : UInt8), (115 : UInt8), (116 : UInt8)] : (List UInt8))) (54))))]) (.cons rfl (.cons rfl (.cons rfl .nil)))) ?_
                refine JL.at ⟨[(56, .one (.val (S rB v_35))), (57, .one (.val (HDR (some gb_11) 0 (List.length x_18) (Int.toNat (131 : Int))))), (58, .one (.val (HDR (some gb_36) 0 (List.length ([(84 : UInt8), (101 : UInt8), (115 : UInt8), (116 : UInt8), (32 : UInt8), (85 : UInt8), (115 : UInt8), (105 : UInt8), (110 : UInt8), (103 : UInt8), (32 : UInt8), (76 : UInt8), (97 : UInt8), (114 : UInt8), (103 : UInt8), (101 : UInt8), (114 : UInt8), (32 : UInt8), (84 : UInt8), (104 : UInt8), (97 : UInt8), (110 : UInt8), (32 : UInt8), (66 : UInt8), (108 : UInt8), (111 : UInt8), (99 : UInt8), (107 : UInt8), (45 : UInt8), (83 : UInt8), (105 : UInt8), (122 : UInt8), (101 : UInt8), (32 : UInt8), (75 : UInt8), (101 : UInt8), (121 : UInt8), (32 : UInt8), (45 : UInt8), (32 : UInt8), (72 : UInt8), (97 : UInt8), (115 : UInt8), (104 : UInt8), (32 : UInt8), (75 : UInt8), (101 : UInt8), (121 : UInt8), (32 : UInt8), (70 : UInt8), (105 : UInt8), (114 : UInt8), (115 : UInt8), (116 : UInt8)] : (List UInt8))) (54))))], [cown (some gb_11) (rU UInt8) x_18 0 (Int.toNat (131 : Int)), cown (some gb_36) (rU UInt8) ([(84 : UInt8), (101 : UInt8), (115 : UInt8), (116 : UInt8), (32 : UInt8), (85 : UInt8), (115 : UInt8), (105 : UInt8), (110 : UInt8), (103 : UInt8), (32 : UInt8), (76 : UInt8), (97 : UInt8), (114 : UInt8), (103 : UInt8), (101 : UInt8), (114 : UInt8), (32 : UInt8), (84 : UInt8), (104 : UInt8), (97 : UInt8), (110 : UInt8), (32 : UInt8), (66 : UInt8), (108 : UInt8), (111 : UInt8), (99 : UInt8), (107 : UInt8), (45 : UInt8), (83 : UInt8), (105 : UInt8), (122 : UInt8), (101 : UInt8), (32 : UInt8), (75 : UInt8), (101 : UInt8), (121 : UInt8), (32 : UInt8), (45 : UInt8), (32 : UInt8), (72 : UInt8), (97 : UInt8), (115 : UInt8), (104 : UInt8), (32 : UInt8), (75 : UInt8), (101 : UInt8), (121 : UInt8), (32 : UInt8), (70 : UInt8), (105 : UInt8), (114 : UInt8), (115 : UInt8), (116 : UInt8)] : (List UInt8)) 0 (54)], []⟩ ?_
                refine JL.run (.yes rfl (ltB rfl) rfl hc16) (op_markO (j := 1) (ltB rfl) tu25 tu5 rfl (.tmp rfl) (Nat.le_of_ble_eq_true rfl)) ?_
                refine JL.pre (Imp.frz (j := 1) rfl (ImpK.slotH (s := 58) rfl (ImpK.slotH (s := 59) rfl ImpK.refl))) ?_
                refine JL.run (.yes rfl (ltB rfl) rfl hc16) (op_buildF (r := (rL (rU UInt8))) (ltB rfl) tu22 tz25 tZ25 rfl (Nat.le_of_ble_eq_true rfl) (.S rfl (HasO.wk (.tmp rfl) wkHL) .nil) rfl) ?_
                refine JL.pre (Imp.norm (ρ' := [(56, .one (.val (S rB v_35))), (57, .one (.val (HDR (some gb_11) 0 (List.length x_18) (Int.toNat (131 : Int))))), (60, .one (.val (S (rL (rL (rU UInt8))) ([([(84 : UInt8), (101 : UInt8), (115 : UInt8), (116 : UInt8), (32 : UInt8), (85 : UInt8), (115 : UInt8), (105 : UInt8), (110 : UInt8), (103 : UInt8), (32 : UInt8), (76 : UInt8), (97 : UInt8), (114 : UInt8), (103 : UInt8), (101 : UInt8), (114 : UInt8), (32 : UInt8), (84 : UInt8), (104 : UInt8), (97 : UInt8), (110 : UInt8), (32 : UInt8), (66 : UInt8), (108 : UInt8), (111 : UInt8), (99 : UInt8), (107 : UInt8), (45 : UInt8), (83 : UInt8), (105 : UInt8), (122 : UInt8), (101 : UInt8), (32 : UInt8), (75 : UInt8), (101 : UInt8), (121 : UInt8), (32 : UInt8), (45 : UInt8), (32 : UInt8), (72 : UInt8), (97 : UInt8), (115 : UInt8), (104 : UInt8), (32 : UInt8), (75 : UInt8), (101 : UInt8), (121 : UInt8), (32 : UInt8), (70 : UInt8), (105 : UInt8), (114 : UInt8), (115 : UInt8), (116 : UInt8)] : (List UInt8))] : (List (List UInt8))))))]) (js := [0]) rfl (.cons rfl (.cons rfl (.cons rfl .nil)))) ?_
                refine JL.at ⟨[(56, .one (.val (S rB v_35))), (57, .one (.val (HDR (some gb_11) 0 (List.length x_18) (Int.toNat (131 : Int))))), (60, .one (.val (S (rL (rL (rU UInt8))) ([([(84 : UInt8), (101 : UInt8), (115 : UInt8), (116 : UInt8), (32 : UInt8), (85 : UInt8), (115 : UInt8), (105 : UInt8), (110 : UInt8), (103 : UInt8), (32 : UInt8), (76 : UInt8), (97 : UInt8), (114 : UInt8), (103 : UInt8), (101 : UInt8), (114 : UInt8), (32 : UInt8), (84 : UInt8), (104 : UInt8), (97 : UInt8), (110 : UInt8), (32 : UInt8), (66 : UInt8), (108 : UInt8), (111 : UInt8), (99 : UInt8), (107 : UInt8), (45 : UInt8), (83 : UInt8), (105 : UInt8), (122 : UInt8), (101 : UInt8), (32 : UInt8), (75 : UInt8), (101 : UInt8), (121 : UInt8), (32 : UInt8), (45 : UInt8), (32 : UInt8), (72 : UInt8), (97 : UInt8), (115 : UInt8), (104 : UInt8), (32 : UInt8), (75 : UInt8), (101 : UInt8), (121 : UInt8), (32 : UInt8), (70 : UInt8), (105 : UInt8), (114 : UInt8), (115 : UInt8), (116 : UInt8)] : (List UInt8))] : (List (List UInt8))))))], [cown (some gb_11) (rU UInt8) x_18 0 (Int.toNat (131 : Int))], []⟩ ?_
                replace hx10 := bnd_inv hx10
                obtain ⟨v_37, hv_v_37, hx10⟩ := hx10
                refine JL.pre (Imp.frz (j := 0) rfl (ImpK.slotH (s := 57) rfl ImpK.refl)) ?_
                refine JL.runX (.yes rfl (ltB rfl) rfl hc16) (op_call (js := []) (ltD rfl) cl13 (sim_sha_Code k x_18 ([([(84 : UInt8), (101 : UInt8), (115 : UInt8), (116 : UInt8), (32 : UInt8), (85 : UInt8), (115 : UInt8), (105 : UInt8), (110 : UInt8), (103 : UInt8), (32 : UInt8), (76 : UInt8), (97 : UInt8), (114 : UInt8), (103 : UInt8), (101 : UInt8), (114 : UInt8), (32 : UInt8), (84 : UInt8), (104 : UInt8), (97 : UInt8), (110 : UInt8), (32 : UInt8), (66 : UInt8), (108 : UInt8), (111 : UInt8), (99 : UInt8), (107 : UInt8), (45 : UInt8), (83 : UInt8), (105 : UInt8), (122 : UInt8), (101 : UInt8), (32 : UInt8), (75 : UInt8), (101 : UInt8), (121 : UInt8), (32 : UInt8), (45 : UInt8), (32 : UInt8), (72 : UInt8), (97 : UInt8), (115 : UInt8), (104 : UInt8), (32 : UInt8), (75 : UInt8), (101 : UInt8), (121 : UInt8), (32 : UInt8), (70 : UInt8), (105 : UInt8), (114 : UInt8), (115 : UInt8), (116 : UInt8)] : (List UInt8))] : (List (List UInt8))) v_37 hv_v_37) .func (.cons (HasO.wk (.tmp rfl) wkHL) (.cons (.tmp rfl) .nil)) rfl) (fun _ => ?_)
                refine JL.pre (Imp.norm (ρ' := [(56, .one (.val (S rB v_35))), (61, .one (.val (A (rV 32 (rU UInt8)) v_37)))]) (js := []) rfl (.cons rfl (.cons rfl .nil))) ?_
                refine JL.at ⟨[(56, .one (.val (S rB v_35))), (61, .one (.val (A (rV 32 (rU UInt8)) v_37)))], [], []⟩ ?_
                replace hx10 := bnd_inv hx10
                obtain ⟨v_38, hv_v_38, hx10⟩ := hx10
                refine JL.runX (.yes rfl (ltB rfl) rfl hc16) (op_call (js := []) (ltD rfl) cl15 (sim_law03_begins k v_37 (96 : UInt8) (228 : UInt8) (49 : UInt8) (89 : UInt8) v_38 hv_v_38) .func (.cons (.tmp rfl) (.cons (HasO.cU (x := (96 : UInt8)) rfl (by decide)) (.cons (HasO.cU (x := (228 : UInt8)) rfl (by decide)) (.cons (HasO.cU (x := (49 : UInt8)) rfl (by decide)) (.cons (HasO.cU (x := (89 : UInt8)) rfl (by decide)) .nil))))) rfl) (fun _ => ?_)
                refine JL.cons rfl (op_pickT (ltB rfl) (.tmp rfl) hc16 (.tmp rfl)) ?_
                refine JL.cons rfl (op_move (ltB rfl) (.tmp rfl)) ?_
                replace hx10 := bnd_inv hx10
                obtain ⟨v_39, hv_v_39, hx10⟩ := hx10
                refine JL.cnd (sv := .one (.val (S rB v_39))) (Guard.isT (ltB rfl) rfl rfl) rfl (ltB rfl) (fun hq_17 => (op_call (js := []) (ltD rfl) cl9 (sim_law03_known k v_39 (ifT hv_v_39 hq_17)) .func .nil rfl).post (fun _ => Imp.refl)) ?_
                replace hx10 := lt1_inv hx10
                obtain ⟨v_40, hv_v_40, hx10⟩ := hx10
                refine JL.cons rfl (op_pickCS (ltB rfl) (.tmp rfl) (fun hb18 => (HasO.cnd (.tmp rfl) hb18)) (fun hb18 => .cB) hv_v_40) ?_
                refine JL.cons rfl (op_assign (ltB rfl) (.tmp rfl)) ?_
                refine JL.pre (Imp.sub (ρ' := [(0, .one (.val (S rB v_40)))]) (.cons rfl .nil)) ?_
                refine JL.at ⟨[(0, .one (.val (S rB v_40)))], [], []⟩ ?_
                refine JL.nil ?_
                replace hx10 := Option.some.inj hx10
                first | subst hx10 | clear hx10
                exact JQ.join () (Imp.norm (js := []) rfl (.cons rfl .nil))
              · refine JL.skip (.no rfl (ltB rfl) rfl hc16) (fun d h => by cases h; exact ltB rfl) ?_
                refine JL.skip (.no rfl (ltB rfl) rfl hc16) (fun d h => by cases h; exact ltB rfl) ?_
                refine JL.skip (.no rfl (ltB rfl) rfl hc16) (fun d h => by cases h; exact ltB rfl) ?_
                refine JL.skip (.no rfl (ltB rfl) rfl hc16) (fun d h => by cases h; exact ltB rfl) ?_
                refine JL.skip (.no rfl (ltB rfl) rfl hc16) (fun d h => by cases h; exact ltB rfl) ?_
                refine JL.skip (.no rfl (ltB rfl) rfl hc16) (fun d h => by cases h; exact ltB rfl) ?_
                refine JL.cons rfl (op_pickF (ltB rfl) (.tmp rfl) hc16 .cB) ?_
                refine JL.cons rfl (op_move (ltB rfl) (.tmp rfl)) ?_
                refine JL.skip (.no rfl (ltB rfl) rfl rfl) (fun d h => by cases h; exact ltB rfl) ?_
                refine JL.cons rfl (op_pickF (ltB rfl) (.tmp rfl) rfl .cB) ?_
                refine JL.pre (Imp.norm (ρ' := [(66, .one (.val (S rB false)))]) (js := []) rfl (.cons rfl .nil)) ?_
                refine JL.at ⟨[(66, .one (.val (S rB false)))], [], []⟩ ?_
                refine JL.cons rfl (op_assign (ltB rfl) (.tmp rfl)) ?_
                refine JL.nil ?_
                replace hx10 := Option.some.inj hx10
                first | subst hx10 | clear hx10
                exact JQ.join () (Imp.norm (js := []) rfl (.cons rfl .nil))
            · refine JL.skip (.no rfl (ltB rfl) rfl hc14) (fun d h => by cases h; exact ltB rfl) ?_
              refine JL.skip (.no rfl (ltB rfl) rfl hc14) (fun d h => by cases h; exact ltB rfl) ?_
              refine JL.skip (.no rfl (ltB rfl) rfl hc14) (fun d h => by cases h; exact ltB rfl) ?_
              refine JL.skip (.no rfl (ltB rfl) rfl hc14) (fun d h => by cases h; exact ltB rfl) ?_
              refine JL.skip (.no rfl (ltB rfl) rfl hc14) (fun d h => by cases h; exact ltB rfl) ?_
              refine JL.skip (.no rfl (ltB rfl) rfl hc14) (fun d h => by cases h; exact ltB rfl) ?_
              refine JL.cons rfl (op_pickF (ltB rfl) (.tmp rfl) hc14 .cB) ?_
              refine JL.cons rfl (op_move (ltB rfl) (.tmp rfl)) ?_
              refine JL.pre (Imp.norm (ρ' := [(3, .one (.val (HDR (some gb_11) 0 (List.length x_18) (Int.toNat (131 : Int))))), (56, .one (.val (S rB false)))]) (js := [0]) rfl (.cons rfl (.cons rfl .nil))) ?_
              refine JL.at ⟨[(3, .one (.val (HDR (some gb_11) 0 (List.length x_18) (Int.toNat (131 : Int))))), (56, .one (.val (S rB false)))], [cown (some gb_11) (rU UInt8) x_18 0 (Int.toNat (131 : Int))], []⟩ ?_
              refine JL.skip (.no rfl (ltB rfl) rfl rfl) (fun d h => by cases h; exact ltB rfl) ?_
              refine JL.skip (.no rfl (ltB rfl) rfl rfl) (fun d h => by cases h; exact ltB rfl) ?_
              refine JL.skip (.no rfl (ltB rfl) rfl rfl) (fun d h => by cases h; exact ltB rfl) ?_
              refine JL.skip (.no rfl (ltB rfl) rfl rfl) (fun d h => by cases h; exact ltB rfl) ?_
              refine JL.skip (.no rfl (ltB rfl) rfl rfl) (fun d h => by cases h; exact ltB rfl) ?_
              refine JL.skip (.no rfl (ltB rfl) rfl rfl) (fun d h => by cases h; exact ltB rfl) ?_
              refine JL.cons rfl (op_pickF (ltB rfl) (.tmp rfl) rfl .cB) ?_
              refine JL.cons rfl (op_move (ltB rfl) (.tmp rfl)) ?_
              refine JL.skip (.no rfl (ltB rfl) rfl rfl) (fun d h => by cases h; exact ltB rfl) ?_
              refine JL.cons rfl (op_pickF (ltB rfl) (.tmp rfl) rfl .cB) ?_
              refine JL.cons rfl (op_assign (ltB rfl) (.tmp rfl)) ?_
              refine JL.nil ?_
              replace hx10 := Option.some.inj hx10
              first | subst hx10 | clear hx10
              exact JQ.join () (Imp.norm (js := []) rfl (.cons rfl .nil))
          · refine JL.skip (.no rfl (ltB rfl) rfl hc12) (fun d h => by cases h; exact ltB rfl) ?_
            refine JL.skip (.no rfl (ltB rfl) rfl hc12) (fun d h => by cases h; exact ltB rfl) ?_
            refine JL.skip (.no rfl (ltB rfl) rfl hc12) (fun d h => by cases h; exact ltB rfl) ?_
            refine JL.skip (.no rfl (ltB rfl) rfl hc12) (fun d h => by cases h; exact ltB rfl) ?_
            refine JL.cons rfl (op_pickF (ltB rfl) (.tmp rfl) hc12 .cB) ?_
            refine JL.cons rfl (op_move (ltB rfl) (.tmp rfl)) ?_
            refine JL.skip (.no rfl (ltB rfl) rfl rfl) (fun d h => by cases h; exact ltB rfl) ?_
            refine JL.skip (.no rfl (ltB rfl) rfl rfl) (fun d h => by cases h; exact ltB rfl) ?_
            refine JL.skip (.no rfl (ltB rfl) rfl rfl) (fun d h => by cases h; exact ltB rfl) ?_
            refine JL.skip (.no rfl (ltB rfl) rfl rfl) (fun d h => by cases h; exact ltB rfl) ?_
            refine JL.skip (.no rfl (ltB rfl) rfl rfl) (fun d h => by cases h; exact ltB rfl) ?_
            refine JL.skip (.no rfl (ltB rfl) rfl rfl) (fun d h => by cases h; exact ltB rfl) ?_
            refine JL.cons rfl (op_pickF (ltB rfl) (.tmp rfl) rfl .cB) ?_
            refine JL.pre (Imp.norm (ρ' := [(3, .one (.val (HDR (some gb_11) 0 (List.length x_18) (Int.toNat (131 : Int))))), (55, .one (.val (S rB false)))]) (js := [1]) rfl (.cons rfl (.cons rfl .nil))) ?_
            refine JL.at ⟨[(3, .one (.val (HDR (some gb_11) 0 (List.length x_18) (Int.toNat (131 : Int))))), (55, .one (.val (S rB false)))], [cown (some gb_11) (rU UInt8) x_18 0 (Int.toNat (131 : Int))], []⟩ ?_
            refine JL.cons rfl (op_move (ltB rfl) (.tmp rfl)) ?_
            refine JL.skip (.no rfl (ltB rfl) rfl rfl) (fun d h => by cases h; exact ltB rfl) ?_
            refine JL.skip (.no rfl (ltB rfl) rfl rfl) (fun d h => by cases h; exact ltB rfl) ?_
            refine JL.skip (.no rfl (ltB rfl) rfl rfl) (fun d h => by cases h; exact ltB rfl) ?_
            refine JL.skip (.no rfl (ltB rfl) rfl rfl) (fun d h => by cases h; exact ltB rfl) ?_
            refine JL.skip (.no rfl (ltB rfl) rfl rfl) (fun d h => by cases h; exact ltB rfl) ?_
            refine JL.skip (.no rfl (ltB rfl) rfl rfl) (fun d h => by cases h; exact ltB rfl) ?_
            refine JL.cons rfl (op_pickF (ltB rfl) (.tmp rfl) rfl .cB) ?_
            refine JL.cons rfl (op_move (ltB rfl) (.tmp rfl)) ?_
            refine JL.skip (.no rfl (ltB rfl) rfl rfl) (fun d h => by cases h; exact ltB rfl) ?_
            refine JL.cons rfl (op_pickF (ltB rfl) (.tmp rfl) rfl .cB) ?_
            refine JL.cons rfl (op_assign (ltB rfl) (.tmp rfl)) ?_
            refine JL.nil ?_
            replace hx10 := Option.some.inj hx10
            first | subst hx10 | clear hx10
            exact JQ.join () (Imp.norm (js := []) rfl (.cons rfl .nil))
      · refine JC.seq ?_
        refine JC.region ?_
        refine JL.cons rfl (op_assign (ltB rfl) .cI) ?_
        refine JL.nil ?_
        refine JQ.then ?_
        refine JC.block ?_
        refine JC.pre ?_ (JC.loop (γ := Unit) (stf := fun s q => ⟨[(1, .one (.val (HDR (some gb_2) 0 (List.length x_9) (Int.toNat (1000 : Int))))), (3, .one (.val (HDR (some gb_11) 0 (List.length x_18) (Int.toNat (131 : Int))))), (5, .one (.val (HDR (some gb_20) 0 (List.length s.1) (Int.toNat (20 : Int))))), (6, .one (.val (S (rI .i64) s.2)))], [cown (some gb_2) (rU UInt8) x_9 0 (Int.toNat (1000 : Int)), cown (some gb_11) (rU UInt8) x_18 0 (Int.toNat (131 : Int)), cown (some gb_20) (rU UInt8) s.1 0 (Int.toNat (20 : Int))], []⟩) (q := ()) hx7 ?_)
        · exact (Imp.norm (js := [0, 0, 0]) rfl (.cons rfl (.cons rfl (.cons rfl (.cons rfl .nil)))))
        · intro s q x hx hr
          obtain ⟨x_21, x_22⟩ := s
          obtain _ := q
          change law03_ShaVectors.b3 k x_21 x_22 = some x at hx
          unfold law03_ShaVectors.b3 at hx
          refine JC.at ⟨[(1, .one (.val (HDR (some gb_2) 0 (List.length x_9) (Int.toNat (1000 : Int))))), (3, .one (.val (HDR (some gb_11) 0 (List.length x_18) (Int.toNat (131 : Int))))), (5, .one (.val (HDR (some gb_20) 0 (List.length x_21) (Int.toNat (20 : Int))))), (6, .one (.val (S (rI .i64) x_22)))], [cown (some gb_2) (rU UInt8) x_9 0 (Int.toNat (1000 : Int)), cown (some gb_11) (rU UInt8) x_18 0 (Int.toNat (131 : Int)), cown (some gb_20) (rU UInt8) x_21 0 (Int.toNat (20 : Int))], []⟩ ?_
          refine JC.seq ?_
          refine JC.seq ?_
          refine JC.region ?_
          refine JL.cons rfl (op_move (ltB rfl) (.tmp rfl)) ?_
          refine JL.cons rfl (op_move (ltB rfl) (.tmp rfl)) ?_
          refine JL.cons rfl (op_lenH (ltB rfl) tu25 (.tmp rfl)) ?_
          replace hx := lt1_inv hx
          obtain ⟨v_23, hv_v_23, hx⟩ := hx
          refine JL.cons rfl (op_cmpI (ltB rfl) (.tmp rfl) (.tmp rfl) (congrArg some hv_v_23)) ?_
          refine JL.nil ?_
          refine JQ.then ?_
          replace hx := iteB_inv hx
          rcases hx with ⟨hc9, hx⟩ | ⟨hc9, hx⟩
          · refine JC.condT (.tmp rfl) hc9 ?_
            refine JC.skip ?_
            refine JQ.then ?_
            refine JC.seq ?_
            refine JC.block ?_
            refine JC.region ?_
            refine JL.cons rfl (op_move (ltB rfl) (.tmp rfl)) ?_
            refine JL.cons rfl (op_move (ltB rfl) (.tmp rfl)) ?_
            refine JL.pre (Imp.sub (ρ' := [(1, .one (.val (HDR (some gb_2) 0 (List.length x_9) (Int.toNat (1000 : Int))))), (3, .one (.val (HDR (some gb_11) 0 (List.length x_18) (Int.toNat (131 : Int))))), (5, .one (.val (HDR (some gb_20) 0 (List.length x_21) (Int.toNat (20 : Int))))), (6, .one (.val (S (rI .i64) x_22))), (34, .one (.val (HDR (some gb_20) 0 (List.length x_21) (Int.toNat (20 : Int))))), (35, .one (.val (S (rI .i64) x_22)))]) (.cons rfl (.cons rfl (.cons rfl (.cons rfl (.cons rfl (.cons rfl .nil))))))) ?_
            refine JL.at ⟨[(1, .one (.val (HDR (some gb_2) 0 (List.length x_9) (Int.toNat (1000 : Int))))), (3, .one (.val (HDR (some gb_11) 0 (List.length x_18) (Int.toNat (131 : Int))))), (5, .one (.val (HDR (some gb_20) 0 (List.length x_21) (Int.toNat (20 : Int))))), (6, .one (.val (S (rI .i64) x_22))), (34, .one (.val (HDR (some gb_20) 0 (List.length x_21) (Int.toNat (20 : Int))))), (35, .one (.val (S (rI .i64) x_22)))], [cown (some gb_2) (rU UInt8) x_9 0 (Int.toNat (1000 : Int)), cown (some gb_11) (rU UInt8) x_18 0 (Int.toNat (131 : Int)), cown (some gb_20) (rU UInt8) x_21 0 (Int.toNat (20 : Int))], []⟩ ?_
            replace hx := bnd_inv hx
            obtain ⟨i_24, hv_i_24, hx⟩ := hx
            refine JL.cons rfl (op_indexAddrOF (r := (rU UInt8)) (j := 2) (ltB rfl) tu25 tz5 rfl (.tmp rfl) (.tmp rfl) hv_i_24) ?_
            replace hx := bnd_inv hx
            obtain ⟨x_25, hv_x_25, hx⟩ := hx
            refine JL.cons rfl (op_storeOSg (r := (rU UInt8)) (j := 2) tS5 rfl rfl (.tmp rfl) (HasO.cU (x := (11 : UInt8)) rfl (by decide)) hv_x_25) ?_
            refine JL.pre (Imp.slot (s := 5) (q := HDR (some gb_20) 0 (List.length x_25) (Int.toNat (20 : Int))) rfl (wkLen (setO'_len hv_x_25))) ?_
            refine JL.pre (Imp.slot (s := 34) (q := HDR (some gb_20) 0 (List.length x_25) (Int.toNat (20 : Int))) rfl (wkLen (setO'_len hv_x_25))) ?_
            refine JL.pre (Imp.sub (ρ' := [(1, .one (.val (HDR (some gb_2) 0 (List.length x_9) (Int.toNat (1000 : Int))))), (3, .one (.val (HDR (some gb_11) 0 (List.length x_18) (Int.toNat (131 : Int))))), (5, .one (.val (HDR (some gb_20) 0 (List.length x_25) (Int.toNat (20 : Int))))), (6, .one (.val (S (rI .i64) x_22)))]) (.cons rfl (.cons rfl (.cons rfl (.cons rfl .nil))))) ?_
            refine JL.at ⟨[(1, .one (.val (HDR (some gb_2) 0 (List.length x_9) (Int.toNat (1000 : Int))))), (3, .one (.val (HDR (some gb_11) 0 (List.length x_18) (Int.toNat (131 : Int))))), (5, .one (.val (HDR (some gb_20) 0 (List.length x_25) (Int.toNat (20 : Int))))), (6, .one (.val (S (rI .i64) x_22)))], [cown (some gb_2) (rU UInt8) x_9 0 (Int.toNat (1000 : Int)), cown (some gb_11) (rU UInt8) x_18 0 (Int.toNat (131 : Int)), cown (some gb_20) (rU UInt8) x_25 0 (Int.toNat (20 : Int))], []⟩ ?_
            refine JL.nil ?_
            refine JQ.outNB ?_
            refine JQ.then ?_
            refine JC.region ?_
            refine JL.cons rfl (op_move (ltB rfl) (.tmp rfl)) ?_
            replace hx := lt1_inv hx
            obtain ⟨v_26, hv_v_26, hx⟩ := hx
            refine JL.cons rfl (op_arI (ltB rfl) (.tmp rfl) .cI (congrArg some hv_v_26)) ?_
            refine JL.cons rfl (op_assign (ltB rfl) (.tmp rfl)) ?_
            refine JL.nil ?_
            replace hx := Option.some.inj hx
            first | subst hx | clear hx
            exact JQ.next () rfl (Imp.norm (js := [0, 0, 0]) rfl (.cons rfl (.cons rfl (.cons rfl (.cons rfl .nil)))))
          · refine JC.condF (.tmp rfl) hc9 ?_
            refine JC.exit ?_
            refine JQ.outX ?_
            replace hx := Option.some.inj hx
            first | subst hx | clear hx
            have ht := hr _ rfl
            have hq8 := congrArg some ht
            clear hr ht
            refine JQ.outX ?_
            refine JQ.here ?_
            replace hq8 := Option.some.inj hq8
            first | subst hq8 | clear hq8
            exact JQ.join () (Imp.norm (js := [0, 0, 0]) rfl (.cons rfl (.cons rfl (.cons rfl .nil))))
    · refine JC.seq ?_
      refine JC.region ?_
      refine JL.cons rfl (op_assign (ltB rfl) .cI) ?_
      refine JL.nil ?_
      refine JQ.then ?_
      refine JC.block ?_
      refine JC.pre ?_ (JC.loop (γ := Unit) (stf := fun s q => ⟨[(1, .one (.val (HDR (some gb_2) 0 (List.length x_9) (Int.toNat (1000 : Int))))), (3, .one (.val (HDR (some gb_11) 0 (List.length s.1) (Int.toNat (131 : Int))))), (4, .one (.val (S (rI .i64) s.2)))], [cown (some gb_2) (rU UInt8) x_9 0 (Int.toNat (1000 : Int)), cown (some gb_11) (rU UInt8) s.1 0 (Int.toNat (131 : Int))], []⟩) (q := ()) hx4 ?_)
      · exact (Imp.norm (js := [0, 0]) rfl (.cons rfl (.cons rfl (.cons rfl .nil))))
      · intro s q x hx hr
        obtain ⟨x_12, x_13⟩ := s
        obtain _ := q
        change law03_ShaVectors.b2 k x_12 x_13 = some x at hx
        unfold law03_ShaVectors.b2 at hx
        refine JC.at ⟨[(1, .one (.val (HDR (some gb_2) 0 (List.length x_9) (Int.toNat (1000 : Int))))), (3, .one (.val (HDR (some gb_11) 0 (List.length x_12) (Int.toNat (131 : Int))))), (4, .one (.val (S (rI .i64) x_13)))], [cown (some gb_2) (rU UInt8) x_9 0 (Int.toNat (1000 : Int)), cown (some gb_11) (rU UInt8) x_12 0 (Int.toNat (131 : Int))], []⟩ ?_
        refine JC.seq ?_
        refine JC.seq ?_
        refine JC.region ?_
        refine JL.cons rfl (op_move (ltB rfl) (.tmp rfl)) ?_
        refine JL.cons rfl (op_move (ltB rfl) (.tmp rfl)) ?_
        refine JL.cons rfl (op_lenH (ltB rfl) tu25 (.tmp rfl)) ?_
        replace hx := lt1_inv hx
        obtain ⟨v_14, hv_v_14, hx⟩ := hx
        refine JL.cons rfl (op_cmpI (ltB rfl) (.tmp rfl) (.tmp rfl) (congrArg some hv_v_14)) ?_
        refine JL.nil ?_
        refine JQ.then ?_
        replace hx := iteB_inv hx
        rcases hx with ⟨hc6, hx⟩ | ⟨hc6, hx⟩
        · refine JC.condT (.tmp rfl) hc6 ?_
          refine JC.skip ?_
          refine JQ.then ?_
          refine JC.seq ?_
          refine JC.block ?_
          refine JC.region ?_
          refine JL.cons rfl (op_move (ltB rfl) (.tmp rfl)) ?_
          refine JL.cons rfl (op_move (ltB rfl) (.tmp rfl)) ?_
          refine JL.pre (Imp.sub (ρ' := [(1, .one (.val (HDR (some gb_2) 0 (List.length x_9) (Int.toNat (1000 : Int))))), (3, .one (.val (HDR (some gb_11) 0 (List.length x_12) (Int.toNat (131 : Int))))), (4, .one (.val (S (rI .i64) x_13))), (24, .one (.val (HDR (some gb_11) 0 (List.length x_12) (Int.toNat (131 : Int))))), (25, .one (.val (S (rI .i64) x_13)))]) (.cons rfl (.cons rfl (.cons rfl (.cons rfl (.cons rfl .nil)))))) ?_
          refine JL.at ⟨[(1, .one (.val (HDR (some gb_2) 0 (List.length x_9) (Int.toNat (1000 : Int))))), (3, .one (.val (HDR (some gb_11) 0 (List.length x_12) (Int.toNat (131 : Int))))), (4, .one (.val (S (rI .i64) x_13))), (24, .one (.val (HDR (some gb_11) 0 (List.length x_12) (Int.toNat (131 : Int))))), (25, .one (.val (S (rI .i64) x_13)))], [cown (some gb_2) (rU UInt8) x_9 0 (Int.toNat (1000 : Int)), cown (some gb_11) (rU UInt8) x_12 0 (Int.toNat (131 : Int))], []⟩ ?_
          replace hx := bnd_inv hx
          obtain ⟨i_15, hv_i_15, hx⟩ := hx
          refine JL.cons rfl (op_indexAddrOF (r := (rU UInt8)) (j := 1) (ltB rfl) tu25 tz5 rfl (.tmp rfl) (.tmp rfl) hv_i_15) ?_
          replace hx := bnd_inv hx
          obtain ⟨x_16, hv_x_16, hx⟩ := hx
          refine JL.cons rfl (op_storeOSg (r := (rU UInt8)) (j := 1) tS5 rfl rfl (.tmp rfl) (HasO.cU (x := (170 : UInt8)) rfl (by decide)) hv_x_16) ?_
          refine JL.pre (Imp.slot (s := 3) (q := HDR (some gb_11) 0 (List.length x_16) (Int.toNat (131 : Int))) rfl (wkLen (setO'_len hv_x_16))) ?_
          refine JL.pre (Imp.slot (s := 24) (q := HDR (some gb_11) 0 (List.length x_16) (Int.toNat (131 : Int))) rfl (wkLen (setO'_len hv_x_16))) ?_
          refine JL.pre (Imp.sub (ρ' := [(1, .one (.val (HDR (some gb_2) 0 (List.length x_9) (Int.toNat (1000 : Int))))), (3, .one (.val (HDR (some gb_11) 0 (List.length x_16) (Int.toNat (131 : Int))))), (4, .one (.val (S (rI .i64) x_13)))]) (.cons rfl (.cons rfl (.cons rfl .nil)))) ?_
          refine JL.at ⟨[(1, .one (.val (HDR (some gb_2) 0 (List.length x_9) (Int.toNat (1000 : Int))))), (3, .one (.val (HDR (some gb_11) 0 (List.length x_16) (Int.toNat (131 : Int))))), (4, .one (.val (S (rI .i64) x_13)))], [cown (some gb_2) (rU UInt8) x_9 0 (Int.toNat (1000 : Int)), cown (some gb_11) (rU UInt8) x_16 0 (Int.toNat (131 : Int))], []⟩ ?_
          refine JL.nil ?_
          refine JQ.outNB ?_
          refine JQ.then ?_
          refine JC.region ?_
          refine JL.cons rfl (op_move (ltB rfl) (.tmp rfl)) ?_
          replace hx := lt1_inv hx
          obtain ⟨v_17, hv_v_17, hx⟩ := hx
          refine JL.cons rfl (op_arI (ltB rfl) (.tmp rfl) .cI (congrArg some hv_v_17)) ?_
          refine JL.cons rfl (op_assign (ltB rfl) (.tmp rfl)) ?_
          refine JL.nil ?_
          replace hx := Option.some.inj hx
          first | subst hx | clear hx
          exact JQ.next () rfl (Imp.norm (js := [0, 0]) rfl (.cons rfl (.cons rfl (.cons rfl .nil))))
        · refine JC.condF (.tmp rfl) hc6 ?_
          refine JC.exit ?_
          refine JQ.outX ?_
          replace hx := Option.some.inj hx
          first | subst hx | clear hx
          have ht := hr _ rfl
          have hq5 := congrArg some ht
          clear hr ht
          refine JQ.outX ?_
          refine JQ.here ?_
          replace hq5 := Option.some.inj hq5
          first | subst hq5 | clear hq5
          exact JQ.join () (Imp.norm (js := [0, 0]) rfl (.cons rfl (.cons rfl .nil)))
  · refine JC.seq ?_
    refine JC.region ?_
    refine JL.cons rfl (op_assign (ltB rfl) .cI) ?_
    refine JL.nil ?_
    refine JQ.then ?_
    refine JC.block ?_
    refine JC.pre ?_ (JC.loop (γ := Unit) (stf := fun s q => ⟨[(1, .one (.val (HDR (some gb_2) 0 (List.length s.1) (Int.toNat (1000 : Int))))), (2, .one (.val (S (rI .i64) s.2)))], [cown (some gb_2) (rU UInt8) s.1 0 (Int.toNat (1000 : Int))], []⟩) (q := ()) hx1 ?_)
    · exact (Imp.norm (js := [0]) rfl (.cons rfl (.cons rfl .nil)))
    · intro s q x hx hr
      obtain ⟨x_3, x_4⟩ := s
      obtain _ := q
      change law03_ShaVectors.b1 k x_3 x_4 = some x at hx
      unfold law03_ShaVectors.b1 at hx
      refine JC.at ⟨[(1, .one (.val (HDR (some gb_2) 0 (List.length x_3) (Int.toNat (1000 : Int))))), (2, .one (.val (S (rI .i64) x_4)))], [cown (some gb_2) (rU UInt8) x_3 0 (Int.toNat (1000 : Int))], []⟩ ?_
      refine JC.seq ?_
      refine JC.seq ?_
      refine JC.region ?_
      refine JL.cons rfl (op_move (ltB rfl) (.tmp rfl)) ?_
      refine JL.cons rfl (op_move (ltB rfl) (.tmp rfl)) ?_
      refine JL.cons rfl (op_lenH (ltB rfl) tu25 (.tmp rfl)) ?_
      replace hx := lt1_inv hx
      obtain ⟨v_5, hv_v_5, hx⟩ := hx
      refine JL.cons rfl (op_cmpI (ltB rfl) (.tmp rfl) (.tmp rfl) (congrArg some hv_v_5)) ?_
      refine JL.nil ?_
      refine JQ.then ?_
      replace hx := iteB_inv hx
      rcases hx with ⟨hc3, hx⟩ | ⟨hc3, hx⟩
      · refine JC.condT (.tmp rfl) hc3 ?_
        refine JC.skip ?_
        refine JQ.then ?_
        refine JC.seq ?_
        refine JC.block ?_
        refine JC.region ?_
        refine JL.cons rfl (op_move (ltB rfl) (.tmp rfl)) ?_
        refine JL.cons rfl (op_move (ltB rfl) (.tmp rfl)) ?_
        refine JL.pre (Imp.sub (ρ' := [(1, .one (.val (HDR (some gb_2) 0 (List.length x_3) (Int.toNat (1000 : Int))))), (2, .one (.val (S (rI .i64) x_4))), (14, .one (.val (HDR (some gb_2) 0 (List.length x_3) (Int.toNat (1000 : Int))))), (15, .one (.val (S (rI .i64) x_4)))]) (.cons rfl (.cons rfl (.cons rfl (.cons rfl .nil))))) ?_
        refine JL.at ⟨[(1, .one (.val (HDR (some gb_2) 0 (List.length x_3) (Int.toNat (1000 : Int))))), (2, .one (.val (S (rI .i64) x_4))), (14, .one (.val (HDR (some gb_2) 0 (List.length x_3) (Int.toNat (1000 : Int))))), (15, .one (.val (S (rI .i64) x_4)))], [cown (some gb_2) (rU UInt8) x_3 0 (Int.toNat (1000 : Int))], []⟩ ?_
        replace hx := bnd_inv hx
        obtain ⟨i_6, hv_i_6, hx⟩ := hx
        refine JL.cons rfl (op_indexAddrOF (r := (rU UInt8)) (j := 0) (ltB rfl) tu25 tz5 rfl (.tmp rfl) (.tmp rfl) hv_i_6) ?_
        replace hx := bnd_inv hx
        obtain ⟨x_7, hv_x_7, hx⟩ := hx
        refine JL.cons rfl (op_storeOSg (r := (rU UInt8)) (j := 0) tS5 rfl rfl (.tmp rfl) (HasO.cU (x := (97 : UInt8)) rfl (by decide)) hv_x_7) ?_
        refine JL.pre (Imp.slot (s := 1) (q := HDR (some gb_2) 0 (List.length x_7) (Int.toNat (1000 : Int))) rfl (wkLen (setO'_len hv_x_7))) ?_
        refine JL.pre (Imp.slot (s := 14) (q := HDR (some gb_2) 0 (List.length x_7) (Int.toNat (1000 : Int))) rfl (wkLen (setO'_len hv_x_7))) ?_
        refine JL.pre (Imp.sub (ρ' := [(1, .one (.val (HDR (some gb_2) 0 (List.length x_7) (Int.toNat (1000 : Int))))), (2, .one (.val (S (rI .i64) x_4)))]) (.cons rfl (.cons rfl .nil))) ?_
        refine JL.at ⟨[(1, .one (.val (HDR (some gb_2) 0 (List.length x_7) (Int.toNat (1000 : Int))))), (2, .one (.val (S (rI .i64) x_4)))], [cown (some gb_2) (rU UInt8) x_7 0 (Int.toNat (1000 : Int))], []⟩ ?_
        refine JL.nil ?_
        refine JQ.outNB ?_
        refine JQ.then ?_
        refine JC.region ?_
        refine JL.cons rfl (op_move (ltB rfl) (.tmp rfl)) ?_
        replace hx := lt1_inv hx
        obtain ⟨v_8, hv_v_8, hx⟩ := hx
        refine JL.cons rfl (op_arI (ltB rfl) (.tmp rfl) .cI (congrArg some hv_v_8)) ?_
        refine JL.cons rfl (op_assign (ltB rfl) (.tmp rfl)) ?_
        refine JL.nil ?_
        replace hx := Option.some.inj hx
        first | subst hx | clear hx
        exact JQ.next () rfl (Imp.norm (js := [0]) rfl (.cons rfl (.cons rfl .nil)))
      · refine JC.condF (.tmp rfl) hc3 ?_
        refine JC.exit ?_
        refine JQ.outX ?_
        replace hx := Option.some.inj hx
        first | subst hx | clear hx
        have ht := hr _ rfl
        have hq2 := congrArg some ht
        clear hr ht
        refine JQ.outX ?_
        refine JQ.here ?_
        replace hq2 := Option.some.inj hq2
        first | subst hq2 | clear hq2
        exact JQ.join () (Imp.norm (js := [0]) rfl (.cons rfl .nil))

end Go.Proofs.Ytdncoiehmkcajaa
