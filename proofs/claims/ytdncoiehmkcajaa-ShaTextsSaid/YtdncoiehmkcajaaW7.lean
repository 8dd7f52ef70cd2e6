/- Walks. -/
import Derived.Test.YtdncoiehmkcajaaT
import Derived.Test.YtdncoiehmkcajaaW0
import Derived.Test.YtdncoiehmkcajaaW2
import Derived.Test.YtdncoiehmkcajaaW5
import Derived.Test.YtdncoiehmkcajaaW6
namespace Go.Proofs.Ytdncoiehmkcajaa
open Go Fw
set_option linter.unusedVariables false
set_option maxRecDepth 100000
set_option maxHeartbeats 4000000

theorem sim_sha_Constant (k : Nat) (i_1 : Int) (r : UInt32) (hm : sha_Constant k i_1 = some r) : Sim Try.prog 24 [S (rI .i64) i_1] [] (γ := Unit) (fun q => []) (fun q => .one (.val (S (rU UInt32) r))) := by
  unfold sha_Constant at hm
  refine Sim.of Try.func24 rfl rfl (Nat.le_of_ble_eq_true rfl) (fun e0 w0 => ?_)
  refine JC.at ⟨[(0, .one (.val (S (rI .i64) i_1)))], [], []⟩ ?_
  refine JC.seq ?_
  refine JC.region ?_
  refine JL.cons rfl (op_assign (ltB rfl) (HasO.cU (x := (0 : UInt32)) rfl (by decide))) ?_
  refine JL.nil ?_
  refine JQ.then ?_
  refine JC.seq ?_
  replace hm := bnd_inv hm
  obtain ⟨x_5, hx1, hq1⟩ := hm
  refine JC.seqJ (γ := Unit) (stj := fun q => ⟨[(0, .one (.val (S (rI .i64) i_1))), (8, .one (.val (S rB x_5)))], [], []⟩) (fun q => ?_) ?_
  · obtain _ := q
    refine JC.at ⟨[(0, .one (.val (S (rI .i64) i_1))), (8, .one (.val (S rB x_5)))], [], []⟩ ?_
    replace hq1 := iteB_inv hq1
    rcases hq1 with ⟨hc5, hq1⟩ | ⟨hc5, hq1⟩
    · refine JC.condT (.tmp rfl) hc5 ?_
      refine JC.seq ?_
      refine JC.region ?_
      refine JL.cons rfl (op_assign (ltB rfl) (HasO.cU (x := (0 : UInt32)) rfl (by decide))) ?_
      refine JL.nil ?_
      refine JQ.then ?_
      refine JC.ret ?_
      refine JQ.outR ?_
      replace hq1 := Option.some.inj hq1
      subst hq1
      exact JQ.done (js := []) (ss := [.val (S (rU UInt32) (0 : UInt32))]) () (.inl rfl) (.nil rfl) rfl (.cons (.tmp rfl) .nil) rfl rfl rfl
    · refine JC.condF (.tmp rfl) hc5 ?_
      refine JC.skip ?_
      refine JQ.then ?_
      refine JC.seq ?_
      refine JC.region ?_
      replace hq1 := bnd_inv hq1
      obtain ⟨v_6, hv_v_6, hq1⟩ := hq1
      refine JL.consX rfl (op_call (js := []) (ltD rfl) cl34 (sim_sha_primes k v_6 hv_v_6) .func .nil rfl) (fun q => ?_)
      obtain ⟨go_7, gc_8⟩ := q
      refine JL.pre (Imp.sub (ρ' := [(0, .one (.val (S (rI .i64) i_1))), (9, .one (.val (HDR go_7 0 (List.length v_6) gc_8)))]) (.cons rfl (.cons rfl .nil))) ?_
      refine JL.at ⟨[(0, .one (.val (S (rI .i64) i_1))), (9, .one (.val (HDR go_7 0 (List.length v_6) gc_8)))], [cown go_7 (rU UInt64) v_6 (List.length v_6) gc_8], []⟩ ?_
      refine JL.cons rfl (op_move (ltB rfl) (.tmp rfl)) ?_
      replace hq1 := bnd_inv hq1
      obtain ⟨i_9, hv_i_9, hq1⟩ := hq1
      refine JL.cons rfl (op_indexAddrOF (r := (rU UInt64)) (j := 0) (ltB rfl) tu66 tz65 rfl (.tmp rfl) (.tmp rfl) hv_i_9) ?_
      replace hq1 := bnd_inv hq1
      obtain ⟨v_10, hv_v_10, hq1⟩ := hq1
      refine JL.cons rfl (op_loadOS (r := (rU UInt64)) (i := i_9) (off := 0) (j := 0) (ltB rfl) tS65 rfl rfl (.tmp rfl) hv_v_10 (Comp.self (rU UInt64) v_10) (by decide)) ?_
      replace hq1 := bnd_inv hq1
      obtain ⟨v_11, hv_v_11, hq1⟩ := hq1
      refine JL.consX rfl (op_call (js := []) (ltD rfl) cl37 (sim_sha_constant k v_10 v_11 hv_v_11) .func (.cons (.tmp rfl) .nil) rfl) (fun _ => ?_)
      refine JL.cons rfl (op_assign (ltB rfl) (.tmp rfl)) ?_
      refine JL.nil ?_
      refine JQ.then ?_
      refine JC.ret ?_
      replace hq1 := Option.some.inj hq1
      subst hq1
      exact JQ.done (js := []) (ss := [.val (S (rU UInt32) v_11)]) () (.inl rfl) (.nil rfl) rfl (.cons (.tmp rfl) .nil) rfl rfl rfl
  · refine JC.region ?_
    refine JL.cons rfl (op_move (ltB rfl) (.tmp rfl)) ?_
    replace hx1 := lt1_inv hx1
    obtain ⟨v_2, hv_v_2, hx1⟩ := hx1
    refine JL.cons rfl (op_cmpI (ltB rfl) (.tmp rfl) .cI (congrArg some hv_v_2)) ?_
    refine JL.cons rfl (op_move (ltB rfl) (.tmp rfl)) ?_
    refine JL.cnd (sv := .one (.val (S (rI .i64) i_1))) (Guard.isF (ltB rfl) rfl rfl) rfl (ltB rfl) (fun hq_2 => op_move (ltB rfl) (.tmp rfl)) ?_
    replace hx1 := lt1_inv hx1
    obtain ⟨v_3, hv_v_3, hx1⟩ := hx1
    refine JL.cnd (sv := .one (.val (S rB v_3))) (Guard.isF (ltB rfl) rfl rfl) rfl (ltB rfl) (fun hq_3 => op_cmpI (ltB rfl) (HasO.cnd (.tmp rfl) (notT (notF hq_3))) .cI (congrArg some hv_v_3)) ?_
    refine JL.pre (Imp.sub (ρ' := [(0, .one (.val (S (rI .i64) i_1))), (5, .one (.val (S rB v_2))), (7, bif (!v_2) then .one (.val (S rB v_3)) else .one .und)]) (.cons rfl (.cons rfl (.cons rfl .nil)))) ?_
    refine JL.at ⟨[(0, .one (.val (S (rI .i64) i_1))), (5, .one (.val (S rB v_2))), (7, bif (!v_2) then .one (.val (S rB v_3)) else .one .und)], [], []⟩ ?_
    replace hx1 := lt1_inv hx1
    obtain ⟨v_4, hv_v_4, hx1⟩ := hx1
    refine JL.cons rfl (op_pickCS (ltB rfl) (.tmp rfl) (fun hb4 => .cB) (fun hb4 => (HasO.cnd (.tmp rfl) (notT hb4))) hv_v_4) ?_
    refine JL.nil ?_
    replace hx1 := Option.some.inj hx1
    first | subst hx1 | clear hx1
    exact JQ.join () (Imp.norm (js := []) rfl (.cons rfl (.cons rfl .nil)))

theorem sim_law03_known (k : Nat) (r : Bool) (hm : law03_known k = some r) : Sim Try.prog 9 [] [] (γ := Unit) (fun q => []) (fun q => .one (.val (S rB r))) := by
  unfold law03_known at hm
  refine Sim.of Try.func9 rfl rfl (Nat.le_of_ble_eq_true rfl) (fun e0 w0 => ?_)
  refine JC.at ⟨[], [], []⟩ ?_
  refine JC.seq ?_
  refine JC.region ?_
  refine JL.cons rfl (op_assign (ltB rfl) .cB) ?_
  refine JL.nil ?_
  refine JQ.then ?_
  replace hm := bnd_inv hm
  obtain ⟨x_16, hx1, hq1⟩ := hm
  refine JC.seqJ (γ := Unit) (stj := fun q => ⟨[(0, .one (.val (S rB x_16)))], [], []⟩) (fun q => ?_) ?_
  · obtain _ := q
    refine JC.at ⟨[(0, .one (.val (S rB x_16)))], [], []⟩ ?_
    refine JC.ret ?_
    replace hq1 := Option.some.inj hq1
    subst hq1
    exact JQ.done (js := []) (ss := [.val (S rB x_16)]) () (.inl rfl) (.nil rfl) rfl (.cons (.tmp rfl) .nil) rfl rfl rfl
  · refine JC.region ?_
    replace hx1 := bnd_inv hx1
    obtain ⟨v_1, hv_v_1, hx1⟩ := hx1
    refine JL.consX rfl (op_call (js := []) (ltD rfl) cl11 (sim_sha_Sum k ([] : (List (List UInt8))) v_1 hv_v_1) .func (.cons (HasO.wk (q := S (rL (rL (rU UInt8))) []) HasO.nilH wkNil) .nil) rfl) (fun _ => ?_)
    replace hx1 := bnd_inv hx1
    obtain ⟨v_2, hv_v_2, hx1⟩ := hx1
    refine JL.consX rfl (op_call (js := []) (ltD rfl) cl15 (sim_law03_begins k v_1 (227 : UInt8) (176 : UInt8) (196 : UInt8) (66 : UInt8) v_2 hv_v_2) .func (.cons (.tmp rfl) (.cons (HasO.cU (x := (227 : UInt8)) rfl (by decide)) (.cons (HasO.cU (x := (176 : UInt8)) rfl (by decide)) (.cons (HasO.cU (x := (196 : UInt8)) rfl (by decide)) (.cons (HasO.cU (x := (66 : UInt8)) rfl (by decide)) .nil))))) rfl) (fun _ => ?_)
    refine JL.cons rfl (op_move (ltB rfl) (.tmp rfl)) ?_
    replace hx1 := iteB_inv hx1
    rcases hx1 with ⟨hc3, hx1⟩ | ⟨hc3, hx1⟩
    · refine JL.runX (.yes rfl (ltB rfl) rfl hc3) (op_buildO (r := (rU UInt8)) (ltB rfl) tu25 tz5 tZ5 rfl (Nat.le_of_ble_eq_true rfl) (.S rfl (HasO.cU (x := (97 : UInt8)) rfl (by decide)) (.S rfl (HasO.cU (x := (98 : UInt8)) rfl (by decide)) (.S rfl (HasO.cU (x := (99 : UInt8)) rfl (by decide)) .nil))) rfl) (fun q => ?_)
      obtain ⟨gb_3, hqq⟩ : ∃ z, z = q := ⟨_, rfl⟩
      subst hqq
      refine JL.pre (Imp.sub (ρ' := [(0, .one (.val (S rB false))), (3, .one (.val (S rB v_2))), (4, .one (.val (HDR (some gb_3) 0 (List.length ([(97 : UInt8), (98 : UInt8), (99 : UInt8)] : (List UInt8))) (3))))]) (.cons rfl (.cons rfl (.cons rfl .nil)))) ?_
      refine JL.at ⟨[(0, .one (.val (S rB false))), (3, .one (.val (S rB v_2))), (4, .one (.val (HDR (some gb_3) 0 (List.length ([(97 : UInt8), (98 : UInt8), (99 : UInt8)] : (List UInt8))) (3))))], [cown (some gb_3) (rU UInt8) ([(97 : UInt8), (98 : UInt8), (99 : UInt8)] : (List UInt8)) 0 (3)], []⟩ ?_
      refine JL.run (.yes rfl (ltB rfl) rfl hc3) (op_markO (j := 0) (ltB rfl) tu25 tu5 rfl (.tmp rfl) (Nat.le_of_ble_eq_true rfl)) ?_
      refine JL.pre (Imp.frz (j := 0) rfl (ImpK.slotH (s := 4) rfl (ImpK.slotH (s := 5) rfl ImpK.refl))) ?_
      refine JL.run (.yes rfl (ltB rfl) rfl hc3) (op_buildF (r := (rL (rU UInt8))) (ltB rfl) tu22 tz25 tZ25 rfl (Nat.le_of_ble_eq_true rfl) (.S rfl (HasO.wk (.tmp rfl) wkHL) .nil) rfl) ?_
      refine JL.pre (Imp.norm (ρ' := [(0, .one (.val (S rB false))), (3, .one (.val (S rB v_2))), (6, .one (.val (S (rL (rL (rU UInt8))) ([([(97 : UInt8), (98 : UInt8), (99 : UInt8)] : (List UInt8))] : (List (List UInt8))))))]) (js := []) rfl (.cons rfl (.cons rfl (.cons rfl .nil)))) ?_
      refine JL.at ⟨[(0, .one (.val (S rB false))), (3, .one (.val (S rB v_2))), (6, .one (.val (S (rL (rL (rU UInt8))) ([([(97 : UInt8), (98 : UInt8), (99 : UInt8)] : (List UInt8))] : (List (List UInt8))))))], [], []⟩ ?_
      replace hx1 := bnd_inv hx1
      obtain ⟨v_4, hv_v_4, hx1⟩ := hx1
      refine JL.runX (.yes rfl (ltB rfl) rfl hc3) (op_call (js := []) (ltD rfl) cl11 (sim_sha_Sum k ([([(97 : UInt8), (98 : UInt8), (99 : UInt8)] : (List UInt8))] : (List (List UInt8))) v_4 hv_v_4) .func (.cons (.tmp rfl) .nil) rfl) (fun _ => ?_)
      replace hx1 := bnd_inv hx1
      obtain ⟨v_5, hv_v_5, hx1⟩ := hx1
      refine JL.runX (.yes rfl (ltB rfl) rfl hc3) (op_call (js := []) (ltD rfl) cl15 (sim_law03_begins k v_4 (186 : UInt8) (120 : UInt8) (22 : UInt8) (191 : UInt8) v_5 hv_v_5) .func (.cons (.tmp rfl) (.cons (HasO.cU (x := (186 : UInt8)) rfl (by decide)) (.cons (HasO.cU (x := (120 : UInt8)) rfl (by decide)) (.cons (HasO.cU (x := (22 : UInt8)) rfl (by decide)) (.cons (HasO.cU (x := (191 : UInt8)) rfl (by decide)) .nil))))) rfl) (fun _ => ?_)
      refine JL.cons rfl (op_pickT (ltB rfl) (.tmp rfl) hc3 (.tmp rfl)) ?_
      refine JL.cons rfl (op_move (ltB rfl) (.tmp rfl)) ?_
      replace hx1 := iteB_inv hx1
      rcases hx1 with ⟨hc5, hx1⟩ | ⟨hc5, hx1⟩
      · refine JL.runX (.yes rfl (ltB rfl) rfl hc5) (op_buildO (r := (rU UInt8)) (ltB rfl) tu25 tz5 tZ5 rfl (Nat.le_of_ble_eq_true rfl) (.S rfl (HasO.cU (x := (74 : UInt8)) rfl (by decide)) (.S rfl (HasO.cU (x := (101 : UInt8)) rfl (by decide)) (.S rfl (HasO.cU (x := (102 : UInt8)) rfl (by decide)) (.S rfl (HasO.cU (x := (101 : UInt8)) rfl (by decide)) .nil)))) rfl) (fun q => ?_)
        obtain ⟨gb_6, hqq⟩ : ∃ z, z = q := ⟨_, rfl⟩
        subst hqq
        refine JL.pre (Imp.sub (ρ' := [(0, .one (.val (S rB false))), (10, .one (.val (S rB v_5))), (11, .one (.val (HDR (some gb_6) 0 (List.length ([(74 : UInt8), (101 : UInt8), (102 : UInt8), (101 : UInt8)] : (List UInt8))) (4))))]) (.cons rfl (.cons rfl (.cons rfl .nil)))) ?_
        refine JL.at ⟨[(0, .one (.val (S rB false))), (10, .one (.val (S rB v_5))), (11, .one (.val (HDR (some gb_6) 0 (List.length ([(74 : UInt8), (101 : UInt8), (102 : UInt8), (101 : UInt8)] : (List UInt8))) (4))))], [cown (some gb_6) (rU UInt8) ([(74 : UInt8), (101 : UInt8), (102 : UInt8), (101 : UInt8)] : (List UInt8)) 0 (4)], []⟩ ?_
        refine JL.run (.yes rfl (ltB rfl) rfl hc5) (op_markO (j := 0) (ltB rfl) tu25 tu5 rfl (.tmp rfl) (Nat.le_of_ble_eq_true rfl)) ?_
        refine JL.runX (.yes rfl (ltB rfl) rfl hc5) (op_buildO (r := (rU UInt8)) (ltB rfl) tu25 tz5 tZ5 rfl (Nat.le_of_ble_eq_true rfl) (.S rfl (HasO.cU (x := (119 : UInt8)) rfl (by decide)) (.S rfl (HasO.cU (x := (104 : UInt8)) rfl (by decide)) (.S rfl (HasO.cU (x := (97 : UInt8)) rfl (by decide)) (.S rfl (HasO.cU (x := (116 : UInt8)) rfl (by decide)) (.S rfl (HasO.cU (x := (32 : UInt8)) rfl (by decide)) (.S rfl (HasO.cU (x := (100 : UInt8)) rfl (by decide)) (.S rfl (HasO.cU (x := (111 : UInt8)) rfl (by decide)) (.S rfl (HasO.cU (x := (32 : UInt8)) rfl (by decide)) (.S rfl (HasO.cU (x := (121 : UInt8)) rfl (by decide)) (.S rfl (HasO.cU (x := (97 : UInt8)) rfl (by decide)) (.S rfl (HasO.cU (x := (32 : UInt8)) rfl (by decide)) (.S rfl (HasO.cU (x := (119 : UInt8)) rfl (by decide)) (.S rfl (HasO.cU (x := (97 : UInt8)) rfl (by decide)) (.S rfl (HasO.cU (x := (110 : UInt8)) rfl (by decide)) (.S rfl (HasO.cU (x := (116 : UInt8)) rfl (by decide)) (.S rfl (HasO.cU (x := (32 : UInt8)) rfl (by decide)) (.S rfl (HasO.cU (x := (102 : UInt8)) rfl (by decide)) (.S rfl (HasO.cU (x := (111 : UInt8)) rfl (by decide)) (.S rfl (HasO.cU (x := (114 : UInt8)) rfl (by decide)) (.S rfl (HasO.cU (x := (32 : UInt8)) rfl (by decide)) (.S rfl (HasO.cU (x := (110 : UInt8)) rfl (by decide)) (.S rfl (HasO.cU (x := (111 : UInt8)) rfl (by decide)) (.S rfl (HasO.cU (x := (116 : UInt8)) rfl (by decide)) (.S rfl (HasO.cU (x := (104 : UInt8)) rfl (by decide)) (.S rfl (HasO.cU (x := (105 : UInt8)) rfl (by decide)) (.S rfl (HasO.cU (x := (110 : UInt8)) rfl (by decide)) (.S rfl (HasO.cU (x := (103 : UInt8)) rfl (by decide)) (.S rfl (HasO.cU (x := (63 : UInt8)) rfl (by decide)) .nil)))))))))))))))))))))))))))) rfl) (fun q => ?_)
        obtain ⟨gb_7, hqq⟩ : ∃ z, z = q := ⟨_, rfl⟩
        subst hqq
        refine JL.pre (Imp.sub (ρ' := [(0, .one (.val (S rB false))), (10, .one (.val (S rB v_5))), (12, .one (.val (HDR (some gb_6) 0 (List.length ([(74 : UInt8), (101 : UInt8), (102 : UInt8), (101 : UInt8)] : (List UInt8))) (4)))), (13, .one (.val (HDR (some gb_7) 0 (List.length ([(119 : UInt8), (104 : UInt8), (97 : UInt8), (116 : UInt8), (32 : UInt8), (100 : UInt8), (111 : UInt8), (32 : UInt8), (121 : UInt8), (97 : UInt8), (32 : UInt8), (119 : UInt8), (97 : UInt8), (110 : UInt8), (116 : UInt8), (32 : UInt8), (102 : UInt8), (111 : UInt8), (114 : UInt8), (32 : UInt8), (110 : UInt8), (111 : UInt8), (116 : UInt8), (104 : UInt8), (105 : UInt8), (110 : UInt8), (103 : UInt8), (63 : UInt8)] : (List UInt8))) (28))))]) (.cons rfl (.cons rfl (.cons rfl (.cons rfl .nil))))) ?_
        refine JL.at ⟨[(0, .one (.val (S rB false))), (10, .one (.val (S rB v_5))), (12, .one (.val (HDR (some gb_6) 0 (List.length ([(74 : UInt8), (101 : UInt8), (102 : UInt8), (101 : UInt8)] : (List UInt8))) (4)))), (13, .one (.val (HDR (some gb_7) 0 (List.length ([(119 : UInt8), (104 : UInt8), (97 : UInt8), (116 : UInt8), (32 : UInt8), (100 : UInt8), (111 : UInt8), (32 : UInt8), (121 : UInt8), (97 : UInt8), (32 : UInt8), (119 : UInt8), (97 : UInt8), (110 : UInt8), (116 : UInt8), (32 : UInt8), (102 : UInt8), (111 : UInt8), (114 : UInt8), (32 : UInt8), (110 : UInt8), (111 : UInt8), (116 : UInt8), (104 : UInt8), (105 : UInt8), (110 : UInt8), (103 : UInt8), (63 : UInt8)] : (List UInt8))) (28))))], [cown (some gb_6) (rU UInt8) ([(74 : UInt8), (101 : UInt8), (102 : UInt8), (101 : UInt8)] : (List UInt8)) 0 (4), cown (some gb_7) (rU UInt8) ([(119 : UInt8), (104 : UInt8), (97 : UInt8), (116 : UInt8), (32 : UInt8), (100 : UInt8), (111 : UInt8), (32 : UInt8), (121 : UInt8), (97 : UInt8), (32 : UInt8), (119 : UInt8), (97 : UInt8), (110 : UInt8), (116 : UInt8), (32 : UInt8), (102 : UInt8), (111 : UInt8), (114 : UInt8), (32 : UInt8), (110 : UInt8), (111 : UInt8), (116 : UInt8), (104 : UInt8), (105 : UInt8), (110 : UInt8), (103 : UInt8), (63 : UInt8)] : (List UInt8)) 0 (28)], []⟩ ?_
        refine JL.run (.yes rfl (ltB rfl) rfl hc5) (op_markO (j := 1) (ltB rfl) tu25 tu5 rfl (.tmp rfl) (Nat.le_of_ble_eq_true rfl)) ?_
        refine JL.pre (Imp.frz (j := 1) rfl (ImpK.slotH (s := 13) rfl (ImpK.slotH (s := 14) rfl ImpK.refl))) ?_
        refine JL.run (.yes rfl (ltB rfl) rfl hc5) (op_buildF (r := (rL (rU UInt8))) (ltB rfl) tu22 tz25 tZ25 rfl (Nat.le_of_ble_eq_true rfl) (.S rfl (HasO.wk (.tmp rfl) wkHL) .nil) rfl) ?_
        refine JL.pre (Imp.norm (ρ' := [(0, .one (.val (S rB false))), (10, .one (.val (S rB v_5))), (12, .one (.val (HDR (some gb_6) 0 (List.length ([(74 : UInt8), (101 : UInt8), (102 : UInt8), (101 : UInt8)] : (List UInt8))) (4)))), (15, .one (.val (S (rL (rL (rU UInt8))) ([([(119 : UInt8), (104 : UInt8), (97 : UInt8), (116 : UInt8), (32 : UInt8), (100 : UInt8), (111 : UInt8), (32 : UInt8), (121 : UInt8), (97 : UInt8), (32 : UInt8), (119 : UInt8), (97 : UInt8), (110 : UInt8), (116 : UInt8), (32 : UInt8), (102 : UInt8), (111 : UInt8), (114 : UInt8), (32 : UInt8), (110 : UInt8), (111 : UInt8), (116 : UInt8), (104 : UInt8), (105 : UInt8), (110 : UInt8), (103 : UInt8), (63 : UInt8)] : (List UInt8))] : (List (List UInt8))))))]) (js := [0]) rfl (.cons rfl (.cons rfl (.cons rfl (.cons rfl .nil))))) ?_
        refine JL.at ⟨[(0, .one (.val (S rB false))), (10, .one (.val (S rB v_5))), (12, .one (.val (HDR (some gb_6) 0 (List.length ([(74 : UInt8), (101 : UInt8), (102 : UInt8), (101 : UInt8)] : (List UInt8))) (4)))), (15, .one (.val (S (rL (rL (rU UInt8))) ([([(119 : UInt8), (104 : UInt8), (97 : UInt8), (116 : UInt8), (32 : UInt8), (100 : UInt8), (111 : UInt8), (32 : UInt8), (121 : UInt8), (97 : UInt8), (32 : UInt8), (119 : UInt8), (97 : UInt8), (110 : UInt8), (116 : UInt8), (32 : UInt8), (102 : UInt8), (111 : UInt8), (114 : UInt8), (32 : UInt8), (110 : UInt8), (111 : UInt8), (116 : UInt8), (104 : UInt8), (105 : UInt8), (110 : UInt8), (103 : UInt8), (63 : UInt8)] : (List UInt8))] : (List (List UInt8))))))], [cown (some gb_6) (rU UInt8) ([(74 : UInt8), (101 : UInt8), (102 : UInt8), (101 : UInt8)] : (List UInt8)) 0 (4)], []⟩ ?_
        replace hx1 := bnd_inv hx1
        obtain ⟨v_8, hv_v_8, hx1⟩ := hx1
        refine JL.pre (Imp.frz (j := 0) rfl (ImpK.slotH (s := 12) rfl ImpK.refl)) ?_
        refine JL.runX (.yes rfl (ltB rfl) rfl hc5) (op_call (js := []) (ltD rfl) cl13 (sim_sha_Code k ([(74 : UInt8), (101 : UInt8), (102 : UInt8), (101 : UInt8)] : (List UInt8)) ([([(119 : UInt8), (104 : UInt8), (97 : UInt8), (116 : UInt8), (32 : UInt8), (100 : UInt8), (111 : UInt8), (32 : UInt8), (121 : UInt8), (97 : UInt8), (32 : UInt8), (119 : UInt8), (97 : UInt8), (110 : UInt8), (116 : UInt8), (32 : UInt8), (102 : UInt8), (111 : UInt8), (114 : UInt8), (32 : UInt8), (110 : UInt8), (111 : UInt8), (116 : UInt8), (104 : UInt8), (105 : UInt8), (110 : UInt8), (103 : UInt8), (63 : UInt8)] : (List UInt8))] : (List (List UInt8))) v_8 hv_v_8) .func (.cons (HasO.wk (.tmp rfl) wkHL) (.cons (.tmp rfl) .nil)) rfl) (fun _ => ?_)
        refine JL.pre (Imp.norm (ρ' := [(0, .one (.val (S rB false))), (10, .one (.val (S rB v_5))), (16, .one (.val (A (rV 32 (rU UInt8)) v_8)))]) (js := []) rfl (.cons rfl (.cons rfl (.cons rfl .nil)))) ?_
        refine JL.at ⟨[(0, .one (.val (S rB false))), (10, .one (.val (S rB v_5))), (16, .one (.val (A (rV 32 (rU UInt8)) v_8)))], [], []⟩ ?_
        replace hx1 := bnd_inv hx1
        obtain ⟨v_9, hv_v_9, hx1⟩ := hx1
        refine JL.runX (.yes rfl (ltB rfl) rfl hc5) (op_call (js := []) (ltD rfl) cl15 (sim_law03_begins k v_8 (91 : UInt8) (220 : UInt8) (193 : UInt8) (70 : UInt8) v_9 hv_v_9) .func (.cons (.tmp rfl) (.cons (HasO.cU (x := (91 : UInt8)) rfl (by decide)) (.cons (HasO.cU (x := (220 : UInt8)) rfl (by decide)) (.cons (HasO.cU (x := (193 : UInt8)) rfl (by decide)) (.cons (HasO.cU (x := (70 : UInt8)) rfl (by decide)) .nil))))) rfl) (fun _ => ?_)
        refine JL.cons rfl (op_pickT (ltB rfl) (.tmp rfl) hc5 (.tmp rfl)) ?_
        refine JL.cons rfl (op_move (ltB rfl) (.tmp rfl)) ?_
        replace hx1 := bnd_inv hx1
        obtain ⟨v_10, hv_v_10, hx1⟩ := hx1
        refine JL.cnd (sv := .one (.val (S (rU UInt32) v_10))) (Guard.isT (ltB rfl) rfl rfl) rfl (ltB rfl) (fun hq_6 => (op_call (js := []) (ltD rfl) cl22 (sim_sha_Start k (0 : Int) v_10 (ifT hv_v_10 hq_6)) .func (.cons .cI .nil) rfl).post (fun _ => Imp.refl)) ?_
        replace hx1 := lt1_inv hx1
        obtain ⟨v_11, hv_v_11, hx1⟩ := hx1
        refine JL.cnd (sv := .one (.val (S rB v_11))) (Guard.isT (ltB rfl) rfl rfl) rfl (ltB rfl) (fun hq_7 => op_cmpU (ltB rfl) (HasO.cnd (.tmp rfl) hq_7) (HasO.cU (x := (1779033703 : UInt32)) rfl (by decide)) (congrArg some hv_v_11)) ?_
        replace hx1 := lt1_inv hx1
        obtain ⟨v_12, hv_v_12, hx1⟩ := hx1
        refine JL.cons rfl (op_pickCS (ltB rfl) (.tmp rfl) (fun hb8 => (HasO.cnd (.tmp rfl) hb8)) (fun hb8 => .cB) hv_v_12) ?_
        refine JL.pre (Imp.sub (ρ' := [(0, .one (.val (S rB false))), (22, .one (.val (S rB v_12)))]) (.cons rfl (.cons rfl .nil))) ?_
        refine JL.at ⟨[(0, .one (.val (S rB false))), (22, .one (.val (S rB v_12)))], [], []⟩ ?_
        refine JL.cons rfl (op_move (ltB rfl) (.tmp rfl)) ?_
        replace hx1 := bnd_inv hx1
        obtain ⟨v_13, hv_v_13, hx1⟩ := hx1
        refine JL.cnd (sv := .one (.val (S (rU UInt32) v_13))) (Guard.isT (ltB rfl) rfl rfl) rfl (ltB rfl) (fun hq_9 => (op_call (js := []) (ltD rfl) cl24 (sim_sha_Constant k (0 : Int) v_13 (ifT hv_v_13 hq_9)) .func (.cons .cI .nil) rfl).post (fun _ => Imp.refl)) ?_
        replace hx1 := lt1_inv hx1
        obtain ⟨v_14, hv_v_14, hx1⟩ := hx1
        refine JL.cnd (sv := .one (.val (S rB v_14))) (Guard.isT (ltB rfl) rfl rfl) rfl (ltB rfl) (fun hq_10 => op_cmpU (ltB rfl) (HasO.cnd (.tmp rfl) hq_10) (HasO.cU (x := (1116352408 : UInt32)) rfl (by decide)) (congrArg some hv_v_14)) ?_
        replace hx1 := lt1_inv hx1
        obtain ⟨v_15, hv_v_15, hx1⟩ := hx1
        refine JL.cons rfl (op_pickCS (ltB rfl) (.tmp rfl) (fun hb11 => (HasO.cnd (.tmp rfl) hb11)) (fun hb11 => .cB) hv_v_15) ?_
        refine JL.cons rfl (op_assign (ltB rfl) (.tmp rfl)) ?_
        refine JL.nil ?_
        replace hx1 := Option.some.inj hx1
        first | subst hx1 | clear hx1
        exact JQ.join () (Imp.norm (js := []) rfl (.cons rfl .nil))
      · refine JL.skip (.no rfl (ltB rfl) rfl hc5) (fun d h => by cases h; exact ltB rfl) ?_
        refine JL.skip (.no rfl (ltB rfl) rfl hc5) (fun d h => by cases h; exact ltB rfl) ?_
        refine JL.skip (.no rfl (ltB rfl) rfl hc5) (fun d h => by cases h; exact ltB rfl) ?_
        refine JL.skip (.no rfl (ltB rfl) rfl hc5) (fun d h => by cases h; exact ltB rfl) ?_
        refine JL.skip (.no rfl (ltB rfl) rfl hc5) (fun d h => by cases h; exact ltB rfl) ?_
        refine JL.skip (.no rfl (ltB rfl) rfl hc5) (fun d h => by cases h; exact ltB rfl) ?_
        refine JL.skip (.no rfl (ltB rfl) rfl hc5) (fun d h => by cases h; exact ltB rfl) ?_
        refine JL.cons rfl (op_pickF (ltB rfl) (.tmp rfl) hc5 .cB) ?_
        refine JL.cons rfl (op_move (ltB rfl) (.tmp rfl)) ?_
        refine JL.pre (Imp.sub (ρ' := [(0, .one (.val (S rB false))), (19, .one (.val (S rB false)))]) (.cons rfl (.cons rfl .nil))) ?_
        refine JL.at ⟨[(0, .one (.val (S rB false))), (19, .one (.val (S rB false)))], [], []⟩ ?_
        refine JL.skip (.no rfl (ltB rfl) rfl rfl) (fun d h => by cases h; exact ltB rfl) ?_
        refine JL.skip (.no rfl (ltB rfl) rfl rfl) (fun d h => by cases h; exact ltB rfl) ?_
        refine JL.cons rfl (op_pickF (ltB rfl) (.tmp rfl) rfl .cB) ?_
        refine JL.cons rfl (op_move (ltB rfl) (.tmp rfl)) ?_
        refine JL.skip (.no rfl (ltB rfl) rfl rfl) (fun d h => by cases h; exact ltB rfl) ?_
        refine JL.skip (.no rfl (ltB rfl) rfl rfl) (fun d h => by cases h; exact ltB rfl) ?_
        refine JL.cons rfl (op_pickF (ltB rfl) (.tmp rfl) rfl .cB) ?_
        refine JL.cons rfl (op_assign (ltB rfl) (.tmp rfl)) ?_
        refine JL.nil ?_
        replace hx1 := Option.some.inj hx1
        first | subst hx1 | clear hx1
        exact JQ.join () (Imp.norm (js := []) rfl (.cons rfl .nil))
    · refine JL.skip (.no rfl (ltB rfl) rfl hc3) (fun d h => by cases h; exact ltB rfl) ?_
      refine JL.skip (.no rfl (ltB rfl) rfl hc3) (fun d h => by cases h; exact ltB rfl) ?_
      refine JL.skip (.no rfl (ltB rfl) rfl hc3) (fun d h => by cases h; exact ltB rfl) ?_
      refine JL.skip (.no rfl (ltB rfl) rfl hc3) (fun d h => by cases h; exact ltB rfl) ?_
      refine JL.skip (.no rfl (ltB rfl) rfl hc3) (fun d h => by cases h; exact ltB rfl) ?_
      refine JL.cons rfl (op_pickF (ltB rfl) (.tmp rfl) hc3 .cB) ?_
      refine JL.cons rfl (op_move (ltB rfl) (.tmp rfl)) ?_
      refine JL.pre (Imp.sub (ρ' := [(0, .one (.val (S rB false))), (10, .one (.val (S rB false)))]) (.cons rfl (.cons rfl .nil))) ?_
      refine JL.at ⟨[(0, .one (.val (S rB false))), (10, .one (.val (S rB false)))], [], []⟩ ?_
      refine JL.skip (.no rfl (ltB rfl) rfl rfl) (fun d h => by cases h; exact ltB rfl) ?_
      refine JL.skip (.no rfl (ltB rfl) rfl rfl) (fun d h => by cases h; exact ltB rfl) ?_
      refine JL.skip (.no rfl (ltB rfl) rfl rfl) (fun d h => by cases h; exact ltB rfl) ?_
      refine JL.skip (.no rfl (ltB rfl) rfl rfl) (fun d h => by cases h; exact ltB rfl) ?_
      refine JL.skip (.no rfl (ltB rfl) rfl rfl) (fun d h => by cases h; exact ltB rfl) ?_
      refine JL.skip (.no rfl (ltB rfl) rfl rfl) (fun d h => by cases h; exact ltB rfl) ?_
      refine JL.skip (.no rfl (ltB rfl) rfl rfl) (fun d h => by cases h; exact ltB rfl) ?_
      refine JL.cons rfl (op_pickF (ltB rfl) (.tmp rfl) rfl .cB) ?_
      refine JL.cons rfl (op_move (ltB rfl) (.tmp rfl)) ?_
      refine JL.skip (.no rfl (ltB rfl) rfl rfl) (fun d h => by cases h; exact ltB rfl) ?_
      refine JL.skip (.no rfl (ltB rfl) rfl rfl) (fun d h => by cases h; exact ltB rfl) ?_
      refine JL.cons rfl (op_pickF (ltB rfl) (.tmp rfl) rfl .cB) ?_
      refine JL.cons rfl (op_move (ltB rfl) (.tmp rfl)) ?_
      refine JL.skip (.no rfl (ltB rfl) rfl rfl) (fun d h => by cases h; exact ltB rfl) ?_
      refine JL.skip (.no rfl (ltB rfl) rfl rfl) (fun d h => by cases h; exact ltB rfl) ?_
      refine JL.cons rfl (op_pickF (ltB rfl) (.tmp rfl) rfl .cB) ?_
      refine JL.cons rfl (op_assign (ltB rfl) (.tmp rfl)) ?_
      refine JL.pre (Imp.sub (ρ' := [(0, .one (.val (S rB false)))]) (.cons rfl .nil)) ?_
      refine JL.at ⟨[(0, .one (.val (S rB false)))], [], []⟩ ?_
      refine JL.nil ?_
      replace hx1 := Option.some.inj hx1
      first | subst hx1 | clear hx1
      exact JQ.join () (Imp.norm (js := []) rfl (.cons rfl .nil))

theorem sim_ref01_Join (k : Nat) (l_1 : (List (List UInt8))) (r : (List UInt8)) (hm : ref01_Join k l_1 = some r) : Sim Try.prog 10 [S (rL (rL (rU UInt8))) l_1] [] (γ := Option Nat × Nat) (fun q => [cown q.1 (rU UInt8) r 0 q.2]) (fun q => .one (.val (HDR q.1 0 (List.length r) q.2))) := by
  unfold ref01_Join at hm
  refine Sim.of Try.func10 rfl rfl (Nat.le_of_ble_eq_true rfl) (fun e0 w0 => ?_)
  refine JC.at ⟨[(0, .one (.val (S (rL (rL (rU UInt8))) l_1)))], [], []⟩ ?_
  refine JC.seq ?_
  refine JC.region ?_
  refine JL.cons rfl (op_assign (ltB rfl) HasO.nilH) ?_
  refine JL.nil ?_
  refine JQ.then ?_
  refine JC.seq ?_
  refine JC.region ?_
  refine JL.cons rfl (op_assign (ltB rfl) HasO.nilH) ?_
  refine JL.nil ?_
  refine JQ.then ?_
  replace hm := bnd_inv hm
  obtain ⟨o_12, hx1, hq1⟩ := hm
  refine JC.seqJ (γ := Option Nat × Nat) (stj := fun q => ⟨[(3, .one (.val (HDR q.1 0 (List.length o_12) q.2)))], [cown q.1 (rU UInt8) o_12 0 q.2], []⟩) (fun q => ?_) ?_
  · obtain ⟨go_13, gc_14⟩ := q
    refine JC.at ⟨[(3, .one (.val (HDR go_13 0 (List.length o_12) gc_14)))], [cown go_13 (rU UInt8) o_12 0 gc_14], []⟩ ?_
    refine JC.seq ?_
    refine JC.region ?_
    refine JL.cons rfl (op_move (ltB rfl) (.tmp rfl)) ?_
    refine JL.cons rfl (op_assign (ltB rfl) (.tmp rfl)) ?_
    refine JL.nil ?_
    refine JQ.then ?_
    refine JC.ret ?_
    replace hq1 := Option.some.inj hq1
    subst hq1
    exact JQ.done (js := [0]) (ss := [.val (HDR go_13 0 (List.length o_12) gc_14)]) (go_13, gc_14) (.inl rfl) (.nil rfl) rfl (.cons (.tmp rfl) .nil) rfl rfl rfl
  · refine JC.seq ?_
    refine JC.region ?_
    refine JL.cons rfl (op_assign (ltB rfl) .cI) ?_
    refine JL.nil ?_
    refine JQ.then ?_
    refine JC.block ?_
    refine JC.pre (Imp.nilown (rU UInt8)) ?_
    refine JC.pre ?_ (JC.loop (γ := Option Nat × Nat) (stf := fun s q => ⟨[(0, .one (.val (S (rL (rL (rU UInt8))) l_1))), (3, .one (.val (HDR q.1 0 (List.length s.1) q.2))), (4, .one (.val (S (rI .i64) s.2)))], [cown q.1 (rU UInt8) s.1 0 q.2], []⟩) (q := (none, 0)) hx1 ?_)
    · exact (Imp.norm (js := [0]) rfl (.cons rfl (.cons rfl (.cons rfl .nil))))
    · intro s q x hx hr
      obtain ⟨o_2, i_3⟩ := s
      obtain ⟨go_4, gc_5⟩ := q
      change ref01_Join.b1 k l_1 o_2 i_3 = some x at hx
      unfold ref01_Join.b1 at hx
      refine JC.at ⟨[(0, .one (.val (S (rL (rL (rU UInt8))) l_1))), (3, .one (.val (HDR go_4 0 (List.length o_2) gc_5))), (4, .one (.val (S (rI .i64) i_3)))], [cown go_4 (rU UInt8) o_2 0 gc_5], []⟩ ?_
      refine JC.seq ?_
      refine JC.seq ?_
      refine JC.region ?_
      refine JL.cons rfl (op_move (ltB rfl) (.tmp rfl)) ?_
      refine JL.cons rfl (op_move (ltB rfl) (.tmp rfl)) ?_
      refine JL.cons rfl (op_lenL (ltB rfl) tu22 (.tmp rfl)) ?_
      replace hx := lt1_inv hx
      obtain ⟨v_6, hv_v_6, hx⟩ := hx
      refine JL.cons rfl (op_cmpI (ltB rfl) (.tmp rfl) (.tmp rfl) (congrArg some hv_v_6)) ?_
      refine JL.nil ?_
      refine JQ.then ?_
      replace hx := iteB_inv hx
      rcases hx with ⟨hc3, hx⟩ | ⟨hc3, hx⟩
      · refine JC.condT (.tmp rfl) hc3 ?_
        refine JC.skip ?_
        refine JQ.then ?_
        refine JC.seq ?_
        refine JC.block ?_
        refine JC.region ?_
        refine JL.cons rfl (op_move (ltB rfl) (.tmp rfl)) ?_
        refine JL.cons rfl (op_move (ltB rfl) (.tmp rfl)) ?_
        refine JL.pre (Imp.sub (ρ' := [(0, .one (.val (S (rL (rL (rU UInt8))) l_1))), (3, .one (.val (HDR go_4 0 (List.length o_2) gc_5))), (4, .one (.val (S (rI .i64) i_3))), (11, .one (.val (HDR go_4 0 (List.length o_2) gc_5))), (12, .one (.val (S (rL (rL (rU UInt8))) l_1)))]) (.cons rfl (.cons rfl (.cons rfl (.cons rfl (.cons rfl .nil)))))) ?_
        refine JL.at ⟨[(0, .one (.val (S (rL (rL (rU UInt8))) l_1))), (3, .one (.val (HDR go_4 0 (List.length o_2) gc_5))), (4, .one (.val (S (rI .i64) i_3))), (11, .one (.val (HDR go_4 0 (List.length o_2) gc_5))), (12, .one (.val (S (rL (rL (rU UInt8))) l_1)))], [cown go_4 (rU UInt8) o_2 0 gc_5], []⟩ ?_
        refine JL.cons rfl (op_move (ltB rfl) (.tmp rfl)) ?_
        replace hx := bnd_inv hx
        obtain ⟨v_7, hv_v_7, hx⟩ := hx
        refine JL.cons rfl (op_indexAddrLg (ltB rfl) tu22 tz25 (.tmp rfl) (.tmp rfl) hv_v_7) ?_
        refine JL.cons rfl (op_loadPSg (ltB rfl) tS25 rfl (.tmp rfl) rfl) ?_
        replace hx := bnd_inv hx
        obtain ⟨o_8, hv_o_8, hx⟩ := hx
        refine JL.consX rfl (op_appendL (j := 0) (ltB rfl) tu25 tu25 rfl tB5 rfl (Nat.lt_of_lt_of_le Nat.zero_lt_one (Nat.le_of_ble_eq_true rfl)) (Nat.lt_of_lt_of_le Nat.zero_lt_one (Nat.le_of_ble_eq_true rfl))  rfl (.tmp rfl) (.tmp rfl) hv_o_8) (fun q => ?_)
        obtain ⟨go_9, gc_10⟩ := q
        refine JL.pre (Imp.sub (ρ' := [(0, .one (.val (S (rL (rL (rU UInt8))) l_1))), (4, .one (.val (S (rI .i64) i_3))), (16, .one (.val (HDR go_9 0 (List.length o_8) gc_10)))]) (.cons rfl (.cons rfl (.cons rfl .nil)))) ?_
        refine JL.at ⟨[(0, .one (.val (S (rL (rL (rU UInt8))) l_1))), (4, .one (.val (S (rI .i64) i_3))), (16, .one (.val (HDR go_9 0 (List.length o_8) gc_10)))], [cown go_9 (rU UInt8) o_8 0 gc_10], []⟩ ?_
        refine JL.cons rfl (op_assign (ltB rfl) (.tmp rfl)) ?_
        refine JL.nil ?_
        refine JQ.outNB ?_
        refine JQ.then ?_
        refine JC.region ?_
        refine JL.cons rfl (op_move (ltB rfl) (.tmp rfl)) ?_
        replace hx := lt1_inv hx
        obtain ⟨v_11, hv_v_11, hx⟩ := hx
        refine JL.cons rfl (op_arI (ltB rfl) (.tmp rfl) .cI (congrArg some hv_v_11)) ?_
        refine JL.cons rfl (op_assign (ltB rfl) (.tmp rfl)) ?_
        refine JL.nil ?_
        replace hx := Option.some.inj hx
        first | subst hx | clear hx
        exact JQ.next (go_9, gc_10) rfl (Imp.norm (js := [0]) rfl (.cons rfl (.cons rfl (.cons rfl .nil))))
      · refine JC.condF (.tmp rfl) hc3 ?_
        refine JC.exit ?_
        refine JQ.outX ?_
        replace hx := Option.some.inj hx
        first | subst hx | clear hx
        have ht := hr _ rfl
        have hq2 := congrArg some ht
        clear hr ht
        refine JQ.outX ?_
        refine JQ.here ?_
        replace hq2 := Option.some.inj hq2
        first | subst hq2 | clear hq2
        exact JQ.join (go_4, gc_5) (Imp.norm (js := [0]) rfl (.cons rfl .nil))

end Go.Proofs.Ytdncoiehmkcajaa
