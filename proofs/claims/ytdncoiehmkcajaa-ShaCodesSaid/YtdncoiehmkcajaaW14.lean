/- Walks. -/
import Derived.Test.YtdncoiehmkcajaaT
import Derived.Test.YtdncoiehmkcajaaW0
import Derived.Test.YtdncoiehmkcajaaW13
import Derived.Test.YtdncoiehmkcajaaW6
import Derived.Test.YtdncoiehmkcajaaW7
namespace Go.Proofs.Ytdncoiehmkcajaa
open Go Fw
set_option linter.unusedVariables false
set_option maxRecDepth 100000
set_option maxHeartbeats 4000000

theorem sim_law03_ShaCodes (k : Nat) (secret_1 : (List UInt8)) (l_2 : (List (List UInt8))) (r : Bool) (hm : law03_ShaCodes k secret_1 l_2 = some r) : Sim Try.prog 4 [S (rL (rU UInt8)) secret_1, S (rL (rL (rU UInt8))) l_2] [] (γ := Unit) (fun q => []) (fun q => .one (.val (S rB r))) := by
  unfold law03_ShaCodes at hm
  refine Sim.of Try.func4 rfl rfl (Nat.le_of_ble_eq_true rfl) (fun e0 w0 => ?_)
  refine JC.at ⟨[(0, .one (.val (S (rL (rU UInt8)) secret_1))), (1, .one (.val (S (rL (rL (rU UInt8))) l_2)))], [], []⟩ ?_
  refine JC.seq ?_
  refine JC.region ?_
  refine JL.cons rfl (op_assign (ltB rfl) .cB) ?_
  refine JL.nil ?_
  refine JQ.then ?_
  refine JC.seq ?_
  replace hm := bnd_inv hm
  obtain ⟨x_6, hx1, hq1⟩ := hm
  refine JC.seqJ (γ := Unit) (stj := fun q => ⟨[(0, .one (.val (S (rL (rU UInt8)) secret_1))), (1, .one (.val (S (rL (rL (rU UInt8))) l_2))), (13, .one (.val (S rB x_6)))], [], []⟩) (fun q => ?_) ?_
  · obtain _ := q
    refine JC.at ⟨[(0, .one (.val (S (rL (rU UInt8)) secret_1))), (1, .one (.val (S (rL (rL (rU UInt8))) l_2))), (13, .one (.val (S rB x_6)))], [], []⟩ ?_
    replace hq1 := iteB_inv hq1
    rcases hq1 with ⟨hc5, hq1⟩ | ⟨hc5, hq1⟩
    · refine JC.condT (.tmp rfl) hc5 ?_
      refine JC.seq ?_
      refine JC.region ?_
      replace hq1 := bnd_inv hq1
      obtain ⟨v_7, hv_v_7, hq1⟩ := hq1
      refine JL.consX rfl (op_call (js := []) (ltD rfl) cl9 (sim_law03_known k v_7 hv_v_7) .func .nil rfl) (fun _ => ?_)
      refine JL.cons rfl (op_assign (ltB rfl) (.tmp rfl)) ?_
      refine JL.nil ?_
      refine JQ.then ?_
      refine JC.ret ?_
      refine JQ.outR ?_
      replace hq1 := Option.some.inj hq1
      subst hq1
      exact JQ.done (js := []) (ss := [.val (S rB v_7)]) () (.inl rfl) (.nil rfl) rfl (.cons (.tmp rfl) .nil) rfl rfl rfl
    · refine JC.condF (.tmp rfl) hc5 ?_
      refine JC.skip ?_
      refine JQ.then ?_
      refine JC.seq ?_
      refine JC.region ?_
      refine JL.cons rfl (op_move (ltB rfl) (.tmp rfl)) ?_
      refine JL.cons rfl (op_convBS (ltB rfl) tu25 tu5 tu9 (.tmp rfl)) ?_
      refine JL.cons rfl (op_assign (ltB rfl) (.tmp rfl)) ?_
      refine JL.nil ?_
      refine JQ.then ?_
      refine JC.seq ?_
      refine JC.region ?_
      refine JL.cons rfl (op_move (ltB rfl) (.tmp rfl)) ?_
      replace hq1 := bnd_inv hq1
      obtain ⟨v_8, hv_v_8, hq1⟩ := hq1
      refine JL.consX rfl (op_call (js := []) (ltD rfl) cl10 (sim_ref01_Join k l_2 v_8 hv_v_8) .func (.cons (.tmp rfl) .nil) rfl) (fun q => ?_)
      obtain ⟨go_9, gc_10⟩ := q
      refine JL.pre (Imp.sub (ρ' := [(0, .one (.val (S (rL (rU UInt8)) secret_1))), (1, .one (.val (S (rL (rL (rU UInt8))) l_2))), (5, .one (.val (S rS secret_1))), (18, .one (.val (HDR go_9 0 (List.length v_8) gc_10)))]) (.cons rfl (.cons rfl (.cons rfl (.cons rfl .nil))))) ?_
      refine JL.at ⟨[(0, .one (.val (S (rL (rU UInt8)) secret_1))), (1, .one (.val (S (rL (rL (rU UInt8))) l_2))), (5, .one (.val (S rS secret_1))), (18, .one (.val (HDR go_9 0 (List.length v_8) gc_10)))], [cown go_9 (rU UInt8) v_8 0 gc_10], []⟩ ?_
      refine JL.cons rfl (op_assign (ltB rfl) (.tmp rfl)) ?_
      refine JL.nil ?_
      refine JQ.then ?_
      replace hq1 := bnd_inv hq1
      obtain ⟨x_21, hx6, hq6⟩ := hq1
      refine JC.seqJ (γ := Unit) (stj := fun q => ⟨[(4, .one (.val (S rB x_21)))], [], []⟩) (fun q => ?_) ?_
      · obtain _ := q
        refine JC.at ⟨[(4, .one (.val (S rB x_21)))], [], []⟩ ?_
        refine JC.ret ?_
        replace hq6 := Option.some.inj hq6
        subst hq6
        exact JQ.done (js := []) (ss := [.val (S rB x_21)]) () (.inl rfl) (.nil rfl) rfl (.cons (.tmp rfl) .nil) rfl rfl rfl
      · refine JC.region ?_
        refine JL.cons rfl (op_move (ltB rfl) (.tmp rfl)) ?_
        refine JL.cons rfl (op_move (ltB rfl) (.tmp rfl)) ?_
        replace hx6 := bnd_inv hx6
        obtain ⟨v_11, hv_v_11, hx6⟩ := hx6
        refine JL.consX rfl (op_call (js := []) (ltD rfl) cl13 (sim_sha_Code k secret_1 l_2 v_11 hv_v_11) .func (.cons (.tmp rfl) (.cons (.tmp rfl) .nil)) rfl) (fun _ => ?_)
        refine JL.cons rfl (op_move (ltB rfl) (.tmp rfl)) ?_
        refine JL.cons rfl (op_move (ltB rfl) (.tmp rfl)) ?_
        refine JL.pre (Imp.sub (ρ' := [(0, .one (.val (S (rL (rU UInt8)) secret_1))), (5, .one (.val (S rS secret_1))), (6, .one (.val (HDR go_9 0 (List.length v_8) gc_10))), (21, .one (.val (A (rV 32 (rU UInt8)) v_11))), (22, .one (.val (S (rL (rU UInt8)) secret_1))), (23, .one (.val (HDR go_9 0 (List.length v_8) gc_10)))]) (.cons rfl (.cons rfl (.cons rfl (.cons rfl (.cons rfl (.cons rfl .nil))))))) ?_
        refine JL.at ⟨[(0, .one (.val (S (rL (rU UInt8)) secret_1))), (5, .one (.val (S rS secret_1))), (6, .one (.val (HDR go_9 0 (List.length v_8) gc_10))), (21, .one (.val (A (rV 32 (rU UInt8)) v_11))), (22, .one (.val (S (rL (rU UInt8)) secret_1))), (23, .one (.val (HDR go_9 0 (List.length v_8) gc_10)))], [cown go_9 (rU UInt8) v_8 0 gc_10], []⟩ ?_
        replace hx6 := bnd_inv hx6
        obtain ⟨v_12, hv_v_12, hx6⟩ := hx6
        refine JL.pre (Imp.frz (j := 0) rfl (ImpK.slotH (s := 6) rfl (ImpK.slotH (s := 23) rfl ImpK.refl))) ?_
        refine JL.consX rfl (op_call (js := []) (ltD rfl) cl14 (sim_ref03_Code k secret_1 v_8 v_12 hv_v_12) .func (.cons (.tmp rfl) (.cons (HasO.wk (.tmp rfl) wkHL) .nil)) rfl) (fun _ => ?_)
        refine JL.pre (Imp.sub (ρ' := [(0, .one (.val (S (rL (rU UInt8)) secret_1))), (5, .one (.val (S rS secret_1))), (6, .one (.val (HL go_9 (rU UInt8) v_8 gc_10))), (21, .one (.val (A (rV 32 (rU UInt8)) v_11))), (24, .one (.val (A (rV 32 (rU UInt8)) v_12)))]) (.cons rfl (.cons rfl (.cons rfl (.cons rfl (.cons rfl .nil)))))) ?_
        refine JL.at ⟨[(0, .one (.val (S (rL (rU UInt8)) secret_1))), (5, .one (.val (S rS secret_1))), (6, .one (.val (HL go_9 (rU UInt8) v_8 gc_10))), (21, .one (.val (A (rV 32 (rU UInt8)) v_11))), (24, .one (.val (A (rV 32 (rU UInt8)) v_12)))], [cown go_9 (rU UInt8) v_8 (List.length v_8) gc_10], []⟩ ?_
        replace hx6 := lt1_inv hx6
        obtain ⟨v_13, hv_v_13, hx6⟩ := hx6
        refine JL.cons rfl (op_eqA (ltB rfl) qa28 (by decide) ng28 (.tmp rfl) (.tmp rfl) hv_v_13) ?_
        refine JL.cons rfl (op_move (ltB rfl) (.tmp rfl)) ?_
        refine JL.cnd (sv := .one (.val (S (rL (rU UInt8)) secret_1))) (Guard.isT (ltB rfl) rfl rfl) rfl (ltB rfl) (fun hq_7 => op_move (ltB rfl) (.tmp rfl)) ?_
        replace hx6 := iteB_inv hx6
        rcases hx6 with ⟨hc9, hx6⟩ | ⟨hc9, hx6⟩
        · refine JL.run (.yes rfl (ltB rfl) rfl hc9) (op_move (ltB rfl) (.tmp rfl)) ?_
          refine JL.run (.yes rfl (ltB rfl) rfl hc9) (op_buildF (r := (rL (rU UInt8))) (ltB rfl) tu22 tz25 tZ25 rfl (Nat.le_of_ble_eq_true rfl) (.S rfl (HasO.wk (.tmp rfl) wkHL) .nil) rfl) ?_
          replace hx6 := bnd_inv hx6
          obtain ⟨v_14, hv_v_14, hx6⟩ := hx6
          refine JL.runX (.yes rfl (ltB rfl) rfl hc9) (op_call (js := []) (ltD rfl) cl13 (sim_sha_Code k secret_1 ([v_8] : (List (List UInt8))) v_14 hv_v_14) .func (.cons (HasO.cnd (.tmp rfl) hc9) (.cons (.tmp rfl) .nil)) rfl) (fun _ => ?_)
          refine JL.pre (Imp.sub (ρ' := [(0, .one (.val (S (rL (rU UInt8)) secret_1))), (5, .one (.val (S rS secret_1))), (6, .one (.val (HL go_9 (rU UInt8) v_8 gc_10))), (26, .one (.val (S rB v_13))), (30, .one (.val (A (rV 32 (rU UInt8)) v_14)))]) (.cons rfl (.cons rfl (.cons rfl (.cons rfl (.cons rfl .nil)))))) ?_
          refine JL.at ⟨[(0, .one (.val (S (rL (rU UInt8)) secret_1))), (5, .one (.val (S rS secret_1))), (6, .one (.val (HL go_9 (rU UInt8) v_8 gc_10))), (26, .one (.val (S rB v_13))), (30, .one (.val (A (rV 32 (rU UInt8)) v_14)))], [cown go_9 (rU UInt8) v_8 (List.length v_8) gc_10], []⟩ ?_
          refine JL.run (.yes rfl (ltB rfl) rfl hc9) (op_move (ltB rfl) (.tmp rfl)) ?_
          refine JL.run (.yes rfl (ltB rfl) rfl hc9) (op_move (ltB rfl) (.tmp rfl)) ?_
          replace hx6 := bnd_inv hx6
          obtain ⟨v_15, hv_v_15, hx6⟩ := hx6
          refine JL.runX (.yes rfl (ltB rfl) rfl hc9) (op_call (js := []) (ltD rfl) cl14 (sim_ref03_Code k secret_1 v_8 v_15 hv_v_15) .func (.cons (.tmp rfl) (.cons (HasO.wk (.tmp rfl) wkHL) .nil)) rfl) (fun _ => ?_)
          replace hx6 := lt1_inv hx6
          obtain ⟨v_16, hv_v_16, hx6⟩ := hx6
          refine JL.run (.yes rfl (ltB rfl) rfl hc9) (op_eqA (ltB rfl) qa28 (by decide) ng28 (.tmp rfl) (.tmp rfl) hv_v_16) ?_
          refine JL.cons rfl (op_pickT (ltB rfl) (.tmp rfl) hc9 (.tmp rfl)) ?_
          refine JL.cons rfl (op_move (ltB rfl) (.tmp rfl)) ?_
          refine JL.pre (Imp.norm (ρ' := [(0, .one (.val (S (rL (rU UInt8)) secret_1))), (5, .one (.val (S rS secret_1))), (36, .one (.val (S rB v_16)))]) (js := []) rfl (.cons rfl (.cons rfl (.cons rfl .nil)))) ?_
          refine JL.at ⟨[(0, .one (.val (S (rL (rU UInt8)) secret_1))), (5, .one (.val (S rS secret_1))), (36, .one (.val (S rB v_16)))], [], []⟩ ?_
          refine JL.cnd (sv := .one (.val (S (rL (rU UInt8)) secret_1))) (Guard.isT (ltB rfl) rfl rfl) rfl (ltB rfl) (fun hq_10 => op_move (ltB rfl) (.tmp rfl)) ?_
          refine JL.cnd (sv := .one (.val (S rS secret_1))) (Guard.isT (ltB rfl) rfl rfl) rfl (ltB rfl) (fun hq_11 => op_convBS (ltB rfl) tu25 tu5 tu9 (HasO.cnd (.tmp rfl) hq_11)) ?_
          refine JL.cnd (sv := .one (.val (S rS secret_1))) (Guard.isT (ltB rfl) rfl rfl) rfl (ltB rfl) (fun hq_12 => op_move (ltB rfl) (.tmp rfl)) ?_
          replace hx6 := lt1_inv hx6
          obtain ⟨v_17, hv_v_17, hx6⟩ := hx6
          refine JL.cnd (sv := .one (.val (S rB v_17))) (Guard.isT (ltB rfl) rfl rfl) rfl (ltB rfl) (fun hq_13 => op_cmpS (ltB rfl) (HasO.cnd (.tmp rfl) hq_13) (HasO.cnd (.tmp rfl) hq_13) (congrArg some hv_v_17)) ?_
          replace hx6 := lt1_inv hx6
          obtain ⟨v_18, hv_v_18, hx6⟩ := hx6
          refine JL.cons rfl (op_pickCS (ltB rfl) (.tmp rfl) (fun hb14 => (HasO.cnd (.tmp rfl) hb14)) (fun hb14 => .cB) hv_v_18) ?_
          refine JL.cons rfl (op_move (ltB rfl) (.tmp rfl)) ?_
          refine JL.pre (Imp.sub (ρ' := [(42, .one (.val (S rB v_18)))]) (.cons rfl .nil)) ?_
          refine JL.at ⟨[(42, .one (.val (S rB v_18)))], [], []⟩ ?_
          replace hx6 := bnd_inv hx6
          obtain ⟨v_19, hv_v_19, hx6⟩ := hx6
          refine JL.cnd (sv := .one (.val (S rB v_19))) (Guard.isT (ltB rfl) rfl rfl) rfl (ltB rfl) (fun hq_15 => (op_call (js := []) (ltD rfl) cl9 (sim_law03_known k v_19 (ifT hv_v_19 hq_15)) .func .nil rfl).post (fun _ => Imp.refl)) ?_
          replace hx6 := lt1_inv hx6
          obtain ⟨v_20, hv_v_20, hx6⟩ := hx6
          refine JL.cons rfl (op_pickCS (ltB rfl) (.tmp rfl) (fun hb16 => (HasO.cnd (.tmp rfl) hb16)) (fun hb16 => .cB) hv_v_20) ?_
          refine JL.cons rfl (op_assign (ltB rfl) (.tmp rfl)) ?_
          refine JL.nil ?_
          replace hx6 := Option.some.inj hx6
          first | subst hx6 | clear hx6
          exact JQ.join () (Imp.norm (js := []) rfl (.cons rfl .nil))
        · refine JL.skip (.no rfl (ltB rfl) rfl hc9) (fun d h => by cases h; exact ltB rfl) ?_
          refine JL.skip (.no rfl (ltB rfl) rfl hc9) (fun d h => by cases h; exact ltB rfl) ?_
          refine JL.skip (.no rfl (ltB rfl) rfl hc9) (fun d h => by cases h; exact ltB rfl) ?_
          refine JL.skip (.no rfl (ltB rfl) rfl hc9) (fun d h => by cases h; exact ltB rfl) ?_
          refine JL.skip (.no rfl (ltB rfl) rfl hc9) (fun d h => by cases h; exact ltB rfl) ?_
          refine JL.skip (.no rfl (ltB rfl) rfl hc9) (fun d h => by cases h; exact ltB rfl) ?_
          refine JL.skip (.no rfl (ltB rfl) rfl hc9) (fun d h => by cases h; exact ltB rfl) ?_
          refine JL.cons rfl (op_pickF (ltB rfl) (.tmp rfl) hc9 .cB) ?_
          refine JL.cons rfl (op_move (ltB rfl) (.tmp rfl)) ?_
          refine JL.skip (.no rfl (ltB rfl) rfl rfl) (fun d h => by cases h; exact ltB rfl) ?_
          refine JL.skip (.no rfl (ltB rfl) rfl rfl) (fun d h => by cases h; exact ltB rfl) ?_
          refine JL.skip (.no rfl (ltB rfl) rfl rfl) (fun d h => by cases h; exact ltB rfl) ?_
          refine JL.skip (.no rfl (ltB rfl) rfl rfl) (fun d h => by cases h; exact ltB rfl) ?_
          refine JL.cons rfl (op_pickF (ltB rfl) (.tmp rfl) rfl .cB) ?_
          refine JL.pre (Imp.norm (ρ' := [(41, .one (.val (S rB false)))]) (js := []) rfl (.cons rfl .nil)) ?_
          refine JL.at ⟨[(41, .one (.val (S rB false)))], [], []⟩ ?_
          refine JL.cons rfl (op_move (ltB rfl) (.tmp rfl)) ?_
          refine JL.skip (.no rfl (ltB rfl) rfl rfl) (fun d h => by cases h; exact ltB rfl) ?_
          refine JL.cons rfl (op_pickF (ltB rfl) (.tmp rfl) rfl .cB) ?_
          refine JL.cons rfl (op_assign (ltB rfl) (.tmp rfl)) ?_
          refine JL.nil ?_
          replace hx6 := Option.some.inj hx6
          first | subst hx6 | clear hx6
          exact JQ.join () (Imp.norm (js := []) rfl (.cons rfl .nil))
  · refine JC.region ?_
    refine JL.cons rfl (op_move (ltB rfl) (.tmp rfl)) ?_
    refine JL.cons rfl (op_lenL (ltB rfl) tu25 (.tmp rfl)) ?_
    replace hx1 := lt1_inv hx1
    obtain ⟨v_3, hv_v_3, hx1⟩ := hx1
    refine JL.cons rfl (op_cmpI (ltB rfl) (.tmp rfl) .cI (congrArg some hv_v_3)) ?_
    refine JL.cons rfl (op_move (ltB rfl) (.tmp rfl)) ?_
    refine JL.cnd (sv := .one (.val (S (rL (rL (rU UInt8))) l_2))) (Guard.isF (ltB rfl) rfl rfl) rfl (ltB rfl) (fun hq_2 => op_move (ltB rfl) (.tmp rfl)) ?_
    refine JL.pre (Imp.sub (ρ' := [(0, .one (.val (S (rL (rU UInt8)) secret_1))), (1, .one (.val (S (rL (rL (rU UInt8))) l_2))), (10, .one (.val (S rB v_3))), (11, bif (!v_3) then .one (.val (S (rL (rL (rU UInt8))) l_2)) else .one .und)]) (.cons rfl (.cons rfl (.cons rfl (.cons rfl .nil))))) ?_
    refine JL.at ⟨[(0, .one (.val (S (rL (rU UInt8)) secret_1))), (1, .one (.val (S (rL (rL (rU UInt8))) l_2))), (10, .one (.val (S rB v_3))), (11, bif (!v_3) then .one (.val (S (rL (rL (rU UInt8))) l_2)) else .one .und)], [], []⟩ ?_
    replace hx1 := bnd_inv hx1
    obtain ⟨v_4, hv_v_4, hx1⟩ := hx1
    refine JL.cnd (sv := .one (.val (S rB v_4))) (Guard.isF (ltB rfl) rfl rfl) rfl (ltB rfl) (fun hq_3 => (op_call (js := []) (ltD rfl) cl8 (sim_ref01_Much k l_2 (3000 : Int) v_4 (ifT hv_v_4 hq_3)) .func (.cons (HasO.cnd (.tmp rfl) (notT (notF hq_3))) (.cons .cI .nil)) rfl).post (fun _ => Imp.refl)) ?_
    replace hx1 := lt1_inv hx1
    obtain ⟨v_5, hv_v_5, hx1⟩ := hx1
    refine JL.cons rfl (op_pickCS (ltB rfl) (.tmp rfl) (fun hb4 => .cB) (fun hb4 => (HasO.cnd (.tmp rfl) (notT hb4))) hv_v_5) ?_
    refine JL.nil ?_
    replace hx1 := Option.some.inj hx1
    first | subst hx1 | clear hx1
    exact JQ.join () (Imp.norm (js := []) rfl (.cons rfl (.cons rfl (.cons rfl .nil))))

end Go.Proofs.Ytdncoiehmkcajaa
