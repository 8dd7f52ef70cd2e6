/- Walks. -/
import Derived.Test.YthoggbomakolkaaT
import Derived.Test.YthoggbomakolkaaW1
import Derived.Test.YthoggbomakolkaaW2
namespace Go.Proofs.Ythoggbomakolkaa
open Go Fw
set_option linter.unusedVariables false
set_option maxRecDepth 100000
set_option maxHeartbeats 4000000

theorem sim_ref09_Much (k : Nat) (e_1 : api_Event) (r : Bool) (hm : ref09_Much k e_1 = some r) : Sim Try.prog 14 [A r_api_Event e_1] [] (γ := Unit) (fun q => []) (fun q => .one (.val (S rB r))) := by
  unfold ref09_Much at hm
  refine Sim.of Try.func14 rfl rfl (Nat.le_of_ble_eq_true rfl) (fun e0 w0 => ?_)
  refine JC.at ⟨[(0, .one (.val (A r_api_Event e_1)))], [], []⟩ ?_
  refine JC.seq ?_
  refine JC.region ?_
  refine JL.consX rfl (op_boxA (ltB rfl) (.tmp rfl)) (fun q => ?_)
  obtain ⟨gb_2, hqq⟩ : ∃ z, z = q := ⟨_, rfl⟩
  subst hqq
  refine JL.pre (Imp.sub (ρ' := [(1, .one (.val (PTR gb_2 0)))]) (.cons rfl .nil)) ?_
  refine JL.at ⟨[(1, .one (.val (PTR gb_2 0)))], [cvar gb_2 r_api_Event e_1], []⟩ ?_
  refine JL.cons rfl (op_assign (ltB rfl) .cB) ?_
  refine JL.nil ?_
  refine JQ.then ?_
  refine JC.seq ?_
  obtain ⟨x_6, hx1, hq1⟩ := bnd_inv hm
  refine JC.seqJ (γ := Unit) (stj := fun q => ⟨[(1, .one (.val (PTR gb_2 0))), (20, .one (.val (S rB x_6)))], [cvar gb_2 r_api_Event e_1], []⟩) (fun q => ?_) ?_
  · obtain _ := q
    refine JC.at ⟨[(1, .one (.val (PTR gb_2 0))), (20, .one (.val (S rB x_6)))], [cvar gb_2 r_api_Event e_1], []⟩ ?_
    rcases iteB_inv hq1 with ⟨hc6, hq1⟩ | ⟨hc6, hq1⟩
    · refine JC.condT (.tmp rfl) hc6 ?_
      refine JC.seq ?_
      refine JC.region ?_
      refine JL.cons rfl (op_assign (ltB rfl) .cB) ?_
      refine JL.nil ?_
      refine JQ.then ?_
      refine JC.ret ?_
      refine JQ.outR ?_
      replace hq1 := Option.some.inj hq1
      subst hq1
      exact JQ.done (js := []) (ss := [.val (S rB true)]) () (.inl rfl) (.nil rfl) rfl (.cons (.tmp rfl) .nil) rfl rfl rfl
    · refine JC.condF (.tmp rfl) hc6 ?_
      refine JC.skip ?_
      refine JQ.then ?_
      refine JC.seq ?_
      refine JC.region ?_
      refine JL.cons rfl (op_assign (ltB rfl) .cI) ?_
      refine JL.nil ?_
      refine JQ.then ?_
      obtain ⟨tv7, hx7, hq7⟩ := bnd_inv hq1
      refine JC.seqK (α := Unit) (γ := Unit) (stj := fun v q => ⟨[], [], []⟩) (p := fun v => tv7 = (.inl v)) (fun v q hv => ?_) ?_
      · subst hv
        skip
        obtain _ := q
        dsimp only at hq7
        refine JC.at ⟨[], [], []⟩ ?_
        refine JC.seq ?_
        refine JC.region ?_
        refine JL.cons rfl (op_assign (ltB rfl) .cB) ?_
        refine JL.nil ?_
        refine JQ.then ?_
        refine JC.ret ?_
        replace hq7 := Option.some.inj hq7
        subst hq7
        exact JQ.done (js := []) (ss := [.val (S rB false)]) () (.inl rfl) (.nil rfl) rfl (.cons (.tmp rfl) .nil) rfl rfl rfl
      · refine JC.seq ?_
        refine JC.region ?_
        refine JL.cons rfl (op_assign (ltB rfl) .cI) ?_
        refine JL.nil ?_
        refine JQ.then ?_
        refine JC.block ?_
        obtain ⟨tv8, hL8, hq8⟩ := bnd_inv hx7
        refine JC.pre ?_ (JC.loop (γ := Unit) (stf := fun s q => ⟨[(1, .one (.val (PTR gb_2 0))), (3, .one (.val (S (rI .i64) s.1))), (4, .one (.val (S (rI .i64) s.2)))], [cvar gb_2 r_api_Event e_1], []⟩) (q := ()) hL8 ?_)
        · exact (Imp.norm (js := [0]) rfl (.cons rfl (.cons rfl (.cons rfl .nil))))
        · intro s q x hx hr
          obtain ⟨n_7, i_8⟩ := s
          obtain _ := q
          change ref09_Much.b1 k e_1 n_7 i_8 = some x at hx
          unfold ref09_Much.b1 at hx
          refine JC.at ⟨[(1, .one (.val (PTR gb_2 0))), (3, .one (.val (S (rI .i64) n_7))), (4, .one (.val (S (rI .i64) i_8)))], [cvar gb_2 r_api_Event e_1], []⟩ ?_
          refine JC.seq ?_
          refine JC.seq ?_
          refine JC.region ?_
          refine JL.cons rfl (op_move (ltB rfl) (.tmp rfl)) ?_
          refine JL.cons rfl (op_fieldAddr (off := 20) (ltB rfl) tf38_4 (.tmp rfl)) ?_
          refine JL.cons rfl (op_loadS (j := 0) (ltB rfl) tS36 (.tmp rfl) rfl (Comp.trans (Comp.self r_api_Event e_1) (comp_api_Event_To e_1) (by decide)) rfl rfl) ?_
          refine JL.cons rfl (op_lenL (ltB rfl) tu36 (.tmp rfl)) ?_
          replace hx := lt1_inv hx
          obtain ⟨v_9, hv_v_9, hx⟩ := hx
          refine JL.cons rfl (op_cmpI (ltB rfl) (.tmp rfl) (.tmp rfl) (congrArg some hv_v_9)) ?_
          refine JL.nil ?_
          refine JQ.then ?_
          rcases iteB_inv hx with ⟨hc9, hx⟩ | ⟨hc9, hx⟩
          · refine JC.condT (.tmp rfl) hc9 ?_
            refine JC.skip ?_
            refine JQ.then ?_
            refine JC.seq ?_
            refine JC.block ?_
            refine JC.seq ?_
            refine JC.region ?_
            refine JL.cons rfl (op_move (ltB rfl) (.tmp rfl)) ?_
            refine JL.pre (Imp.sub (ρ' := [(1, .one (.val (PTR gb_2 0))), (3, .one (.val (S (rI .i64) n_7))), (4, .one (.val (S (rI .i64) i_8))), (28, .one (.val (S (rI .i64) n_7)))]) (.cons rfl (.cons rfl (.cons rfl (.cons rfl .nil))))) ?_
            refine JL.at ⟨[(1, .one (.val (PTR gb_2 0))), (3, .one (.val (S (rI .i64) n_7))), (4, .one (.val (S (rI .i64) i_8))), (28, .one (.val (S (rI .i64) n_7)))], [cvar gb_2 r_api_Event e_1], []⟩ ?_
            refine JL.cons rfl (op_fieldAddr (off := 20) (ltB rfl) tf38_4 (.tmp rfl)) ?_
            refine JL.cons rfl (op_loadS (j := 0) (ltB rfl) tS36 (.tmp rfl) rfl (Comp.trans (Comp.self r_api_Event e_1) (comp_api_Event_To e_1) (by decide)) rfl rfl) ?_
            refine JL.cons rfl (op_move (ltB rfl) (.tmp rfl)) ?_
            replace hx := bnd_inv hx
            obtain ⟨v_10, hv_v_10, hx⟩ := hx
            refine JL.cons rfl (op_indexAddrLg (ltB rfl) tu36 tz59 (.tmp rfl) (.tmp rfl) hv_v_10) ?_
            refine JL.cons rfl (op_fieldAddrP (ltB rfl) tf59_1 (.tmp rfl) (comp_api_Dest_Device v_10)) ?_
            refine JL.cons rfl (op_loadPSg (ltB rfl) tS9 rfl (.tmp rfl) rfl) ?_
            refine JL.pre (Imp.sub (ρ' := [(1, .one (.val (PTR gb_2 0))), (3, .one (.val (S (rI .i64) n_7))), (4, .one (.val (S (rI .i64) i_8))), (28, .one (.val (S (rI .i64) n_7))), (34, .one (.val (S rS v_10.Device)))]) (.cons rfl (.cons rfl (.cons rfl (.cons rfl (.cons rfl .nil)))))) ?_
            refine JL.at ⟨[(1, .one (.val (PTR gb_2 0))), (3, .one (.val (S (rI .i64) n_7))), (4, .one (.val (S (rI .i64) i_8))), (28, .one (.val (S (rI .i64) n_7))), (34, .one (.val (S rS v_10.Device)))], [cvar gb_2 r_api_Event e_1], []⟩ ?_
            refine JL.cons rfl (op_lenS (ltB rfl) tu9 (.tmp rfl)) ?_
            replace hx := lt1_inv hx
            obtain ⟨v_11, hv_v_11, hx⟩ := hx
            refine JL.cons rfl (op_minI (ltB rfl) (.tmp rfl) .cI hv_v_11) ?_
            replace hx := lt1_inv hx
            obtain ⟨v_12, hv_v_12, hx⟩ := hx
            refine JL.cons rfl (op_arI (ltB rfl) (.tmp rfl) (.tmp rfl) (congrArg some hv_v_12)) ?_
            refine JL.cons rfl (op_assign (ltB rfl) (.tmp rfl)) ?_
            refine JL.nil ?_
            refine JQ.then ?_
            refine JC.seq ?_
            refine JC.region ?_
            refine JL.cons rfl (op_move (ltB rfl) (.tmp rfl)) ?_
            replace hx := lt1_inv hx
            obtain ⟨v_13, hv_v_13, hx⟩ := hx
            refine JL.cons rfl (op_cmpI (ltB rfl) (.tmp rfl) .cI (congrArg some hv_v_13)) ?_
            refine JL.pre (Imp.sub (ρ' := [(1, .one (.val (PTR gb_2 0))), (3, .one (.val (S (rI .i64) v_12))), (4, .one (.val (S (rI .i64) i_8))), (39, .one (.val (S rB v_13)))]) (.cons rfl (.cons rfl (.cons rfl (.cons rfl .nil))))) ?_
            refine JL.at ⟨[(1, .one (.val (PTR gb_2 0))), (3, .one (.val (S (rI .i64) v_12))), (4, .one (.val (S (rI .i64) i_8))), (39, .one (.val (S rB v_13)))], [cvar gb_2 r_api_Event e_1], []⟩ ?_
            refine JL.nil ?_
            refine JQ.then ?_
            rcases iteB_inv hx with ⟨hc10, hx⟩ | ⟨hc10, hx⟩
            · refine JC.condT (.tmp rfl) hc10 ?_
              refine JC.seq ?_
              refine JC.region ?_
              refine JL.cons rfl (op_assign (ltB rfl) .cB) ?_
              refine JL.nil ?_
              refine JQ.then ?_
              refine JC.ret ?_
              refine JQ.outRB ?_
              refine JQ.outR ?_
              replace hx := Option.some.inj hx
              subst hx
              have ht := hr _ rfl
              clear hr
              subst ht
              dsimp only at hq8
              refine JQ.outR ?_
              refine JQ.outRB ?_
              replace hq8 := Option.some.inj hq8
              subst hq8
              dsimp only at hq7
              refine JQ.outR ?_
              replace hq7 := Option.some.inj hq7
              subst hq7
              exact JQ.done (js := []) (ss := [.val (S rB true)]) () (.inl rfl) (.nil rfl) rfl (.cons (.tmp rfl) .nil) rfl rfl rfl
            · refine JC.condF (.tmp rfl) hc10 ?_
              refine JC.skip ?_
              refine JQ.outNB ?_
              refine JQ.then ?_
              refine JC.region ?_
              refine JL.cons rfl (op_move (ltB rfl) (.tmp rfl)) ?_
              replace hx := lt1_inv hx
              obtain ⟨v_14, hv_v_14, hx⟩ := hx
              refine JL.cons rfl (op_arI (ltB rfl) (.tmp rfl) .cI (congrArg some hv_v_14)) ?_
              refine JL.cons rfl (op_assign (ltB rfl) (.tmp rfl)) ?_
              refine JL.nil ?_
              replace hx := Option.some.inj hx
              subst hx
              exact JQ.next () rfl (Imp.norm (js := [0]) rfl (.cons rfl (.cons rfl (.cons rfl .nil))))
          · refine JC.condF (.tmp rfl) hc9 ?_
            refine JC.exit ?_
            refine JQ.outX ?_
            replace hx := Option.some.inj hx
            subst hx
            have ht := hr _ rfl
            clear hr
            subst ht
            dsimp only at hq8
            refine JQ.outX ?_
            refine JQ.here ?_
            replace hq8 := Option.some.inj hq8
            subst hq8
            exact JQ.joinK () () rfl (Imp.norm (js := []) rfl .nil)
  · refine JC.region ?_
    refine JL.cons rfl (op_fieldAddr (off := 2) (ltB rfl) tf38_1 (.tmp rfl)) ?_
    refine JL.cons rfl (op_loadS (j := 0) (ltB rfl) tS9 (.tmp rfl) rfl (Comp.trans (Comp.self r_api_Event e_1) (comp_api_Event_Topic e_1) (by decide)) rfl rfl) ?_
    refine JL.cons rfl (op_lenS (ltB rfl) tu9 (.tmp rfl)) ?_
    replace hx1 := lt1_inv hx1
    obtain ⟨v_3, hv_v_3, hx1⟩ := hx1
    refine JL.cons rfl (op_cmpI (ltB rfl) (.tmp rfl) .cI (congrArg some hv_v_3)) ?_
    refine JL.cons rfl (op_move (ltB rfl) (.tmp rfl)) ?_
    refine JL.pre (Imp.sub (ρ' := [(1, .one (.val (PTR gb_2 0))), (9, .one (.val (S rB v_3)))]) (.cons rfl (.cons rfl .nil))) ?_
    refine JL.at ⟨[(1, .one (.val (PTR gb_2 0))), (9, .one (.val (S rB v_3)))], [cvar gb_2 r_api_Event e_1], []⟩ ?_
    rcases iteB_inv hx1 with ⟨hc3, hx1⟩ | ⟨hc3, hx1⟩
    · refine JL.skip (.no rfl (ltB rfl) rfl hc3) (fun d h => by cases h; exact ltB rfl) ?_
      refine JL.skip (.no rfl (ltB rfl) rfl hc3) (fun d h => by cases h; exact ltB rfl) ?_
      refine JL.skip (.no rfl (ltB rfl) rfl hc3) (fun d h => by cases h; exact ltB rfl) ?_
      refine JL.skip (.no rfl (ltB rfl) rfl hc3) (fun d h => by cases h; exact ltB rfl) ?_
      refine JL.cons rfl (op_pickT (ltB rfl) (.tmp rfl) hc3 .cB) ?_
      refine JL.cons rfl (op_move (ltB rfl) (.tmp rfl)) ?_
      refine JL.skip (.no rfl (ltB rfl) rfl rfl) (fun d h => by cases h; exact ltB rfl) ?_
      refine JL.skip (.no rfl (ltB rfl) rfl rfl) (fun d h => by cases h; exact ltB rfl) ?_
      refine JL.skip (.no rfl (ltB rfl) rfl rfl) (fun d h => by cases h; exact ltB rfl) ?_
      refine JL.skip (.no rfl (ltB rfl) rfl rfl) (fun d h => by cases h; exact ltB rfl) ?_
      refine JL.cons rfl (op_pickT (ltB rfl) (.tmp rfl) rfl .cB) ?_
      refine JL.nil ?_
      replace hx1 := Option.some.inj hx1
      subst hx1
      exact JQ.join () (Imp.norm (js := [0]) rfl (.cons rfl (.cons rfl .nil)))
    · refine JL.run (.yes rfl (ltB rfl) rfl hc3) (op_fieldAddr (off := 3) (ltB rfl) tf38_2 (.tmp rfl)) ?_
      refine JL.run (.yes rfl (ltB rfl) rfl hc3) (op_loadS (j := 0) (ltB rfl) tS35 (.tmp rfl) rfl (Comp.trans (Comp.self r_api_Event e_1) (comp_api_Event_Payload e_1) (by decide)) rfl rfl) ?_
      refine JL.run (.yes rfl (ltB rfl) rfl hc3) (op_lenL (ltB rfl) tu35 (.tmp rfl)) ?_
      replace hx1 := lt1_inv hx1
      obtain ⟨v_4, hv_v_4, hx1⟩ := hx1
      refine JL.run (.yes rfl (ltB rfl) rfl hc3) (op_cmpI (ltB rfl) (.tmp rfl) .cI (congrArg some hv_v_4)) ?_
      refine JL.cons rfl (op_pickF (ltB rfl) (.tmp rfl) hc3 (.tmp rfl)) ?_
      refine JL.cons rfl (op_move (ltB rfl) (.tmp rfl)) ?_
      refine JL.pre (Imp.sub (ρ' := [(1, .one (.val (PTR gb_2 0))), (15, .one (.val (S rB v_4)))]) (.cons rfl (.cons rfl .nil))) ?_
      refine JL.at ⟨[(1, .one (.val (PTR gb_2 0))), (15, .one (.val (S rB v_4)))], [cvar gb_2 r_api_Event e_1], []⟩ ?_
      rcases iteB_inv hx1 with ⟨hc5, hx1⟩ | ⟨hc5, hx1⟩
      · refine JL.skip (.no rfl (ltB rfl) rfl hc5) (fun d h => by cases h; exact ltB rfl) ?_
        refine JL.skip (.no rfl (ltB rfl) rfl hc5) (fun d h => by cases h; exact ltB rfl) ?_
        refine JL.skip (.no rfl (ltB rfl) rfl hc5) (fun d h => by cases h; exact ltB rfl) ?_
        refine JL.skip (.no rfl (ltB rfl) rfl hc5) (fun d h => by cases h; exact ltB rfl) ?_
        refine JL.cons rfl (op_pickT (ltB rfl) (.tmp rfl) hc5 .cB) ?_
        refine JL.nil ?_
        replace hx1 := Option.some.inj hx1
        subst hx1
        exact JQ.join () (Imp.norm (js := [0]) rfl (.cons rfl (.cons rfl .nil)))
      · refine JL.run (.yes rfl (ltB rfl) rfl hc5) (op_fieldAddr (off := 20) (ltB rfl) tf38_4 (.tmp rfl)) ?_
        refine JL.run (.yes rfl (ltB rfl) rfl hc5) (op_loadS (j := 0) (ltB rfl) tS36 (.tmp rfl) rfl (Comp.trans (Comp.self r_api_Event e_1) (comp_api_Event_To e_1) (by decide)) rfl rfl) ?_
        refine JL.run (.yes rfl (ltB rfl) rfl hc5) (op_lenL (ltB rfl) tu36 (.tmp rfl)) ?_
        replace hx1 := lt1_inv hx1
        obtain ⟨v_5, hv_v_5, hx1⟩ := hx1
        refine JL.run (.yes rfl (ltB rfl) rfl hc5) (op_cmpI (ltB rfl) (.tmp rfl) .cI (congrArg some hv_v_5)) ?_
        refine JL.cons rfl (op_pickF (ltB rfl) (.tmp rfl) hc5 (.tmp rfl)) ?_
        refine JL.nil ?_
        replace hx1 := Option.some.inj hx1
        subst hx1
        exact JQ.join () (Imp.norm (js := [0]) rfl (.cons rfl (.cons rfl .nil)))

theorem sim_event_Before (k : Nat) (a_1 : api_Event) (b_2 : api_Event) (r : Bool) (hm : event_Before k a_1 b_2 = some r) : Sim Try.prog 15 [A r_api_Event a_1, A r_api_Event b_2] [] (γ := Unit) (fun q => []) (fun q => .one (.val (S rB r))) := by
  unfold event_Before at hm
  refine Sim.of Try.func15 rfl rfl (Nat.le_of_ble_eq_true rfl) (fun e0 w0 => ?_)
  refine JC.at ⟨[(0, .one (.val (A r_api_Event a_1))), (1, .one (.val (A r_api_Event b_2)))], [], []⟩ ?_
  refine JC.seq ?_
  refine JC.region ?_
  refine JL.consX rfl (op_boxA (ltB rfl) (.tmp rfl)) (fun q => ?_)
  obtain ⟨gb_3, hqq⟩ : ∃ z, z = q := ⟨_, rfl⟩
  subst hqq
  refine JL.pre (Imp.sub (ρ' := [(1, .one (.val (A r_api_Event b_2))), (2, .one (.val (PTR gb_3 0)))]) (.cons rfl (.cons rfl .nil))) ?_
  refine JL.at ⟨[(1, .one (.val (A r_api_Event b_2))), (2, .one (.val (PTR gb_3 0)))], [cvar gb_3 r_api_Event a_1], []⟩ ?_
  refine JL.consX rfl (op_boxA (ltB rfl) (.tmp rfl)) (fun q => ?_)
  obtain ⟨gb_4, hqq⟩ : ∃ z, z = q := ⟨_, rfl⟩
  subst hqq
  refine JL.pre (Imp.sub (ρ' := [(2, .one (.val (PTR gb_3 0))), (3, .one (.val (PTR gb_4 0)))]) (.cons rfl (.cons rfl .nil))) ?_
  refine JL.at ⟨[(2, .one (.val (PTR gb_3 0))), (3, .one (.val (PTR gb_4 0)))], [cvar gb_3 r_api_Event a_1, cvar gb_4 r_api_Event b_2], []⟩ ?_
  refine JL.cons rfl (op_assign (ltB rfl) .cB) ?_
  refine JL.nil ?_
  refine JQ.then ?_
  obtain ⟨x_9, hx1, hq1⟩ := bnd_inv hm
  refine JC.seqJ (γ := Unit) (stj := fun q => ⟨[(4, .one (.val (S rB x_9)))], [], []⟩) (fun q => ?_) ?_
  · obtain _ := q
    refine JC.at ⟨[(4, .one (.val (S rB x_9)))], [], []⟩ ?_
    refine JC.ret ?_
    replace hq1 := Option.some.inj hq1
    subst hq1
    exact JQ.done (js := []) (ss := [.val (S rB x_9)]) () (.inl rfl) (.nil rfl) rfl (.cons (.tmp rfl) .nil) rfl rfl rfl
  · refine JC.region ?_
    refine JL.cons rfl (op_loadA (j := 0) (ltB rfl) tA38 (.tmp rfl) rfl (Comp.self r_api_Event a_1) rfl) ?_
    replace hx1 := bnd_inv hx1
    obtain ⟨v_5, hv_v_5, hx1⟩ := hx1
    refine JL.consX rfl (op_call (js := []) (ltD rfl) cl17 (sim_event_May k a_1 v_5 hv_v_5) .func (.cons (.tmp rfl) .nil) rfl) (fun _ => ?_)
    refine JL.cons rfl (op_move (ltB rfl) (.tmp rfl)) ?_
    refine JL.cnd (sv := .one (.val (A r_api_Event b_2))) (Guard.isT (ltB rfl) rfl rfl) rfl (ltB rfl) (fun hq_2 => op_loadA (j := 1) (ltB rfl) tA38 (.tmp rfl) rfl (Comp.self r_api_Event b_2) rfl) ?_
    replace hx1 := bnd_inv hx1
    obtain ⟨v_6, hv_v_6, hx1⟩ := hx1
    refine JL.cnd (sv := .one (.val (S rB v_6))) (Guard.isT (ltB rfl) rfl rfl) rfl (ltB rfl) (fun hq_3 => (op_call (js := []) (ltD rfl) cl17 (sim_event_May k b_2 v_6 (ifT hv_v_6 hq_3)) .func (.cons (HasO.cnd (.tmp rfl) hq_3) .nil) rfl).post (fun _ => Imp.refl)) ?_
    refine JL.pre (Imp.sub (ρ' := [(2, .one (.val (PTR gb_3 0))), (3, .one (.val (PTR gb_4 0))), (4, .one (.val (S rB false))), (7, .one (.val (S rB v_5))), (9, bif v_5 then .one (.val (S rB v_6)) else .one .und)]) (.cons rfl (.cons rfl (.cons rfl (.cons rfl (.cons rfl .nil)))))) ?_
    refine JL.at ⟨[(2, .one (.val (PTR gb_3 0))), (3, .one (.val (PTR gb_4 0))), (4, .one (.val (S rB false))), (7, .one (.val (S rB v_5))), (9, bif v_5 then .one (.val (S rB v_6)) else .one .und)], [cvar gb_3 r_api_Event a_1, cvar gb_4 r_api_Event b_2], []⟩ ?_
    replace hx1 := lt1_inv hx1
    obtain ⟨v_7, hv_v_7, hx1⟩ := hx1
    refine JL.cons rfl (op_pickCS (ltB rfl) (.tmp rfl) (fun hb4 => (HasO.cnd (.tmp rfl) hb4)) (fun hb4 => .cB) hv_v_7) ?_
    refine JL.cons rfl (op_move (ltB rfl) (.tmp rfl)) ?_
    rcases iteB_inv hx1 with ⟨hc6, hx1⟩ | ⟨hc6, hx1⟩
    · refine JL.run (.yes rfl (ltB rfl) rfl hc6) (op_fieldAddr (off := 4) (ltB rfl) tf38_3 (.tmp rfl)) ?_
      refine JL.run (.yes rfl (ltB rfl) rfl hc6) (op_loadA (j := 1) (ltB rfl) tA26 (.tmp rfl) rfl (Comp.trans (Comp.self r_api_Event b_2) (comp_api_Event_Past b_2) (by decide)) rfl) ?_
      refine JL.run (.yes rfl (ltB rfl) rfl hc6) (op_fieldAddr (off := 0) (ltB rfl) tf38_0 (.tmp rfl)) ?_
      refine JL.run (.yes rfl (ltB rfl) rfl hc6) (op_loadA (j := 0) (ltB rfl) tA24 (.tmp rfl) rfl (Comp.trans (Comp.self r_api_Event a_1) (comp_api_Event_ID a_1) (by decide)) rfl) ?_
      refine JL.pre (Imp.norm (ρ' := [(4, .one (.val (S rB false))), (11, .one (.val (S rB v_7))), (13, .one (.val (A (rV 16 (rU UInt64)) b_2.Past))), (15, .one (.val (A r_api_Dot a_1.ID)))]) (js := []) rfl (.cons rfl (.cons rfl (.cons rfl (.cons rfl .nil))))) ?_
      refine JL.at ⟨[(4, .one (.val (S rB false))), (11, .one (.val (S rB v_7))), (13, .one (.val (A (rV 16 (rU UInt64)) b_2.Past))), (15, .one (.val (A r_api_Dot a_1.ID)))], [], []⟩ ?_
      replace hx1 := bnd_inv hx1
      obtain ⟨v_8, hv_v_8, hx1⟩ := hx1
      refine JL.runX (.yes rfl (ltB rfl) rfl hc6) (op_call (js := []) (ltD rfl) cl9 (sim_event_Under k b_2.Past a_1.ID v_8 hv_v_8) .func (.cons (.tmp rfl) (.cons (.tmp rfl) .nil)) rfl) (fun _ => ?_)
      refine JL.cons rfl (op_pickT (ltB rfl) (.tmp rfl) hc6 (.tmp rfl)) ?_
      refine JL.cons rfl (op_assign (ltB rfl) (.tmp rfl)) ?_
      refine JL.nil ?_
      replace hx1 := Option.some.inj hx1
      subst hx1
      exact JQ.join () (Imp.norm (js := []) rfl (.cons rfl .nil))
    · refine JL.skip (.no rfl (ltB rfl) rfl hc6) (fun d h => by cases h; exact ltB rfl) ?_
      refine JL.skip (.no rfl (ltB rfl) rfl hc6) (fun d h => by cases h; exact ltB rfl) ?_
      refine JL.skip (.no rfl (ltB rfl) rfl hc6) (fun d h => by cases h; exact ltB rfl) ?_
      refine JL.skip (.no rfl (ltB rfl) rfl hc6) (fun d h => by cases h; exact ltB rfl) ?_
      refine JL.skip (.no rfl (ltB rfl) rfl hc6) (fun d h => by cases h; exact ltB rfl) ?_
      refine JL.cons rfl (op_pickF (ltB rfl) (.tmp rfl) hc6 .cB) ?_
      refine JL.cons rfl (op_assign (ltB rfl) (.tmp rfl)) ?_
      refine JL.nil ?_
      replace hx1 := Option.some.inj hx1
      subst hx1
      exact JQ.join () (Imp.norm (js := []) rfl (.cons rfl .nil))

end Go.Proofs.Ythoggbomakolkaa
