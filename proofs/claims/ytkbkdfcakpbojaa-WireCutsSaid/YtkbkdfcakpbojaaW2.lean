/- Walks. -/
import Derived.Test.YtkbkdfcakpbojaaT
import Derived.Test.YtkbkdfcakpbojaaW1
namespace Go.Proofs.Ytkbkdfcakpbojaa
open Go Fw
set_option linter.unusedVariables false
set_option maxRecDepth 100000
set_option maxHeartbeats 4000000

theorem sim_wire_Reader_take'2 (k : Nat) (n_1 : Int) (r_2 : wire_Reader) (gb_3 : Nat) (r : (List UInt8) × Bool × wire_Reader) (hm : wire_Reader_take'2 k n_1 r_2 = some r) : Sim Try.prog 47 [PTR gb_3 0, S (rI .i64) n_1] [cvar gb_3 r_wire_Reader r_2] (γ := Unit) (fun q => [cvar gb_3 r_wire_Reader r.2.2]) (fun q => .tup [.val (S (rL (rU UInt8)) r.1), .val (S rB r.2.1)]) := by
  unfold wire_Reader_take'2 at hm
  refine Sim.of Try.func47 rfl rfl (Nat.le_of_ble_eq_true rfl) (fun e0 w0 => ?_)
  refine JC.at ⟨[(0, .one (.val (PTR gb_3 0))), (1, .one (.val (S (rI .i64) n_1)))], [cvar gb_3 r_wire_Reader r_2], []⟩ ?_
  refine JC.seq ?_
  refine JC.region ?_
  refine JL.cons rfl (op_assign (ltB rfl) HasO.nilH) ?_
  refine JL.cons rfl (op_assign (ltB rfl) .cB) ?_
  refine JL.nil ?_
  refine JQ.then ?_
  refine JC.seq ?_
  refine JC.block ?_
  refine JC.seq ?_
  refine JC.region ?_
  refine JL.cons rfl (op_move (ltB rfl) (.tmp rfl)) ?_
  replace hm := bnd_inv hm
  obtain ⟨v_4, hv_v_4, hm⟩ := hm
  refine JL.consX rfl (op_call (js := [0]) (ltD rfl) cl20 (sim_wire_Reader_Failed'2 k r_2 gb_3 v_4 hv_v_4) .func (.cons (.tmp rfl) .nil) rfl) (fun _ => ?_)
  refine JL.pre (Imp.sub (ρ' := [(0, .one (.val (PTR gb_3 0))), (1, .one (.val (S (rI .i64) n_1))), (9, .one (.val (S rB v_4)))]) (.cons rfl (.cons rfl (.cons rfl .nil)))) ?_
  refine JL.at ⟨[(0, .one (.val (PTR gb_3 0))), (1, .one (.val (S (rI .i64) n_1))), (9, .one (.val (S rB v_4)))], [cvar gb_3 r_wire_Reader r_2], []⟩ ?_
  refine JL.cons rfl (op_assign (ltB rfl) (.tmp rfl)) ?_
  refine JL.nil ?_
  refine JQ.then ?_
  rcases iteB_inv hm with ⟨hc1, hm⟩ | ⟨hc1, hm⟩
  · refine JC.condT (.tmp rfl) hc1 ?_
    refine JC.seq ?_
    refine JC.region ?_
    refine JL.cons rfl (op_assign (ltB rfl) HasO.nilH) ?_
    refine JL.cons rfl (op_assign (ltB rfl) .cB) ?_
    refine JL.nil ?_
    refine JQ.then ?_
    refine JC.ret ?_
    refine JQ.outRB ?_
    refine JQ.outR ?_
    replace hm := Option.some.inj hm
    subst hm
    refine JQ.pre (Imp.slot (s := 4) (q := S (rL (rU UInt8)) ([] : (List UInt8))) rfl wkNil) ?_
    exact JQ.done (js := [0]) (ss := [.val (S (rL (rU UInt8)) ([] : (List UInt8))), .val (S rB false)]) () (.inl rfl) (.nil rfl) rfl (.cons (.tmp rfl) (.cons (.tmp rfl) .nil)) rfl rfl rfl
  · refine JC.condF (.tmp rfl) hc1 ?_
    obtain ⟨x_7, hx2, hq2⟩ := bnd_inv hm
    refine JC.seqJ (γ := Unit) (stj := fun q => ⟨[(0, .one (.val (PTR gb_3 0))), (1, .one (.val (S (rI .i64) n_1))), (10, .one (.val (S rB x_7)))], [cvar gb_3 r_wire_Reader r_2], []⟩) (fun q => ?_) ?_
    · obtain _ := q
      refine JC.at ⟨[(0, .one (.val (PTR gb_3 0))), (1, .one (.val (S (rI .i64) n_1))), (10, .one (.val (S rB x_7)))], [cvar gb_3 r_wire_Reader r_2], []⟩ ?_
      rcases iteB_inv hq2 with ⟨hc6, hq2⟩ | ⟨hc6, hq2⟩
      · refine JC.condT (.tmp rfl) hc6 ?_
        refine JC.seq ?_
        refine JC.region ?_
        refine JL.cons rfl (op_move (ltB rfl) (.tmp rfl)) ?_
        refine JL.cons rfl (op_build (ltB rfl) tZ75 zr75 tp75 (.S (off := 2) rfl .cB rfl ((UpdR.snd (UpdR.snd (UpdR.fst (UpdR.self (by rfl))))).at (by rfl)) .nil) rfl) ?_
        refine JL.cons rfl (op_nilCheck (ltB rfl) (.tmp rfl) (fun e v h => by subst h; rfl)) ?_
        refine JL.cons rfl (op_storeA (j := 0) tA75 (.tmp rfl) (.tmp rfl) rfl (UpdR.self (by rfl)) rfl) ?_
        refine JL.pre (Imp.sub (ρ' := []) .nil) ?_
        refine JL.at ⟨[], [cvar gb_3 (rP (rW (HDR none 0 0 0)) (rP rB (rP rB r0))) ((), (false, (true, ())))], []⟩ ?_
        refine JL.nil ?_
        refine JQ.then ?_
        refine JC.seq ?_
        refine JC.region ?_
        refine JL.cons rfl (op_assign (ltB rfl) HasO.nilH) ?_
        refine JL.cons rfl (op_assign (ltB rfl) .cB) ?_
        refine JL.nil ?_
        refine JQ.then ?_
        refine JC.ret ?_
        refine JQ.outRB ?_
        refine JQ.outR ?_
        replace hq2 := Option.some.inj hq2
        subst hq2
        refine JQ.pre (Imp.slot (s := 4) (q := S (rL (rU UInt8)) ([] : (List UInt8))) rfl wkNil) ?_
        refine JQ.pre (Imp.var (j := 0) (q := r_wire_Reader) (y := (wire_Reader.mk ([] : (List UInt8)) false true)) rfl (Wk.st (Wk.pair Wk.nil (Wk.pair Wk.refl (Wk.pair Wk.refl Wk.refl))))) ?_
        exact JQ.done (js := [0]) (ss := [.val (S (rL (rU UInt8)) ([] : (List UInt8))), .val (S rB false)]) () (.inl rfl) (.nil rfl) rfl (.cons (.tmp rfl) (.cons (.tmp rfl) .nil)) rfl rfl rfl
      · refine JC.condF (.tmp rfl) hc6 ?_
        refine JC.skip ?_
        refine JQ.outNB ?_
        refine JQ.then ?_
        refine JC.seq ?_
        refine JC.region ?_
        refine JL.cons rfl (op_move (ltB rfl) (.tmp rfl)) ?_
        refine JL.cons rfl (op_nilCheck (ltB rfl) (.tmp rfl) (fun e v h => by subst h; rfl)) ?_
        refine JL.cons rfl (op_fieldAddr (off := 0) (ltB rfl) tf75_0 (.tmp rfl)) ?_
        refine JL.cons rfl (op_loadS (j := 0) (ltB rfl) tS23 (.tmp rfl) rfl (Comp.trans (Comp.self r_wire_Reader r_2) (comp_wire_Reader_rest r_2) (Nat.le_of_ble_eq_true rfl)) rfl rfl) ?_
        refine JL.cons rfl (op_move (ltB rfl) (.tmp rfl)) ?_
        refine JL.cons rfl (op_move (ltB rfl) (.tmp rfl)) ?_
        refine JL.pre (Imp.sub (ρ' := [(0, .one (.val (PTR gb_3 0))), (1, .one (.val (S (rI .i64) n_1))), (28, .one (.val (S (rL (rU UInt8)) r_2.rest))), (29, .one (.val (S (rI .i64) n_1))), (30, .one (.val (S (rI .i64) n_1)))]) (.cons rfl (.cons rfl (.cons rfl (.cons rfl (.cons rfl .nil)))))) ?_
        refine JL.at ⟨[(0, .one (.val (PTR gb_3 0))), (1, .one (.val (S (rI .i64) n_1))), (28, .one (.val (S (rL (rU UInt8)) r_2.rest))), (29, .one (.val (S (rI .i64) n_1))), (30, .one (.val (S (rI .i64) n_1)))], [cvar gb_3 r_wire_Reader r_2], []⟩ ?_
        replace hq2 := bnd_inv hq2
        obtain ⟨v_8, hv_v_8, hq2⟩ := hq2
        refine JL.cons rfl (op_sliceLcg (ltB rfl) tu23 tz5 (.tmp rfl) .none (.some (.tmp rfl)) (.some (.tmp rfl)) hv_v_8) ?_
        refine JL.cons rfl (op_assign (ltB rfl) (.tmp rfl)) ?_
        refine JL.nil ?_
        refine JQ.then ?_
        refine JC.seq ?_
        refine JC.region ?_
        refine JL.cons rfl (op_move (ltB rfl) (.tmp rfl)) ?_
        refine JL.cons rfl (op_move (ltB rfl) (.tmp rfl)) ?_
        refine JL.cons rfl (op_nilCheck (ltB rfl) (.tmp rfl) (fun e v h => by subst h; rfl)) ?_
        refine JL.cons rfl (op_fieldAddr (off := 0) (ltB rfl) tf75_0 (.tmp rfl)) ?_
        refine JL.pre (Imp.sub (ρ' := [(1, .one (.val (S (rI .i64) n_1))), (6, .one (.val (S (rLc (rU UInt8)) v_8))), (32, .one (.val (PTR gb_3 0))), (35, .one (.val (PTR gb_3 (0 + 0))))]) (.cons rfl (.cons rfl (.cons rfl (.cons rfl .nil))))) ?_
        refine JL.at ⟨[(1, .one (.val (S (rI .i64) n_1))), (6, .one (.val (S (rLc (rU UInt8)) v_8))), (32, .one (.val (PTR gb_3 0))), (35, .one (.val (PTR gb_3 (0 + 0))))], [cvar gb_3 r_wire_Reader r_2], []⟩ ?_
        refine JL.cons rfl (op_loadS (j := 0) (ltB rfl) tS23 (.tmp rfl) rfl (Comp.trans (Comp.self r_wire_Reader r_2) (comp_wire_Reader_rest r_2) (Nat.le_of_ble_eq_true rfl)) rfl rfl) ?_
        refine JL.cons rfl (op_move (ltB rfl) (.tmp rfl)) ?_
        replace hq2 := bnd_inv hq2
        obtain ⟨v_9, hv_v_9, hq2⟩ := hq2
        refine JL.cons rfl (op_sliceLg (ltB rfl) tu23 tz5 (.tmp rfl) (.some (.tmp rfl)) .none hv_v_9) ?_
        refine JL.cons rfl (op_nilCheck (ltB rfl) (.tmp rfl) (fun e v h => by subst h; rfl)) ?_
        refine JL.cons rfl (op_fieldAddr (off := 0) (ltB rfl) tf75_0 (.tmp rfl)) ?_
        replace hq2 := lt1_inv hq2
        obtain ⟨x_10, hv_x_10, hq2⟩ := hq2
        refine JL.cons rfl (op_storeS (j := 0) tS23 (.tmp rfl) (.tmp rfl) rfl rfl (Upd.trans (Comp.self r_wire_Reader r_2) (Upd.self r_wire_Reader r_2 _) (upd_wire_Reader_rest r_2 v_9)).R hv_x_10) ?_
        refine JL.pre (Imp.sub (ρ' := [(6, .one (.val (S (rLc (rU UInt8)) v_8)))]) (.cons rfl .nil)) ?_
        refine JL.at ⟨[(6, .one (.val (S (rLc (rU UInt8)) v_8)))], [cvar gb_3 r_wire_Reader x_10], []⟩ ?_
        refine JL.nil ?_
        refine JQ.then ?_
        refine JC.seq ?_
        refine JC.region ?_
        refine JL.cons rfl (op_move (ltB rfl) (.tmp rfl)) ?_
        refine JL.cons rfl (op_assign (ltB rfl) (.tmp rfl)) ?_
        refine JL.cons rfl (op_assign (ltB rfl) .cB) ?_
        refine JL.nil ?_
        refine JQ.then ?_
        refine JC.ret ?_
        replace hq2 := Option.some.inj hq2
        subst hq2
        refine JQ.pre (Imp.slotS (s := 4) rfl Wk.clip) ?_
        exact JQ.done (js := [0]) (ss := [.val (S (rL (rU UInt8)) v_8), .val (S rB true)]) () (.inl rfl) (.nil rfl) rfl (.cons (.tmp rfl) (.cons (.tmp rfl) .nil)) rfl rfl rfl
    · refine JC.region ?_
      refine JL.cons rfl (op_move (ltB rfl) (.tmp rfl)) ?_
      replace hx2 := lt1_inv hx2
      obtain ⟨v_5, hv_v_5, hx2⟩ := hx2
      refine JL.cons rfl (op_cmpI (ltB rfl) (.tmp rfl) .cI (congrArg some hv_v_5)) ?_
      refine JL.cons rfl (op_move (ltB rfl) (.tmp rfl)) ?_
      refine JL.cnd (sv := .one (.val (S (rI .i64) n_1))) (Guard.isF (ltB rfl) rfl rfl) rfl (ltB rfl) (fun hq_3 => op_move (ltB rfl) (.tmp rfl)) ?_
      rcases iteB_inv hx2 with ⟨hc5, hx2⟩ | ⟨hc5, hx2⟩
      · refine JL.skip (.no rfl (ltB rfl) rfl hc5) (fun d h => by cases h; exact ltB rfl) ?_
        refine JL.skip (.no rfl (ltB rfl) rfl hc5) (fun d h => by cases h; exact ltB rfl) ?_
        refine JL.skip (.no rfl (ltB rfl) rfl hc5) (fun d h => by cases h; exact ltB rfl) ?_
        refine JL.skip (.no rfl (ltB rfl) rfl hc5) (fun d h => by cases h; exact ltB rfl) ?_
        refine JL.skip (.no rfl (ltB rfl) rfl hc5) (fun d h => by cases h; exact ltB rfl) ?_
        refine JL.skip (.no rfl (ltB rfl) rfl hc5) (fun d h => by cases h; exact ltB rfl) ?_
        refine JL.cons rfl (op_pickT (ltB rfl) (.tmp rfl) hc5 .cB) ?_
        refine JL.pre (Imp.sub (ρ' := [(0, .one (.val (PTR gb_3 0))), (1, .one (.val (S (rI .i64) n_1))), (21, .one (.val (S rB true)))]) (.cons rfl (.cons rfl (.cons rfl .nil)))) ?_
        refine JL.at ⟨[(0, .one (.val (PTR gb_3 0))), (1, .one (.val (S (rI .i64) n_1))), (21, .one (.val (S rB true)))], [cvar gb_3 r_wire_Reader r_2], []⟩ ?_
        refine JL.cons rfl (op_assign (ltB rfl) (.tmp rfl)) ?_
        refine JL.nil ?_
        replace hx2 := Option.some.inj hx2
        subst hx2
        exact JQ.join () (Imp.norm (js := [0]) rfl (.cons rfl (.cons rfl (.cons rfl .nil))))
      · refine JL.run (.yes rfl (ltB rfl) rfl hc5) (op_move (ltB rfl) (.tmp rfl)) ?_
        refine JL.pre (Imp.sub (ρ' := [(0, .one (.val (PTR gb_3 0))), (1, .one (.val (S (rI .i64) n_1))), (13, .one (.val (S rB v_5))), (14, bif (!v_5) then .one (.val (S (rI .i64) n_1)) else .one .und), (15, .one (.val (PTR gb_3 0)))]) (.cons rfl (.cons rfl (.cons rfl (.cons rfl (.cons rfl .nil)))))) ?_
        refine JL.at ⟨[(0, .one (.val (PTR gb_3 0))), (1, .one (.val (S (rI .i64) n_1))), (13, .one (.val (S rB v_5))), (14, bif (!v_5) then .one (.val (S (rI .i64) n_1)) else .one .und), (15, .one (.val (PTR gb_3 0)))], [cvar gb_3 r_wire_Reader r_2], []⟩ ?_
        refine JL.run (.yes rfl (ltB rfl) rfl hc5) (op_nilCheck (ltB rfl) (.tmp rfl) (fun e v h => by subst h; rfl)) ?_
        refine JL.run (.yes rfl (ltB rfl) rfl hc5) (op_fieldAddr (off := 0) (ltB rfl) tf75_0 (.tmp rfl)) ?_
        refine JL.run (.yes rfl (ltB rfl) rfl hc5) (op_loadS (j := 0) (ltB rfl) tS23 (.tmp rfl) rfl (Comp.trans (Comp.self r_wire_Reader r_2) (comp_wire_Reader_rest r_2) (Nat.le_of_ble_eq_true rfl)) rfl rfl) ?_
        refine JL.run (.yes rfl (ltB rfl) rfl hc5) (op_lenL (ltB rfl) tu23 (.tmp rfl)) ?_
        replace hx2 := lt1_inv hx2
        obtain ⟨v_6, hv_v_6, hx2⟩ := hx2
        refine JL.run (.yes rfl (ltB rfl) rfl hc5) (op_cmpI (ltB rfl) (HasO.cnd (.tmp rfl) (notT hc5)) (.tmp rfl) (congrArg some hv_v_6)) ?_
        refine JL.cons rfl (op_pickF (ltB rfl) (.tmp rfl) hc5 (.tmp rfl)) ?_
        refine JL.pre (Imp.sub (ρ' := [(0, .one (.val (PTR gb_3 0))), (1, .one (.val (S (rI .i64) n_1))), (21, .one (.val (S rB v_6)))]) (.cons rfl (.cons rfl (.cons rfl .nil)))) ?_
        refine JL.at ⟨[(0, .one (.val (PTR gb_3 0))), (1, .one (.val (S (rI .i64) n_1))), (21, .one (.val (S rB v_6)))], [cvar gb_3 r_wire_Reader r_2], []⟩ ?_
        refine JL.cons rfl (op_assign (ltB rfl) (.tmp rfl)) ?_
        refine JL.nil ?_
        replace hx2 := Option.some.inj hx2
        subst hx2
        exact JQ.join () (Imp.norm (js := [0]) rfl (.cons rfl (.cons rfl (.cons rfl .nil))))

theorem sim_wire_Reader_Bytes (k : Nat) (n_1 : Int) (r_2 : wire_Reader) (gb_3 : Nat) (r : (List UInt8) × wire_Reader) (hm : wire_Reader_Bytes k n_1 r_2 = some r) : Sim Try.prog 40 [PTR gb_3 0, S (rI .i64) n_1] [cvar gb_3 r_wire_Reader r_2] (γ := Unit) (fun q => [cvar gb_3 r_wire_Reader r.2]) (fun q => .one (.val (S (rL (rU UInt8)) r.1))) := by
  unfold wire_Reader_Bytes at hm
  refine Sim.of Try.func40 rfl rfl (Nat.le_of_ble_eq_true rfl) (fun e0 w0 => ?_)
  refine JC.at ⟨[(0, .one (.val (PTR gb_3 0))), (1, .one (.val (S (rI .i64) n_1)))], [cvar gb_3 r_wire_Reader r_2], []⟩ ?_
  refine JC.seq ?_
  refine JC.region ?_
  refine JL.cons rfl (op_assign (ltB rfl) HasO.nilH) ?_
  refine JL.nil ?_
  refine JQ.then ?_
  refine JC.seq ?_
  refine JC.region ?_
  refine JL.cons rfl (op_move (ltB rfl) (.tmp rfl)) ?_
  refine JL.cons rfl (op_move (ltB rfl) (.tmp rfl)) ?_
  replace hm := bnd_inv hm
  obtain ⟨⟨v_4, v_5, x_6⟩, hv_v_4, hm⟩ := hm
  refine JL.consX rfl (op_call (js := [0]) (ltD rfl) cl47 (sim_wire_Reader_take'2 k n_1 r_2 gb_3 (v_4, v_5, x_6) hv_v_4) .func (.cons (.tmp rfl) (.cons (.tmp rfl) .nil)) rfl) (fun _ => ?_)
  refine JL.pre (Imp.sub (ρ' := [(10, .tup [.val (S (rL (rU UInt8)) v_4), .val (S rB v_5)])]) (.cons rfl .nil)) ?_
  refine JL.at ⟨[(10, .tup [.val (S (rL (rU UInt8)) v_4), .val (S rB v_5)])], [cvar gb_3 r_wire_Reader x_6], []⟩ ?_
  refine JL.cons rfl (op_move (ltB rfl) (.tmp rfl)) ?_
  refine JL.cons rfl (op_extract (i := 0) (ltB rfl) (.tmp rfl) rfl) ?_
  refine JL.cons rfl (op_extract (i := 1) (ltB rfl) (.tmp rfl) rfl) ?_
  refine JL.cons rfl (op_assign (ltB rfl) (.tmp rfl)) ?_
  refine JL.cons rfl (op_assign (ltB rfl) (.tmp rfl)) ?_
  refine JL.nil ?_
  refine JQ.then ?_
  refine JC.seq ?_
  refine JC.region ?_
  refine JL.cons rfl (op_move (ltB rfl) (.tmp rfl)) ?_
  refine JL.pre (Imp.sub (ρ' := [(13, .one (.val (S (rL (rU UInt8)) v_4)))]) (.cons rfl .nil)) ?_
  refine JL.at ⟨[(13, .one (.val (S (rL (rU UInt8)) v_4)))], [cvar gb_3 r_wire_Reader x_6], []⟩ ?_
  refine JL.cons rfl (op_assign (ltB rfl) (.tmp rfl)) ?_
  refine JL.nil ?_
  refine JQ.then ?_
  refine JC.ret ?_
  replace hm := Option.some.inj hm
  subst hm
  exact JQ.done (js := [0]) (ss := [.val (S (rL (rU UInt8)) v_4)]) () (.inl rfl) (.nil rfl) rfl (.cons (.tmp rfl) .nil) rfl rfl rfl

theorem sim_wire_Reader_Blob (k : Nat) (is_1 : Bool) (made_2 : Bool) (x_4 : (List UInt8)) (gb_3 : Nat) (go_5 : Option Nat) (gc_6 : Nat) (r : (List UInt8) × wire_Reader) (hm : wire_Reader_Blob k is_1 made_2 x_4 = some r) : Sim Try.prog 26 [PTR gb_3 0] [cvar gb_3 (rP (rW (HDR go_5 0 (List.length x_4) gc_6)) (rP rB (rP rB r0))) ((), (is_1, (made_2, ()))), cown go_5 (rU UInt8) x_4 0 gc_6] (γ := Unit) (fun q => [cvar gb_3 r_wire_Reader r.2, cown go_5 (rU UInt8) x_4 (List.length x_4) gc_6]) (fun q => .one (.val (S (rL (rU UInt8)) r.1))) := by
  unfold wire_Reader_Blob at hm
  refine Sim.of Try.func26 rfl rfl (Nat.le_of_ble_eq_true rfl) (fun e0 w0 => ?_)
  refine JC.at ⟨[(0, .one (.val (PTR gb_3 0)))], [cvar gb_3 (rP (rW (HDR go_5 0 (List.length x_4) gc_6)) (rP rB (rP rB r0))) ((), (is_1, (made_2, ()))), cown go_5 (rU UInt8) x_4 0 gc_6], []⟩ ?_
  refine JC.seq ?_
  refine JC.region ?_
  refine JL.cons rfl (op_assign (ltB rfl) HasO.nilH) ?_
  refine JL.nil ?_
  refine JQ.then ?_
  refine JC.seq ?_
  refine JC.region ?_
  refine JL.cons rfl (op_move (ltB rfl) (.tmp rfl)) ?_
  refine JL.cons rfl (op_move (ltB rfl) (.tmp rfl)) ?_
  replace hm := bnd_inv hm
  obtain ⟨⟨v_7, x_8⟩, hv_v_7, hm⟩ := hm
  refine JL.consX rfl (op_call (js := [0, 0]) (ltD rfl) cl39 (sim_wire_Reader_Number k (2 : Int) is_1 made_2 x_4 gb_3 go_5 gc_6 (v_7, x_8) hv_v_7) .func (.cons (.tmp rfl) (.cons .cI .nil)) rfl) (fun _ => ?_)
  refine JL.pre (Imp.sub (ρ' := [(2, .one (.val (HDR none 0 0 0))), (3, .one (.val (PTR gb_3 0))), (5, .one (.val (S (rU UInt64) v_7)))]) (.cons rfl (.cons rfl (.cons rfl .nil)))) ?_
  refine JL.at ⟨[(2, .one (.val (HDR none 0 0 0))), (3, .one (.val (PTR gb_3 0))), (5, .one (.val (S (rU UInt64) v_7)))], [cvar gb_3 r_wire_Reader x_8, cown go_5 (rU UInt8) x_4 (List.length x_4) gc_6], []⟩ ?_
  replace hm := lt1_inv hm
  obtain ⟨v_9, hv_v_9, hm⟩ := hm
  refine JL.cons rfl (op_convUI (ltB rfl) tu22 tu3 (.tmp rfl) hv_v_9) ?_
  replace hm := bnd_inv hm
  obtain ⟨⟨v_10, x_11⟩, hv_v_10, hm⟩ := hm
  refine JL.consX rfl (op_call (js := [0]) (ltD rfl) cl40 (sim_wire_Reader_Bytes k v_9 x_8 gb_3 (v_10, x_11) hv_v_10) .func (.cons (.tmp rfl) (.cons (.tmp rfl) .nil)) rfl) (fun _ => ?_)
  refine JL.pre (Imp.sub (ρ' := [(2, .one (.val (HDR none 0 0 0))), (7, .one (.val (S (rL (rU UInt8)) v_10)))]) (.cons rfl (.cons rfl .nil))) ?_
  refine JL.at ⟨[(2, .one (.val (HDR none 0 0 0))), (7, .one (.val (S (rL (rU UInt8)) v_10)))], [cvar gb_3 r_wire_Reader x_11, cown go_5 (rU UInt8) x_4 (List.length x_4) gc_6], []⟩ ?_
  refine JL.cons rfl (op_assign (ltB rfl) (.tmp rfl)) ?_
  refine JL.nil ?_
  refine JQ.then ?_
  refine JC.ret ?_
  replace hm := Option.some.inj hm
  subst hm
  exact JQ.done (js := [0, 0]) (ss := [.val (S (rL (rU UInt8)) v_10)]) () (.inl rfl) (.nil rfl) rfl (.cons (.tmp rfl) .nil) rfl rfl rfl

theorem sim_wire_Reader_Left (k : Nat) (r_1 : wire_Reader) (gb_2 : Nat) (r : Int) (hm : wire_Reader_Left k r_1 = some r) : Sim Try.prog 18 [PTR gb_2 0] [cvar gb_2 r_wire_Reader r_1] (γ := Unit) (fun q => [cvar gb_2 r_wire_Reader r_1]) (fun q => .one (.val (S (rI .i64) r))) := by
  unfold wire_Reader_Left at hm
  refine Sim.of Try.func18 rfl rfl (Nat.le_of_ble_eq_true rfl) (fun e0 w0 => ?_)
  refine JC.at ⟨[(0, .one (.val (PTR gb_2 0)))], [cvar gb_2 r_wire_Reader r_1], []⟩ ?_
  refine JC.seq ?_
  refine JC.region ?_
  refine JL.cons rfl (op_assign (ltB rfl) .cI) ?_
  refine JL.nil ?_
  refine JQ.then ?_
  refine JC.seq ?_
  refine JC.seq ?_
  refine JC.region ?_
  refine JL.cons rfl (op_move (ltB rfl) (.tmp rfl)) ?_
  replace hm := bnd_inv hm
  obtain ⟨v_3, hv_v_3, hm⟩ := hm
  refine JL.consX rfl (op_call (js := [0]) (ltD rfl) cl20 (sim_wire_Reader_Failed'2 k r_1 gb_2 v_3 hv_v_3) .func (.cons (.tmp rfl) .nil) rfl) (fun _ => ?_)
  refine JL.pre (Imp.sub (ρ' := [(0, .one (.val (PTR gb_2 0))), (4, .one (.val (S rB v_3)))]) (.cons rfl (.cons rfl .nil))) ?_
  refine JL.at ⟨[(0, .one (.val (PTR gb_2 0))), (4, .one (.val (S rB v_3)))], [cvar gb_2 r_wire_Reader r_1], []⟩ ?_
  refine JL.nil ?_
  refine JQ.then ?_
  rcases iteB_inv hm with ⟨hc1, hm⟩ | ⟨hc1, hm⟩
  · refine JC.condT (.tmp rfl) hc1 ?_
    refine JC.seq ?_
    refine JC.region ?_
    refine JL.cons rfl (op_assign (ltB rfl) .cI) ?_
    refine JL.nil ?_
    refine JQ.then ?_
    refine JC.ret ?_
    refine JQ.outR ?_
    replace hm := Option.some.inj hm
    subst hm
    exact JQ.done (js := [0]) (ss := [.val (S (rI .i64) (0 : Int))]) () (.inl rfl) (.nil rfl) rfl (.cons (.tmp rfl) .nil) rfl rfl rfl
  · refine JC.condF (.tmp rfl) hc1 ?_
    refine JC.skip ?_
    refine JQ.then ?_
    refine JC.seq ?_
    refine JC.region ?_
    refine JL.cons rfl (op_move (ltB rfl) (.tmp rfl)) ?_
    refine JL.cons rfl (op_nilCheck (ltB rfl) (.tmp rfl) (fun e v h => by subst h; rfl)) ?_
    refine JL.cons rfl (op_fieldAddr (off := 0) (ltB rfl) tf75_0 (.tmp rfl)) ?_
    refine JL.cons rfl (op_loadS (j := 0) (ltB rfl) tS23 (.tmp rfl) rfl (Comp.trans (Comp.self r_wire_Reader r_1) (comp_wire_Reader_rest r_1) (Nat.le_of_ble_eq_true rfl)) rfl rfl) ?_
    refine JL.cons rfl (op_lenL (ltB rfl) tu23 (.tmp rfl)) ?_
    refine JL.cons rfl (op_assign (ltB rfl) (.tmp rfl)) ?_
    refine JL.pre (Imp.sub (ρ' := [(2, .one (.val (S (rI .i64) (List.length r_1.rest : Int))))]) (.cons rfl .nil)) ?_
    refine JL.at ⟨[(2, .one (.val (S (rI .i64) (List.length r_1.rest : Int))))], [cvar gb_2 r_wire_Reader r_1], []⟩ ?_
    refine JL.nil ?_
    refine JQ.then ?_
    refine JC.ret ?_
    replace hm := Option.some.inj hm
    subst hm
    exact JQ.done (js := [0]) (ss := [.val (S (rI .i64) (List.length r_1.rest : Int))]) () (.inl rfl) (.nil rfl) rfl (.cons (.tmp rfl) .nil) rfl rfl rfl

theorem sim_wire_Reader_Number'2 (k : Nat) (size_1 : Int) (r_2 : wire_Reader) (gb_3 : Nat) (r : UInt64 × wire_Reader) (hm : wire_Reader_Number'2 k size_1 r_2 = some r) : Sim Try.prog 39 [PTR gb_3 0, S (rI .i64) size_1] [cvar gb_3 r_wire_Reader r_2] (γ := Unit) (fun q => [cvar gb_3 r_wire_Reader r.2]) (fun q => .one (.val (S (rU UInt64) r.1))) := by
  unfold wire_Reader_Number'2 at hm
  refine Sim.of Try.func39 rfl rfl (Nat.le_of_ble_eq_true rfl) (fun e0 w0 => ?_)
  refine JC.at ⟨[(0, .one (.val (PTR gb_3 0))), (1, .one (.val (S (rI .i64) size_1)))], [cvar gb_3 r_wire_Reader r_2], []⟩ ?_
  refine JC.seq ?_
  refine JC.region ?_
  refine JL.cons rfl (op_assign (ltB rfl) (HasO.cU (x := (0 : UInt64)) rfl (by decide))) ?_
  refine JL.nil ?_
  refine JQ.then ?_
  obtain ⟨size_8, hx1, hq1⟩ := bnd_inv hm
  refine JC.seqJ (γ := Unit) (stj := fun q => ⟨[(0, .one (.val (PTR gb_3 0))), (1, .one (.val (S (rI .i64) size_8)))], [cvar gb_3 r_wire_Reader r_2], []⟩) (fun q => ?_) ?_
  · obtain _ := q
    refine JC.at ⟨[(0, .one (.val (PTR gb_3 0))), (1, .one (.val (S (rI .i64) size_8)))], [cvar gb_3 r_wire_Reader r_2], []⟩ ?_
    refine JC.seq ?_
    refine JC.region ?_
    refine JL.cons rfl (op_move (ltB rfl) (.tmp rfl)) ?_
    refine JL.cons rfl (op_move (ltB rfl) (.tmp rfl)) ?_
    replace hq1 := bnd_inv hq1
    obtain ⟨⟨v_9, v_10, x_11⟩, hv_v_9, hq1⟩ := hq1
    refine JL.consX rfl (op_call (js := [0]) (ltD rfl) cl47 (sim_wire_Reader_take'2 k size_8 r_2 gb_3 (v_9, v_10, x_11) hv_v_9) .func (.cons (.tmp rfl) (.cons (.tmp rfl) .nil)) rfl) (fun _ => ?_)
    refine JL.pre (Imp.sub (ρ' := [(18, .tup [.val (S (rL (rU UInt8)) v_9), .val (S rB v_10)])]) (.cons rfl .nil)) ?_
    refine JL.at ⟨[(18, .tup [.val (S (rL (rU UInt8)) v_9), .val (S rB v_10)])], [cvar gb_3 r_wire_Reader x_11], []⟩ ?_
    refine JL.cons rfl (op_move (ltB rfl) (.tmp rfl)) ?_
    refine JL.cons rfl (op_extract (i := 0) (ltB rfl) (.tmp rfl) rfl) ?_
    refine JL.cons rfl (op_extract (i := 1) (ltB rfl) (.tmp rfl) rfl) ?_
    refine JL.cons rfl (op_assign (ltB rfl) (.tmp rfl)) ?_
    refine JL.cons rfl (op_assign (ltB rfl) (.tmp rfl)) ?_
    refine JL.nil ?_
    refine JQ.then ?_
    refine JC.seq ?_
    refine JC.region ?_
    refine JL.cons rfl (op_move (ltB rfl) (.tmp rfl)) ?_
    refine JL.pre (Imp.sub (ρ' := [(22, .one (.val (S (rL (rU UInt8)) v_9)))]) (.cons rfl .nil)) ?_
    refine JL.at ⟨[(22, .one (.val (S (rL (rU UInt8)) v_9)))], [cvar gb_3 r_wire_Reader x_11], []⟩ ?_
    replace hq1 := bnd_inv hq1
    obtain ⟨⟨v_12, v_13⟩, hv_v_12, hq1⟩ := hq1
    refine JL.consX rfl (op_call (js := []) (ltD rfl) cl14 (sim_wire_Get k v_9 (v_12, v_13) hv_v_12) .func (.cons (.tmp rfl) .nil) rfl) (fun _ => ?_)
    refine JL.cons rfl (op_move (ltB rfl) (.tmp rfl)) ?_
    refine JL.cons rfl (op_extract (i := 0) (ltB rfl) (.tmp rfl) rfl) ?_
    refine JL.cons rfl (op_extract (i := 1) (ltB rfl) (.tmp rfl) rfl) ?_
    refine JL.cons rfl (op_assign (ltB rfl) (.tmp rfl)) ?_
    refine JL.cons rfl (op_assign (ltB rfl) (.tmp rfl)) ?_
    refine JL.pre (Imp.sub (ρ' := [(7, .one (.val (S (rU UInt64) v_12)))]) (.cons rfl .nil)) ?_
    refine JL.at ⟨[(7, .one (.val (S (rU UInt64) v_12)))], [cvar gb_3 r_wire_Reader x_11], []⟩ ?_
    refine JL.nil ?_
    refine JQ.then ?_
    refine JC.seq ?_
    refine JC.region ?_
    refine JL.cons rfl (op_move (ltB rfl) (.tmp rfl)) ?_
    refine JL.cons rfl (op_assign (ltB rfl) (.tmp rfl)) ?_
    refine JL.nil ?_
    refine JQ.then ?_
    refine JC.ret ?_
    replace hq1 := Option.some.inj hq1
    subst hq1
    exact JQ.done (js := [0]) (ss := [.val (S (rU UInt64) v_12)]) () (.inl rfl) (.nil rfl) rfl (.cons (.tmp rfl) .nil) rfl rfl rfl
  · obtain ⟨x_7, hx2, hq2⟩ := bnd_inv hx1
    refine JC.seqJ (γ := Unit) (stj := fun q => ⟨[(0, .one (.val (PTR gb_3 0))), (1, .one (.val (S (rI .i64) size_1))), (14, .one (.val (S rB x_7)))], [cvar gb_3 r_wire_Reader r_2], []⟩) (fun q => ?_) ?_
    · obtain _ := q
      refine JC.at ⟨[(0, .one (.val (PTR gb_3 0))), (1, .one (.val (S (rI .i64) size_1))), (14, .one (.val (S rB x_7)))], [cvar gb_3 r_wire_Reader r_2], []⟩ ?_
      rcases iteB_inv hq2 with ⟨hc6, hq2⟩ | ⟨hc6, hq2⟩
      · refine JC.condT (.tmp rfl) hc6 ?_
        refine JC.region ?_
        refine JL.cons rfl (op_assign (ltB rfl) .cI) ?_
        refine JL.nil ?_
        replace hq2 := Option.some.inj hq2
        subst hq2
        exact JQ.join () (Imp.norm (js := [0]) rfl (.cons rfl (.cons rfl .nil)))
      · refine JC.condF (.tmp rfl) hc6 ?_
        refine JC.skip ?_
        replace hq2 := Option.some.inj hq2
        subst hq2
        exact JQ.join () (Imp.norm (js := [0]) rfl (.cons rfl (.cons rfl .nil)))
    · refine JC.region ?_
      refine JL.cons rfl (op_move (ltB rfl) (.tmp rfl)) ?_
      replace hx2 := lt1_inv hx2
      obtain ⟨v_4, hv_v_4, hx2⟩ := hx2
      refine JL.cons rfl (op_cmpI (ltB rfl) (.tmp rfl) .cI (congrArg some hv_v_4)) ?_
      refine JL.cons rfl (op_move (ltB rfl) (.tmp rfl)) ?_
      refine JL.cnd (sv := .one (.val (S (rI .i64) size_1))) (Guard.isF (ltB rfl) rfl rfl) rfl (ltB rfl) (fun hq_3 => op_move (ltB rfl) (.tmp rfl)) ?_
      replace hx2 := lt1_inv hx2
      obtain ⟨v_5, hv_v_5, hx2⟩ := hx2
      refine JL.cnd (sv := .one (.val (S rB v_5))) (Guard.isF (ltB rfl) rfl rfl) rfl (ltB rfl) (fun hq_4 => op_cmpI (ltB rfl) (HasO.cnd (.tmp rfl) (notT (notF hq_4))) .cI (congrArg some hv_v_5)) ?_
      refine JL.pre (Imp.sub (ρ' := [(0, .one (.val (PTR gb_3 0))), (1, .one (.val (S (rI .i64) size_1))), (11, .one (.val (S rB v_4))), (13, bif (!v_4) then .one (.val (S rB v_5)) else .one .und)]) (.cons rfl (.cons rfl (.cons rfl (.cons rfl .nil))))) ?_
      refine JL.at ⟨[(0, .one (.val (PTR gb_3 0))), (1, .one (.val (S (rI .i64) size_1))), (11, .one (.val (S rB v_4))), (13, bif (!v_4) then .one (.val (S rB v_5)) else .one .und)], [cvar gb_3 r_wire_Reader r_2], []⟩ ?_
      replace hx2 := lt1_inv hx2
      obtain ⟨v_6, hv_v_6, hx2⟩ := hx2
      refine JL.cons rfl (op_pickCS (ltB rfl) (.tmp rfl) (fun hb5 => .cB) (fun hb5 => (HasO.cnd (.tmp rfl) (notT hb5))) hv_v_6) ?_
      refine JL.nil ?_
      replace hx2 := Option.some.inj hx2
      subst hx2
      exact JQ.join () (Imp.norm (js := [0]) rfl (.cons rfl (.cons rfl (.cons rfl .nil))))

theorem sim_wire_Reader_End (k : Nat) (r_1 : wire_Reader) (gb_2 : Nat) (r : Int) (hm : wire_Reader_End k r_1 = some r) : Sim Try.prog 21 [PTR gb_2 0] [cvar gb_2 r_wire_Reader r_1] (γ := Unit) (fun q => [cvar gb_2 r_wire_Reader r_1]) (fun q => .one (.val (S (rI .i64) r))) := by
  unfold wire_Reader_End at hm
  refine Sim.of Try.func21 rfl rfl (Nat.le_of_ble_eq_true rfl) (fun e0 w0 => ?_)
  refine JC.at ⟨[(0, .one (.val (PTR gb_2 0)))], [cvar gb_2 r_wire_Reader r_1], []⟩ ?_
  refine JC.seq ?_
  refine JC.region ?_
  refine JL.cons rfl (op_assign (ltB rfl) .cI) ?_
  refine JL.nil ?_
  refine JQ.then ?_
  refine JC.seq ?_
  refine JC.block ?_
  obtain ⟨x_4, hx1, hq1⟩ := bnd_inv hm
  refine JC.seqJ (γ := Unit) (stj := fun q => ⟨[(0, .one (.val (PTR gb_2 0))), (3, .one (.val (S rB x_4)))], [cvar gb_2 r_wire_Reader r_1], []⟩) (fun q => ?_) ?_
  · obtain _ := q
    refine JC.at ⟨[(0, .one (.val (PTR gb_2 0))), (3, .one (.val (S rB x_4)))], [cvar gb_2 r_wire_Reader r_1], []⟩ ?_
    rcases iteB_inv hq1 with ⟨hc2, hq1⟩ | ⟨hc2, hq1⟩
    · refine JC.condT (.tmp rfl) hc2 ?_
      refine JC.seq ?_
      refine JC.region ?_
      refine JL.cons rfl (op_assign (ltB rfl) .cI) ?_
      refine JL.nil ?_
      refine JQ.then ?_
      refine JC.ret ?_
      refine JQ.outRB ?_
      refine JQ.outR ?_
      replace hq1 := Option.some.inj hq1
      subst hq1
      exact JQ.done (js := [0]) (ss := [.val (S (rI .i64) (1 : Int))]) () (.inl rfl) (.nil rfl) rfl (.cons (.tmp rfl) .nil) rfl rfl rfl
    · refine JC.condF (.tmp rfl) hc2 ?_
      obtain ⟨x_7, hx3, hq3⟩ := bnd_inv hq1
      refine JC.seqJ (γ := Unit) (stj := fun q => ⟨[(13, .one (.val (S rB x_7)))], [cvar gb_2 r_wire_Reader r_1], []⟩) (fun q => ?_) ?_
      · obtain _ := q
        refine JC.at ⟨[(13, .one (.val (S rB x_7)))], [cvar gb_2 r_wire_Reader r_1], []⟩ ?_
        rcases iteB_inv hq3 with ⟨hc6, hq3⟩ | ⟨hc6, hq3⟩
        · refine JC.condT (.tmp rfl) hc6 ?_
          refine JC.seq ?_
          refine JC.region ?_
          refine JL.cons rfl (op_assign (ltB rfl) .cI) ?_
          refine JL.nil ?_
          refine JQ.then ?_
          refine JC.ret ?_
          refine JQ.outRB ?_
          refine JQ.outR ?_
          replace hq3 := Option.some.inj hq3
          subst hq3
          exact JQ.done (js := [0]) (ss := [.val (S (rI .i64) (4 : Int))]) () (.inl rfl) (.nil rfl) rfl (.cons (.tmp rfl) .nil) rfl rfl rfl
        · refine JC.condF (.tmp rfl) hc6 ?_
          refine JC.skip ?_
          refine JQ.outNB ?_
          refine JQ.then ?_
          refine JC.seq ?_
          refine JC.region ?_
          refine JL.cons rfl (op_assign (ltB rfl) .cI) ?_
          refine JL.nil ?_
          refine JQ.then ?_
          refine JC.ret ?_
          replace hq3 := Option.some.inj hq3
          subst hq3
          exact JQ.done (js := [0]) (ss := [.val (S (rI .i64) (0 : Int))]) () (.inl rfl) (.nil rfl) rfl (.cons (.tmp rfl) .nil) rfl rfl rfl
      · refine JC.region ?_
        refine JL.cons rfl (op_move (ltB rfl) (.tmp rfl)) ?_
        replace hx3 := bnd_inv hx3
        obtain ⟨v_5, hv_v_5, hx3⟩ := hx3
        refine JL.consX rfl (op_call (js := [0]) (ltD rfl) cl20 (sim_wire_Reader_Failed'2 k r_1 gb_2 v_5 hv_v_5) .func (.cons (.tmp rfl) .nil) rfl) (fun _ => ?_)
        refine JL.cons rfl (op_move (ltB rfl) (.tmp rfl)) ?_
        rcases iteB_inv hx3 with ⟨hc5, hx3⟩ | ⟨hc5, hx3⟩
        · refine JL.skip (.no rfl (ltB rfl) rfl hc5) (fun d h => by cases h; exact ltB rfl) ?_
          refine JL.skip (.no rfl (ltB rfl) rfl hc5) (fun d h => by cases h; exact ltB rfl) ?_
          refine JL.skip (.no rfl (ltB rfl) rfl hc5) (fun d h => by cases h; exact ltB rfl) ?_
          refine JL.skip (.no rfl (ltB rfl) rfl hc5) (fun d h => by cases h; exact ltB rfl) ?_
          refine JL.skip (.no rfl (ltB rfl) rfl hc5) (fun d h => by cases h; exact ltB rfl) ?_
          refine JL.skip (.no rfl (ltB rfl) rfl hc5) (fun d h => by cases h; exact ltB rfl) ?_
          refine JL.cons rfl (op_pickT (ltB rfl) (.tmp rfl) hc5 .cB) ?_
          refine JL.cons rfl (op_assign (ltB rfl) (.tmp rfl)) ?_
          refine JL.nil ?_
          replace hx3 := Option.some.inj hx3
          subst hx3
          exact JQ.join () (Imp.norm (js := [0]) rfl (.cons rfl .nil))
        · refine JL.run (.yes rfl (ltB rfl) rfl hc5) (op_move (ltB rfl) (.tmp rfl)) ?_
          refine JL.run (.yes rfl (ltB rfl) rfl hc5) (op_nilCheck (ltB rfl) (.tmp rfl) (fun e v h => by subst h; rfl)) ?_
          refine JL.run (.yes rfl (ltB rfl) rfl hc5) (op_fieldAddr (off := 0) (ltB rfl) tf75_0 (.tmp rfl)) ?_
          refine JL.pre (Imp.sub (ρ' := [(16, .one (.val (S rB v_5))), (19, .one (.val (PTR gb_2 (0 + 0))))]) (.cons rfl (.cons rfl .nil))) ?_
          refine JL.at ⟨[(16, .one (.val (S rB v_5))), (19, .one (.val (PTR gb_2 (0 + 0))))], [cvar gb_2 r_wire_Reader r_1], []⟩ ?_
          refine JL.run (.yes rfl (ltB rfl) rfl hc5) (op_loadS (j := 0) (ltB rfl) tS23 (.tmp rfl) rfl (Comp.trans (Comp.self r_wire_Reader r_1) (comp_wire_Reader_rest r_1) (Nat.le_of_ble_eq_true rfl)) rfl rfl) ?_
          refine JL.run (.yes rfl (ltB rfl) rfl hc5) (op_lenL (ltB rfl) tu23 (.tmp rfl)) ?_
          replace hx3 := lt1_inv hx3
          obtain ⟨v_6, hv_v_6, hx3⟩ := hx3
          refine JL.run (.yes rfl (ltB rfl) rfl hc5) (op_cmpI (ltB rfl) (.tmp rfl) .cI (congrArg some hv_v_6)) ?_
          refine JL.cons rfl (op_pickF (ltB rfl) (.tmp rfl) hc5 (.tmp rfl)) ?_
          refine JL.cons rfl (op_assign (ltB rfl) (.tmp rfl)) ?_
          refine JL.nil ?_
          replace hx3 := Option.some.inj hx3
          subst hx3
          exact JQ.join () (Imp.norm (js := [0]) rfl (.cons rfl .nil))
  · refine JC.region ?_
    refine JL.cons rfl (op_move (ltB rfl) (.tmp rfl)) ?_
    refine JL.cons rfl (op_nilP (neg := false) (ltB rfl) tu36 (.tmp rfl) (HasO.const (p := PTO none) fun _ => rfl)) ?_
    refine JL.cons rfl (op_move (ltB rfl) (.tmp rfl)) ?_
    refine JL.run (.yes rfl (ltB rfl) rfl rfl) (op_move (ltB rfl) (.tmp rfl)) ?_
    refine JL.run (.yes rfl (ltB rfl) rfl rfl) (op_nilCheck (ltB rfl) (.tmp rfl) (fun e v h => by subst h; rfl)) ?_
    refine JL.pre (Imp.sub (ρ' := [(0, .one (.val (PTR gb_2 0))), (6, .one (.val (S rB false))), (8, .one (.val (PTR gb_2 0)))]) (.cons rfl (.cons rfl (.cons rfl .nil)))) ?_
    refine JL.at ⟨[(0, .one (.val (PTR gb_2 0))), (6, .one (.val (S rB false))), (8, .one (.val (PTR gb_2 0)))], [cvar gb_2 r_wire_Reader r_1], []⟩ ?_
    refine JL.run (.yes rfl (ltB rfl) rfl rfl) (op_fieldAddr (off := 2) (ltB rfl) tf75_2 (.tmp rfl)) ?_
    refine JL.run (.yes rfl (ltB rfl) rfl rfl) (op_loadS (j := 0) (ltB rfl) tS4 (.tmp rfl) rfl (Comp.trans (Comp.self r_wire_Reader r_1) (comp_wire_Reader_made r_1) (Nat.le_of_ble_eq_true rfl)) rfl rfl) ?_
    replace hx1 := lt1_inv hx1
    obtain ⟨v_3, hv_v_3, hx1⟩ := hx1
    refine JL.run (.yes rfl (ltB rfl) rfl rfl) (op_not (ltB rfl) (.tmp rfl) hv_v_3) ?_
    refine JL.cons rfl (op_pickF (ltB rfl) (.tmp rfl) rfl (.tmp rfl)) ?_
    refine JL.cons rfl (op_assign (ltB rfl) (.tmp rfl)) ?_
    refine JL.nil ?_
    replace hx1 := Option.some.inj hx1
    subst hx1
    exact JQ.join () (Imp.norm (js := [0]) rfl (.cons rfl (.cons rfl .nil)))

end Go.Proofs.Ytkbkdfcakpbojaa
