/- Walks. -/
import Derived.Test.YtkbkdfcakpbojaaT
import Derived.Test.YtkbkdfcakpbojaaW0
import Derived.Test.YtkbkdfcakpbojaaW1
import Derived.Test.YtkbkdfcakpbojaaW2
import Derived.Test.YtkbkdfcakpbojaaW4
import Derived.Test.YtkbkdfcakpbojaaW6
namespace Go.Proofs.Ytkbkdfcakpbojaa
open Go Fw
set_option linter.unusedVariables false
set_option maxRecDepth 100000
set_option maxHeartbeats 4000000

theorem sim_ref01_Reader_Number'2 (k : Nat) (size_1 : Int) (r_2 : ref01_Reader) (gb_3 : Nat) (r : UInt64 × ref01_Reader) (hm : ref01_Reader_Number'2 k size_1 r_2 = some r) : Sim Try.prog 42 [PTR gb_3 0, S (rI .i64) size_1] [cvar gb_3 r_ref01_Reader r_2] (γ := Unit) (fun q => [cvar gb_3 r_ref01_Reader r.2]) (fun q => .one (.val (S (rU UInt64) r.1))) := by
  unfold ref01_Reader_Number'2 at hm
  refine Sim.of Try.func42 rfl rfl (Nat.le_of_ble_eq_true rfl) (fun e0 w0 => ?_)
  refine JC.at ⟨[(0, .one (.val (PTR gb_3 0))), (1, .one (.val (S (rI .i64) size_1)))], [cvar gb_3 r_ref01_Reader r_2], []⟩ ?_
  refine JC.seq ?_
  refine JC.region ?_
  refine JL.cons rfl (op_assign (ltB rfl) (HasO.cU (x := (0 : UInt64)) rfl (by decide))) ?_
  refine JL.nil ?_
  refine JQ.then ?_
  obtain ⟨r_9, hx1, hq1⟩ := bnd_inv hm
  refine JC.seqJ (γ := Unit) (stj := fun q => ⟨[(0, .one (.val (PTR gb_3 0))), (1, .one (.val (S (rI .i64) size_1)))], [cvar gb_3 r_ref01_Reader r_9], []⟩) (fun q => ?_) ?_
  · obtain _ := q
    refine JC.at ⟨[(0, .one (.val (PTR gb_3 0))), (1, .one (.val (S (rI .i64) size_1)))], [cvar gb_3 r_ref01_Reader r_9], []⟩ ?_
    refine JC.seq ?_
    refine JC.region ?_
    refine JL.cons rfl (op_move (ltB rfl) (.tmp rfl)) ?_
    refine JL.cons rfl (op_move (ltB rfl) (.tmp rfl)) ?_
    replace hq1 := bnd_inv hq1
    obtain ⟨⟨v_10, x_11⟩, hv_v_10, hq1⟩ := hq1
    refine JL.consX rfl (op_call (js := [0]) (ltD rfl) cl46 (sim_ref01_Reader_Bytes k size_1 r_9 gb_3 (v_10, x_11) hv_v_10) .func (.cons (.tmp rfl) (.cons (.tmp rfl) .nil)) rfl) (fun _ => ?_)
    refine JL.pre (Imp.sub (ρ' := [(16, .one (.val (S (rL (rU UInt8)) v_10)))]) (.cons rfl .nil)) ?_
    refine JL.at ⟨[(16, .one (.val (S (rL (rU UInt8)) v_10)))], [cvar gb_3 r_ref01_Reader x_11], []⟩ ?_
    replace hq1 := bnd_inv hq1
    obtain ⟨v_12, hv_v_12, hq1⟩ := hq1
    refine JL.consX rfl (op_call (js := []) (ltD rfl) cl15 (sim_ref01_Get k v_10 v_12 hv_v_12) .func (.cons (.tmp rfl) .nil) rfl) (fun _ => ?_)
    refine JL.cons rfl (op_assign (ltB rfl) (.tmp rfl)) ?_
    refine JL.nil ?_
    refine JQ.then ?_
    refine JC.ret ?_
    replace hq1 := Option.some.inj hq1
    subst hq1
    exact JQ.done (js := [0]) (ss := [.val (S (rU UInt64) v_12)]) () (.inl rfl) (.nil rfl) rfl (.cons (.tmp rfl) .nil) rfl rfl rfl
  · obtain ⟨x_7, hx2, hq2⟩ := bnd_inv hx1
    refine JC.seqJ (γ := Unit) (stj := fun q => ⟨[(0, .one (.val (PTR gb_3 0))), (1, .one (.val (S (rI .i64) size_1))), (10, .one (.val (S rB x_7)))], [cvar gb_3 r_ref01_Reader r_2], []⟩) (fun q => ?_) ?_
    · obtain _ := q
      refine JC.at ⟨[(0, .one (.val (PTR gb_3 0))), (1, .one (.val (S (rI .i64) size_1))), (10, .one (.val (S rB x_7)))], [cvar gb_3 r_ref01_Reader r_2], []⟩ ?_
      rcases iteB_inv hq2 with ⟨hc6, hq2⟩ | ⟨hc6, hq2⟩
      · refine JC.condT (.tmp rfl) hc6 ?_
        refine JC.region ?_
        refine JL.cons rfl (op_move (ltB rfl) (.tmp rfl)) ?_
        refine JL.cons rfl (op_nilCheck (ltB rfl) (.tmp rfl) (fun e v h => by subst h; rfl)) ?_
        refine JL.cons rfl (op_fieldAddr (off := 2) (ltB rfl) tf40_2 (.tmp rfl)) ?_
        replace hq2 := lt1_inv hq2
        obtain ⟨r_8, hv_r_8, hq2⟩ := hq2
        refine JL.cons rfl (op_storeS (j := 0) tS4 (.tmp rfl) .cB rfl rfl (Upd.trans (Comp.self r_ref01_Reader r_2) (Upd.self r_ref01_Reader r_2 _) (upd_ref01_Reader_Failed r_2 true)).R hv_r_8) ?_
        refine JL.pre (Imp.sub (ρ' := [(0, .one (.val (PTR gb_3 0))), (1, .one (.val (S (rI .i64) size_1)))]) (.cons rfl (.cons rfl .nil))) ?_
        refine JL.at ⟨[(0, .one (.val (PTR gb_3 0))), (1, .one (.val (S (rI .i64) size_1)))], [cvar gb_3 r_ref01_Reader r_8], []⟩ ?_
        refine JL.nil ?_
        replace hq2 := Option.some.inj hq2
        subst hq2
        exact JQ.join () (Imp.norm (js := [0]) rfl (.cons rfl (.cons rfl .nil)))
      · refine JC.condF (.tmp rfl) hc6 ?_
        refine JC.skip ?_
        replace hq2 := Option.some.inj hq2
        subst hq2
        exact JQ.join () (Imp.norm (js := [0]) rfl (.cons rfl (.cons rfl .nil)))
    · refine JC.region ?_
      refine JL.cons rfl (op_move (ltB rfl) (.tmp rfl)) ?_
      replace hx2 := lt1_inv hx2
      obtain ⟨v_4, hv_v_4, hx2⟩ := hx2
      refine JL.cons rfl (op_cmpI (ltB rfl) (.tmp rfl) .cI (congrArg some hv_v_4)) ?_
      refine JL.cons rfl (op_move (ltB rfl) (.tmp rfl)) ?_
      refine JL.cnd (sv := .one (.val (S (rI .i64) size_1))) (Guard.isF (ltB rfl) rfl rfl) rfl (ltB rfl) (fun hq_3 => op_move (ltB rfl) (.tmp rfl)) ?_
      replace hx2 := lt1_inv hx2
      obtain ⟨v_5, hv_v_5, hx2⟩ := hx2
      refine JL.cnd (sv := .one (.val (S rB v_5))) (Guard.isF (ltB rfl) rfl rfl) rfl (ltB rfl) (fun hq_4 => op_cmpI (ltB rfl) (HasO.cnd (.tmp rfl) (notT (notF hq_4))) .cI (congrArg some hv_v_5)) ?_
      refine JL.pre (Imp.sub (ρ' := [(0, .one (.val (PTR gb_3 0))), (1, .one (.val (S (rI .i64) size_1))), (7, .one (.val (S rB v_4))), (9, bif (!v_4) then .one (.val (S rB v_5)) else .one .und)]) (.cons rfl (.cons rfl (.cons rfl (.cons rfl .nil))))) ?_
      refine JL.at ⟨[(0, .one (.val (PTR gb_3 0))), (1, .one (.val (S (rI .i64) size_1))), (7, .one (.val (S rB v_4))), (9, bif (!v_4) then .one (.val (S rB v_5)) else .one .und)], [cvar gb_3 r_ref01_Reader r_2], []⟩ ?_
      replace hx2 := lt1_inv hx2
      obtain ⟨v_6, hv_v_6, hx2⟩ := hx2
      refine JL.cons rfl (op_pickCS (ltB rfl) (.tmp rfl) (fun hb5 => .cB) (fun hb5 => (HasO.cnd (.tmp rfl) (notT hb5))) hv_v_6) ?_
      refine JL.nil ?_
      replace hx2 := Option.some.inj hx2
      subst hx2
      exact JQ.join () (Imp.norm (js := [0]) rfl (.cons rfl (.cons rfl (.cons rfl .nil))))

theorem sim_ref01_Reader_Blob (k : Nat) (B_1 : (List UInt8)) (At_2 : Int) (Failed_3 : Bool) (gb_4 : Nat) (r : (List UInt8) × ref01_Reader) (hm : ref01_Reader_Blob k B_1 At_2 Failed_3 = some r) : Sim Try.prog 43 [PTR gb_4 0] [cvar gb_4 (rP (rL (rU UInt8)) (rP (rI .i64) (rP rB r0))) (B_1, (At_2, (Failed_3, ())))] (γ := Unit) (fun q => [cvar gb_4 r_ref01_Reader r.2]) (fun q => .one (.val (S (rL (rU UInt8)) r.1))) := by
  unfold ref01_Reader_Blob at hm
  refine Sim.of Try.func43 rfl rfl (Nat.le_of_ble_eq_true rfl) (fun e0 w0 => ?_)
  refine JC.at ⟨[(0, .one (.val (PTR gb_4 0)))], [cvar gb_4 (rP (rL (rU UInt8)) (rP (rI .i64) (rP rB r0))) (B_1, (At_2, (Failed_3, ())))], []⟩ ?_
  refine JC.seq ?_
  refine JC.region ?_
  refine JL.cons rfl (op_assign (ltB rfl) HasO.nilH) ?_
  refine JL.nil ?_
  refine JQ.then ?_
  refine JC.seq ?_
  refine JC.region ?_
  refine JL.cons rfl (op_move (ltB rfl) (.tmp rfl)) ?_
  refine JL.cons rfl (op_move (ltB rfl) (.tmp rfl)) ?_
  replace hm := bnd_inv hm
  obtain ⟨⟨v_5, x_6⟩, hv_v_5, hm⟩ := hm
  refine JL.pre (Imp.var (j := 0) (q := r_ref01_Reader) (y := (ref01_Reader.mk B_1 At_2 Failed_3)) rfl (Wk.st Wk.refl)) ?_
  refine JL.consX rfl (op_call (js := [0]) (ltD rfl) cl42 (sim_ref01_Reader_Number'2 k (2 : Int) (ref01_Reader.mk B_1 At_2 Failed_3) gb_4 (v_5, x_6) hv_v_5) .func (.cons (.tmp rfl) (.cons .cI .nil)) rfl) (fun _ => ?_)
  refine JL.pre (Imp.sub (ρ' := [(2, .one (.val (HDR none 0 0 0))), (3, .one (.val (PTR gb_4 0))), (5, .one (.val (S (rU UInt64) v_5)))]) (.cons rfl (.cons rfl (.cons rfl .nil)))) ?_
  refine JL.at ⟨[(2, .one (.val (HDR none 0 0 0))), (3, .one (.val (PTR gb_4 0))), (5, .one (.val (S (rU UInt64) v_5)))], [cvar gb_4 r_ref01_Reader x_6], []⟩ ?_
  replace hm := lt1_inv hm
  obtain ⟨v_7, hv_v_7, hm⟩ := hm
  refine JL.cons rfl (op_convUI (ltB rfl) tu22 tu3 (.tmp rfl) hv_v_7) ?_
  replace hm := bnd_inv hm
  obtain ⟨⟨v_8, x_9⟩, hv_v_8, hm⟩ := hm
  refine JL.consX rfl (op_call (js := [0]) (ltD rfl) cl46 (sim_ref01_Reader_Bytes k v_7 x_6 gb_4 (v_8, x_9) hv_v_8) .func (.cons (.tmp rfl) (.cons (.tmp rfl) .nil)) rfl) (fun _ => ?_)
  refine JL.pre (Imp.sub (ρ' := [(2, .one (.val (HDR none 0 0 0))), (7, .one (.val (S (rL (rU UInt8)) v_8)))]) (.cons rfl (.cons rfl .nil))) ?_
  refine JL.at ⟨[(2, .one (.val (HDR none 0 0 0))), (7, .one (.val (S (rL (rU UInt8)) v_8)))], [cvar gb_4 r_ref01_Reader x_9], []⟩ ?_
  refine JL.cons rfl (op_assign (ltB rfl) (.tmp rfl)) ?_
  refine JL.nil ?_
  refine JQ.then ?_
  refine JC.ret ?_
  replace hm := Option.some.inj hm
  subst hm
  exact JQ.done (js := [0]) (ss := [.val (S (rL (rU UInt8)) v_8)]) () (.inl rfl) (.nil rfl) rfl (.cons (.tmp rfl) .nil) rfl rfl rfl

theorem sim_wire_Reader_Dot (k : Nat) (is_1 : Bool) (made_2 : Bool) (x_4 : (List UInt8)) (gb_3 : Nat) (go_5 : Option Nat) (gc_6 : Nat) (r : api_Dot × wire_Reader) (hm : wire_Reader_Dot k is_1 made_2 x_4 = some r) : Sim Try.prog 27 [PTR gb_3 0] [cvar gb_3 (rP (rW (HDR go_5 0 (List.length x_4) gc_6)) (rP rB (rP rB r0))) ((), (is_1, (made_2, ()))), cown go_5 (rU UInt8) x_4 0 gc_6] (γ := Unit) (fun q => [cvar gb_3 r_wire_Reader r.2, cown go_5 (rU UInt8) x_4 (List.length x_4) gc_6]) (fun q => .one (.val (A r_api_Dot r.1))) := by
  unfold wire_Reader_Dot at hm
  refine Sim.of Try.func27 rfl rfl (Nat.le_of_ble_eq_true rfl) (fun e0 w0 => ?_)
  refine JC.at ⟨[(0, .one (.val (PTR gb_3 0)))], [cvar gb_3 (rP (rW (HDR go_5 0 (List.length x_4) gc_6)) (rP rB (rP rB r0))) ((), (is_1, (made_2, ()))), cown go_5 (rU UInt8) x_4 0 gc_6], []⟩ ?_
  refine JC.seq ?_
  refine JC.region ?_
  refine JL.consX rfl (op_alloc (ltB rfl) tZ48 zr48) (fun q => ?_)
  obtain ⟨gb_7, hqq⟩ : ∃ z, z = q := ⟨_, rfl⟩
  subst hqq
  refine JL.pre (Imp.sub (ρ' := [(0, .one (.val (PTR gb_3 0))), (2, .one (.val (PTR gb_7 0)))]) (.cons rfl (.cons rfl .nil))) ?_
  refine JL.at ⟨[(0, .one (.val (PTR gb_3 0))), (2, .one (.val (PTR gb_7 0)))], [cvar gb_3 (rP (rW (HDR go_5 0 (List.length x_4) gc_6)) (rP rB (rP rB r0))) ((), (is_1, (made_2, ()))), cown go_5 (rU UInt8) x_4 0 gc_6, cvar gb_7 r_api_Dot (api_Dot.mk (0 : Int) (0 : UInt64))], []⟩ ?_
  refine JL.nil ?_
  refine JQ.then ?_
  refine JC.seq ?_
  refine JC.region ?_
  refine JL.cons rfl (op_move (ltB rfl) (.tmp rfl)) ?_
  replace hm := bnd_inv hm
  obtain ⟨⟨v_8, v_9, x_10, x_11, x_12⟩, hv_v_8, hm⟩ := hm
  refine JL.consX rfl (op_call (js := [0, 0]) (ltD rfl) cl47 (sim_wire_Reader_take k (9 : Int) is_1 made_2 x_4 gb_3 go_5 gc_6 (v_8, v_9, x_10, x_11, x_12) hv_v_8) .func (.cons (.tmp rfl) (.cons .cI .nil)) rfl) (fun _ => ?_)
  refine JL.pre (Imp.sub (ρ' := [(2, .one (.val (PTR gb_7 0))), (8, .tup [.val (S (rL (rU UInt8)) v_8), .val (S rB v_9)])]) (.cons rfl (.cons rfl .nil))) ?_
  refine JL.at ⟨[(2, .one (.val (PTR gb_7 0))), (8, .tup [.val (S (rL (rU UInt8)) v_8), .val (S rB v_9)])], [cvar gb_3 (rP (rL (rU UInt8)) (rP rB (rP rB r0))) (x_10, (x_11, (x_12, ()))), cown go_5 (rU UInt8) x_4 (List.length x_4) gc_6, cvar gb_7 r_api_Dot (api_Dot.mk (0 : Int) (0 : UInt64))], []⟩ ?_
  refine JL.cons rfl (op_move (ltB rfl) (.tmp rfl)) ?_
  refine JL.cons rfl (op_extract (i := 0) (ltB rfl) (.tmp rfl) rfl) ?_
  refine JL.cons rfl (op_extract (i := 1) (ltB rfl) (.tmp rfl) rfl) ?_
  refine JL.cons rfl (op_assign (ltB rfl) (.tmp rfl)) ?_
  refine JL.cons rfl (op_assign (ltB rfl) (.tmp rfl)) ?_
  refine JL.nil ?_
  refine JQ.then ?_
  refine JC.seq ?_
  refine JC.region ?_
  refine JL.cons rfl (op_move (ltB rfl) (.tmp rfl)) ?_
  refine JL.pre (Imp.sub (ρ' := [(2, .one (.val (PTR gb_7 0))), (11, .one (.val (S (rL (rU UInt8)) v_8)))]) (.cons rfl (.cons rfl .nil))) ?_
  refine JL.at ⟨[(2, .one (.val (PTR gb_7 0))), (11, .one (.val (S (rL (rU UInt8)) v_8)))], [cvar gb_3 (rP (rL (rU UInt8)) (rP rB (rP rB r0))) (x_10, (x_11, (x_12, ()))), cown go_5 (rU UInt8) x_4 (List.length x_4) gc_6, cvar gb_7 r_api_Dot (api_Dot.mk (0 : Int) (0 : UInt64))], []⟩ ?_
  replace hm := bnd_inv hm
  obtain ⟨v_13, hv_v_13, hm⟩ := hm
  refine JL.consX rfl (op_call (js := []) (ltD rfl) cl16 (sim_wire_Read k v_8 v_13 hv_v_13) .func (.cons (.tmp rfl) .nil) rfl) (fun q => ?_)
  obtain ⟨gb_14, go_15, gc_16⟩ := q
  refine JL.pre (Imp.sub (ρ' := [(2, .one (.val (PTR gb_7 0))), (12, .one (.val (PTR gb_14 0)))]) (.cons rfl (.cons rfl .nil))) ?_
  refine JL.at ⟨[(2, .one (.val (PTR gb_7 0))), (12, .one (.val (PTR gb_14 0)))], [cvar gb_14 (rP (rW (HDR go_15 0 (List.length v_13) gc_16)) (rP rB (rP rB r0))) ((), (true, (true, ()))), cown go_15 (rU UInt8) v_13 0 gc_16, cvar gb_3 (rP (rL (rU UInt8)) (rP rB (rP rB r0))) (x_10, (x_11, (x_12, ()))), cown go_5 (rU UInt8) x_4 (List.length x_4) gc_6, cvar gb_7 r_api_Dot (api_Dot.mk (0 : Int) (0 : UInt64))], []⟩ ?_
  refine JL.cons rfl (op_assign (ltB rfl) (.tmp rfl)) ?_
  refine JL.nil ?_
  refine JQ.then ?_
  refine JC.seq ?_
  refine JC.region ?_
  refine JL.cons rfl (op_move (ltB rfl) (.tmp rfl)) ?_
  replace hm := bnd_inv hm
  obtain ⟨⟨v_17, x_18⟩, hv_v_17, hm⟩ := hm
  refine JL.consX rfl (op_call (js := [0, 0]) (ltD rfl) cl39 (sim_wire_Reader_Number k (1 : Int) true true v_13 gb_14 go_15 gc_16 (v_17, x_18) hv_v_17) .func (.cons (.tmp rfl) (.cons .cI .nil)) rfl) (fun _ => ?_)
  refine JL.pre (Imp.norm (ρ' := [(2, .one (.val (PTR gb_7 0))), (5, .one (.val (PTR gb_14 0))), (14, .one (.val (S (rU UInt64) v_17)))]) (js := [0, 1, 1, 1]) rfl (.cons rfl (.cons rfl (.cons rfl .nil)))) ?_
  refine JL.at ⟨[(2, .one (.val (PTR gb_7 0))), (5, .one (.val (PTR gb_14 0))), (14, .one (.val (S (rU UInt64) v_17)))], [cvar gb_14 r_wire_Reader x_18, cvar gb_3 (rP (rL (rU UInt8)) (rP rB (rP rB r0))) (x_10, (x_11, (x_12, ()))), cown go_5 (rU UInt8) x_4 (List.length x_4) gc_6, cvar gb_7 r_api_Dot (api_Dot.mk (0 : Int) (0 : UInt64))], []⟩ ?_
  replace hm := lt1_inv hm
  obtain ⟨v_19, hv_v_19, hm⟩ := hm
  refine JL.cons rfl (op_convUI (ltB rfl) tu22 tu3 (.tmp rfl) hv_v_19) ?_
  refine JL.cons rfl (op_move (ltB rfl) (.tmp rfl)) ?_
  replace hm := bnd_inv hm
  obtain ⟨⟨v_20, x_21⟩, hv_v_20, hm⟩ := hm
  refine JL.consX rfl (op_call (js := [0]) (ltD rfl) cl39 (sim_wire_Reader_Number'2 k (8 : Int) x_18 gb_14 (v_20, x_21) hv_v_20) .func (.cons (.tmp rfl) (.cons .cI .nil)) rfl) (fun _ => ?_)
  refine JL.pre (Imp.norm (ρ' := [(2, .one (.val (PTR gb_7 0))), (15, .one (.val (S (rI .i64) v_19))), (17, .one (.val (S (rU UInt64) v_20)))]) (js := [1, 1, 1]) rfl (.cons rfl (.cons rfl (.cons rfl .nil)))) ?_
  refine JL.at ⟨[(2, .one (.val (PTR gb_7 0))), (15, .one (.val (S (rI .i64) v_19))), (17, .one (.val (S (rU UInt64) v_20)))], [cvar gb_3 (rP (rL (rU UInt8)) (rP rB (rP rB r0))) (x_10, (x_11, (x_12, ()))), cown go_5 (rU UInt8) x_4 (List.length x_4) gc_6, cvar gb_7 r_api_Dot (api_Dot.mk (0 : Int) (0 : UInt64))], []⟩ ?_
  refine JL.cons rfl (op_build (ltB rfl) tZ48 zs48 tp48 (.S (off := 0) rfl (.tmp rfl) rfl ((UpdR.fst (UpdR.self (by rfl))).at (by rfl)) (.S (off := 1) rfl (.tmp rfl) rfl ((UpdR.snd (UpdR.fst (UpdR.self (by rfl)))).at (by rfl)) .nil)) rfl) ?_
  refine JL.cons rfl (op_storeA (j := 2) tA48 (.tmp rfl) (.tmp rfl) rfl (UpdR.self (by rfl)) rfl) ?_
  refine JL.pre (Imp.sub (ρ' := [(2, .one (.val (PTR gb_7 0)))]) (.cons rfl .nil)) ?_
  refine JL.at ⟨[(2, .one (.val (PTR gb_7 0)))], [cvar gb_3 (rP (rL (rU UInt8)) (rP rB (rP rB r0))) (x_10, (x_11, (x_12, ()))), cown go_5 (rU UInt8) x_4 (List.length x_4) gc_6, cvar gb_7 (rP (rI .i64) (rP (rU UInt64) r0)) (v_19, (v_20, ()))], []⟩ ?_
  refine JL.nil ?_
  refine JQ.then ?_
  refine JC.ret ?_
  replace hm := Option.some.inj hm
  subst hm
  refine JQ.pre (Imp.var (j := 2) (q := r_api_Dot) (y := (api_Dot.mk v_19 v_20)) rfl (Wk.st Wk.refl)) ?_
  refine JQ.pre (Imp.var (j := 0) (q := r_wire_Reader) (y := (wire_Reader.mk x_10 x_11 x_12)) rfl (Wk.st Wk.refl)) ?_
  exact JQ.done (js := [0, 0]) (ss := [.val (A r_api_Dot (api_Dot.mk v_19 v_20))]) () (.inl rfl) (.nil rfl) rfl (.cons (.cellA (j := 2) tA48 rfl rfl) .nil) rfl rfl rfl

theorem sim_ref01_Reader_Dot (k : Nat) (r_1 : ref01_Reader) (gb_2 : Nat) (r : api_Dot × ref01_Reader) (hm : ref01_Reader_Dot k r_1 = some r) : Sim Try.prog 44 [PTR gb_2 0] [cvar gb_2 r_ref01_Reader r_1] (γ := Unit) (fun q => [cvar gb_2 r_ref01_Reader r.2]) (fun q => .one (.val (A r_api_Dot r.1))) := by
  unfold ref01_Reader_Dot at hm
  refine Sim.of Try.func44 rfl rfl (Nat.le_of_ble_eq_true rfl) (fun e0 w0 => ?_)
  refine JC.at ⟨[(0, .one (.val (PTR gb_2 0)))], [cvar gb_2 r_ref01_Reader r_1], []⟩ ?_
  refine JC.seq ?_
  refine JC.region ?_
  refine JL.consX rfl (op_alloc (ltB rfl) tZ48 zr48) (fun q => ?_)
  obtain ⟨gb_3, hqq⟩ : ∃ z, z = q := ⟨_, rfl⟩
  subst hqq
  refine JL.pre (Imp.sub (ρ' := [(0, .one (.val (PTR gb_2 0))), (2, .one (.val (PTR gb_3 0)))]) (.cons rfl (.cons rfl .nil))) ?_
  refine JL.at ⟨[(0, .one (.val (PTR gb_2 0))), (2, .one (.val (PTR gb_3 0)))], [cvar gb_2 r_ref01_Reader r_1, cvar gb_3 r_api_Dot (api_Dot.mk (0 : Int) (0 : UInt64))], []⟩ ?_
  refine JL.nil ?_
  refine JQ.then ?_
  refine JC.seq ?_
  refine JC.region ?_
  refine JL.cons rfl (op_move (ltB rfl) (.tmp rfl)) ?_
  replace hm := bnd_inv hm
  obtain ⟨⟨v_4, x_5⟩, hv_v_4, hm⟩ := hm
  refine JL.consX rfl (op_call (js := [0]) (ltD rfl) cl46 (sim_ref01_Reader_Bytes k (9 : Int) r_1 gb_2 (v_4, x_5) hv_v_4) .func (.cons (.tmp rfl) (.cons .cI .nil)) rfl) (fun _ => ?_)
  refine JL.pre (Imp.sub (ρ' := [(2, .one (.val (PTR gb_3 0))), (5, .one (.val (S (rL (rU UInt8)) v_4)))]) (.cons rfl (.cons rfl .nil))) ?_
  refine JL.at ⟨[(2, .one (.val (PTR gb_3 0))), (5, .one (.val (S (rL (rU UInt8)) v_4)))], [cvar gb_2 r_ref01_Reader x_5, cvar gb_3 r_api_Dot (api_Dot.mk (0 : Int) (0 : UInt64))], []⟩ ?_
  refine JL.cons rfl (op_assign (ltB rfl) (.tmp rfl)) ?_
  refine JL.nil ?_
  refine JQ.then ?_
  refine JC.seq ?_
  refine JC.seq ?_
  refine JC.region ?_
  refine JL.cons rfl (op_move (ltB rfl) (.tmp rfl)) ?_
  refine JL.cons rfl (op_lenL (ltB rfl) tu23 (.tmp rfl)) ?_
  replace hm := lt1_inv hm
  obtain ⟨v_6, hv_v_6, hm⟩ := hm
  refine JL.cons rfl (op_cmpI (ltB rfl) (.tmp rfl) .cI (congrArg some hv_v_6)) ?_
  refine JL.nil ?_
  refine JQ.then ?_
  rcases iteB_inv hm with ⟨hc1, hm⟩ | ⟨hc1, hm⟩
  · refine JC.condT (.tmp rfl) hc1 ?_
    refine JC.seq ?_
    refine JC.region ?_
    refine JL.cons rfl (op_build (ltB rfl) tZ48 zv48 tp48 .nil rfl) ?_
    refine JL.cons rfl (op_storeA (j := 1) tA48 (.tmp rfl) (.tmp rfl) rfl (UpdR.self (by rfl)) rfl) ?_
    refine JL.pre (Imp.sub (ρ' := [(2, .one (.val (PTR gb_3 0)))]) (.cons rfl .nil)) ?_
    refine JL.at ⟨[(2, .one (.val (PTR gb_3 0)))], [cvar gb_2 r_ref01_Reader x_5, cvar gb_3 r_api_Dot (api_Dot.mk (0 : Int) (0 : UInt64))], []⟩ ?_
    refine JL.nil ?_
    refine JQ.then ?_
    refine JC.ret ?_
    refine JQ.outR ?_
    replace hm := Option.some.inj hm
    subst hm
    exact JQ.done (js := [0]) (ss := [.val (A r_api_Dot (api_Dot.mk (0 : Int) (0 : UInt64)))]) () (.inl rfl) (.nil rfl) rfl (.cons (.cellA (j := 1) tA48 rfl rfl) .nil) rfl rfl rfl
  · refine JC.condF (.tmp rfl) hc1 ?_
    refine JC.skip ?_
    refine JQ.then ?_
    refine JC.seq ?_
    replace hm := bnd_inv hm
    obtain ⟨v_7, hv_v_7, hm⟩ := hm
    replace hm := lt1_inv hm
    obtain ⟨v_8, hv_v_8, hm⟩ := hm
    replace hm := bnd_inv hm
    obtain ⟨v_9, hv_v_9, hm⟩ := hm
    replace hm := bnd_inv hm
    obtain ⟨v_10, hv_v_10, hm⟩ := hm
    refine JC.anyE (base := [(2, .one (.val (PTR gb_3 0))), (3, .one (.val (S (rL (rU UInt8)) v_4)))])
        (fs := fun γ => [⟨some 10, .one (.val (S (rL (rU UInt8)) v_4))⟩, ⟨some 11, .one (.val (PT (rU UInt8) v_7))⟩, ⟨some 12, .one (.val (S (rU UInt8) v_7))⟩, ⟨some 13, .one (.val (S (rI .i64) v_8))⟩, ⟨some 14, .one (.val (S (rL (rU UInt8)) v_4))⟩, ⟨some 15, .one (.val (S (rL (rU UInt8)) v_9))⟩, ⟨some 16, .one (.val (S (rU UInt64) v_10))⟩, ⟨some 17, .one (.val (A (rP (rI .i64) (rP (rU UInt64) r0)) (v_8, (v_10, ()))))⟩, ⟨none, .one .any⟩])
        (rs := fun γ => [⟨cvar gb_2 r_ref01_Reader x_5, none, none, []⟩, ⟨cvar gb_3 r_api_Dot (api_Dot.mk (0 : Int) (0 : UInt64)), none, (some 8), []⟩, ⟨cvar gb_3 (rP (rI .i64) (rP (rU UInt64) r0)) (v_8, (v_10, ())), (some 8), none, []⟩])
        (ds := [10, 11, 12, 13, 14, 15, 16, 17]) (bs := [2, 3]) (afts := [[], [], [], [], [], [], [], [], []]) (js := [0, 0]) mixed (.cons rfl (.cons rfl .nil)) (fun _ => rfl)
        (by
      refine DSteps.cons (j := 1) rfl (fun _ => rfl) (.run (fun γ ρ B hb hd => ⟨.none, OpStep.at ⟨ρ, B, _⟩ (setO ⟨ρ, B, _⟩ (some 10) (.one (.val (S (rL (rU UInt8)) v_4)))) (op_move (ltB rfl) (.tmp (hb 3 _ rfl)))⟩)) ?_
      refine DSteps.cons (j := 2) rfl (fun _ => rfl) (.run (fun γ ρ B hb hd => ⟨.none, OpStep.at ⟨ρ, B, _⟩ (setO ⟨ρ, B, _⟩ (some 11) (.one (.val (PT (rU UInt8) v_7)))) (op_indexAddrLg (ltB rfl) tu23 tz5 (.tmp (hdl hd 0 10 rfl (by decide +kernel))) .cI hv_v_7)⟩)) ?_
      refine DSteps.cons (j := 3) rfl (fun _ => rfl) (.run (fun γ ρ B hb hd => ⟨.none, OpStep.at ⟨ρ, B, _⟩ (setO ⟨ρ, B, _⟩ (some 12) (.one (.val (S (rU UInt8) v_7)))) (op_loadPSg (ltB rfl) tS5 rfl (.tmp (hdl hd 1 11 rfl (by decide +kernel))) rfl)⟩)) ?_
      refine DSteps.cons (j := 4) rfl (fun _ => rfl) (.run (fun γ ρ B hb hd => ⟨.none, OpStep.at ⟨ρ, B, _⟩ (setO ⟨ρ, B, _⟩ (some 13) (.one (.val (S (rI .i64) v_8)))) (op_convUI (ltB rfl) tu5 tu3 (.tmp (hdl hd 2 12 rfl (by decide +kernel))) hv_v_8)⟩)) ?_
      refine DSteps.cons (j := 5) rfl (fun _ => rfl) (.run (fun γ ρ B hb hd => ⟨.none, OpStep.at ⟨ρ, B, _⟩ (setO ⟨ρ, B, _⟩ (some 14) (.one (.val (S (rL (rU UInt8)) v_4)))) (op_move (ltB rfl) (.tmp (hb 3 _ rfl)))⟩)) ?_
      refine DSteps.cons (j := 6) rfl (fun _ => rfl) (.run (fun γ ρ B hb hd => ⟨.none, OpStep.at ⟨ρ, B, _⟩ (setO ⟨ρ, B, _⟩ (some 15) (.one (.val (S (rL (rU UInt8)) v_9)))) (op_sliceLg (ltB rfl) tu23 tz5 (.tmp (hdl hd 4 14 rfl (by decide +kernel))) (.some .cI) .none hv_v_9)⟩)) ?_
      refine DSteps.cons (j := 7) rfl (fun _ => rfl) (.run (fun γ ρ B hb hd => ⟨.none, OpStep.at ⟨ρ, B, _⟩ (setO ⟨ρ, B, _⟩ (some 16) (.one (.val (S (rU UInt64) v_10)))) ((op_call (js := []) (ltD rfl) cl15 (sim_ref01_Get k v_9 v_10 hv_v_10) .func (.cons (.tmp (hdl hd 5 15 rfl (by decide +kernel))) .nil) rfl).post (fun _ => Imp.refl))⟩)) ?_
      refine DSteps.cons (j := 8) rfl (fun _ => rfl) (.run (fun γ ρ B hb hd => ⟨.none, OpStep.at ⟨ρ, B, _⟩ (setO ⟨ρ, B, _⟩ (some 17) (.one (.val (A (rP (rI .i64) (rP (rU UInt64) r0)) (v_8, (v_10, ())))))) (op_build (ltB rfl) tZ48 zs48 tp48 (.S (off := 0) rfl (.tmp (hdl hd 3 13 rfl (by decide +kernel))) rfl ((UpdR.fst (UpdR.self (by rfl))).at (by rfl)) (.S (off := 1) rfl (.tmp (hdl hd 6 16 rfl (by decide +kernel))) rfl ((UpdR.snd (UpdR.fst (UpdR.self (by rfl)))).at (by rfl)) .nil)) rfl)⟩)) ?_
      refine DSteps.cons (j := 9) rfl (fun _ => rfl) (.run (fun γ ρ B hb hd => ⟨.none, OpStep.at ⟨ρ, (cvar gb_3 r_api_Dot (api_Dot.mk (0 : Int) (0 : UInt64))) :: B, _⟩ (setO ⟨ρ, (cvar gb_3 (rP (rI .i64) (rP (rU UInt64) r0)) (v_8, (v_10, ()))) :: B, _⟩ (none) (.one .any)) (op_storeA (j := 0) tA48 (.tmp (hb 2 _ rfl)) (.tmp (hdl hd 7 17 rfl (by decide +kernel))) rfl (UpdR.self (by rfl)) rfl)⟩)) ?_
      exact DSteps.nil)
        (by decide +kernel) (fun _ => rfl) rfl (fun _ => rfl) (fun _ => rfl) rfl (by decide) (by decide)
        (ρ' := fun γ => [(2, .one (.val (PTR gb_3 0)))])
        (X' := fun γ => [cvar gb_2 r_ref01_Reader x_5, cvar gb_3 (rP (rI .i64) (rP (rU UInt64) r0)) (v_8, (v_10, ()))])
        (fun γ ρ hb hd => (.cons (hb 2 _ rfl) .nil)) (fun _ => rfl) (fun γ => ?_)
    refine JQ.at ⟨[(2, .one (.val (PTR gb_3 0)))], [cvar gb_2 r_ref01_Reader x_5, cvar gb_3 (rP (rI .i64) (rP (rU UInt64) r0)) (v_8, (v_10, ()))], []⟩ ?_
    refine JQ.then ?_
    refine JC.ret ?_
    replace hm := Option.some.inj hm
    subst hm
    refine JQ.pre (Imp.var (j := 1) (q := r_api_Dot) (y := (api_Dot.mk v_8 v_10)) rfl (Wk.st Wk.refl)) ?_
    exact JQ.done (js := [0]) (ss := [.val (A r_api_Dot (api_Dot.mk v_8 v_10))]) () (.inl rfl) (.nil rfl) rfl (.cons (.cellA (j := 1) tA48 rfl rfl) .nil) rfl rfl rfl

theorem sim_wire_Reader_Vector_1 (k : Nat) (is_2 : Bool) (made_3 : Bool) (x_5 : (List UInt8)) (gb_1 : Nat) (gb_4 : Nat) (go_6 : Option Nat) (gc_7 : Nat) (r : UInt64 × wire_Reader) (hm : wire_Reader_Vector_1 k is_2 made_3 x_5 = some r) : Sim Try.prog 48 [PTR gb_1 0] [cvar gb_1 (rW (PTR gb_4 0)) (), cvar gb_4 (rP (rW (HDR go_6 0 (List.length x_5) gc_7)) (rP rB (rP rB r0))) ((), (is_2, (made_3, ()))), cown go_6 (rU UInt8) x_5 0 gc_7] (γ := Unit) (fun q => [cvar gb_1 (rW (PTR gb_4 0)) (), cvar gb_4 r_wire_Reader r.2, cown go_6 (rU UInt8) x_5 (List.length x_5) gc_7]) (fun q => .one (.val (S (rU UInt64) r.1))) := by
  unfold wire_Reader_Vector_1 at hm
  refine Sim.of Try.func48 rfl rfl (Nat.le_of_ble_eq_true rfl) (fun e0 w0 => ?_)
  refine JC.at ⟨[(0, .one (.val (PTR gb_1 0)))], [cvar gb_1 (rW (PTR gb_4 0)) (), cvar gb_4 (rP (rW (HDR go_6 0 (List.length x_5) gc_7)) (rP rB (rP rB r0))) ((), (is_2, (made_3, ()))), cown go_6 (rU UInt8) x_5 0 gc_7], []⟩ ?_
  refine JC.seq ?_
  refine JC.region ?_
  refine JL.cons rfl (op_assign (ltB rfl) (HasO.cU (x := (0 : UInt64)) rfl (by decide))) ?_
  refine JL.nil ?_
  refine JQ.then ?_
  refine JC.seq ?_
  refine JC.region ?_
  refine JL.cons rfl (op_loadW (j := 0) (ltB rfl) tS36 (.tmp rfl) rfl (Comp.self (rW (PTR gb_4 0)) ())) ?_
  replace hm := bnd_inv hm
  obtain ⟨⟨v_8, x_9⟩, hv_v_8, hm⟩ := hm
  refine JL.consX rfl (op_call (js := [1, 1]) (ltD rfl) cl39 (sim_wire_Reader_Number k (8 : Int) is_2 made_3 x_5 gb_4 go_6 gc_7 (v_8, x_9) hv_v_8) .func (.cons (.tmp rfl) (.cons .cI .nil)) rfl) (fun _ => ?_)
  refine JL.pre (Imp.sub (ρ' := [(1, .one (.val (S (rU UInt64) (0 : UInt64)))), (3, .one (.val (S (rU UInt64) v_8)))]) (.cons rfl (.cons rfl .nil))) ?_
  refine JL.at ⟨[(1, .one (.val (S (rU UInt64) (0 : UInt64)))), (3, .one (.val (S (rU UInt64) v_8)))], [cvar gb_4 r_wire_Reader x_9, cown go_6 (rU UInt8) x_5 (List.length x_5) gc_7, cvar gb_1 (rW (PTR gb_4 0)) ()], []⟩ ?_
  refine JL.cons rfl (op_assign (ltB rfl) (.tmp rfl)) ?_
  refine JL.nil ?_
  refine JQ.then ?_
  refine JC.ret ?_
  replace hm := Option.some.inj hm
  subst hm
  exact JQ.done (js := [2, 0, 0]) (ss := [.val (S (rU UInt64) v_8)]) () (.inl rfl) (.nil rfl) rfl (.cons (.tmp rfl) .nil) rfl rfl rfl

theorem sim_wire_Reader_Vector_1'2 (k : Nat) (x_2 : wire_Reader) (gb_1 : Nat) (gb_3 : Nat) (r : UInt64 × wire_Reader) (hm : wire_Reader_Vector_1'2 k x_2 = some r) : Sim Try.prog 48 [PTR gb_1 0] [cvar gb_1 (rW (PTR gb_3 0)) (), cvar gb_3 r_wire_Reader x_2] (γ := Unit) (fun q => [cvar gb_1 (rW (PTR gb_3 0)) (), cvar gb_3 r_wire_Reader r.2]) (fun q => .one (.val (S (rU UInt64) r.1))) := by
  unfold wire_Reader_Vector_1'2 at hm
  refine Sim.of Try.func48 rfl rfl (Nat.le_of_ble_eq_true rfl) (fun e0 w0 => ?_)
  refine JC.at ⟨[(0, .one (.val (PTR gb_1 0)))], [cvar gb_1 (rW (PTR gb_3 0)) (), cvar gb_3 r_wire_Reader x_2], []⟩ ?_
  refine JC.seq ?_
  refine JC.region ?_
  refine JL.cons rfl (op_assign (ltB rfl) (HasO.cU (x := (0 : UInt64)) rfl (by decide))) ?_
  refine JL.nil ?_
  refine JQ.then ?_
  refine JC.seq ?_
  refine JC.region ?_
  refine JL.cons rfl (op_loadW (j := 0) (ltB rfl) tS36 (.tmp rfl) rfl (Comp.self (rW (PTR gb_3 0)) ())) ?_
  replace hm := bnd_inv hm
  obtain ⟨⟨v_4, x_5⟩, hv_v_4, hm⟩ := hm
  refine JL.consX rfl (op_call (js := [1]) (ltD rfl) cl39 (sim_wire_Reader_Number'2 k (8 : Int) x_2 gb_3 (v_4, x_5) hv_v_4) .func (.cons (.tmp rfl) (.cons .cI .nil)) rfl) (fun _ => ?_)
  refine JL.pre (Imp.sub (ρ' := [(1, .one (.val (S (rU UInt64) (0 : UInt64)))), (3, .one (.val (S (rU UInt64) v_4)))]) (.cons rfl (.cons rfl .nil))) ?_
  refine JL.at ⟨[(1, .one (.val (S (rU UInt64) (0 : UInt64)))), (3, .one (.val (S (rU UInt64) v_4)))], [cvar gb_3 r_wire_Reader x_5, cvar gb_1 (rW (PTR gb_3 0)) ()], []⟩ ?_
  refine JL.cons rfl (op_assign (ltB rfl) (.tmp rfl)) ?_
  refine JL.nil ?_
  refine JQ.then ?_
  refine JC.ret ?_
  replace hm := Option.some.inj hm
  subst hm
  exact JQ.done (js := [1, 0]) (ss := [.val (S (rU UInt64) v_4)]) () (.inl rfl) (.nil rfl) rfl (.cons (.tmp rfl) .nil) rfl rfl rfl

theorem sim_wire_Reader_Vector (k : Nat) (is_1 : Bool) (made_2 : Bool) (x_4 : (List UInt8)) (gb_3 : Nat) (go_5 : Option Nat) (gc_6 : Nat) (r : (Vector UInt64 16) × wire_Reader) (hm : wire_Reader_Vector k is_1 made_2 x_4 = some r) : Sim Try.prog 28 [PTR gb_3 0] [cvar gb_3 (rP (rW (HDR go_5 0 (List.length x_4) gc_6)) (rP rB (rP rB r0))) ((), (is_1, (made_2, ()))), cown go_5 (rU UInt8) x_4 0 gc_6] (γ := Unit) (fun q => [cvar gb_3 r_wire_Reader r.2, cown go_5 (rU UInt8) x_4 (List.length x_4) gc_6]) (fun q => .one (.val (A (rV 16 (rU UInt64)) r.1))) := by
  unfold wire_Reader_Vector at hm
  refine Sim.of Try.func28 rfl rfl (Nat.le_of_ble_eq_true rfl) (fun e0 w0 => ?_)
  refine JC.at ⟨[(0, .one (.val (PTR gb_3 0)))], [cvar gb_3 (rP (rW (HDR go_5 0 (List.length x_4) gc_6)) (rP rB (rP rB r0))) ((), (is_1, (made_2, ()))), cown go_5 (rU UInt8) x_4 0 gc_6], []⟩ ?_
  refine JC.seq ?_
  refine JC.region ?_
  refine JL.consX rfl (op_alloc (ltB rfl) tZ50 zr50) (fun q => ?_)
  obtain ⟨gb_7, hqq⟩ : ∃ z, z = q := ⟨_, rfl⟩
  subst hqq
  refine JL.pre (Imp.sub (ρ' := [(0, .one (.val (PTR gb_3 0))), (2, .one (.val (PTR gb_7 0)))]) (.cons rfl (.cons rfl .nil))) ?_
  refine JL.at ⟨[(0, .one (.val (PTR gb_3 0))), (2, .one (.val (PTR gb_7 0)))], [cvar gb_3 (rP (rW (HDR go_5 0 (List.length x_4) gc_6)) (rP rB (rP rB r0))) ((), (is_1, (made_2, ()))), cown go_5 (rU UInt8) x_4 0 gc_6, cvar gb_7 (rV 16 (rU UInt64)) (Vector.replicate 16 (0 : UInt64))], []⟩ ?_
  refine JL.nil ?_
  refine JQ.then ?_
  refine JC.seq ?_
  refine JC.region ?_
  refine JL.cons rfl (op_move (ltB rfl) (.tmp rfl)) ?_
  replace hm := bnd_inv hm
  obtain ⟨⟨v_8, v_9, x_10, x_11, x_12⟩, hv_v_8, hm⟩ := hm
  refine JL.consX rfl (op_call (js := [0, 0]) (ltD rfl) cl47 (sim_wire_Reader_take k (128 : Int) is_1 made_2 x_4 gb_3 go_5 gc_6 (v_8, v_9, x_10, x_11, x_12) hv_v_8) .func (.cons (.tmp rfl) (.cons .cI .nil)) rfl) (fun _ => ?_)
  refine JL.pre (Imp.sub (ρ' := [(2, .one (.val (PTR gb_7 0))), (10, .tup [.val (S (rL (rU UInt8)) v_8), .val (S rB v_9)])]) (.cons rfl (.cons rfl .nil))) ?_
  refine JL.at ⟨[(2, .one (.val (PTR gb_7 0))), (10, .tup [.val (S (rL (rU UInt8)) v_8), .val (S rB v_9)])], [cvar gb_3 (rP (rL (rU UInt8)) (rP rB (rP rB r0))) (x_10, (x_11, (x_12, ()))), cown go_5 (rU UInt8) x_4 (List.length x_4) gc_6, cvar gb_7 (rV 16 (rU UInt64)) (Vector.replicate 16 (0 : UInt64))], []⟩ ?_
  refine JL.cons rfl (op_move (ltB rfl) (.tmp rfl)) ?_
  refine JL.cons rfl (op_extract (i := 0) (ltB rfl) (.tmp rfl) rfl) ?_
  refine JL.cons rfl (op_extract (i := 1) (ltB rfl) (.tmp rfl) rfl) ?_
  refine JL.cons rfl (op_assign (ltB rfl) (.tmp rfl)) ?_
  refine JL.cons rfl (op_assign (ltB rfl) (.tmp rfl)) ?_
  refine JL.nil ?_
  refine JQ.then ?_
  refine JC.seq ?_
  refine JC.region ?_
  refine JL.cons rfl (op_move (ltB rfl) (.tmp rfl)) ?_
  refine JL.pre (Imp.sub (ρ' := [(2, .one (.val (PTR gb_7 0))), (13, .one (.val (S (rL (rU UInt8)) v_8)))]) (.cons rfl (.cons rfl .nil))) ?_
  refine JL.at ⟨[(2, .one (.val (PTR gb_7 0))), (13, .one (.val (S (rL (rU UInt8)) v_8)))], [cvar gb_3 (rP (rL (rU UInt8)) (rP rB (rP rB r0))) (x_10, (x_11, (x_12, ()))), cown go_5 (rU UInt8) x_4 (List.length x_4) gc_6, cvar gb_7 (rV 16 (rU UInt64)) (Vector.replicate 16 (0 : UInt64))], []⟩ ?_
  replace hm := bnd_inv hm
  obtain ⟨v_13, hv_v_13, hm⟩ := hm
  refine JL.consX rfl (op_call (js := []) (ltD rfl) cl16 (sim_wire_Read k v_8 v_13 hv_v_13) .func (.cons (.tmp rfl) .nil) rfl) (fun q => ?_)
  obtain ⟨gb_14, go_15, gc_16⟩ := q
  refine JL.pre (Imp.sub (ρ' := [(2, .one (.val (PTR gb_7 0))), (14, .one (.val (PTR gb_14 0)))]) (.cons rfl (.cons rfl .nil))) ?_
  refine JL.at ⟨[(2, .one (.val (PTR gb_7 0))), (14, .one (.val (PTR gb_14 0)))], [cvar gb_14 (rP (rW (HDR go_15 0 (List.length v_13) gc_16)) (rP rB (rP rB r0))) ((), (true, (true, ()))), cown go_15 (rU UInt8) v_13 0 gc_16, cvar gb_3 (rP (rL (rU UInt8)) (rP rB (rP rB r0))) (x_10, (x_11, (x_12, ()))), cown go_5 (rU UInt8) x_4 (List.length x_4) gc_6, cvar gb_7 (rV 16 (rU UInt64)) (Vector.replicate 16 (0 : UInt64))], []⟩ ?_
  refine JL.consX rfl (op_alloc (ltB rfl) tZ36 zr36) (fun q => ?_)
  obtain ⟨gb_17, hqq⟩ : ∃ z, z = q := ⟨_, rfl⟩
  subst hqq
  refine JL.pre (Imp.sub (ρ' := [(2, .one (.val (PTR gb_7 0))), (5, .one (.val (PTR gb_17 0))), (14, .one (.val (PTR gb_14 0)))]) (.cons rfl (.cons rfl (.cons rfl .nil)))) ?_
  refine JL.at ⟨[(2, .one (.val (PTR gb_7 0))), (5, .one (.val (PTR gb_17 0))), (14, .one (.val (PTR gb_14 0)))], [cvar gb_14 (rP (rW (HDR go_15 0 (List.length v_13) gc_16)) (rP rB (rP rB r0))) ((), (true, (true, ()))), cown go_15 (rU UInt8) v_13 0 gc_16, cvar gb_3 (rP (rL (rU UInt8)) (rP rB (rP rB r0))) (x_10, (x_11, (x_12, ()))), cown go_5 (rU UInt8) x_4 (List.length x_4) gc_6, cvar gb_7 (rV 16 (rU UInt64)) (Vector.replicate 16 (0 : UInt64)), cvar gb_17 (rW (PTO none)) ()], []⟩ ?_
  refine JL.cons rfl (op_storeW (j := 5) tS36 (.tmp rfl) (.tmp rfl) rfl (UpdR.self (by rfl)) rfl) ?_
  refine JL.pre (Imp.sub (ρ' := [(2, .one (.val (PTR gb_7 0))), (5, .one (.val (PTR gb_17 0)))]) (.cons rfl (.cons rfl .nil))) ?_
  refine JL.at ⟨[(2, .one (.val (PTR gb_7 0))), (5, .one (.val (PTR gb_17 0)))], [cvar gb_14 (rP (rW (HDR go_15 0 (List.length v_13) gc_16)) (rP rB (rP rB r0))) ((), (true, (true, ()))), cown go_15 (rU UInt8) v_13 0 gc_16, cvar gb_3 (rP (rL (rU UInt8)) (rP rB (rP rB r0))) (x_10, (x_11, (x_12, ()))), cown go_5 (rU UInt8) x_4 (List.length x_4) gc_6, cvar gb_7 (rV 16 (rU UInt64)) (Vector.replicate 16 (0 : UInt64)), cvar gb_17 (rW (PTR gb_14 0)) ()], []⟩ ?_
  refine JL.nil ?_
  refine JQ.then ?_
  refine JC.seq ?_
  refine JC.region ?_
  refine JL.cons rfl (op_makeFunc (ltB rfl) (.cons (.tmp rfl) .nil)) ?_
  refine JL.cons rfl (op_assign (ltB rfl) (.tmp rfl)) ?_
  refine JL.nil ?_
  refine JQ.then ?_
  obtain ⟨v_27, hx1, hq1⟩ := bnd_inv hm
  refine JC.seqJ (γ := Unit) (stj := fun q => ⟨[(2, .one (.val (PTR gb_7 0)))], [cvar gb_7 (rV 16 (rU UInt64)) v_27, cvar gb_3 (rP (rL (rU UInt8)) (rP rB (rP rB r0))) (x_10, (x_11, (x_12, ()))), cown go_5 (rU UInt8) x_4 (List.length x_4) gc_6], []⟩) (fun q => ?_) ?_
  · obtain _ := q
    refine JC.at ⟨[(2, .one (.val (PTR gb_7 0)))], [cvar gb_7 (rV 16 (rU UInt64)) v_27, cvar gb_3 (rP (rL (rU UInt8)) (rP rB (rP rB r0))) (x_10, (x_11, (x_12, ()))), cown go_5 (rU UInt8) x_4 (List.length x_4) gc_6], []⟩ ?_
    refine JC.seq ?_
    refine JC.region ?_
    refine JL.cons rfl (op_loadA (j := 0) (ltB rfl) tA50 (.tmp rfl) rfl (Comp.self (rV 16 (rU UInt64)) v_27) rfl) ?_
    refine JL.cons rfl (op_storeA (j := 0) tA50 (.tmp rfl) (.tmp rfl) rfl (UpdR.self (by rfl)) rfl) ?_
    refine JL.nil ?_
    refine JQ.then ?_
    refine JC.ret ?_
    replace hq1 := Option.some.inj hq1
    subst hq1
    refine JQ.pre (Imp.var (j := 1) (q := r_wire_Reader) (y := (wire_Reader.mk x_10 x_11 x_12)) rfl (Wk.st Wk.refl)) ?_
    exact JQ.done (js := [1, 1]) (ss := [.val (A (rV 16 (rU UInt64)) v_27)]) () (.inl rfl) (.nil rfl) rfl (.cons (.cellA (j := 0) tA50 rfl rfl) .nil) rfl rfl rfl
  · refine JC.seq ?_
    refine JC.region ?_
    refine JL.cons rfl (op_move (ltB rfl) .cI) ?_
    refine JL.nil ?_
    refine JQ.then ?_
    refine JC.block ?_
    refine JC.pre (Imp.frz (j := 1) rfl (ImpK.var (j := 0) (q := (rP (rW (HL go_15 (rU UInt8) v_13 gc_16)) (rP rB (rP rB r0)))) (y := ((), (true, (true, ())))) rfl (Wk.pair Wk.own (Wk.pair Wk.refl (Wk.pair Wk.refl Wk.refl))) ImpK.refl)) ?_
    refine JC.pre (Imp.var (j := 0) (q := r_wire_Reader) (y := (wire_Reader.mk v_13 true true)) rfl (Wk.st (Wk.pair Wk.hl (Wk.pair Wk.refl (Wk.pair Wk.refl Wk.refl))))) ?_
    refine JC.pre ?_ (JC.loop (γ := Unit) (stf := fun s q => ⟨[(2, .one (.val (PTR gb_7 0))), (6, .one (.val (CLO 48 [PTR gb_17 0]))), (16, .one (.val (S (rI .i64) s.2.2)))], [cvar gb_7 (rV 16 (rU UInt64)) s.1, cvar gb_17 (rW (PTR gb_14 0)) (), cvar gb_14 r_wire_Reader s.2.1, cvar gb_3 (rP (rL (rU UInt8)) (rP rB (rP rB r0))) (x_10, (x_11, (x_12, ()))), cown go_5 (rU UInt8) x_4 (List.length x_4) gc_6], []⟩) (q := ()) hx1 ?_)
    · exact (Imp.norm (js := [4, 4, 0, 1, 1]) rfl (.cons rfl (.cons rfl (.cons rfl .nil))))
    · intro s q x hx hr
      obtain ⟨v_18, x_19, x_20⟩ := s
      obtain _ := q
      change wire_Reader_Vector.b1 k v_18 x_19 x_20 = some x at hx
      unfold wire_Reader_Vector.b1 at hx
      refine JC.at ⟨[(2, .one (.val (PTR gb_7 0))), (6, .one (.val (CLO 48 [PTR gb_17 0]))), (16, .one (.val (S (rI .i64) x_20)))], [cvar gb_7 (rV 16 (rU UInt64)) v_18, cvar gb_17 (rW (PTR gb_14 0)) (), cvar gb_14 r_wire_Reader x_19, cvar gb_3 (rP (rL (rU UInt8)) (rP rB (rP rB r0))) (x_10, (x_11, (x_12, ()))), cown go_5 (rU UInt8) x_4 (List.length x_4) gc_6], []⟩ ?_
      refine JC.seq ?_
      refine JC.region ?_
      replace hx := lt1_inv hx
      obtain ⟨v_21, hv_v_21, hx⟩ := hx
      refine JL.cons rfl (op_cmpI (ltB rfl) (.tmp rfl) .cI (congrArg some hv_v_21)) ?_
      refine JL.nil ?_
      refine JQ.then ?_
      refine JC.seq ?_
      rcases iteB_inv hx with ⟨hc3, hx⟩ | ⟨hc3, hx⟩
      · refine JC.condT (.tmp rfl) hc3 ?_
        refine JC.skip ?_
        refine JQ.then ?_
        refine JC.seq ?_
        refine JC.block ?_
        refine JC.seq ?_
        refine JC.region ?_
        refine JL.cons rfl (op_move (ltB rfl) (.tmp rfl)) ?_
        refine JL.cons rfl (op_assign (ltB rfl) (.tmp rfl)) ?_
        refine JL.nil ?_
        refine JQ.then ?_
        refine JC.region ?_
        refine JL.cons rfl (op_move (ltB rfl) (.tmp rfl)) ?_
        refine JL.cons rfl (op_move (ltB rfl) (.tmp rfl)) ?_
        replace hx := bnd_inv hx
        obtain ⟨⟨v_22, x_23⟩, hv_v_22, hx⟩ := hx
        refine JL.consX rfl (op_call (js := [1, 1]) (ltD rfl) cl48 (sim_wire_Reader_Vector_1'2 k x_19 gb_17 gb_14 (v_22, x_23) hv_v_22) (.tmp rfl) .nil rfl) (fun _ => ?_)
        refine JL.pre (Imp.sub (ρ' := [(2, .one (.val (PTR gb_7 0))), (6, .one (.val (CLO 48 [PTR gb_17 0]))), (16, .one (.val (S (rI .i64) x_20))), (19, .one (.val (S (rI .i64) x_20))), (21, .one (.val (S (rU UInt64) v_22)))]) (.cons rfl (.cons rfl (.cons rfl (.cons rfl (.cons rfl .nil)))))) ?_
        refine JL.at ⟨[(2, .one (.val (PTR gb_7 0))), (6, .one (.val (CLO 48 [PTR gb_17 0]))), (16, .one (.val (S (rI .i64) x_20))), (19, .one (.val (S (rI .i64) x_20))), (21, .one (.val (S (rU UInt64) v_22)))], [cvar gb_17 (rW (PTR gb_14 0)) (), cvar gb_14 r_wire_Reader x_23, cvar gb_7 (rV 16 (rU UInt64)) v_18, cvar gb_3 (rP (rL (rU UInt8)) (rP rB (rP rB r0))) (x_10, (x_11, (x_12, ()))), cown go_5 (rU UInt8) x_4 (List.length x_4) gc_6], []⟩ ?_
        replace hx := bnd_inv hx
        obtain ⟨i_24, hv_i_24, hx⟩ := hx
        refine JL.cons rfl (op_indexAddrIF (ltB rfl) tr50 (.tmp rfl) (.tmp rfl) hv_i_24) ?_
        replace hx := lt1_inv hx
        obtain ⟨v_25, hv_v_25, hx⟩ := hx
        refine JL.cons rfl (op_storeS (j := 2) tS22 (.tmp rfl) (.tmp rfl) rfl rfl (Upd.at (Comp.self (rV 16 (rU UInt64)) v_18) i_24.2 rfl (Upd.self (rV 16 (rU UInt64)) v_18 _)).R hv_v_25) ?_
        refine JL.pre (Imp.sub (ρ' := [(2, .one (.val (PTR gb_7 0))), (6, .one (.val (CLO 48 [PTR gb_17 0]))), (16, .one (.val (S (rI .i64) x_20)))]) (.cons rfl (.cons rfl (.cons rfl .nil)))) ?_
        refine JL.at ⟨[(2, .one (.val (PTR gb_7 0))), (6, .one (.val (CLO 48 [PTR gb_17 0]))), (16, .one (.val (S (rI .i64) x_20)))], [cvar gb_17 (rW (PTR gb_14 0)) (), cvar gb_14 r_wire_Reader x_23, cvar gb_7 (rV 16 (rU UInt64)) v_25, cvar gb_3 (rP (rL (rU UInt8)) (rP rB (rP rB r0))) (x_10, (x_11, (x_12, ()))), cown go_5 (rU UInt8) x_4 (List.length x_4) gc_6], []⟩ ?_
        refine JL.nil ?_
        refine JQ.outNB ?_
        refine JQ.then ?_
        refine JC.region ?_
        replace hx := lt1_inv hx
        obtain ⟨v_26, hv_v_26, hx⟩ := hx
        refine JL.cons rfl (op_arI (ltB rfl) (.tmp rfl) .cI (congrArg some hv_v_26)) ?_
        refine JL.cons rfl (op_move (ltB rfl) (.tmp rfl)) ?_
        refine JL.nil ?_
        replace hx := Option.some.inj hx
        subst hx
        exact JQ.next () rfl (Imp.norm (js := [2, 0, 0, 0, 0]) rfl (.cons rfl (.cons rfl (.cons rfl .nil))))
      · refine JC.condF (.tmp rfl) hc3 ?_
        refine JC.exit ?_
        refine JQ.outX ?_
        replace hx := Option.some.inj hx
        subst hx
        have ht := hr _ rfl
        have hq2 := congrArg some ht
        clear hr ht
        refine JQ.outX ?_
        refine JQ.here ?_
        replace hq2 := Option.some.inj hq2
        subst hq2
        exact JQ.join () (Imp.norm (js := [0, 2, 2]) rfl (.cons rfl .nil))

end Go.Proofs.Ytkbkdfcakpbojaa
