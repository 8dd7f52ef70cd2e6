/- Walks. -/
import Derived.Test.YtdncoiehmkcajaaT
import Derived.Test.YtdncoiehmkcajaaW8
namespace Go.Proofs.Ytdncoiehmkcajaa
open Go Fw
set_option linter.unusedVariables false
set_option maxRecDepth 100000
set_option maxHeartbeats 4000000

theorem sim_ref03_begun (k : Nat) (r : (Vector UInt32 8) × (List UInt32)) (hm : ref03_begun k = some r) : Sim Try.prog 28 [] [] (γ := Option Nat × Nat) (fun q => [cown q.1 (rU UInt32) r.2 0 q.2]) (fun q => .tup [.val (A (rV 8 (rU UInt32)) r.1), .val (HDR q.1 0 (List.length r.2) q.2)]) := by
  unfold ref03_begun at hm
  refine Sim.of Try.func28 rfl rfl (Nat.le_of_ble_eq_true rfl) (fun e0 w0 => ?_)
  refine JC.at ⟨[], [], []⟩ ?_
  refine JC.seq ?_
  refine JC.region ?_
  refine JL.consX rfl (op_alloc (ltB rfl) tZ49 zr49) (fun q => ?_)
  obtain ⟨gb_1, hqq⟩ : ∃ z, z = q := ⟨_, rfl⟩
  subst hqq
  refine JL.pre (Imp.sub (ρ' := [(0, .one (.val (PTR gb_1 0)))]) (.cons rfl .nil)) ?_
  refine JL.at ⟨[(0, .one (.val (PTR gb_1 0)))], [cvar gb_1 (rV 8 (rU UInt32)) (Vector.replicate 8 (0 : UInt32))], []⟩ ?_
  refine JL.cons rfl (op_assign (ltB rfl) HasO.nilH) ?_
  refine JL.nil ?_
  refine JQ.then ?_
  refine JC.seq ?_
  refine JC.region ?_
  refine JL.consX rfl (op_alloc (ltB rfl) tZ49 zr49) (fun q => ?_)
  obtain ⟨gb_2, hqq⟩ : ∃ z, z = q := ⟨_, rfl⟩
  subst hqq
  refine JL.pre (Imp.sub (ρ' := [(0, .one (.val (PTR gb_1 0))), (2, .one (.val (PTR gb_2 0)))]) (.cons rfl (.cons rfl .nil))) ?_
  refine JL.at ⟨[(0, .one (.val (PTR gb_1 0))), (2, .one (.val (PTR gb_2 0)))], [cvar gb_1 (rV 8 (rU UInt32)) (Vector.replicate 8 (0 : UInt32)), cvar gb_2 (rV 8 (rU UInt32)) (Vector.replicate 8 (0 : UInt32))], []⟩ ?_
  refine JL.nil ?_
  refine JQ.then ?_
  refine JC.seq ?_
  refine JC.region ?_
  refine JL.cons rfl (op_assign (ltB rfl) HasO.nilH) ?_
  refine JL.nil ?_
  refine JQ.then ?_
  replace hm := bnd_inv hm
  obtain ⟨⟨h_34, k_35⟩, hx1, hq1⟩ := hm
  refine JC.seqJ (γ := Option Nat × Nat) (stj := fun q => ⟨[(0, .one (.val (PTR gb_1 0))), (2, .one (.val (PTR gb_2 0))), (3, .one (.val (HDR q.1 0 (List.length k_35) q.2)))], [cvar gb_1 (rV 8 (rU UInt32)) (Vector.replicate 8 (0 : UInt32)), cvar gb_2 (rV 8 (rU UInt32)) h_34, cown q.1 (rU UInt32) k_35 0 q.2], []⟩) (fun q => ?_) ?_
  · obtain ⟨go_36, gc_37⟩ := q
    refine JC.at ⟨[(0, .one (.val (PTR gb_1 0))), (2, .one (.val (PTR gb_2 0))), (3, .one (.val (HDR go_36 0 (List.length k_35) gc_37)))], [cvar gb_1 (rV 8 (rU UInt32)) (Vector.replicate 8 (0 : UInt32)), cvar gb_2 (rV 8 (rU UInt32)) h_34, cown go_36 (rU UInt32) k_35 0 gc_37], []⟩ ?_
    refine JC.seq ?_
    refine JC.region ?_
    refine JL.cons rfl (op_loadA (j := 1) (ltB rfl) tA49 (.tmp rfl) rfl (Comp.self (rV 8 (rU UInt32)) h_34) rfl) ?_
    refine JL.cons rfl (op_move (ltB rfl) (.tmp rfl)) ?_
    refine JL.cons rfl (op_storeA (j := 0) tA49 (.tmp rfl) (.tmp rfl) rfl (UpdR.self (by rfl)) rfl) ?_
    refine JL.pre (Imp.norm (ρ' := [(0, .one (.val (PTR gb_1 0))), (44, .one (.val (HDR go_36 0 (List.length k_35) gc_37)))]) (js := [0, 1]) rfl (.cons rfl (.cons rfl .nil))) ?_
    refine JL.at ⟨[(0, .one (.val (PTR gb_1 0))), (44, .one (.val (HDR go_36 0 (List.length k_35) gc_37)))], [cvar gb_1 (rV 8 (rU UInt32)) h_34, cown go_36 (rU UInt32) k_35 0 gc_37], []⟩ ?_
    refine JL.cons rfl (op_assign (ltB rfl) (.tmp rfl)) ?_
    refine JL.nil ?_
    refine JQ.then ?_
    refine JC.ret ?_
    replace hq1 := Option.some.inj hq1
    subst hq1
    exact JQ.done (js := [1]) (ss := [.val (A (rV 8 (rU UInt32)) h_34), .val (HDR go_36 0 (List.length k_35) gc_37)]) (go_36, gc_37) (.inl rfl) (.nil rfl) rfl (.cons (.cellA (j := 0) tA49 rfl rfl) (.cons (.tmp rfl) .nil)) rfl rfl rfl
  · refine JC.seq ?_
    refine JC.region ?_
    refine JL.cons rfl (op_assign (ltB rfl) (HasO.cU (x := (2 : UInt64)) rfl (by decide))) ?_
    refine JL.nil ?_
    refine JQ.then ?_
    refine JC.block ?_
    refine JC.pre (Imp.nilown (rU UInt32)) ?_
    refine JC.pre ?_ (JC.loop (γ := Option Nat × Nat) (stf := fun s q => ⟨[(0, .one (.val (PTR gb_1 0))), (2, .one (.val (PTR gb_2 0))), (3, .one (.val (HDR q.1 0 (List.length s.2.1) q.2))), (4, .one (.val (S (rU UInt64) s.2.2)))], [cvar gb_1 (rV 8 (rU UInt32)) (Vector.replicate 8 (0 : UInt32)), cvar gb_2 (rV 8 (rU UInt32)) s.1, cown q.1 (rU UInt32) s.2.1 0 q.2], []⟩) (q := (none, 0)) hx1 ?_)
    · exact (Imp.norm (js := [0, 0, 0]) rfl (.cons rfl (.cons rfl (.cons rfl (.cons rfl .nil)))))
    · intro s q x hx hr
      obtain ⟨h_3, k_4, n_5⟩ := s
      obtain ⟨go_6, gc_7⟩ := q
      change ref03_begun.b1 k h_3 k_4 n_5 = some x at hx
      unfold ref03_begun.b1 at hx
      refine JC.at ⟨[(0, .one (.val (PTR gb_1 0))), (2, .one (.val (PTR gb_2 0))), (3, .one (.val (HDR go_6 0 (List.length k_4) gc_7))), (4, .one (.val (S (rU UInt64) n_5)))], [cvar gb_1 (rV 8 (rU UInt32)) (Vector.replicate 8 (0 : UInt32)), cvar gb_2 (rV 8 (rU UInt32)) h_3, cown go_6 (rU UInt32) k_4 0 gc_7], []⟩ ?_
      refine JC.seq ?_
      refine JC.seq ?_
      refine JC.region ?_
      refine JL.cons rfl (op_move (ltB rfl) (.tmp rfl)) ?_
      refine JL.cons rfl (op_lenH (ltB rfl) tu54 (.tmp rfl)) ?_
      replace hx := lt1_inv hx
      obtain ⟨v_8, hv_v_8, hx⟩ := hx
      refine JL.cons rfl (op_cmpI (ltB rfl) (.tmp rfl) .cI (congrArg some hv_v_8)) ?_
      refine JL.nil ?_
      refine JQ.then ?_
      replace hx := iteB_inv hx
      rcases hx with ⟨hc3, hx⟩ | ⟨hc3, hx⟩
      · refine JC.condT (.tmp rfl) hc3 ?_
        refine JC.skip ?_
        refine JQ.then ?_
        replace hx := bnd_inv hx
        obtain ⟨⟨h_29, k_30⟩, hx4, hq4⟩ := hx
        refine JC.seqJ (γ := Option Nat × Nat) (stj := fun q => ⟨[(0, .one (.val (PTR gb_1 0))), (2, .one (.val (PTR gb_2 0))), (3, .one (.val (HDR q.1 0 (List.length k_30) q.2))), (4, .one (.val (S (rU UInt64) n_5)))], [cvar gb_1 (rV 8 (rU UInt32)) (Vector.replicate 8 (0 : UInt32)), cvar gb_2 (rV 8 (rU UInt32)) h_29, cown q.1 (rU UInt32) k_30 0 q.2], []⟩) (fun q => ?_) ?_
        · obtain ⟨go_31, gc_32⟩ := q
          refine JC.at ⟨[(0, .one (.val (PTR gb_1 0))), (2, .one (.val (PTR gb_2 0))), (3, .one (.val (HDR go_31 0 (List.length k_30) gc_32))), (4, .one (.val (S (rU UInt64) n_5)))], [cvar gb_1 (rV 8 (rU UInt32)) (Vector.replicate 8 (0 : UInt32)), cvar gb_2 (rV 8 (rU UInt32)) h_29, cown go_31 (rU UInt32) k_30 0 gc_32], []⟩ ?_
          refine JC.region ?_
          refine JL.cons rfl (op_move (ltB rfl) (.tmp rfl)) ?_
          replace hq4 := lt1_inv hq4
          obtain ⟨v_33, hv_v_33, hq4⟩ := hq4
          refine JL.cons rfl (op_arU (ltB rfl) (.tmp rfl) (HasO.cU (x := (1 : UInt64)) rfl (by decide)) (congrArg some hv_v_33)) ?_
          refine JL.cons rfl (op_assign (ltB rfl) (.tmp rfl)) ?_
          refine JL.nil ?_
          replace hq4 := Option.some.inj hq4
          first | subst hq4 | clear hq4
          exact JQ.next (go_31, gc_32) rfl (Imp.norm (js := [0, 0, 0]) rfl (.cons rfl (.cons rfl (.cons rfl (.cons rfl .nil)))))
        · refine JC.block ?_
          refine JC.seq ?_
          refine JC.region ?_
          refine JL.cons rfl (op_assign (ltB rfl) .cB) ?_
          refine JL.nil ?_
          refine JQ.then ?_
          replace hx4 := bnd_inv hx4
          obtain ⟨is_18, hx5, hq5⟩ := hx4
          refine JC.seqJ (γ := Unit) (stj := fun q => ⟨[(0, .one (.val (PTR gb_1 0))), (2, .one (.val (PTR gb_2 0))), (3, .one (.val (HDR go_6 0 (List.length k_4) gc_7))), (4, .one (.val (S (rU UInt64) n_5))), (5, .one (.val (S rB is_18)))], [cvar gb_1 (rV 8 (rU UInt32)) (Vector.replicate 8 (0 : UInt32)), cvar gb_2 (rV 8 (rU UInt32)) h_3, cown go_6 (rU UInt32) k_4 0 gc_7], []⟩) (fun q => ?_) ?_
          · obtain _ := q
            refine JC.at ⟨[(0, .one (.val (PTR gb_1 0))), (2, .one (.val (PTR gb_2 0))), (3, .one (.val (HDR go_6 0 (List.length k_4) gc_7))), (4, .one (.val (S (rU UInt64) n_5))), (5, .one (.val (S rB is_18)))], [cvar gb_1 (rV 8 (rU UInt32)) (Vector.replicate 8 (0 : UInt32)), cvar gb_2 (rV 8 (rU UInt32)) h_3, cown go_6 (rU UInt32) k_4 0 gc_7], []⟩ ?_
            replace hq5 := bnd_inv hq5
            obtain ⟨h_24, hx14, hq14⟩ := hq5
            refine JC.seqJ (γ := Unit) (stj := fun q => ⟨[(0, .one (.val (PTR gb_1 0))), (2, .one (.val (PTR gb_2 0))), (3, .one (.val (HDR go_6 0 (List.length k_4) gc_7))), (4, .one (.val (S (rU UInt64) n_5))), (5, .one (.val (S rB is_18)))], [cvar gb_1 (rV 8 (rU UInt32)) (Vector.replicate 8 (0 : UInt32)), cvar gb_2 (rV 8 (rU UInt32)) h_24, cown go_6 (rU UInt32) k_4 0 gc_7], []⟩) (fun q => ?_) ?_
            · obtain _ := q
              refine JC.at ⟨[(0, .one (.val (PTR gb_1 0))), (2, .one (.val (PTR gb_2 0))), (3, .one (.val (HDR go_6 0 (List.length k_4) gc_7))), (4, .one (.val (S (rU UInt64) n_5))), (5, .one (.val (S rB is_18)))], [cvar gb_1 (rV 8 (rU UInt32)) (Vector.replicate 8 (0 : UInt32)), cvar gb_2 (rV 8 (rU UInt32)) h_24, cown go_6 (rU UInt32) k_4 0 gc_7], []⟩ ?_
              refine JC.seq ?_
              refine JC.region ?_
              refine JL.cons rfl (op_move (ltB rfl) (.tmp rfl)) ?_
              refine JL.nil ?_
              refine JQ.then ?_
              replace hq14 := iteB_inv hq14
              rcases hq14 with ⟨hc19, hq14⟩ | ⟨hc19, hq14⟩
              · refine JC.condT (.tmp rfl) hc19 ?_
                refine JC.region ?_
                refine JL.cons rfl (op_move (ltB rfl) (.tmp rfl)) ?_
                refine JL.cons rfl (op_move (ltB rfl) (.tmp rfl)) ?_
                replace hq14 := bnd_inv hq14
                obtain ⟨v_25, hv_v_25, hq14⟩ := hq14
                refine JL.consX rfl (op_call (js := []) (ltD rfl) cl35 (sim_ref03_root k n_5 (3 : Int) v_25 hv_v_25) .func (.cons (.tmp rfl) (.cons .cI .nil)) rfl) (fun _ => ?_)
                refine JL.cons rfl (op_buildF (r := (rU UInt32)) (ltB rfl) tu54 tz46 tZ46 rfl (Nat.le_of_ble_eq_true rfl) (.S rfl (.tmp rfl) .nil) rfl) ?_
                replace hq14 := bnd_inv hq14
                obtain ⟨k_26, hv_k_26, hq14⟩ := hq14
                refine JL.consX rfl (op_appendL (j := 2) (ltB rfl) tu54 tu54 rfl tB46 rfl (Nat.lt_of_lt_of_le Nat.zero_lt_one (Nat.le_of_ble_eq_true rfl)) (Nat.lt_of_lt_of_le Nat.zero_lt_one (Nat.le_of_ble_eq_true rfl))  rfl (.tmp rfl) (.tmp rfl) hv_k_26) (fun q => ?_)
                obtain ⟨go_27, gc_28⟩ := q
                refine JL.pre (Imp.sub (ρ' := [(0, .one (.val (PTR gb_1 0))), (2, .one (.val (PTR gb_2 0))), (4, .one (.val (S (rU UInt64) n_5))), (42, .one (.val (HDR go_27 0 (List.length k_26) gc_28)))]) (.cons rfl (.cons rfl (.cons rfl (.cons rfl .nil))))) ?_
                refine JL.at ⟨[(0, .one (.val (PTR gb_1 0))), (2, .one (.val (PTR gb_2 0))), (4, .one (.val (S (rU UInt64) n_5))), (42, .one (.val (HDR go_27 0 (List.length k_26) gc_28)))], [cvar gb_1 (rV 8 (rU UInt32)) (Vector.replicate 8 (0 : UInt32)), cvar gb_2 (rV 8 (rU UInt32)) h_24, cown go_27 (rU UInt32) k_26 0 gc_28], []⟩ ?_
                refine JL.cons rfl (op_assign (ltB rfl) (.tmp rfl)) ?_
                refine JL.nil ?_
                refine JQ.outNB ?_
                replace hq14 := Option.some.inj hq14
                replace hq14 := Prod.mk.inj hq14
                obtain ⟨hq14_a, hq14⟩ := hq14
                first | subst hq14_a | clear hq14_a
                first | subst hq14 | clear hq14
                exact JQ.join (go_27, gc_28) (Imp.norm (js := [0, 0, 0]) rfl (.cons rfl (.cons rfl (.cons rfl (.cons rfl .nil)))))
              · refine JC.condF (.tmp rfl) hc19 ?_
                refine JC.skip ?_
                refine JQ.outNB ?_
                replace hq14 := Option.some.inj hq14
                replace hq14 := Prod.mk.inj hq14
                obtain ⟨hq14_a, hq14⟩ := hq14
                first | subst hq14_a | clear hq14_a
                first | subst hq14 | clear hq14
                exact JQ.join (go_6, gc_7) (Imp.norm (js := [0, 0, 0]) rfl (.cons rfl (.cons rfl (.cons rfl (.cons rfl .nil)))))
            · replace hx14 := bnd_inv hx14
              obtain ⟨x_20, hx15, hq15⟩ := hx14
              refine JC.seqJ (γ := Unit) (stj := fun q => ⟨[(0, .one (.val (PTR gb_1 0))), (2, .one (.val (PTR gb_2 0))), (3, .one (.val (HDR go_6 0 (List.length k_4) gc_7))), (4, .one (.val (S (rU UInt64) n_5))), (5, .one (.val (S rB is_18))), (31, .one (.val (S rB x_20)))], [cvar gb_1 (rV 8 (rU UInt32)) (Vector.replicate 8 (0 : UInt32)), cvar gb_2 (rV 8 (rU UInt32)) h_3, cown go_6 (rU UInt32) k_4 0 gc_7], []⟩) (fun q => ?_) ?_
              · obtain _ := q
                refine JC.at ⟨[(0, .one (.val (PTR gb_1 0))), (2, .one (.val (PTR gb_2 0))), (3, .one (.val (HDR go_6 0 (List.length k_4) gc_7))), (4, .one (.val (S (rU UInt64) n_5))), (5, .one (.val (S rB is_18))), (31, .one (.val (S rB x_20)))], [cvar gb_1 (rV 8 (rU UInt32)) (Vector.replicate 8 (0 : UInt32)), cvar gb_2 (rV 8 (rU UInt32)) h_3, cown go_6 (rU UInt32) k_4 0 gc_7], []⟩ ?_
                replace hq15 := iteB_inv hq15
                rcases hq15 with ⟨hc18, hq15⟩ | ⟨hc18, hq15⟩
                · refine JC.condT (.tmp rfl) hc18 ?_
                  refine JC.region ?_
                  refine JL.cons rfl (op_move (ltB rfl) (.tmp rfl)) ?_
                  refine JL.cons rfl (op_lenH (ltB rfl) tu54 (.tmp rfl)) ?_
                  refine JL.cons rfl (op_move (ltB rfl) (.tmp rfl)) ?_
                  replace hq15 := bnd_inv hq15
                  obtain ⟨v_21, hv_v_21, hq15⟩ := hq15
                  refine JL.consX rfl (op_call (js := []) (ltD rfl) cl35 (sim_ref03_root k n_5 (2 : Int) v_21 hv_v_21) .func (.cons (.tmp rfl) (.cons .cI .nil)) rfl) (fun _ => ?_)
                  replace hq15 := bnd_inv hq15
                  obtain ⟨i_22, hv_i_22, hq15⟩ := hq15
                  refine JL.cons rfl (op_indexAddrIF (ltB rfl) tr49 (.tmp rfl) (.tmp rfl) hv_i_22) ?_
                  replace hq15 := lt1_inv hq15
                  obtain ⟨h_23, hv_h_23, hq15⟩ := hq15
                  refine JL.cons rfl (op_storeS (j := 1) tS46 (.tmp rfl) (.tmp rfl) rfl rfl (Upd.at (Comp.self (rV 8 (rU UInt32)) h_3) i_22.2 rfl (Upd.self (rV 8 (rU UInt32)) h_3 _)).R hv_h_23) ?_
                  refine JL.pre (Imp.sub (ρ' := [(0, .one (.val (PTR gb_1 0))), (2, .one (.val (PTR gb_2 0))), (3, .one (.val (HDR go_6 0 (List.length k_4) gc_7))), (4, .one (.val (S (rU UInt64) n_5))), (5, .one (.val (S rB is_18)))]) (.cons rfl (.cons rfl (.cons rfl (.cons rfl (.cons rfl .nil)))))) ?_
                  refine JL.at ⟨[(0, .one (.val (PTR gb_1 0))), (2, .one (.val (PTR gb_2 0))), (3, .one (.val (HDR go_6 0 (List.length k_4) gc_7))), (4, .one (.val (S (rU UInt64) n_5))), (5, .one (.val (S rB is_18)))], [cvar gb_1 (rV 8 (rU UInt32)) (Vector.replicate 8 (0 : UInt32)), cvar gb_2 (rV 8 (rU UInt32)) h_23, cown go_6 (rU UInt32) k_4 0 gc_7], []⟩ ?_
                  refine JL.nil ?_
                  replace hq15 := Option.some.inj hq15
                  first | subst hq15 | clear hq15
                  exact JQ.join () (Imp.norm (js := [0, 0, 0]) rfl (.cons rfl (.cons rfl (.cons rfl (.cons rfl (.cons rfl .nil))))))
                · refine JC.condF (.tmp rfl) hc18 ?_
                  refine JC.skip ?_
                  replace hq15 := Option.some.inj hq15
                  first | subst hq15 | clear hq15
                  exact JQ.join () (Imp.norm (js := [0, 0, 0]) rfl (.cons rfl (.cons rfl (.cons rfl (.cons rfl (.cons rfl .nil))))))
              · refine JC.region ?_
                refine JL.cons rfl (op_move (ltB rfl) (.tmp rfl)) ?_
                refine JL.cons rfl (op_move (ltB rfl) (.tmp rfl)) ?_
                replace hx15 := iteB_inv hx15
                rcases hx15 with ⟨hc17, hx15⟩ | ⟨hc17, hx15⟩
                · refine JL.run (.yes rfl (ltB rfl) rfl hc17) (op_move (ltB rfl) (.tmp rfl)) ?_
                  refine JL.run (.yes rfl (ltB rfl) rfl hc17) (op_lenH (ltB rfl) tu54 (.tmp rfl)) ?_
                  replace hx15 := lt1_inv hx15
                  obtain ⟨v_19, hv_v_19, hx15⟩ := hx15
                  refine JL.run (.yes rfl (ltB rfl) rfl hc17) (op_cmpI (ltB rfl) (.tmp rfl) .cI (congrArg some hv_v_19)) ?_
                  refine JL.cons rfl (op_pickT (ltB rfl) (.tmp rfl) hc17 (.tmp rfl)) ?_
                  refine JL.pre (Imp.sub (ρ' := [(0, .one (.val (PTR gb_1 0))), (2, .one (.val (PTR gb_2 0))), (3, .one (.val (HDR go_6 0 (List.length k_4) gc_7))), (4, .one (.val (S (rU UInt64) n_5))), (5, .one (.val (S rB is_18))), (31, .one (.val (S rB v_19)))]) (.cons rfl (.cons rfl (.cons rfl (.cons rfl (.cons rfl (.cons rfl .nil))))))) ?_
                  refine JL.at ⟨[(0, .one (.val (PTR gb_1 0))), (2, .one (.val (PTR gb_2 0))), (3, .one (.val (HDR go_6 0 (List.length k_4) gc_7))), (4, .one (.val (S (rU UInt64) n_5))), (5, .one (.val (S rB is_18))), (31, .one (.val (S rB v_19)))], [cvar gb_1 (rV 8 (rU UInt32)) (Vector.replicate 8 (0 : UInt32)), cvar gb_2 (rV 8 (rU UInt32)) h_3, cown go_6 (rU UInt32) k_4 0 gc_7], []⟩ ?_
                  refine JL.nil ?_
                  replace hx15 := Option.some.inj hx15
                  first | subst hx15 | clear hx15
                  exact JQ.join () (Imp.norm (js := [0, 0, 0]) rfl (.cons rfl (.cons rfl (.cons rfl (.cons rfl (.cons rfl (.cons rfl .nil)))))))
                · refine JL.skip (.no rfl (ltB rfl) rfl hc17) (fun d h => by cases h; exact ltB rfl) ?_
                  refine JL.skip (.no rfl (ltB rfl) rfl hc17) (fun d h => by cases h; exact ltB rfl) ?_
                  refine JL.skip (.no rfl (ltB rfl) rfl hc17) (fun d h => by cases h; exact ltB rfl) ?_
                  refine JL.cons rfl (op_pickF (ltB rfl) (.tmp rfl) hc17 .cB) ?_
                  refine JL.nil ?_
                  replace hx15 := Option.some.inj hx15
                  first | subst hx15 | clear hx15
                  exact JQ.join () (Imp.norm (js := [0, 0, 0]) rfl (.cons rfl (.cons rfl (.cons rfl (.cons rfl (.cons rfl (.cons rfl .nil)))))))
          · refine JC.seq ?_
            refine JC.region ?_
            refine JL.cons rfl (op_assign (ltB rfl) (HasO.cU (x := (2 : UInt64)) rfl (by decide))) ?_
            refine JL.nil ?_
            refine JQ.then ?_
            refine JC.block ?_
            refine JC.pre ?_ (JC.loop (γ := Unit) (stf := fun s q => ⟨[(0, .one (.val (PTR gb_1 0))), (2, .one (.val (PTR gb_2 0))), (3, .one (.val (HDR go_6 0 (List.length k_4) gc_7))), (4, .one (.val (S (rU UInt64) n_5))), (5, .one (.val (S rB s.1))), (6, .one (.val (S (rU UInt64) s.2)))], [cvar gb_1 (rV 8 (rU UInt32)) (Vector.replicate 8 (0 : UInt32)), cvar gb_2 (rV 8 (rU UInt32)) h_3, cown go_6 (rU UInt32) k_4 0 gc_7], []⟩) (q := ()) hx5 ?_)
            · exact (Imp.norm (js := [0, 0, 0]) rfl (.cons rfl (.cons rfl (.cons rfl (.cons rfl (.cons rfl (.cons rfl .nil)))))))
            · intro s q x hx hr
              obtain ⟨is_9, d_10⟩ := s
              obtain _ := q
              change ref03_begun.b2 k n_5 is_9 d_10 = some x at hx
              unfold ref03_begun.b2 at hx
              refine JC.at ⟨[(0, .one (.val (PTR gb_1 0))), (2, .one (.val (PTR gb_2 0))), (3, .one (.val (HDR go_6 0 (List.length k_4) gc_7))), (4, .one (.val (S (rU UInt64) n_5))), (5, .one (.val (S rB is_9))), (6, .one (.val (S (rU UInt64) d_10)))], [cvar gb_1 (rV 8 (rU UInt32)) (Vector.replicate 8 (0 : UInt32)), cvar gb_2 (rV 8 (rU UInt32)) h_3, cown go_6 (rU UInt32) k_4 0 gc_7], []⟩ ?_
              refine JC.seq ?_
              refine JC.seq ?_
              refine JC.region ?_
              refine JL.cons rfl (op_move (ltB rfl) (.tmp rfl)) ?_
              refine JL.cons rfl (op_move (ltB rfl) (.tmp rfl)) ?_
              replace hx := lt1_inv hx
              obtain ⟨v_11, hv_v_11, hx⟩ := hx
              refine JL.cons rfl (op_arU (ltB rfl) (.tmp rfl) (.tmp rfl) (congrArg some hv_v_11)) ?_
              refine JL.cons rfl (op_move (ltB rfl) (.tmp rfl)) ?_
              replace hx := lt1_inv hx
              obtain ⟨v_12, hv_v_12, hx⟩ := hx
              refine JL.cons rfl (op_cmpU (ltB rfl) (.tmp rfl) (.tmp rfl) (congrArg some hv_v_12)) ?_
              refine JL.nil ?_
              refine JQ.then ?_
              replace hx := iteB_inv hx
              rcases hx with ⟨hc7, hx⟩ | ⟨hc7, hx⟩
              · refine JC.condT (.tmp rfl) hc7 ?_
                refine JC.skip ?_
                refine JQ.then ?_
                replace hx := bnd_inv hx
                obtain ⟨is_16, hx8, hq8⟩ := hx
                refine JC.seqJ (γ := Unit) (stj := fun q => ⟨[(0, .one (.val (PTR gb_1 0))), (2, .one (.val (PTR gb_2 0))), (3, .one (.val (HDR go_6 0 (List.length k_4) gc_7))), (4, .one (.val (S (rU UInt64) n_5))), (5, .one (.val (S rB is_16))), (6, .one (.val (S (rU UInt64) d_10)))], [cvar gb_1 (rV 8 (rU UInt32)) (Vector.replicate 8 (0 : UInt32)), cvar gb_2 (rV 8 (rU UInt32)) h_3, cown go_6 (rU UInt32) k_4 0 gc_7], []⟩) (fun q => ?_) ?_
                · obtain _ := q
                  refine JC.at ⟨[(0, .one (.val (PTR gb_1 0))), (2, .one (.val (PTR gb_2 0))), (3, .one (.val (HDR go_6 0 (List.length k_4) gc_7))), (4, .one (.val (S (rU UInt64) n_5))), (5, .one (.val (S rB is_16))), (6, .one (.val (S (rU UInt64) d_10)))], [cvar gb_1 (rV 8 (rU UInt32)) (Vector.replicate 8 (0 : UInt32)), cvar gb_2 (rV 8 (rU UInt32)) h_3, cown go_6 (rU UInt32) k_4 0 gc_7], []⟩ ?_
                  refine JC.region ?_
                  refine JL.cons rfl (op_move (ltB rfl) (.tmp rfl)) ?_
                  replace hq8 := lt1_inv hq8
                  obtain ⟨v_17, hv_v_17, hq8⟩ := hq8
                  refine JL.cons rfl (op_arU (ltB rfl) (.tmp rfl) (HasO.cU (x := (1 : UInt64)) rfl (by decide)) (congrArg some hv_v_17)) ?_
                  refine JL.cons rfl (op_assign (ltB rfl) (.tmp rfl)) ?_
                  refine JL.nil ?_
                  replace hq8 := Option.some.inj hq8
                  first | subst hq8 | clear hq8
                  exact JQ.next () rfl (Imp.norm (js := [0, 0, 0]) rfl (.cons rfl (.cons rfl (.cons rfl (.cons rfl (.cons rfl (.cons rfl .nil)))))))
                · refine JC.block ?_
                  refine JC.region ?_
                  refine JL.cons rfl (op_move (ltB rfl) (.tmp rfl)) ?_
                  refine JL.pre (Imp.sub (ρ' := [(0, .one (.val (PTR gb_1 0))), (2, .one (.val (PTR gb_2 0))), (3, .one (.val (HDR go_6 0 (List.length k_4) gc_7))), (4, .one (.val (S (rU UInt64) n_5))), (5, .one (.val (S rB is_9))), (6, .one (.val (S (rU UInt64) d_10))), (19, .one (.val (S rB is_9)))]) (.cons rfl (.cons rfl (.cons rfl (.cons rfl (.cons rfl (.cons rfl (.cons rfl .nil)))))))) ?_
                  refine JL.at ⟨[(0, .one (.val (PTR gb_1 0))), (2, .one (.val (PTR gb_2 0))), (3, .one (.val (HDR go_6 0 (List.length k_4) gc_7))), (4, .one (.val (S (rU UInt64) n_5))), (5, .one (.val (S rB is_9))), (6, .one (.val (S (rU UInt64) d_10))), (19, .one (.val (S rB is_9)))], [cvar gb_1 (rV 8 (rU UInt32)) (Vector.replicate 8 (0 : UInt32)), cvar gb_2 (rV 8 (rU UInt32)) h_3, cown go_6 (rU UInt32) k_4 0 gc_7], []⟩ ?_
                  refine JL.cons rfl (op_move (ltB rfl) (.tmp rfl)) ?_
                  refine JL.cnd (sv := .one (.val (S (rU UInt64) n_5))) (Guard.isT (ltB rfl) rfl rfl) rfl (ltB rfl) (fun hq_9 => op_move (ltB rfl) (.tmp rfl)) ?_
                  refine JL.cnd (sv := .one (.val (S (rU UInt64) d_10))) (Guard.isT (ltB rfl) rfl rfl) rfl (ltB rfl) (fun hq_10 => op_move (ltB rfl) (.tmp rfl)) ?_
                  replace hx8 := bnd_inv hx8
                  obtain ⟨v_13, hv_v_13, hx8⟩ := hx8
                  refine JL.cnd (sv := .one (.val (S (rU UInt64) v_13))) (Guard.isT (ltB rfl) rfl rfl) rfl (ltB rfl) (fun hq_11 => op_arU (ltB rfl) (HasO.cnd (.tmp rfl) hq_11) (HasO.cnd (.tmp rfl) hq_11) (ifT hv_v_13 hq_11)) ?_
                  replace hx8 := lt1_inv hx8
                  obtain ⟨v_14, hv_v_14, hx8⟩ := hx8
                  refine JL.cnd (sv := .one (.val (S rB v_14))) (Guard.isT (ltB rfl) rfl rfl) rfl (ltB rfl) (fun hq_12 => op_cmpU (ltB rfl) (HasO.cnd (.tmp rfl) hq_12) (HasO.cU (x := (0 : UInt64)) rfl (by decide)) (congrArg some hv_v_14)) ?_
                  replace hx8 := lt1_inv hx8
                  obtain ⟨v_15, hv_v_15, hx8⟩ := hx8
                  refine JL.cons rfl (op_pickCS (ltB rfl) (.tmp rfl) (fun hb13 => (HasO.cnd (.tmp rfl) hb13)) (fun hb13 => .cB) hv_v_15) ?_
                  refine JL.pre (Imp.sub (ρ' := [(0, .one (.val (PTR gb_1 0))), (2, .one (.val (PTR gb_2 0))), (3, .one (.val (HDR go_6 0 (List.length k_4) gc_7))), (4, .one (.val (S (rU UInt64) n_5))), (5, .one (.val (S rB is_9))), (6, .one (.val (S (rU UInt64) d_10))), (25, .one (.val (S rB v_15)))]) (.cons rfl (.cons rfl (.cons rfl (.cons rfl (.cons rfl (.cons rfl (.cons rfl .nil)))))))) ?_
                  refine JL.at ⟨[(0, .one (.val (PTR gb_1 0))), (2, .one (.val (PTR gb_2 0))), (3, .one (.val (HDR go_6 0 (List.length k_4) gc_7))), (4, .one (.val (S (rU UInt64) n_5))), (5, .one (.val (S rB is_9))), (6, .one (.val (S (rU UInt64) d_10))), (25, .one (.val (S rB v_15)))], [cvar gb_1 (rV 8 (rU UInt32)) (Vector.replicate 8 (0 : UInt32)), cvar gb_2 (rV 8 (rU UInt32)) h_3, cown go_6 (rU UInt32) k_4 0 gc_7], []⟩ ?_
                  refine JL.cons rfl (op_assign (ltB rfl) (.tmp rfl)) ?_
                  refine JL.nil ?_
                  refine JQ.outNB ?_
                  replace hx8 := Option.some.inj hx8
                  first | subst hx8 | clear hx8
                  exact JQ.join () (Imp.norm (js := [0, 0, 0]) rfl (.cons rfl (.cons rfl (.cons rfl (.cons rfl (.cons rfl (.cons rfl .nil)))))))
              · refine JC.condF (.tmp rfl) hc7 ?_
                refine JC.exit ?_
                refine JQ.outX ?_
                replace hx := Option.some.inj hx
                first | subst hx | clear hx
                have ht := hr _ rfl
                have hq6 := congrArg some ht
                clear hr ht
                refine JQ.outX ?_
                refine JQ.here ?_
                replace hq6 := Option.some.inj hq6
                first | subst hq6 | clear hq6
                exact JQ.join () (Imp.norm (js := [0, 0, 0]) rfl (.cons rfl (.cons rfl (.cons rfl (.cons rfl (.cons rfl .nil))))))
      · refine JC.condF (.tmp rfl) hc3 ?_
        refine JC.exit ?_
        refine JQ.outX ?_
        replace hx := Option.some.inj hx
        first | subst hx | clear hx
        have ht := hr _ rfl
        have hq2 := congrArg some ht
        clear hr ht
        refine JQ.outX ?_
        refine JQ.here ?_
        replace hq2 := Option.some.inj hq2
        replace hq2 := Prod.mk.inj hq2
        obtain ⟨hq2_a, hq2⟩ := hq2
        first | subst hq2_a | clear hq2_a
        first | subst hq2 | clear hq2
        exact JQ.join (go_6, gc_7) (Imp.norm (js := [0, 0, 0]) rfl (.cons rfl (.cons rfl (.cons rfl .nil))))

theorem sim_ref01_Put (k : Nat) (n_1 : UInt64) (size_2 : Int) (r : (List UInt8)) (hm : ref01_Put k n_1 size_2 = some r) : Sim Try.prog 40 [S (rU UInt64) n_1, S (rI .i64) size_2] [] (γ := Option Nat) (fun q => [cown q (rU UInt8) r 0 (Int.toNat size_2)]) (fun q => .one (.val (HDR q 0 (List.length r) (Int.toNat size_2)))) := by
  unfold ref01_Put at hm
  refine Sim.of Try.func40 rfl rfl (Nat.le_of_ble_eq_true rfl) (fun e0 w0 => ?_)
  refine JC.at ⟨[(0, .one (.val (S (rU UInt64) n_1))), (1, .one (.val (S (rI .i64) size_2)))], [], []⟩ ?_
  refine JC.seq ?_
  refine JC.region ?_
  refine JL.cons rfl (op_assign (ltB rfl) HasO.nilH) ?_
  refine JL.nil ?_
  refine JQ.then ?_
  refine JC.seq ?_
  refine JC.region ?_
  refine JL.cons rfl (op_move (ltB rfl) (.tmp rfl)) ?_
  replace hm := bnd_inv hm
  obtain ⟨v_3, hv_v_3, hm⟩ := hm
  refine JL.consX rfl (op_makeOg (ltB rfl) tu25 tB5 zv5 (.tmp rfl) (.tmp rfl) hv_v_3) (fun q => ?_)
  obtain ⟨gb_4, hqq⟩ : ∃ z, z = q := ⟨_, rfl⟩
  subst hqq
  refine JL.pre (Imp.sub (ρ' := [(0, .one (.val (S (rU UInt64) n_1))), (1, .one (.val (S (rI .i64) size_2))), (8, .one (.val (HDR (some gb_4) 0 (List.length v_3) (Int.toNat size_2))))]) (.cons rfl (.cons rfl (.cons rfl .nil)))) ?_
  refine JL.at ⟨[(0, .one (.val (S (rU UInt64) n_1))), (1, .one (.val (S (rI .i64) size_2))), (8, .one (.val (HDR (some gb_4) 0 (List.length v_3) (Int.toNat size_2))))], [cown (some gb_4) (rU UInt8) v_3 0 (Int.toNat size_2)], []⟩ ?_
  refine JL.cons rfl (op_assign (ltB rfl) (.tmp rfl)) ?_
  refine JL.nil ?_
  refine JQ.then ?_
  replace hm := bnd_inv hm
  obtain ⟨b_16, hx1, hq1⟩ := hm
  refine JC.seqJ (γ := Unit) (stj := fun q => ⟨[(5, .one (.val (HDR (some gb_4) 0 (List.length b_16) (Int.toNat size_2))))], [cown (some gb_4) (rU UInt8) b_16 0 (Int.toNat size_2)], []⟩) (fun q => ?_) ?_
  · obtain _ := q
    refine JC.at ⟨[(5, .one (.val (HDR (some gb_4) 0 (List.length b_16) (Int.toNat size_2))))], [cown (some gb_4) (rU UInt8) b_16 0 (Int.toNat size_2)], []⟩ ?_
    refine JC.seq ?_
    refine JC.region ?_
    refine JL.cons rfl (op_move (ltB rfl) (.tmp rfl)) ?_
    refine JL.cons rfl (op_assign (ltB rfl) (.tmp rfl)) ?_
    refine JL.nil ?_
    refine JQ.then ?_
    refine JC.ret ?_
    replace hq1 := Option.some.inj hq1
    subst hq1
    exact JQ.done (js := [0]) (ss := [.val (HDR (some gb_4) 0 (List.length b_16) (Int.toNat size_2))]) (some gb_4) (.inl rfl) (.nil rfl) rfl (.cons (.tmp rfl) .nil) rfl rfl rfl
  · refine JC.seq ?_
    refine JC.region ?_
    refine JL.cons rfl (op_move (ltB rfl) (.tmp rfl)) ?_
    replace hx1 := lt1_inv hx1
    obtain ⟨v_5, hv_v_5, hx1⟩ := hx1
    refine JL.cons rfl (op_arI (ltB rfl) (.tmp rfl) .cI (congrArg some hv_v_5)) ?_
    refine JL.cons rfl (op_assign (ltB rfl) (.tmp rfl)) ?_
    refine JL.nil ?_
    refine JQ.then ?_
    refine JC.block ?_
    refine JC.pre ?_ (JC.loop (γ := Unit) (stf := fun s q => ⟨[(0, .one (.val (S (rU UInt64) s.1))), (5, .one (.val (HDR (some gb_4) 0 (List.length s.2.1) (Int.toNat size_2)))), (6, .one (.val (S (rI .i64) s.2.2)))], [cown (some gb_4) (rU UInt8) s.2.1 0 (Int.toNat size_2)], []⟩) (q := ()) hx1 ?_)
    · exact (Imp.norm (js := [0]) rfl (.cons rfl (.cons rfl (.cons rfl .nil))))
    · intro s q x hx hr
      obtain ⟨n_6, b_7, i_8⟩ := s
      obtain _ := q
      change ref01_Put.b1 k n_6 b_7 i_8 = some x at hx
      unfold ref01_Put.b1 at hx
      refine JC.at ⟨[(0, .one (.val (S (rU UInt64) n_6))), (5, .one (.val (HDR (some gb_4) 0 (List.length b_7) (Int.toNat size_2)))), (6, .one (.val (S (rI .i64) i_8)))], [cown (some gb_4) (rU UInt8) b_7 0 (Int.toNat size_2)], []⟩ ?_
      refine JC.seq ?_
      refine JC.seq ?_
      refine JC.region ?_
      refine JL.cons rfl (op_move (ltB rfl) (.tmp rfl)) ?_
      replace hx := lt1_inv hx
      obtain ⟨v_9, hv_v_9, hx⟩ := hx
      refine JL.cons rfl (op_cmpI (ltB rfl) (.tmp rfl) .cI (congrArg some hv_v_9)) ?_
      refine JL.nil ?_
      refine JQ.then ?_
      replace hx := iteB_inv hx
      rcases hx with ⟨hc3, hx⟩ | ⟨hc3, hx⟩
      · refine JC.condT (.tmp rfl) hc3 ?_
        refine JC.skip ?_
        refine JQ.then ?_
        refine JC.seq ?_
        refine JC.block ?_
        refine JC.seq ?_
        refine JC.region ?_
        refine JL.cons rfl (op_move (ltB rfl) (.tmp rfl)) ?_
        refine JL.cons rfl (op_move (ltB rfl) (.tmp rfl)) ?_
        refine JL.cons rfl (op_move (ltB rfl) (.tmp rfl)) ?_
        replace hx := bnd_inv hx
        obtain ⟨v_10, hv_v_10, hx⟩ := hx
        refine JL.cons rfl (op_arU (ltB rfl) (.tmp rfl) (HasO.cU (x := (256 : UInt64)) rfl (by decide)) hv_v_10) ?_
        refine JL.pre (Imp.sub (ρ' := [(0, .one (.val (S (rU UInt64) n_6))), (5, .one (.val (HDR (some gb_4) 0 (List.length b_7) (Int.toNat size_2)))), (6, .one (.val (S (rI .i64) i_8))), (15, .one (.val (HDR (some gb_4) 0 (List.length b_7) (Int.toNat size_2)))), (16, .one (.val (S (rI .i64) i_8))), (18, .one (.val (S (rU UInt64) v_10)))]) (.cons rfl (.cons rfl (.cons rfl (.cons rfl (.cons rfl (.cons rfl .nil))))))) ?_
        refine JL.at ⟨[(0, .one (.val (S (rU UInt64) n_6))), (5, .one (.val (HDR (some gb_4) 0 (List.length b_7) (Int.toNat size_2)))), (6, .one (.val (S (rI .i64) i_8))), (15, .one (.val (HDR (some gb_4) 0 (List.length b_7) (Int.toNat size_2)))), (16, .one (.val (S (rI .i64) i_8))), (18, .one (.val (S (rU UInt64) v_10)))], [cown (some gb_4) (rU UInt8) b_7 0 (Int.toNat size_2)], []⟩ ?_
        replace hx := lt1_inv hx
        obtain ⟨v_11, hv_v_11, hx⟩ := hx
        refine JL.cons rfl (op_convUU (ltB rfl) tu65 tu5 (.tmp rfl) hv_v_11) ?_
        replace hx := bnd_inv hx
        obtain ⟨i_12, hv_i_12, hx⟩ := hx
        refine JL.cons rfl (op_indexAddrOF (r := (rU UInt8)) (j := 0) (ltB rfl) tu25 tz5 rfl (.tmp rfl) (.tmp rfl) hv_i_12) ?_
        replace hx := bnd_inv hx
        obtain ⟨b_13, hv_b_13, hx⟩ := hx
        refine JL.cons rfl (op_storeOSg (r := (rU UInt8)) (j := 0) tS5 rfl rfl (.tmp rfl) (.tmp rfl) hv_b_13) ?_
        refine JL.pre (Imp.slot (s := 5) (q := HDR (some gb_4) 0 (List.length b_13) (Int.toNat size_2)) rfl (wkLen (setO'_len hv_b_13))) ?_
        refine JL.pre (Imp.slot (s := 15) (q := HDR (some gb_4) 0 (List.length b_13) (Int.toNat size_2)) rfl (wkLen (setO'_len hv_b_13))) ?_
        refine JL.pre (Imp.sub (ρ' := [(0, .one (.val (S (rU UInt64) n_6))), (5, .one (.val (HDR (some gb_4) 0 (List.length b_13) (Int.toNat size_2)))), (6, .one (.val (S (rI .i64) i_8)))]) (.cons rfl (.cons rfl (.cons rfl .nil)))) ?_
        refine JL.at ⟨[(0, .one (.val (S (rU UInt64) n_6))), (5, .one (.val (HDR (some gb_4) 0 (List.length b_13) (Int.toNat size_2)))), (6, .one (.val (S (rI .i64) i_8)))], [cown (some gb_4) (rU UInt8) b_13 0 (Int.toNat size_2)], []⟩ ?_
        refine JL.nil ?_
        refine JQ.then ?_
        refine JC.region ?_
        refine JL.cons rfl (op_move (ltB rfl) (.tmp rfl)) ?_
        replace hx := bnd_inv hx
        obtain ⟨v_14, hv_v_14, hx⟩ := hx
        refine JL.cons rfl (op_arU (ltB rfl) (.tmp rfl) (HasO.cU (x := (256 : UInt64)) rfl (by decide)) hv_v_14) ?_
        refine JL.cons rfl (op_assign (ltB rfl) (.tmp rfl)) ?_
        refine JL.nil ?_
        refine JQ.outNB ?_
        refine JQ.then ?_
        refine JC.region ?_
        refine JL.cons rfl (op_move (ltB rfl) (.tmp rfl)) ?_
        replace hx := lt1_inv hx
        obtain ⟨v_15, hv_v_15, hx⟩ := hx
        refine JL.cons rfl (op_arI (ltB rfl) (.tmp rfl) .cI (congrArg some hv_v_15)) ?_
        refine JL.cons rfl (op_assign (ltB rfl) (.tmp rfl)) ?_
        refine JL.pre (Imp.sub (ρ' := [(0, .one (.val (S (rU UInt64) v_14))), (5, .one (.val (HDR (some gb_4) 0 (List.length b_13) (Int.toNat size_2)))), (6, .one (.val (S (rI .i64) v_15)))]) (.cons rfl (.cons rfl (.cons rfl .nil)))) ?_
        refine JL.at ⟨[(0, .one (.val (S (rU UInt64) v_14))), (5, .one (.val (HDR (some gb_4) 0 (List.length b_13) (Int.toNat size_2)))), (6, .one (.val (S (rI .i64) v_15)))], [cown (some gb_4) (rU UInt8) b_13 0 (Int.toNat size_2)], []⟩ ?_
        refine JL.nil ?_
        replace hx := Option.some.inj hx
        first | subst hx | clear hx
        exact JQ.next () rfl (Imp.norm (js := [0]) rfl (.cons rfl (.cons rfl (.cons rfl .nil))))
      · refine JC.condF (.tmp rfl) hc3 ?_
        refine JC.exit ?_
        refine JQ.outX ?_
        replace hx := Option.some.inj hx
        first | subst hx | clear hx
        have ht := hr _ rfl
        have hq2 := congrArg some ht
        clear hr ht
        refine JQ.outX ?_
        refine JQ.here ?_
        replace hq2 := Option.some.inj hq2
        first | subst hq2 | clear hq2
        exact JQ.join () (Imp.norm (js := [0]) rfl (.cons rfl .nil))

end Go.Proofs.Ytdncoiehmkcajaa
