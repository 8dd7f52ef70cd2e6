/- Walks. -/
import Derived.Test.YtdncoiehmkcajaaT
import Derived.Test.YtdncoiehmkcajaaW18
namespace Go.Proofs.Ytdncoiehmkcajaa
open Go Fw
set_option linter.unusedVariables false
set_option maxRecDepth 100000
set_option maxHeartbeats 4000000

theorem sim_ref03_Of (k : Nat) (s_1 : (List UInt8)) (r : (Vector UInt8 32) × Bool) (hm : ref03_Of k s_1 = some r) : Sim Try.prog 19 [S rS s_1] [] (γ := Unit) (fun q => []) (fun q => .tup [.val (A (rV 32 (rU UInt8)) r.1), .val (S rB r.2)]) := by
  unfold ref03_Of at hm
  refine Sim.of Try.func19 rfl rfl (Nat.le_of_ble_eq_true rfl) (fun e0 w0 => ?_)
  refine JC.at ⟨[(0, .one (.val (S rS s_1)))], [], []⟩ ?_
  refine JC.seq ?_
  refine JC.region ?_
  refine JL.consX rfl (op_alloc (ltB rfl) tZ28 zr28) (fun q => ?_)
  obtain ⟨gb_2, hqq⟩ : ∃ z, z = q := ⟨_, rfl⟩
  subst hqq
  refine JL.pre (Imp.sub (ρ' := [(0, .one (.val (S rS s_1))), (2, .one (.val (PTR gb_2 0)))]) (.cons rfl (.cons rfl .nil))) ?_
  refine JL.at ⟨[(0, .one (.val (S rS s_1))), (2, .one (.val (PTR gb_2 0)))], [cvar gb_2 (rV 32 (rU UInt8)) (Vector.replicate 32 (0 : UInt8))], []⟩ ?_
  refine JL.cons rfl (op_assign (ltB rfl) .cB) ?_
  refine JL.nil ?_
  refine JQ.then ?_
  refine JC.seq ?_
  refine JC.region ?_
  refine JL.consX rfl (op_alloc (ltB rfl) tZ28 zr28) (fun q => ?_)
  obtain ⟨gb_3, hqq⟩ : ∃ z, z = q := ⟨_, rfl⟩
  subst hqq
  refine JL.pre (Imp.sub (ρ' := [(0, .one (.val (S rS s_1))), (2, .one (.val (PTR gb_2 0))), (4, .one (.val (PTR gb_3 0)))]) (.cons rfl (.cons rfl (.cons rfl .nil)))) ?_
  refine JL.at ⟨[(0, .one (.val (S rS s_1))), (2, .one (.val (PTR gb_2 0))), (4, .one (.val (PTR gb_3 0)))], [cvar gb_2 (rV 32 (rU UInt8)) (Vector.replicate 32 (0 : UInt8)), cvar gb_3 (rV 32 (rU UInt8)) (Vector.replicate 32 (0 : UInt8))], []⟩ ?_
  refine JL.nil ?_
  refine JQ.then ?_
  refine JC.seq ?_
  refine JC.region ?_
  refine JL.cons rfl (op_move (ltB rfl) (.tmp rfl)) ?_
  replace hm := bnd_inv hm
  obtain ⟨⟨v_4, v_5⟩, hv_v_4, hm⟩ := hm
  refine JL.consX rfl (op_call (js := []) (ltD rfl) cl32 (sim_ref01_Unhex k s_1 (v_4, v_5) hv_v_4) .func (.cons (.tmp rfl) .nil) rfl) (fun q => ?_)
  obtain ⟨go_6, gc_7⟩ := q
  refine JL.pre (Imp.sub (ρ' := [(2, .one (.val (PTR gb_2 0))), (4, .one (.val (PTR gb_3 0))), (9, .tup [.val (HDR go_6 0 (List.length v_4) gc_7), .val (S rB v_5)])]) (.cons rfl (.cons rfl (.cons rfl .nil)))) ?_
  refine JL.at ⟨[(2, .one (.val (PTR gb_2 0))), (4, .one (.val (PTR gb_3 0))), (9, .tup [.val (HDR go_6 0 (List.length v_4) gc_7), .val (S rB v_5)])], [cown go_6 (rU UInt8) v_4 0 gc_7, cvar gb_2 (rV 32 (rU UInt8)) (Vector.replicate 32 (0 : UInt8)), cvar gb_3 (rV 32 (rU UInt8)) (Vector.replicate 32 (0 : UInt8))], []⟩ ?_
  refine JL.cons rfl (op_move (ltB rfl) (.tmp rfl)) ?_
  refine JL.cons rfl (op_extract (i := 0) (ltB rfl) (.tmp rfl) rfl) ?_
  refine JL.cons rfl (op_extract (i := 1) (ltB rfl) (.tmp rfl) rfl) ?_
  refine JL.cons rfl (op_assign (ltB rfl) (.tmp rfl)) ?_
  refine JL.cons rfl (op_assign (ltB rfl) (.tmp rfl)) ?_
  refine JL.nil ?_
  refine JQ.then ?_
  refine JC.seq ?_
  replace hm := bnd_inv hm
  obtain ⟨x_10, hx1, hq1⟩ := hm
  refine JC.seqJ (γ := Unit) (stj := fun q => ⟨[(2, .one (.val (PTR gb_2 0))), (4, .one (.val (PTR gb_3 0))), (5, .one (.val (HDR go_6 0 (List.length v_4) gc_7))), (18, .one (.val (S rB x_10)))], [cvar gb_2 (rV 32 (rU UInt8)) (Vector.replicate 32 (0 : UInt8)), cvar gb_3 (rV 32 (rU UInt8)) (Vector.replicate 32 (0 : UInt8)), cown go_6 (rU UInt8) v_4 0 gc_7], []⟩) (fun q => ?_) ?_
  · obtain _ := q
    refine JC.at ⟨[(2, .one (.val (PTR gb_2 0))), (4, .one (.val (PTR gb_3 0))), (5, .one (.val (HDR go_6 0 (List.length v_4) gc_7))), (18, .one (.val (S rB x_10)))], [cvar gb_2 (rV 32 (rU UInt8)) (Vector.replicate 32 (0 : UInt8)), cvar gb_3 (rV 32 (rU UInt8)) (Vector.replicate 32 (0 : UInt8)), cown go_6 (rU UInt8) v_4 0 gc_7], []⟩ ?_
    replace hq1 := iteB_inv hq1
    rcases hq1 with ⟨hc4, hq1⟩ | ⟨hc4, hq1⟩
    · refine JC.condT (.tmp rfl) hc4 ?_
      refine JC.seq ?_
      refine JC.region ?_
      refine JL.cons rfl (op_loadA (j := 1) (ltB rfl) tA28 (.tmp rfl) rfl (Comp.self (rV 32 (rU UInt8)) (Vector.replicate 32 (0 : UInt8))) rfl) ?_
      refine JL.cons rfl (op_storeA (j := 0) tA28 (.tmp rfl) (.tmp rfl) rfl (UpdR.self (by rfl)) rfl) ?_
      refine JL.cons rfl (op_assign (ltB rfl) .cB) ?_
      refine JL.nil ?_
      refine JQ.then ?_
      refine JC.ret ?_
      refine JQ.outR ?_
      replace hq1 := Option.some.inj hq1
      subst hq1
      exact JQ.done (js := []) (ss := [.val (A (rV 32 (rU UInt8)) (Vector.replicate 32 (0 : UInt8))), .val (S rB false)]) () (.inl rfl) (.nil rfl) rfl (.cons (.cellA (j := 0) tA28 rfl rfl) (.cons (.tmp rfl) .nil)) rfl rfl rfl
    · refine JC.condF (.tmp rfl) hc4 ?_
      refine JC.skip ?_
      refine JQ.then ?_
      refine JC.seq ?_
      refine JC.region ?_
      refine JL.cons rfl (op_sliceAV (l := 0) (h := 32) (ltB rfl) tu28 tz5 (.tmp rfl) .none .none (Nat.le_of_ble_eq_true rfl) (Nat.le_of_ble_eq_true rfl) (ltB rfl)) ?_
      refine JL.cons rfl (op_move (ltB rfl) (.tmp rfl)) ?_
      replace hq1 := lt1_inv hq1
      obtain ⟨h_11, hv_h_11, hq1⟩ := hq1
      refine JL.cons rfl (op_copyAV (j := 1) (ltD rfl) tu25 tz5 (.tmp rfl) rfl (Comp.self (rV 32 (rU UInt8)) (Vector.replicate 32 (0 : UInt8))) (UpdR.self (by rfl)) (fun e a w => SrcN.own (j := 2) rfl (.tmp rfl)) (Nat.le_of_ble_eq_true rfl) hv_h_11 rfl rfl) ?_
      refine JL.pre (Imp.norm (ρ' := [(2, .one (.val (PTR gb_2 0))), (4, .one (.val (PTR gb_3 0)))]) (js := [0, 0]) rfl (.cons rfl (.cons rfl .nil))) ?_
      refine JL.at ⟨[(2, .one (.val (PTR gb_2 0))), (4, .one (.val (PTR gb_3 0)))], [cvar gb_2 (rV 32 (rU UInt8)) (Vector.replicate 32 (0 : UInt8)), cvar gb_3 (rV 32 (rU UInt8)) h_11], []⟩ ?_
      refine JL.nil ?_
      refine JQ.then ?_
      refine JC.seq ?_
      refine JC.region ?_
      refine JL.cons rfl (op_loadA (j := 1) (ltB rfl) tA28 (.tmp rfl) rfl (Comp.self (rV 32 (rU UInt8)) h_11) rfl) ?_
      refine JL.cons rfl (op_storeA (j := 0) tA28 (.tmp rfl) (.tmp rfl) rfl (UpdR.self (by rfl)) rfl) ?_
      refine JL.pre (Imp.norm (ρ' := [(2, .one (.val (PTR gb_2 0)))]) (js := [0]) rfl (.cons rfl .nil)) ?_
      refine JL.at ⟨[(2, .one (.val (PTR gb_2 0)))], [cvar gb_2 (rV 32 (rU UInt8)) h_11], []⟩ ?_
      refine JL.cons rfl (op_assign (ltB rfl) .cB) ?_
      refine JL.nil ?_
      refine JQ.then ?_
      refine JC.ret ?_
      replace hq1 := Option.some.inj hq1
      subst hq1
      exact JQ.done (js := []) (ss := [.val (A (rV 32 (rU UInt8)) h_11), .val (S rB true)]) () (.inl rfl) (.nil rfl) rfl (.cons (.cellA (j := 0) tA28 rfl rfl) (.cons (.tmp rfl) .nil)) rfl rfl rfl
  · refine JC.region ?_
    refine JL.cons rfl (op_move (ltB rfl) (.tmp rfl)) ?_
    refine JL.pre (Imp.sub (ρ' := [(2, .one (.val (PTR gb_2 0))), (4, .one (.val (PTR gb_3 0))), (5, .one (.val (HDR go_6 0 (List.length v_4) gc_7))), (12, .one (.val (S rB v_5)))]) (.cons rfl (.cons rfl (.cons rfl (.cons rfl .nil))))) ?_
    refine JL.at ⟨[(2, .one (.val (PTR gb_2 0))), (4, .one (.val (PTR gb_3 0))), (5, .one (.val (HDR go_6 0 (List.length v_4) gc_7))), (12, .one (.val (S rB v_5)))], [cown go_6 (rU UInt8) v_4 0 gc_7, cvar gb_2 (rV 32 (rU UInt8)) (Vector.replicate 32 (0 : UInt8)), cvar gb_3 (rV 32 (rU UInt8)) (Vector.replicate 32 (0 : UInt8))], []⟩ ?_
    replace hx1 := lt1_inv hx1
    obtain ⟨v_8, hv_v_8, hx1⟩ := hx1
    refine JL.cons rfl (op_not (ltB rfl) (.tmp rfl) hv_v_8) ?_
    refine JL.cons rfl (op_move (ltB rfl) (.tmp rfl)) ?_
    replace hx1 := iteB_inv hx1
    rcases hx1 with ⟨hc3, hx1⟩ | ⟨hc3, hx1⟩
    · refine JL.skip (.no rfl (ltB rfl) rfl hc3) (fun d h => by cases h; exact ltB rfl) ?_
      refine JL.skip (.no rfl (ltB rfl) rfl hc3) (fun d h => by cases h; exact ltB rfl) ?_
      refine JL.skip (.no rfl (ltB rfl) rfl hc3) (fun d h => by cases h; exact ltB rfl) ?_
      refine JL.cons rfl (op_pickT (ltB rfl) (.tmp rfl) hc3 .cB) ?_
      refine JL.nil ?_
      replace hx1 := Option.some.inj hx1
      first | subst hx1 | clear hx1
      exact JQ.join () (Imp.norm (js := [1, 1, 0]) rfl (.cons rfl (.cons rfl (.cons rfl (.cons rfl .nil)))))
    · refine JL.run (.yes rfl (ltB rfl) rfl hc3) (op_move (ltB rfl) (.tmp rfl)) ?_
      refine JL.run (.yes rfl (ltB rfl) rfl hc3) (op_lenH (ltB rfl) tu25 (.tmp rfl)) ?_
      replace hx1 := lt1_inv hx1
      obtain ⟨v_9, hv_v_9, hx1⟩ := hx1
      refine JL.run (.yes rfl (ltB rfl) rfl hc3) (op_cmpI (ltB rfl) (.tmp rfl) .cI (congrArg some hv_v_9)) ?_
      refine JL.cons rfl (op_pickF (ltB rfl) (.tmp rfl) hc3 (.tmp rfl)) ?_
      refine JL.pre (Imp.sub (ρ' := [(2, .one (.val (PTR gb_2 0))), (4, .one (.val (PTR gb_3 0))), (5, .one (.val (HDR go_6 0 (List.length v_4) gc_7))), (18, .one (.val (S rB v_9)))]) (.cons rfl (.cons rfl (.cons rfl (.cons rfl .nil))))) ?_
      refine JL.at ⟨[(2, .one (.val (PTR gb_2 0))), (4, .one (.val (PTR gb_3 0))), (5, .one (.val (HDR go_6 0 (List.length v_4) gc_7))), (18, .one (.val (S rB v_9)))], [cown go_6 (rU UInt8) v_4 0 gc_7, cvar gb_2 (rV 32 (rU UInt8)) (Vector.replicate 32 (0 : UInt8)), cvar gb_3 (rV 32 (rU UInt8)) (Vector.replicate 32 (0 : UInt8))], []⟩ ?_
      refine JL.nil ?_
      replace hx1 := Option.some.inj hx1
      first | subst hx1 | clear hx1
      exact JQ.join () (Imp.norm (js := [1, 1, 0]) rfl (.cons rfl (.cons rfl (.cons rfl (.cons rfl .nil)))))

theorem sim_ref01_Hex (k : Nat) (b_1 : (List UInt8)) (r : (List UInt8)) (hm : ref01_Hex k b_1 = some r) : Sim Try.prog 20 [S (rL (rU UInt8)) b_1] [] (γ := Unit) (fun q => []) (fun q => .one (.val (S rS r))) := by
  unfold ref01_Hex at hm
  refine Sim.of Try.func20 rfl rfl (Nat.le_of_ble_eq_true rfl) (fun e0 w0 => ?_)
  refine JC.at ⟨[(0, .one (.val (S (rL (rU UInt8)) b_1)))], [], []⟩ ?_
  refine JC.seq ?_
  refine JC.region ?_
  refine JL.cons rfl (op_assign (ltB rfl) (HasO.cS (l := []) rfl)) ?_
  refine JL.nil ?_
  refine JQ.then ?_
  refine JC.seq ?_
  refine JC.region ?_
  refine JL.cons rfl (op_assign (ltB rfl) (HasO.cS (l := [48, 49, 50, 51, 52, 53, 54, 55, 56, 57, 97, 98, 99, 100, 101, 102]) rfl)) ?_
  refine JL.nil ?_
  refine JQ.then ?_
  refine JC.seq ?_
  refine JC.region ?_
  refine JL.cons rfl (op_assign (ltB rfl) HasO.nilH) ?_
  refine JL.nil ?_
  refine JQ.then ?_
  replace hm := bnd_inv hm
  obtain ⟨o_17, hx1, hq1⟩ := hm
  refine JC.seqJ (γ := Option Nat × Nat) (stj := fun q => ⟨[(4, .one (.val (HDR q.1 0 (List.length o_17) q.2)))], [cown q.1 (rU UInt8) o_17 0 q.2], []⟩) (fun q => ?_) ?_
  · obtain ⟨go_18, gc_19⟩ := q
    refine JC.at ⟨[(4, .one (.val (HDR go_18 0 (List.length o_17) gc_19)))], [cown go_18 (rU UInt8) o_17 0 gc_19], []⟩ ?_
    refine JC.seq ?_
    refine JC.region ?_
    refine JL.cons rfl (op_move (ltB rfl) (.tmp rfl)) ?_
    refine JL.cons rfl (op_convOS (j := 0) (ltB rfl) tu25 tu5 tu9 rfl (.tmp rfl)) ?_
    refine JL.cons rfl (op_assign (ltB rfl) (.tmp rfl)) ?_
    refine JL.nil ?_
    refine JQ.then ?_
    refine JC.ret ?_
    replace hq1 := Option.some.inj hq1
    subst hq1
    exact JQ.done (js := []) (ss := [.val (S rS o_17)]) () (.inl rfl) (.nil rfl) rfl (.cons (.tmp rfl) .nil) rfl rfl rfl
  · refine JC.seq ?_
    refine JC.region ?_
    refine JL.cons rfl (op_assign (ltB rfl) .cI) ?_
    refine JL.nil ?_
    refine JQ.then ?_
    refine JC.block ?_
    refine JC.pre (Imp.nilown (rU UInt8)) ?_
    refine JC.pre ?_ (JC.loop (γ := Option Nat × Nat) (stf := fun s q => ⟨[(0, .one (.val (S (rL (rU UInt8)) b_1))), (3, .one (.val (S rS ([48, 49, 50, 51, 52, 53, 54, 55, 56, 57, 97, 98, 99, 100, 101, 102] : List UInt8)))), (4, .one (.val (HDR q.1 0 (List.length s.1) q.2))), (5, .one (.val (S (rI .i64) s.2)))], [cown q.1 (rU UInt8) s.1 0 q.2], []⟩) (q := (none, 0)) hx1 ?_)
    · exact (Imp.norm (js := [0]) rfl (.cons rfl (.cons rfl (.cons rfl (.cons rfl .nil)))))
    · intro s q x hx hr
      obtain ⟨o_2, i_3⟩ := s
      obtain ⟨go_4, gc_5⟩ := q
      change ref01_Hex.b1 k b_1 o_2 i_3 = some x at hx
      unfold ref01_Hex.b1 at hx
      refine JC.at ⟨[(0, .one (.val (S (rL (rU UInt8)) b_1))), (3, .one (.val (S rS ([48, 49, 50, 51, 52, 53, 54, 55, 56, 57, 97, 98, 99, 100, 101, 102] : List UInt8)))), (4, .one (.val (HDR go_4 0 (List.length o_2) gc_5))), (5, .one (.val (S (rI .i64) i_3)))], [cown go_4 (rU UInt8) o_2 0 gc_5], []⟩ ?_
      refine JC.seq ?_
      refine JC.seq ?_
      refine JC.region ?_
      refine JL.cons rfl (op_move (ltB rfl) (.tmp rfl)) ?_
      refine JL.cons rfl (op_move (ltB rfl) (.tmp rfl)) ?_
      refine JL.cons rfl (op_lenL (ltB rfl) tu25 (.tmp rfl)) ?_
      replace hx := lt1_inv hx
      obtain ⟨v_6, hv_v_6, hx⟩ := hx
      refine JL.cons rfl (op_cmpI (ltB rfl) (.tmp rfl) (.tmp rfl) (congrArg some hv_v_6)) ?_
      refine JL.nil ?_
      refine JQ.then ?_
      replace hx := iteB_inv hx
      rcases hx with ⟨hc3, hx⟩ | ⟨hc3, hx⟩
      · refine JC.condT (.tmp rfl) hc3 ?_
        refine JC.skip ?_
        refine JQ.then ?_
        refine JC.seq ?_
        refine JC.block ?_
        replace hx := bnd_inv hx
        obtain ⟨v_7, hv_v_7, hx⟩ := hx
        replace hx := bnd_inv hx
        obtain ⟨v_8, hv_v_8, hx⟩ := hx
        replace hx := bnd_inv hx
        obtain ⟨v_9, hv_v_9, hx⟩ := hx
        replace hx := bnd_inv hx
        obtain ⟨v_10, hv_v_10, hx⟩ := hx
        replace hx := bnd_inv hx
        obtain ⟨v_11, hv_v_11, hx⟩ := hx
        replace hx := bnd_inv hx
        obtain ⟨v_12, hv_v_12, hx⟩ := hx
        replace hx := bnd_inv hx
        obtain ⟨o_13, hv_o_13, hx⟩ := hx
        refine JC.anyE (kl := [4]) (kk := 17) (base := [(0, .one (.val (S (rL (rU UInt8)) b_1))), (3, .one (.val (S rS ([48, 49, 50, 51, 52, 53, 54, 55, 56, 57, 97, 98, 99, 100, 101, 102] : List UInt8)))), (4, .one (.val (HDR go_4 0 (List.length o_2) gc_5))), (5, .one (.val (S (rI .i64) i_3)))])
            (fs := fun γ => [⟨some 12, .one (.val (HDR go_4 0 (List.length o_2) gc_5))⟩, ⟨some 13, .one (.val (S rS ([48, 49, 50, 51, 52, 53, 54, 55, 56, 57, 97, 98, 99, 100, 101, 102] : List UInt8)))⟩, ⟨some 14, .one (.val (S (rL (rU UInt8)) b_1))⟩, ⟨some 15, .one (.val (S (rI .i64) i_3))⟩, ⟨some 16, .one (.val (PT (rU UInt8) v_7))⟩, ⟨some 17, .one (.val (S (rU UInt8) v_7))⟩, ⟨some 18, .one (.val (S (rU UInt8) v_8))⟩, ⟨some 19, .one (.val (S (rU UInt8) v_9))⟩, ⟨some 20, .one (.val (S rS ([48, 49, 50, 51, 52, 53, 54, 55, 56, 57, 97, 98, 99, 100, 101, 102] : List UInt8)))⟩, ⟨some 21, .one (.val (S (rL (rU UInt8)) b_1))⟩, ⟨some 22, .one (.val (S (rI .i64) i_3))⟩, ⟨some 23, .one (.val (PT (rU UInt8) v_10))⟩, ⟨some 24, .one (.val (S (rU UInt8) v_10))⟩, ⟨some 25, .one (.val (S (rU UInt8) v_11))⟩, ⟨some 26, .one (.val (S (rU UInt8) v_12))⟩, ⟨some 27, .one (.val (S (rL (rU UInt8)) ([v_9, v_12] : (List UInt8))))⟩, ⟨some 28, .one (.val (HDR (deo (γ 16 0)) 0 (List.length o_13) (γ 16 1)))⟩, ⟨some 4, .one (.val (HDR (deo (γ 16 0)) 0 (List.length o_13) (γ 16 1)))⟩])
            (rs := fun γ => [⟨cown go_4 (rU UInt8) o_2 0 gc_5, none, (some 16), []⟩, ⟨cown (deo (γ 16 0)) (rU UInt8) o_13 0 (γ 16 1), (some 16), none, []⟩])
            (ds := [12, 13, 14, 15, 16, 17, 18, 19, 20, 21, 22, 23, 24, 25, 26, 27, 28, 4]) (bs := [0, 3, 4, 5]) (afts := [[], [], [], [], [], [], [], [], [], [], [], [], [], [], [], [], [16, 17], []]) (js := [0]) mixed (.cons rfl (.cons rfl (.cons rfl (.cons rfl .nil)))) (fun _ => rfl)
            (by
      refine DSteps.cons (j := 1) rfl (fun _ => rfl) (.run (fun γ ρ B hb hd => ⟨.none, OpStep.at ⟨ρ, B, _⟩ (setO ⟨ρ, B, _⟩ (some 12) (.one (.val (HDR go_4 0 (List.length o_2) gc_5)))) (op_move (ltB rfl) (.tmp (hb 4 _ rfl)))⟩)) ?_
      refine DSteps.cons (j := 2) rfl (fun _ => rfl) (.run (fun γ ρ B hb hd => ⟨.none, OpStep.at ⟨ρ, B, _⟩ (setO ⟨ρ, B, _⟩ (some 13) (.one (.val (S rS ([48, 49, 50, 51, 52, 53, 54, 55, 56, 57, 97, 98, 99, 100, 101, 102] : List UInt8))))) (op_move (ltB rfl) (.tmp (hb 3 _ rfl)))⟩)) ?_
      refine DSteps.cons (j := 3) rfl (fun _ => rfl) (.run (fun γ ρ B hb hd => ⟨.none, OpStep.at ⟨ρ, B, _⟩ (setO ⟨ρ, B, _⟩ (some 14) (.one (.val (S (rL (rU UInt8)) b_1)))) (op_move (ltB rfl) (.tmp (hb 0 _ rfl)))⟩)) ?_
      refine DSteps.cons (j := 4) rfl (fun _ => rfl) (.run (fun γ ρ B hb hd => ⟨.none, OpStep.at ⟨ρ, B, _⟩ (setO ⟨ρ, B, _⟩ (some 15) (.one (.val (S (rI .i64) i_3)))) (op_move (ltB rfl) (.tmp (hb 5 _ rfl)))⟩)) ?_
      refine DSteps.cons (j := 5) rfl (fun _ => rfl) (.run (fun γ ρ B hb hd => ⟨.none, OpStep.at ⟨ρ, B, _⟩ (setO ⟨ρ, B, _⟩ (some 16) (.one (.val (PT (rU UInt8) v_7)))) (op_indexAddrLg (ltB rfl) tu25 tz5 (.tmp (hdl hd 2 14 rfl (by decide +kernel))) (.tmp (hdl hd 3 15 rfl (by decide +kernel))) hv_v_7)⟩)) ?_
      refine DSteps.cons (j := 6) rfl (fun _ => rfl) (.run (fun γ ρ B hb hd => ⟨.none, OpStep.at ⟨ρ, B, _⟩ (setO ⟨ρ, B, _⟩ (some 17) (.one (.val (S (rU UInt8) v_7)))) (op_loadPSg (ltB rfl) tS5 rfl (.tmp (hdl hd 4 16 rfl (by decide +kernel))) rfl)⟩)) ?_
      refine DSteps.cons (j := 7) rfl (fun _ => rfl) (.run (fun γ ρ B hb hd => ⟨.none, OpStep.at ⟨ρ, B, _⟩ (setO ⟨ρ, B, _⟩ (some 18) (.one (.val (S (rU UInt8) v_8)))) (op_arU (ltB rfl) (.tmp (hdl hd 5 17 rfl (by decide +kernel))) (HasO.cU (x := (16 : UInt8)) rfl (by decide)) hv_v_8)⟩)) ?_
      refine DSteps.cons (j := 8) rfl (fun _ => rfl) (.run (fun γ ρ B hb hd => ⟨.none, OpStep.at ⟨ρ, B, _⟩ (setO ⟨ρ, B, _⟩ (some 19) (.one (.val (S (rU UInt8) v_9)))) (op_indexStrUg (ltB rfl) tu9 (.tmp (hdl hd 1 13 rfl (by decide +kernel))) (.tmp (hdl hd 6 18 rfl (by decide +kernel))) hv_v_9)⟩)) ?_
      refine DSteps.cons (j := 9) rfl (fun _ => rfl) (.run (fun γ ρ B hb hd => ⟨.none, OpStep.at ⟨ρ, B, _⟩ (setO ⟨ρ, B, _⟩ (some 20) (.one (.val (S rS ([48, 49, 50, 51, 52, 53, 54, 55, 56, 57, 97, 98, 99, 100, 101, 102] : List UInt8))))) (op_move (ltB rfl) (.tmp (hb 3 _ rfl)))⟩)) ?_
      refine DSteps.cons (j := 10) rfl (fun _ => rfl) (.run (fun γ ρ B hb hd => ⟨.none, OpStep.at ⟨ρ, B, _⟩ (setO ⟨ρ, B, _⟩ (some 21) (.one (.val (S (rL (rU UInt8)) b_1)))) (op_move (ltB rfl) (.tmp (hb 0 _ rfl)))⟩)) ?_
      refine DSteps.cons (j := 11) rfl (fun _ => rfl) (.run (fun γ ρ B hb hd => ⟨.none, OpStep.at ⟨ρ, B, _⟩ (setO ⟨ρ, B, _⟩ (some 22) (.one (.val (S (rI .i64) i_3)))) (op_move (ltB rfl) (.tmp (hb 5 _ rfl)))⟩)) ?_
      refine DSteps.cons (j := 12) rfl (fun _ => rfl) (.run (fun γ ρ B hb hd => ⟨.none, OpStep.at ⟨ρ, B, _⟩ (setO ⟨ρ, B, _⟩ (some 23) (.one (.val (PT (rU UInt8) v_10)))) (op_indexAddrLg (ltB rfl) tu25 tz5 (.tmp (hdl hd 9 21 rfl (by decide +kernel))) (.tmp (hdl hd 10 22 rfl (by decide +kernel))) hv_v_10)⟩)) ?_
      refine DSteps.cons (j := 13) rfl (fun _ => rfl) (.run (fun γ ρ B hb hd => ⟨.none, OpStep.at ⟨ρ, B, _⟩ (setO ⟨ρ, B, _⟩ (some 24) (.one (.val (S (rU UInt8) v_10)))) (op_loadPSg (ltB rfl) tS5 rfl (.tmp (hdl hd 11 23 rfl (by decide +kernel))) rfl)⟩)) ?_
      refine DSteps.cons (j := 14) rfl (fun _ => rfl) (.run (fun γ ρ B hb hd => ⟨.none, OpStep.at ⟨ρ, B, _⟩ (setO ⟨ρ, B, _⟩ (some 25) (.one (.val (S (rU UInt8) v_11)))) (op_arU (ltB rfl) (.tmp (hdl hd 12 24 rfl (by decide +kernel))) (HasO.cU (x := (16 : UInt8)) rfl (by decide)) hv_v_11)⟩)) ?_
      refine DSteps.cons (j := 15) rfl (fun _ => rfl) (.run (fun γ ρ B hb hd => ⟨.none, OpStep.at ⟨ρ, B, _⟩ (setO ⟨ρ, B, _⟩ (some 26) (.one (.val (S (rU UInt8) v_12)))) (op_indexStrUg (ltB rfl) tu9 (.tmp (hdl hd 8 20 rfl (by decide +kernel))) (.tmp (hdl hd 13 25 rfl (by decide +kernel))) hv_v_12)⟩)) ?_
      refine DSteps.cons (j := 16) rfl (fun _ => rfl) (.run (fun γ ρ B hb hd => ⟨.none, OpStep.at ⟨ρ, B, _⟩ (setO ⟨ρ, B, _⟩ (some 27) (.one (.val (S (rL (rU UInt8)) ([v_9, v_12] : (List UInt8)))))) (op_buildF (r := (rU UInt8)) (ltB rfl) tu25 tz5 tZ5 rfl (Nat.le_of_ble_eq_true rfl) (.S rfl (.tmp (hdl hd 7 19 rfl (by decide +kernel))) (.S rfl (.tmp (hdl hd 14 26 rfl (by decide +kernel))) .nil)) rfl)⟩)) ?_
      refine DSteps.cons (j := 17) rfl (fun _ => rfl) (.runX (fun _ _ => rfl) (fun γ ρ B hb hd => ⟨.none, OpX.ghost (γ := Option Nat × Nat) (st' := fun q => setO ⟨ρ, (cown q.1 (rU UInt8) o_13 0 q.2) :: B, _⟩ (some 28) (.one (.val (HDR q.1 0 (List.length o_13) q.2)))) (fun q c => bif Nat.beq c 0 then eno q.1 else q.2) (op_appendL (j := 0) (ltB rfl) tu25 tu25 rfl tB5 rfl (Nat.lt_of_lt_of_le Nat.zero_lt_one (Nat.le_of_ble_eq_true rfl)) (Nat.lt_of_lt_of_le Nat.zero_lt_one (Nat.le_of_ble_eq_true rfl))  rfl (.tmp (hdl hd 0 12 rfl (by decide +kernel))) (.tmp (hdl hd 15 27 rfl (by decide +kernel))) hv_o_13) (fun q => by obtain ⟨q0, q1⟩ := q; cases q0 <;> exact Imp.refl)⟩) (fun _ _ => rfl) (fun _ _ => rfl)) ?_
      refine DSteps.cons (j := 18) rfl (fun _ => rfl) (.run (fun γ ρ B hb hd => ⟨.none, OpStep.at ⟨ρ, B, _⟩ (setO ⟨ρ, B, _⟩ (some 4) (.one (.val (HDR (deo (γ 16 0)) 0 (List.length o_13) (γ 16 1))))) (op_assign (ltB rfl) (.tmp (hdl hd 16 28 rfl (by decide +kernel))))⟩)) ?_
      exact DSteps.nil)
            (by decide +kernel) (fun _ => rfl) rfl (fun _ => rfl) (fun _ => rfl) rfl (by decide) (by decide) (by decide +kernel) (fun _ d h => by simp at h; subst h; exact ⟨_, rfl, rfl⟩)
            (ρ' := fun γ => [(0, .one (.val (S (rL (rU UInt8)) b_1))), (3, .one (.val (S rS ([48, 49, 50, 51, 52, 53, 54, 55, 56, 57, 97, 98, 99, 100, 101, 102] : List UInt8)))), (4, .one (.val (HDR (deo (γ 16 0)) 0 (List.length o_13) (γ 16 1)))), (5, .one (.val (S (rI .i64) i_3)))])
            (X' := fun γ => [cown (deo (γ 16 0)) (rU UInt8) o_13 0 (γ 16 1)])
            (fun γ ρ hb hd => (.cons (hb 0 _ rfl (by decide)) (.cons (hb 3 _ rfl (by decide)) (.cons (hdq hd 17 4 rfl) (.cons (hb 5 _ rfl (by decide)) .nil))))) (fun _ => rfl) (fun γ => ?_)
        generalize (deo (γ 16 0)) = go_14
        generalize (γ 16 1) = gc_15
        clear γ
        refine JQ.at ⟨[(0, .one (.val (S (rL (rU UInt8)) b_1))), (3, .one (.val (S rS ([48, 49, 50, 51, 52, 53, 54, 55, 56, 57, 97, 98, 99, 100, 101, 102] : List UInt8)))), (4, .one (.val (HDR go_14 0 (List.length o_13) gc_15))), (5, .one (.val (S (rI .i64) i_3)))], [cown go_14 (rU UInt8) o_13 0 gc_15], []⟩ ?_
        refine JQ.outNB ?_
        refine JQ.then ?_
        refine JC.region ?_
        refine JL.cons rfl (op_move (ltB rfl) (.tmp rfl)) ?_
        replace hx := lt1_inv hx
        obtain ⟨v_16, hv_v_16, hx⟩ := hx
        refine JL.cons rfl (op_arI (ltB rfl) (.tmp rfl) .cI (congrArg some hv_v_16)) ?_
        refine JL.cons rfl (op_assign (ltB rfl) (.tmp rfl)) ?_
        refine JL.nil ?_
        replace hx := Option.some.inj hx
        first | subst hx | clear hx
        exact JQ.next (go_14, gc_15) rfl (Imp.norm (js := [0]) rfl (.cons rfl (.cons rfl (.cons rfl (.cons rfl .nil)))))
      · refine JC.condF (.tmp rfl) hc3 ?_
        refine JC.exit ?_
        refine JQ.outX ?_
        replace hx := Option.some.inj hx
        first | subst hx | clear hx
        have ht := hr _ rfl
        have hq2 := congrArg some ht
        clear hr ht
        refine JQ.outX ?_
        refine JQ.here ?_
        replace hq2 := Option.some.inj hq2
        first | subst hq2 | clear hq2
        exact JQ.join (go_4, gc_5) (Imp.norm (js := [0]) rfl (.cons rfl .nil))

theorem sim_sha_Equal (k : Nat) (a_1 : (Vector UInt8 32)) (b_2 : (Vector UInt8 32)) (r : Bool) (hm : sha_Equal k a_1 b_2 = some r) : Sim Try.prog 21 [A (rV 32 (rU UInt8)) a_1, A (rV 32 (rU UInt8)) b_2] [] (γ := Unit) (fun q => []) (fun q => .one (.val (S rB r))) := by
  unfold sha_Equal at hm
  refine Sim.of Try.func21 rfl rfl (Nat.le_of_ble_eq_true rfl) (fun e0 w0 => ?_)
  refine JC.at ⟨[(0, .one (.val (A (rV 32 (rU UInt8)) a_1))), (1, .one (.val (A (rV 32 (rU UInt8)) b_2)))], [], []⟩ ?_
  refine JC.seq ?_
  refine JC.region ?_
  refine JL.consX rfl (op_boxA (ltB rfl) (.tmp rfl)) (fun q => ?_)
  obtain ⟨gb_3, hqq⟩ : ∃ z, z = q := ⟨_, rfl⟩
  subst hqq
  refine JL.pre (Imp.sub (ρ' := [(1, .one (.val (A (rV 32 (rU UInt8)) b_2))), (2, .one (.val (PTR gb_3 0)))]) (.cons rfl (.cons rfl .nil))) ?_
  refine JL.at ⟨[(1, .one (.val (A (rV 32 (rU UInt8)) b_2))), (2, .one (.val (PTR gb_3 0)))], [cvar gb_3 (rV 32 (rU UInt8)) a_1], []⟩ ?_
  refine JL.consX rfl (op_boxA (ltB rfl) (.tmp rfl)) (fun q => ?_)
  obtain ⟨gb_4, hqq⟩ : ∃ z, z = q := ⟨_, rfl⟩
  subst hqq
  refine JL.pre (Imp.sub (ρ' := [(2, .one (.val (PTR gb_3 0))), (3, .one (.val (PTR gb_4 0)))]) (.cons rfl (.cons rfl .nil))) ?_
  refine JL.at ⟨[(2, .one (.val (PTR gb_3 0))), (3, .one (.val (PTR gb_4 0)))], [cvar gb_3 (rV 32 (rU UInt8)) a_1, cvar gb_4 (rV 32 (rU UInt8)) b_2], []⟩ ?_
  refine JL.cons rfl (op_assign (ltB rfl) .cB) ?_
  refine JL.nil ?_
  refine JQ.then ?_
  refine JC.seq ?_
  refine JC.region ?_
  refine JL.cons rfl (op_assign (ltB rfl) (HasO.cU (x := (0 : UInt8)) rfl (by decide))) ?_
  refine JL.nil ?_
  refine JQ.then ?_
  replace hm := bnd_inv hm
  obtain ⟨x_15, hx1, hq1⟩ := hm
  refine JC.seqJ (γ := Unit) (stj := fun q => ⟨[(5, .one (.val (S (rU UInt8) x_15)))], [], []⟩) (fun q => ?_) ?_
  · obtain _ := q
    refine JC.at ⟨[(5, .one (.val (S (rU UInt8) x_15)))], [], []⟩ ?_
    refine JC.seq ?_
    refine JC.region ?_
    refine JL.cons rfl (op_move (ltB rfl) (.tmp rfl)) ?_
    replace hq1 := lt1_inv hq1
    obtain ⟨v_16, hv_v_16, hq1⟩ := hq1
    refine JL.cons rfl (op_cmpU (ltB rfl) (.tmp rfl) (HasO.cU (x := (0 : UInt8)) rfl (by decide)) (congrArg some hv_v_16)) ?_
    refine JL.cons rfl (op_assign (ltB rfl) (.tmp rfl)) ?_
    refine JL.nil ?_
    refine JQ.then ?_
    refine JC.ret ?_
    replace hq1 := Option.some.inj hq1
    subst hq1
    exact JQ.done (js := []) (ss := [.val (S rB v_16)]) () (.inl rfl) (.nil rfl) rfl (.cons (.tmp rfl) .nil) rfl rfl rfl
  · refine JC.seq ?_
    refine JC.region ?_
    refine JL.cons rfl (op_move (ltB rfl) .cI) ?_
    refine JL.nil ?_
    refine JQ.then ?_
    refine JC.block ?_
    refine JC.pre ?_ (JC.loop (γ := Unit) (stf := fun s q => ⟨[(2, .one (.val (PTR gb_3 0))), (3, .one (.val (PTR gb_4 0))), (5, .one (.val (S (rU UInt8) s.1))), (7, .one (.val (S (rI .i64) s.2)))], [cvar gb_3 (rV 32 (rU UInt8)) a_1, cvar gb_4 (rV 32 (rU UInt8)) b_2], []⟩) (q := ()) hx1 ?_)
    · exact (Imp.norm (js := [0, 0]) rfl (.cons rfl (.cons rfl (.cons rfl (.cons rfl .nil)))))
    · intro s q x hx hr
      obtain ⟨x_5, x_6⟩ := s
      obtain _ := q
      change sha_Equal.b1 k a_1 b_2 x_5 x_6 = some x at hx
      unfold sha_Equal.b1 at hx
      refine JC.at ⟨[(2, .one (.val (PTR gb_3 0))), (3, .one (.val (PTR gb_4 0))), (5, .one (.val (S (rU UInt8) x_5))), (7, .one (.val (S (rI .i64) x_6)))], [cvar gb_3 (rV 32 (rU UInt8)) a_1, cvar gb_4 (rV 32 (rU UInt8)) b_2], []⟩ ?_
      refine JC.seq ?_
      refine JC.region ?_
      replace hx := lt1_inv hx
      obtain ⟨v_7, hv_v_7, hx⟩ := hx
      refine JL.cons rfl (op_cmpI (ltB rfl) (.tmp rfl) .cI (congrArg some hv_v_7)) ?_
      refine JL.nil ?_
      refine JQ.then ?_
      refine JC.seq ?_
      replace hx := iteB_inv hx
      rcases hx with ⟨hc3, hx⟩ | ⟨hc3, hx⟩
      · refine JC.condT (.tmp rfl) hc3 ?_
        refine JC.skip ?_
        refine JQ.then ?_
        refine JC.seq ?_
        refine JC.block ?_
        refine JC.seq ?_
        refine JC.region ?_
        refine JL.cons rfl (op_move (ltB rfl) (.tmp rfl)) ?_
        refine JL.cons rfl (op_assign (ltB rfl) (.tmp rfl)) ?_
        refine JL.nil ?_
        refine JQ.then ?_
        replace hx := bnd_inv hx
        obtain ⟨i_8, hv_i_8, hx⟩ := hx
        replace hx := lt1_inv hx
        obtain ⟨v_9, hv_v_9, hx⟩ := hx
        replace hx := bnd_inv hx
        obtain ⟨i_10, hv_i_10, hx⟩ := hx
        replace hx := lt1_inv hx
        obtain ⟨v_11, hv_v_11, hx⟩ := hx
        replace hx := lt1_inv hx
        obtain ⟨v_12, hv_v_12, hx⟩ := hx
        replace hx := lt1_inv hx
        obtain ⟨v_13, hv_v_13, hx⟩ := hx
        refine JC.anyE (kl := [5]) (kk := 9) (base := [(2, .one (.val (PTR gb_3 0))), (3, .one (.val (PTR gb_4 0))), (5, .one (.val (S (rU UInt8) x_5))), (6, .one (.val (S (rI .i64) x_6))), (7, .one (.val (S (rI .i64) x_6)))])
            (fs := fun γ => [⟨some 10, .one (.val (S (rU UInt8) x_5))⟩, ⟨some 11, .one (.val (S (rI .i64) x_6))⟩, ⟨some 12, .one (.val (PTR gb_3 (0 + i_8.1 * 1)))⟩, ⟨some 13, .one (.val (S (rU UInt8) v_9))⟩, ⟨some 14, .one (.val (S (rI .i64) x_6))⟩, ⟨some 15, .one (.val (PTR gb_4 (0 + i_10.1 * 1)))⟩, ⟨some 16, .one (.val (S (rU UInt8) v_11))⟩, ⟨some 17, .one (.val (S (rU UInt8) v_12))⟩, ⟨some 18, .one (.val (S (rU UInt8) v_13))⟩, ⟨some 5, .one (.val (S (rU UInt8) v_13))⟩])
            (rs := fun γ => [⟨cvar gb_3 (rV 32 (rU UInt8)) a_1, none, none, [3]⟩, ⟨cvar gb_4 (rV 32 (rU UInt8)) b_2, none, none, [6]⟩])
            (ds := [10, 11, 12, 13, 14, 15, 16, 17, 18, 5]) (bs := [2, 3, 5, 6, 7]) (afts := [[], [], [], [], [], [], [], [], [], []]) (js := [0, 0]) mixed (.cons rfl (.cons rfl (.cons rfl (.cons rfl (.cons rfl .nil))))) (fun _ => rfl)
            (by
      refine DSteps.cons (j := 1) rfl (fun _ => rfl) (.run (fun γ ρ B hb hd => ⟨.none, OpStep.at ⟨ρ, B, _⟩ (setO ⟨ρ, B, _⟩ (some 10) (.one (.val (S (rU UInt8) x_5)))) (op_move (ltB rfl) (.tmp (hb 5 _ rfl)))⟩)) ?_
      refine DSteps.cons (j := 2) rfl (fun _ => rfl) (.run (fun γ ρ B hb hd => ⟨.none, OpStep.at ⟨ρ, B, _⟩ (setO ⟨ρ, B, _⟩ (some 11) (.one (.val (S (rI .i64) x_6)))) (op_move (ltB rfl) (.tmp (hb 6 _ rfl)))⟩)) ?_
      refine DSteps.cons (j := 3) rfl (fun _ => rfl) (.run (fun γ ρ B hb hd => ⟨.none, OpStep.at ⟨ρ, B, _⟩ (setO ⟨ρ, B, _⟩ (some 12) (.one (.val (PTR gb_3 (0 + i_8.1 * 1))))) (op_indexAddrIF (ltB rfl) tr28 (.tmp (hb 2 _ rfl)) (.tmp (hdl hd 1 11 rfl (by decide +kernel))) hv_i_8)⟩)) ?_
      refine DSteps.cons (j := 4) rfl (fun _ => rfl) (.run (fun γ ρ B hb hd => ⟨.none, OpStep.at ⟨ρ, (cvar gb_3 (rV 32 (rU UInt8)) a_1) :: B, _⟩ (setO ⟨ρ, (cvar gb_3 (rV 32 (rU UInt8)) a_1) :: B, _⟩ (some 13) (.one (.val (S (rU UInt8) v_9)))) (op_loadS (j := 0) (ltB rfl) tS5 (.tmp (hdl hd 2 12 rfl (by decide +kernel))) rfl (Comp.at (Comp.self (rV 32 (rU UInt8)) a_1) i_8.2 rfl) rfl hv_v_9)⟩)) ?_
      refine DSteps.cons (j := 5) rfl (fun _ => rfl) (.run (fun γ ρ B hb hd => ⟨.none, OpStep.at ⟨ρ, B, _⟩ (setO ⟨ρ, B, _⟩ (some 14) (.one (.val (S (rI .i64) x_6)))) (op_move (ltB rfl) (.tmp (hb 6 _ rfl)))⟩)) ?_
      refine DSteps.cons (j := 6) rfl (fun _ => rfl) (.run (fun γ ρ B hb hd => ⟨.none, OpStep.at ⟨ρ, B, _⟩ (setO ⟨ρ, B, _⟩ (some 15) (.one (.val (PTR gb_4 (0 + i_10.1 * 1))))) (op_indexAddrIF (ltB rfl) tr28 (.tmp (hb 3 _ rfl)) (.tmp (hdl hd 4 14 rfl (by decide +kernel))) hv_i_10)⟩)) ?_
      refine DSteps.cons (j := 7) rfl (fun _ => rfl) (.run (fun γ ρ B hb hd => ⟨.none, OpStep.at ⟨ρ, (cvar gb_4 (rV 32 (rU UInt8)) b_2) :: B, _⟩ (setO ⟨ρ, (cvar gb_4 (rV 32 (rU UInt8)) b_2) :: B, _⟩ (some 16) (.one (.val (S (rU UInt8) v_11)))) (op_loadS (j := 0) (ltB rfl) tS5 (.tmp (hdl hd 5 15 rfl (by decide +kernel))) rfl (Comp.at (Comp.self (rV 32 (rU UInt8)) b_2) i_10.2 rfl) rfl hv_v_11)⟩)) ?_
      refine DSteps.cons (j := 8) rfl (fun _ => rfl) (.run (fun γ ρ B hb hd => ⟨.none, OpStep.at ⟨ρ, B, _⟩ (setO ⟨ρ, B, _⟩ (some 17) (.one (.val (S (rU UInt8) v_12)))) (op_arU (ltB rfl) (.tmp (hdl hd 3 13 rfl (by decide +kernel))) (.tmp (hdl hd 6 16 rfl (by decide +kernel))) (congrArg some hv_v_12))⟩)) ?_
      refine DSteps.cons (j := 9) rfl (fun _ => rfl) (.run (fun γ ρ B hb hd => ⟨.none, OpStep.at ⟨ρ, B, _⟩ (setO ⟨ρ, B, _⟩ (some 18) (.one (.val (S (rU UInt8) v_13)))) (op_arU (ltB rfl) (.tmp (hdl hd 0 10 rfl (by decide +kernel))) (.tmp (hdl hd 7 17 rfl (by decide +kernel))) (congrArg some hv_v_13))⟩)) ?_
      refine DSteps.cons (j := 10) rfl (fun _ => rfl) (.run (fun γ ρ B hb hd => ⟨.none, OpStep.at ⟨ρ, B, _⟩ (setO ⟨ρ, B, _⟩ (some 5) (.one (.val (S (rU UInt8) v_13)))) (op_assign (ltB rfl) (.tmp (hdl hd 8 18 rfl (by decide +kernel))))⟩)) ?_
      exact DSteps.nil)
            (by decide +kernel) (fun _ => rfl) rfl (fun _ => rfl) (fun _ => rfl) rfl (by decide) (by decide) (by decide +kernel) (fun _ d h => by simp at h; subst h; exact ⟨_, rfl, rfl⟩)
            (ρ' := fun γ => [(2, .one (.val (PTR gb_3 0))), (3, .one (.val (PTR gb_4 0))), (5, .one (.val (S (rU UInt8) v_13))), (7, .one (.val (S (rI .i64) x_6)))])
            (X' := fun γ => [cvar gb_3 (rV 32 (rU UInt8)) a_1, cvar gb_4 (rV 32 (rU UInt8)) b_2])
            (fun γ ρ hb hd => (.cons (hb 2 _ rfl (by decide)) (.cons (hb 3 _ rfl (by decide)) (.cons (hdq hd 9 5 rfl) (.cons (hb 7 _ rfl (by decide)) .nil))))) (fun _ => rfl) (fun γ => ?_)
        refine JQ.at ⟨[(2, .one (.val (PTR gb_3 0))), (3, .one (.val (PTR gb_4 0))), (5, .one (.val (S (rU UInt8) v_13))), (7, .one (.val (S (rI .i64) x_6)))], [cvar gb_3 (rV 32 (rU UInt8)) a_1, cvar gb_4 (rV 32 (rU UInt8)) b_2], []⟩ ?_
        refine JQ.outNB ?_
        refine JQ.then ?_
        refine JC.region ?_
        replace hx := lt1_inv hx
        obtain ⟨v_14, hv_v_14, hx⟩ := hx
        refine JL.cons rfl (op_arI (ltB rfl) (.tmp rfl) .cI (congrArg some hv_v_14)) ?_
        refine JL.cons rfl (op_move (ltB rfl) (.tmp rfl)) ?_
        refine JL.nil ?_
        replace hx := Option.some.inj hx
        first | subst hx | clear hx
        exact JQ.next () rfl (Imp.norm (js := [0, 0]) rfl (.cons rfl (.cons rfl (.cons rfl (.cons rfl .nil)))))
      · refine JC.condF (.tmp rfl) hc3 ?_
        refine JC.exit ?_
        refine JQ.outX ?_
        replace hx := Option.some.inj hx
        first | subst hx | clear hx
        have ht := hr _ rfl
        have hq2 := congrArg some ht
        clear hr ht
        refine JQ.outX ?_
        refine JQ.here ?_
        replace hq2 := Option.some.inj hq2
        first | subst hq2 | clear hq2
        exact JQ.join () (Imp.norm (js := []) rfl (.cons rfl .nil))

end Go.Proofs.Ytdncoiehmkcajaa
