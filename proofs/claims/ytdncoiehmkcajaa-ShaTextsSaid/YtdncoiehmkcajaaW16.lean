/- Walks. -/
import Derived.Test.YtdncoiehmkcajaaT
namespace Go.Proofs.Ytdncoiehmkcajaa
open Go Fw
set_option linter.unusedVariables false
set_option maxRecDepth 100000
set_option maxHeartbeats 4000000

theorem sim_sha_Text (k : Nat) (h_1 : (Vector UInt8 32)) (r : (List UInt8)) (hm : sha_Text k h_1 = some r) : Sim Try.prog 17 [A (rV 32 (rU UInt8)) h_1] [] (γ := Unit) (fun q => []) (fun q => .one (.val (S rS r))) := by
  unfold sha_Text at hm
  refine Sim.of Try.func17 rfl rfl (Nat.le_of_ble_eq_true rfl) (fun e0 w0 => ?_)
  refine JC.at ⟨[(0, .one (.val (A (rV 32 (rU UInt8)) h_1)))], [], []⟩ ?_
  refine JC.seq ?_
  refine JC.region ?_
  refine JL.consX rfl (op_boxA (ltB rfl) (.tmp rfl)) (fun q => ?_)
  obtain ⟨gb_2, hqq⟩ : ∃ z, z = q := ⟨_, rfl⟩
  subst hqq
  refine JL.pre (Imp.sub (ρ' := [(1, .one (.val (PTR gb_2 0)))]) (.cons rfl .nil)) ?_
  refine JL.at ⟨[(1, .one (.val (PTR gb_2 0)))], [cvar gb_2 (rV 32 (rU UInt8)) h_1], []⟩ ?_
  refine JL.cons rfl (op_assign (ltB rfl) (HasO.cS (l := []) rfl)) ?_
  refine JL.nil ?_
  refine JQ.then ?_
  refine JC.seq ?_
  refine JC.region ?_
  refine JL.cons rfl (op_assign (ltB rfl) HasO.nilH) ?_
  refine JL.nil ?_
  refine JQ.then ?_
  replace hm := bnd_inv hm
  obtain ⟨b_17, hx1, hq1⟩ := hm
  refine JC.seqJ (γ := Option Nat × Nat) (stj := fun q => ⟨[(3, .one (.val (HDR q.1 0 (List.length b_17) q.2)))], [cown q.1 (rU UInt8) b_17 0 q.2], []⟩) (fun q => ?_) ?_
  · obtain ⟨go_18, gc_19⟩ := q
    refine JC.at ⟨[(3, .one (.val (HDR go_18 0 (List.length b_17) gc_19)))], [cown go_18 (rU UInt8) b_17 0 gc_19], []⟩ ?_
    refine JC.seq ?_
    refine JC.region ?_
    refine JL.cons rfl (op_move (ltB rfl) (.tmp rfl)) ?_
    refine JL.cons rfl (op_convOS (j := 0) (ltB rfl) tu25 tu5 tu9 rfl (.tmp rfl)) ?_
    refine JL.cons rfl (op_assign (ltB rfl) (.tmp rfl)) ?_
    refine JL.nil ?_
    refine JQ.then ?_
    refine JC.ret ?_
    replace hq1 := Option.some.inj hq1
    subst hq1
    exact JQ.done (js := []) (ss := [.val (S rS b_17)]) () (.inl rfl) (.nil rfl) rfl (.cons (.tmp rfl) .nil) rfl rfl rfl
  · refine JC.seq ?_
    refine JC.region ?_
    refine JL.cons rfl (op_loadA (j := 0) (ltB rfl) tA28 (.tmp rfl) rfl (Comp.self (rV 32 (rU UInt8)) h_1) rfl) ?_
    refine JL.cons rfl (op_move (ltB rfl) .cI) ?_
    refine JL.nil ?_
    refine JQ.then ?_
    refine JC.block ?_
    refine JC.pre (Imp.nilown (rU UInt8)) ?_
    refine JC.pre ?_ (JC.loop (γ := Option Nat × Nat) (stf := fun s q => ⟨[(3, .one (.val (HDR q.1 0 (List.length s.1) q.2))), (6, .one (.val (A (rV 32 (rU UInt8)) h_1))), (7, .one (.val (S (rI .i64) s.2)))], [cown q.1 (rU UInt8) s.1 0 q.2], []⟩) (q := (none, 0)) hx1 ?_)
    · exact (Imp.norm (js := [1]) rfl (.cons rfl (.cons rfl (.cons rfl .nil))))
    · intro s q x hx hr
      obtain ⟨b_3, x_4⟩ := s
      obtain ⟨go_5, gc_6⟩ := q
      change sha_Text.b1 k h_1 b_3 x_4 = some x at hx
      unfold sha_Text.b1 at hx
      refine JC.at ⟨[(3, .one (.val (HDR go_5 0 (List.length b_3) gc_6))), (6, .one (.val (A (rV 32 (rU UInt8)) h_1))), (7, .one (.val (S (rI .i64) x_4)))], [cown go_5 (rU UInt8) b_3 0 gc_6], []⟩ ?_
      refine JC.seq ?_
      refine JC.region ?_
      replace hx := lt1_inv hx
      obtain ⟨v_7, hv_v_7, hx⟩ := hx
      refine JL.cons rfl (op_cmpI (ltB rfl) (.tmp rfl) .cI (congrArg some hv_v_7)) ?_
      refine JL.nil ?_
      refine JQ.then ?_
      refine JC.seq ?_
      replace hx := iteB_inv hx
      rcases hx with ⟨hc3, hx⟩ | ⟨hc3, hx⟩
      · refine JC.condT (.tmp rfl) hc3 ?_
        refine JC.skip ?_
        refine JQ.then ?_
        refine JC.seq ?_
        refine JC.block ?_
        refine JC.seq ?_
        refine JC.region ?_
        replace hx := bnd_inv hx
        obtain ⟨v_8, hv_v_8, hx⟩ := hx
        refine JL.cons rfl (op_indexSg (ltB rfl) tu28 tS5 rfl (.tmp rfl) (.tmp rfl) hv_v_8) ?_
        refine JL.cons rfl (op_assign (ltB rfl) (.tmp rfl)) ?_
        refine JL.nil ?_
        refine JQ.then ?_
        replace hx := lt1_inv hx
        obtain ⟨v_9, hv_v_9, hx⟩ := hx
        replace hx := bnd_inv hx
        obtain ⟨v_10, hv_v_10, hx⟩ := hx
        replace hx := lt1_inv hx
        obtain ⟨v_11, hv_v_11, hx⟩ := hx
        replace hx := bnd_inv hx
        obtain ⟨v_12, hv_v_12, hx⟩ := hx
        replace hx := bnd_inv hx
        obtain ⟨b_13, hv_b_13, hx⟩ := hx
        refine JC.anyE (kl := [3]) (kk := 9) (base := [(3, .one (.val (HDR go_5 0 (List.length b_3) gc_6))), (5, .one (.val (S (rU UInt8) v_8))), (6, .one (.val (A (rV 32 (rU UInt8)) h_1))), (7, .one (.val (S (rI .i64) x_4)))])
            (fs := fun γ => [⟨some 10, .one (.val (HDR go_5 0 (List.length b_3) gc_6))⟩, ⟨some 11, .one (.val (S (rU UInt8) v_8))⟩, ⟨some 12, .one (.val (S (rU UInt8) v_9))⟩, ⟨some 13, .one (.val (S (rU UInt8) v_10))⟩, ⟨some 14, .one (.val (S (rU UInt8) v_8))⟩, ⟨some 15, .one (.val (S (rU UInt8) v_11))⟩, ⟨some 16, .one (.val (S (rU UInt8) v_12))⟩, ⟨some 17, .one (.val (S (rL (rU UInt8)) ([v_10, v_12] : (List UInt8))))⟩, ⟨some 18, .one (.val (HDR (deo (γ 8 0)) 0 (List.length b_13) (γ 8 1)))⟩, ⟨some 3, .one (.val (HDR (deo (γ 8 0)) 0 (List.length b_13) (γ 8 1)))⟩])
            (rs := fun γ => [⟨cown go_5 (rU UInt8) b_3 0 gc_6, none, (some 8), []⟩, ⟨cown (deo (γ 8 0)) (rU UInt8) b_13 0 (γ 8 1), (some 8), none, []⟩])
            (ds := [10, 11, 12, 13, 14, 15, 16, 17, 18, 3]) (bs := [3, 5, 6, 7]) (afts := [[], [], [], [], [], [], [], [], [8, 9], []]) (js := [0]) mixed (.cons rfl (.cons rfl (.cons rfl (.cons rfl .nil)))) (fun _ => rfl)
            (by
      refine DSteps.cons (j := 1) rfl (fun _ => rfl) (.run (fun γ ρ B hb hd => ⟨.none, OpStep.at ⟨ρ, B, _⟩ (setO ⟨ρ, B, _⟩ (some 10) (.one (.val (HDR go_5 0 (List.length b_3) gc_6)))) (op_move (ltB rfl) (.tmp (hb 3 _ rfl)))⟩)) ?_
      refine DSteps.cons (j := 2) rfl (fun _ => rfl) (.run (fun γ ρ B hb hd => ⟨.none, OpStep.at ⟨ρ, B, _⟩ (setO ⟨ρ, B, _⟩ (some 11) (.one (.val (S (rU UInt8) v_8)))) (op_move (ltB rfl) (.tmp (hb 5 _ rfl)))⟩)) ?_
      refine DSteps.cons (j := 3) rfl (fun _ => rfl) (.run (fun γ ρ B hb hd => ⟨.none, OpStep.at ⟨ρ, B, _⟩ (setO ⟨ρ, B, _⟩ (some 12) (.one (.val (S (rU UInt8) v_9)))) (op_shrUU (ltB rfl) (.tmp (hdl hd 1 11 rfl (by decide +kernel))) (HasO.cU (x := (4 : UInt64)) rfl (by decide)) hv_v_9)⟩)) ?_
      refine DSteps.cons (j := 4) rfl (fun _ => rfl) (.run (fun γ ρ B hb hd => ⟨.none, OpStep.at ⟨ρ, B, _⟩ (setO ⟨ρ, B, _⟩ (some 13) (.one (.val (S (rU UInt8) v_10)))) (op_indexStrUg (ltB rfl) tu9 (HasO.cS (l := [48, 49, 50, 51, 52, 53, 54, 55, 56, 57, 97, 98, 99, 100, 101, 102]) rfl) (.tmp (hdl hd 2 12 rfl (by decide +kernel))) hv_v_10)⟩)) ?_
      refine DSteps.cons (j := 5) rfl (fun _ => rfl) (.run (fun γ ρ B hb hd => ⟨.none, OpStep.at ⟨ρ, B, _⟩ (setO ⟨ρ, B, _⟩ (some 14) (.one (.val (S (rU UInt8) v_8)))) (op_move (ltB rfl) (.tmp (hb 5 _ rfl)))⟩)) ?_
      refine DSteps.cons (j := 6) rfl (fun _ => rfl) (.run (fun γ ρ B hb hd => ⟨.none, OpStep.at ⟨ρ, B, _⟩ (setO ⟨ρ, B, _⟩ (some 15) (.one (.val (S (rU UInt8) v_11)))) (op_arU (ltB rfl) (.tmp (hdl hd 4 14 rfl (by decide +kernel))) (HasO.cU (x := (15 : UInt8)) rfl (by decide)) (congrArg some hv_v_11))⟩)) ?_
      refine DSteps.cons (j := 7) rfl (fun _ => rfl) (.run (fun γ ρ B hb hd => ⟨.none, OpStep.at ⟨ρ, B, _⟩ (setO ⟨ρ, B, _⟩ (some 16) (.one (.val (S (rU UInt8) v_12)))) (op_indexStrUg (ltB rfl) tu9 (HasO.cS (l := [48, 49, 50, 51, 52, 53, 54, 55, 56, 57, 97, 98, 99, 100, 101, 102]) rfl) (.tmp (hdl hd 5 15 rfl (by decide +kernel))) hv_v_12)⟩)) ?_
      refine DSteps.cons (j := 8) rfl (fun _ => rfl) (.run (fun γ ρ B hb hd => ⟨.none, OpStep.at ⟨ρ, B, _⟩ (setO ⟨ρ, B, _⟩ (some 17) (.one (.val (S (rL (rU UInt8)) ([v_10, v_12] : (List UInt8)))))) (op_buildF (r := (rU UInt8)) (ltB rfl) tu25 tz5 tZ5 rfl (Nat.le_of_ble_eq_true rfl) (.S rfl (.tmp (hdl hd 3 13 rfl (by decide +kernel))) (.S rfl (.tmp (hdl hd 6 16 rfl (by decide +kernel))) .nil)) rfl)⟩)) ?_
      refine DSteps.cons (j := 9) rfl (fun _ => rfl) (.runX (fun _ _ => rfl) (fun γ ρ B hb hd => ⟨.none, OpX.ghost (γ := Option Nat × Nat) (st' := fun q => setO ⟨ρ, (cown q.1 (rU UInt8) b_13 0 q.2) :: B, _⟩ (some 18) (.one (.val (HDR q.1 0 (List.length b_13) q.2)))) (fun q c => bif Nat.beq c 0 then eno q.1 else q.2) (op_appendL (j := 0) (ltB rfl) tu25 tu25 rfl tB5 rfl (Nat.lt_of_lt_of_le Nat.zero_lt_one (Nat.le_of_ble_eq_true rfl)) (Nat.lt_of_lt_of_le Nat.zero_lt_one (Nat.le_of_ble_eq_true rfl))  rfl (.tmp (hdl hd 0 10 rfl (by decide +kernel))) (.tmp (hdl hd 7 17 rfl (by decide +kernel))) hv_b_13) (fun q => by obtain ⟨q0, q1⟩ := q; cases q0 <;> exact Imp.refl)⟩) (fun _ _ => rfl) (fun _ _ => rfl)) ?_
      refine DSteps.cons (j := 10) rfl (fun _ => rfl) (.run (fun γ ρ B hb hd => ⟨.none, OpStep.at ⟨ρ, B, _⟩ (setO ⟨ρ, B, _⟩ (some 3) (.one (.val (HDR (deo (γ 8 0)) 0 (List.length b_13) (γ 8 1))))) (op_assign (ltB rfl) (.tmp (hdl hd 8 18 rfl (by decide +kernel))))⟩)) ?_
      exact DSteps.nil)
            (by decide +kernel) (fun _ => rfl) rfl (fun _ => rfl) (fun _ => rfl) rfl (by decide) (by decide) (by decide +kernel) (fun _ d h => by simp at h; subst h; exact ⟨_, rfl, rfl⟩)
            (ρ' := fun γ => [(3, .one (.val (HDR (deo (γ 8 0)) 0 (List.length b_13) (γ 8 1)))), (6, .one (.val (A (rV 32 (rU UInt8)) h_1))), (7, .one (.val (S (rI .i64) x_4)))])
            (X' := fun γ => [cown (deo (γ 8 0)) (rU UInt8) b_13 0 (γ 8 1)])
            (fun γ ρ hb hd => (.cons (hdq hd 9 3 rfl) (.cons (hb 6 _ rfl (by decide)) (.cons (hb 7 _ rfl (by decide)) .nil)))) (fun _ => rfl) (fun γ => ?_)
        generalize (deo (γ 8 0)) = go_14
        generalize (γ 8 1) = gc_15
        clear γ
        refine JQ.at ⟨[(3, .one (.val (HDR go_14 0 (List.length b_13) gc_15))), (6, .one (.val (A (rV 32 (rU UInt8)) h_1))), (7, .one (.val (S (rI .i64) x_4)))], [cown go_14 (rU UInt8) b_13 0 gc_15], []⟩ ?_
        refine JQ.outNB ?_
        refine JQ.then ?_
        refine JC.region ?_
        replace hx := lt1_inv hx
        obtain ⟨v_16, hv_v_16, hx⟩ := hx
        refine JL.cons rfl (op_arI (ltB rfl) (.tmp rfl) .cI (congrArg some hv_v_16)) ?_
        refine JL.cons rfl (op_move (ltB rfl) (.tmp rfl)) ?_
        refine JL.nil ?_
        replace hx := Option.some.inj hx
        first | subst hx | clear hx
        exact JQ.next (go_14, gc_15) rfl (Imp.norm (js := [0]) rfl (.cons rfl (.cons rfl (.cons rfl .nil))))
      · refine JC.condF (.tmp rfl) hc3 ?_
        refine JC.exit ?_
        refine JQ.outX ?_
        replace hx := Option.some.inj hx
        first | subst hx | clear hx
        have ht := hr _ rfl
        have hq2 := congrArg some ht
        clear hr ht
        refine JQ.outX ?_
        refine JQ.here ?_
        replace hq2 := Option.some.inj hq2
        first | subst hq2 | clear hq2
        exact JQ.join (go_5, gc_6) (Imp.norm (js := [0]) rfl (.cons rfl .nil))

theorem sim_slices_Indexbyte_byte (k : Nat) (s_1 : (List UInt8)) (v_2 : UInt8) (r : Int) (hm : slices_Indexbyte_byte k s_1 v_2 = some r) : Sim Try.prog 31 [S (rL (rU UInt8)) s_1, S (rU UInt8) v_2] [] (γ := Unit) (fun q => []) (fun q => .one (.val (S (rI .i64) r))) := by
  unfold slices_Indexbyte_byte at hm
  refine Sim.of Try.func31 rfl rfl (Nat.le_of_ble_eq_true rfl) (fun e0 w0 => ?_)
  refine JC.at ⟨[(0, .one (.val (S (rL (rU UInt8)) s_1))), (1, .one (.val (S (rU UInt8) v_2)))], [], []⟩ ?_
  refine JC.seq ?_
  refine JC.region ?_
  refine JL.cons rfl (op_assign (ltB rfl) .cI) ?_
  refine JL.nil ?_
  refine JQ.then ?_
  replace hm := bnd_inv hm
  obtain ⟨tv1, hx1, hq1⟩ := hm
  refine JC.seqK (α := Unit) (γ := Unit) (stj := fun v q => ⟨[], [], []⟩) (p := fun v => tv1 = (.inl v)) (fun v q hv => ?_) ?_
  · subst hv
    skip
    obtain _ := q
    dsimp only at hq1
    refine JC.at ⟨[], [], []⟩ ?_
    refine JC.seq ?_
    refine JC.region ?_
    refine JL.cons rfl (op_assign (ltB rfl) .cI) ?_
    refine JL.nil ?_
    refine JQ.then ?_
    refine JC.ret ?_
    replace hq1 := Option.some.inj hq1
    subst hq1
    exact JQ.done (js := []) (ss := [.val (S (rI .i64) (-1 : Int))]) () (.inl rfl) (.nil rfl) rfl (.cons (.tmp rfl) .nil) rfl rfl rfl
  · refine JC.seq ?_
    refine JC.region ?_
    refine JL.cons rfl (op_move (ltB rfl) (.tmp rfl)) ?_
    refine JL.cons rfl (op_lenL (ltB rfl) tu25 (.tmp rfl)) ?_
    refine JL.cons rfl (op_move (ltB rfl) .cI) ?_
    refine JL.nil ?_
    refine JQ.then ?_
    refine JC.block ?_
    replace hx1 := bnd_inv hx1
    obtain ⟨tv2, hL2, hq2⟩ := hx1
    refine JC.pre ?_ (JC.loop (γ := Unit) (stf := fun s q => ⟨[(0, .one (.val (S (rL (rU UInt8)) s_1))), (1, .one (.val (S (rU UInt8) v_2))), (7, .one (.val (S (rI .i64) (List.length s_1 : Int)))), (8, .one (.val (S (rI .i64) s)))], [], []⟩) (q := ()) hL2 ?_)
    · exact (Imp.norm (js := []) rfl (.cons rfl (.cons rfl (.cons rfl (.cons rfl .nil)))))
    · intro x_3 q x hx hr
      obtain _ := q
      change slices_Indexbyte_byte.b1 k s_1 v_2 x_3 = some x at hx
      unfold slices_Indexbyte_byte.b1 at hx
      refine JC.at ⟨[(0, .one (.val (S (rL (rU UInt8)) s_1))), (1, .one (.val (S (rU UInt8) v_2))), (7, .one (.val (S (rI .i64) (List.length s_1 : Int)))), (8, .one (.val (S (rI .i64) x_3)))], [], []⟩ ?_
      refine JC.seq ?_
      refine JC.region ?_
      replace hx := lt1_inv hx
      obtain ⟨v_4, hv_v_4, hx⟩ := hx
      refine JL.cons rfl (op_cmpI (ltB rfl) (.tmp rfl) (.tmp rfl) (congrArg some hv_v_4)) ?_
      refine JL.nil ?_
      refine JQ.then ?_
      refine JC.seq ?_
      replace hx := iteB_inv hx
      rcases hx with ⟨hc3, hx⟩ | ⟨hc3, hx⟩
      · refine JC.condT (.tmp rfl) hc3 ?_
        refine JC.skip ?_
        refine JQ.then ?_
        refine JC.seq ?_
        refine JC.block ?_
        refine JC.seq ?_
        refine JC.region ?_
        refine JL.cons rfl (op_move (ltB rfl) (.tmp rfl)) ?_
        refine JL.cons rfl (op_assign (ltB rfl) (.tmp rfl)) ?_
        refine JL.nil ?_
        refine JQ.then ?_
        refine JC.seq ?_
        refine JC.region ?_
        refine JL.cons rfl (op_move (ltB rfl) (.tmp rfl)) ?_
        refine JL.cons rfl (op_move (ltB rfl) (.tmp rfl)) ?_
        refine JL.cons rfl (op_move (ltB rfl) (.tmp rfl)) ?_
        refine JL.pre (Imp.sub (ρ' := [(0, .one (.val (S (rL (rU UInt8)) s_1))), (1, .one (.val (S (rU UInt8) v_2))), (5, .one (.val (S (rI .i64) x_3))), (7, .one (.val (S (rI .i64) (List.length s_1 : Int)))), (8, .one (.val (S (rI .i64) x_3))), (11, .one (.val (S (rU UInt8) v_2))), (12, .one (.val (S (rL (rU UInt8)) s_1))), (13, .one (.val (S (rI .i64) x_3)))]) (.cons rfl (.cons rfl (.cons rfl (.cons rfl (.cons rfl (.cons rfl (.cons rfl (.cons rfl .nil))))))))) ?_
        refine JL.at ⟨[(0, .one (.val (S (rL (rU UInt8)) s_1))), (1, .one (.val (S (rU UInt8) v_2))), (5, .one (.val (S (rI .i64) x_3))), (7, .one (.val (S (rI .i64) (List.length s_1 : Int)))), (8, .one (.val (S (rI .i64) x_3))), (11, .one (.val (S (rU UInt8) v_2))), (12, .one (.val (S (rL (rU UInt8)) s_1))), (13, .one (.val (S (rI .i64) x_3)))], [], []⟩ ?_
        replace hx := bnd_inv hx
        obtain ⟨v_5, hv_v_5, hx⟩ := hx
        refine JL.cons rfl (op_indexAddrLg (ltB rfl) tu25 tz5 (.tmp rfl) (.tmp rfl) hv_v_5) ?_
        refine JL.cons rfl (op_loadPSg (ltB rfl) tS5 rfl (.tmp rfl) rfl) ?_
        replace hx := lt1_inv hx
        obtain ⟨v_6, hv_v_6, hx⟩ := hx
        refine JL.cons rfl (op_cmpU (ltB rfl) (.tmp rfl) (.tmp rfl) (congrArg some hv_v_6)) ?_
        refine JL.nil ?_
        refine JQ.then ?_
        replace hx := iteB_inv hx
        rcases hx with ⟨hc4, hx⟩ | ⟨hc4, hx⟩
        · refine JC.condT (.tmp rfl) hc4 ?_
          refine JC.seq ?_
          refine JC.region ?_
          refine JL.cons rfl (op_move (ltB rfl) (.tmp rfl)) ?_
          refine JL.cons rfl (op_assign (ltB rfl) (.tmp rfl)) ?_
          refine JL.nil ?_
          refine JQ.then ?_
          refine JC.ret ?_
          refine JQ.outRB ?_
          refine JQ.outR ?_
          replace hx := Option.some.inj hx
          first | subst hx | clear hx
          have ht := hr _ rfl
          clear hr
          first | subst ht | clear ht
          dsimp only at hq2
          refine JQ.outR ?_
          refine JQ.outRB ?_
          replace hq2 := Option.some.inj hq2
          first | subst hq2 | clear hq2
          dsimp only at hq1
          refine JQ.outR ?_
          replace hq1 := Option.some.inj hq1
          subst hq1
          exact JQ.done (js := []) (ss := [.val (S (rI .i64) x_3)]) () (.inl rfl) (.nil rfl) rfl (.cons (.tmp rfl) .nil) rfl rfl rfl
        · refine JC.condF (.tmp rfl) hc4 ?_
          refine JC.skip ?_
          refine JQ.outNB ?_
          refine JQ.then ?_
          refine JC.region ?_
          replace hx := lt1_inv hx
          obtain ⟨v_7, hv_v_7, hx⟩ := hx
          refine JL.cons rfl (op_arI (ltB rfl) (.tmp rfl) .cI (congrArg some hv_v_7)) ?_
          refine JL.cons rfl (op_move (ltB rfl) (.tmp rfl)) ?_
          refine JL.nil ?_
          replace hx := Option.some.inj hx
          first | subst hx | clear hx
          exact JQ.next () rfl (Imp.norm (js := []) rfl (.cons rfl (.cons rfl (.cons rfl (.cons rfl .nil)))))
      · refine JC.condF (.tmp rfl) hc3 ?_
        refine JC.exit ?_
        refine JQ.outX ?_
        replace hx := Option.some.inj hx
        first | subst hx | clear hx
        have ht := hr _ rfl
        clear hr
        first | subst ht | clear ht
        dsimp only at hq2
        refine JQ.outX ?_
        refine JQ.here ?_
        replace hq2 := Option.some.inj hq2
        first | subst hq2 | clear hq2
        exact JQ.joinK () () rfl (Imp.norm (js := []) rfl .nil)

theorem sim_sha_Of (k : Nat) (s_1 : (List UInt8)) (r : (Vector UInt8 32) × Int) (hm : sha_Of k s_1 = some r) : Sim Try.prog 16 [S rS s_1] [] (γ := Unit) (fun q => []) (fun q => .tup [.val (A (rV 32 (rU UInt8)) r.1), .val (S (rI .i64) r.2)]) := by
  unfold sha_Of at hm
  refine Sim.of Try.func16 rfl rfl (Nat.le_of_ble_eq_true rfl) (fun e0 w0 => ?_)
  refine JC.at ⟨[(0, .one (.val (S rS s_1)))], [], []⟩ ?_
  refine JC.seq ?_
  refine JC.region ?_
  refine JL.consX rfl (op_alloc (ltB rfl) tZ28 zr28) (fun q => ?_)
  obtain ⟨gb_2, hqq⟩ : ∃ z, z = q := ⟨_, rfl⟩
  subst hqq
  refine JL.pre (Imp.sub (ρ' := [(0, .one (.val (S rS s_1))), (2, .one (.val (PTR gb_2 0)))]) (.cons rfl (.cons rfl .nil))) ?_
  refine JL.at ⟨[(0, .one (.val (S rS s_1))), (2, .one (.val (PTR gb_2 0)))], [cvar gb_2 (rV 32 (rU UInt8)) (Vector.replicate 32 (0 : UInt8))], []⟩ ?_
  refine JL.cons rfl (op_assign (ltB rfl) .cI) ?_
  refine JL.nil ?_
  refine JQ.then ?_
  refine JC.scope ?_
  refine JC.seq ?_
  refine JC.seq ?_
  refine JC.region ?_
  refine JL.cons rfl (op_move (ltB rfl) (.tmp rfl)) ?_
  refine JL.cons rfl (op_lenS (ltB rfl) tu9 (.tmp rfl)) ?_
  replace hm := lt1_inv hm
  obtain ⟨v_3, hv_v_3, hm⟩ := hm
  refine JL.cons rfl (op_cmpI (ltB rfl) (.tmp rfl) .cI (congrArg some hv_v_3)) ?_
  refine JL.nil ?_
  refine JQ.then ?_
  replace hm := iteB_inv hm
  rcases hm with ⟨hc1, hm⟩ | ⟨hc1, hm⟩
  · refine JC.condT (.tmp rfl) hc1 ?_
    refine JC.seq ?_
    refine JC.region ?_
    refine JL.cons rfl (op_loadA (j := 0) (ltB rfl) tA28 (.tmp rfl) rfl (Comp.self (rV 32 (rU UInt8)) (Vector.replicate 32 (0 : UInt8))) rfl) ?_
    refine JL.cons rfl (op_storeA (j := 0) tA28 (.tmp rfl) (.tmp rfl) rfl (UpdR.self (by rfl)) rfl) ?_
    refine JL.pre (Imp.sub (ρ' := [(2, .one (.val (PTR gb_2 0))), (3, .one (.val (S (rI .i64) (0 : Int))))]) (.cons rfl (.cons rfl .nil))) ?_
    refine JL.at ⟨[(2, .one (.val (PTR gb_2 0))), (3, .one (.val (S (rI .i64) (0 : Int))))], [cvar gb_2 (rV 32 (rU UInt8)) (Vector.replicate 32 (0 : UInt8))], []⟩ ?_
    refine JL.cons rfl (op_assign (ltB rfl) .cI) ?_
    refine JL.nil ?_
    refine JQ.then ?_
    refine JC.ret ?_
    refine JQ.outR ?_
    refine JQ.scR ?_
    replace hm := Option.some.inj hm
    subst hm
    exact JQ.done (js := []) (ss := [.val (A (rV 32 (rU UInt8)) (Vector.replicate 32 (0 : UInt8))), .val (S (rI .i64) (4 : Int))]) () (.inl rfl) (.nil rfl) rfl (.cons (.cellA (j := 0) tA28 rfl rfl) (.cons (.tmp rfl) .nil)) rfl rfl rfl
  · refine JC.condF (.tmp rfl) hc1 ?_
    refine JC.skip ?_
    refine JQ.then ?_
    refine JC.seq ?_
    refine JC.label ?_
    refine JQ.then ?_
    replace hm := bnd_inv hm
    obtain ⟨⟨h_21, e_22⟩, hx2, hq2⟩ := hm
    refine JC.seqJ (γ := Unit) (stj := fun q => ⟨[(2, .one (.val (PTR gb_2 0))), (3, .one (.val (S (rI .i64) e_22)))], [cvar gb_2 (rV 32 (rU UInt8)) h_21], []⟩) (fun q => ?_) ?_
    · obtain _ := q
      refine JC.at ⟨[(2, .one (.val (PTR gb_2 0))), (3, .one (.val (S (rI .i64) e_22)))], [cvar gb_2 (rV 32 (rU UInt8)) h_21], []⟩ ?_
      refine JC.seq ?_
      refine JC.region ?_
      refine JL.cons rfl (op_loadA (j := 0) (ltB rfl) tA28 (.tmp rfl) rfl (Comp.self (rV 32 (rU UInt8)) h_21) rfl) ?_
      refine JL.cons rfl (op_move (ltB rfl) (.tmp rfl)) ?_
      refine JL.cons rfl (op_storeA (j := 0) tA28 (.tmp rfl) (.tmp rfl) rfl (UpdR.self (by rfl)) rfl) ?_
      refine JL.cons rfl (op_assign (ltB rfl) (.tmp rfl)) ?_
      refine JL.nil ?_
      refine JQ.then ?_
      refine JC.ret ?_
      refine JQ.scR ?_
      replace hq2 := Option.some.inj hq2
      subst hq2
      exact JQ.done (js := []) (ss := [.val (A (rV 32 (rU UInt8)) h_21), .val (S (rI .i64) e_22)]) () (.inl rfl) (.nil rfl) rfl (.cons (.cellA (j := 0) tA28 rfl rfl) (.cons (.tmp rfl) .nil)) rfl rfl rfl
    · refine JC.seq ?_
      refine JC.region ?_
      refine JL.cons rfl (op_move (ltB rfl) (.tmp rfl)) ?_
      refine JL.cons rfl (op_lenS (ltB rfl) tu9 (.tmp rfl)) ?_
      refine JL.pre (Imp.sub (ρ' := [(0, .one (.val (S rS s_1))), (2, .one (.val (PTR gb_2 0))), (3, .one (.val (S (rI .i64) (0 : Int)))), (11, .one (.val (S (rI .i64) (List.length s_1 : Int))))]) (.cons rfl (.cons rfl (.cons rfl (.cons rfl .nil))))) ?_
      refine JL.at ⟨[(0, .one (.val (S rS s_1))), (2, .one (.val (PTR gb_2 0))), (3, .one (.val (S (rI .i64) (0 : Int)))), (11, .one (.val (S (rI .i64) (List.length s_1 : Int))))], [cvar gb_2 (rV 32 (rU UInt8)) (Vector.replicate 32 (0 : UInt8))], []⟩ ?_
      refine JL.cons rfl (op_move (ltB rfl) .cI) ?_
      refine JL.nil ?_
      refine JQ.then ?_
      refine JC.block ?_
      refine JC.pre ?_ (JC.loop (γ := Unit) (stf := fun s q => ⟨[(0, .one (.val (S rS s_1))), (2, .one (.val (PTR gb_2 0))), (3, .one (.val (S (rI .i64) (0 : Int)))), (11, .one (.val (S (rI .i64) (List.length s_1 : Int)))), (12, .one (.val (S (rI .i64) s.2)))], [cvar gb_2 (rV 32 (rU UInt8)) s.1], []⟩) (q := ()) hx2 ?_)
      · exact (Imp.norm (js := [0]) rfl (.cons rfl (.cons rfl (.cons rfl (.cons rfl (.cons rfl .nil))))))
      · intro s q x hx hr
        obtain ⟨h_4, x_5⟩ := s
        obtain _ := q
        change sha_Of.b1 k s_1 h_4 x_5 = some x at hx
        unfold sha_Of.b1 at hx
        refine JC.at ⟨[(0, .one (.val (S rS s_1))), (2, .one (.val (PTR gb_2 0))), (3, .one (.val (S (rI .i64) (0 : Int)))), (11, .one (.val (S (rI .i64) (List.length s_1 : Int)))), (12, .one (.val (S (rI .i64) x_5)))], [cvar gb_2 (rV 32 (rU UInt8)) h_4], []⟩ ?_
        refine JC.seq ?_
        refine JC.region ?_
        replace hx := lt1_inv hx
        obtain ⟨v_6, hv_v_6, hx⟩ := hx
        refine JL.cons rfl (op_cmpI (ltB rfl) (.tmp rfl) (.tmp rfl) (congrArg some hv_v_6)) ?_
        refine JL.nil ?_
        refine JQ.then ?_
        refine JC.seq ?_
        replace hx := iteB_inv hx
        rcases hx with ⟨hc4, hx⟩ | ⟨hc4, hx⟩
        · refine JC.condT (.tmp rfl) hc4 ?_
          refine JC.skip ?_
          refine JQ.then ?_
          refine JC.seq ?_
          refine JC.block ?_
          refine JC.seq ?_
          refine JC.region ?_
          refine JL.cons rfl (op_move (ltB rfl) (.tmp rfl)) ?_
          refine JL.cons rfl (op_assign (ltB rfl) (.tmp rfl)) ?_
          refine JL.nil ?_
          refine JQ.then ?_
          refine JC.seq ?_
          refine JC.region ?_
          refine JL.consX rfl (op_buildO (r := (rU UInt8)) (ltB rfl) tu25 tz5 tZ5 rfl (Nat.le_of_ble_eq_true rfl) (.S rfl (HasO.cU (x := (48 : UInt8)) rfl (by decide)) (.S rfl (HasO.cU (x := (49 : UInt8)) rfl (by decide)) (.S rfl (HasO.cU (x := (50 : UInt8)) rfl (by decide)) (.S rfl (HasO.cU (x := (51 : UInt8)) rfl (by decide)) (.S rfl (HasO.cU (x := (52 : UInt8)) rfl (by decide)) (.S rfl (HasO.cU (x := (53 : UInt8)) rfl (by decide)) (.S rfl (HasO.cU (x := (54 : UInt8)) rfl (by decide)) (.S rfl (HasO.cU (x := (55 : UInt8)) rfl (by decide)) (.S rfl (HasO.cU (x := (56 : UInt8)) rfl (by decide)) (.S rfl (HasO.cU (x := (57 : UInt8)) rfl (by decide)) (.S rfl (HasO.cU (x := (97 : UInt8)) rfl (by decide)) (.S rfl (HasO.cU (x := (98 : UInt8)) rfl (by decide)) (.S rfl (HasO.cU (x := (99 : UInt8)) rfl (by decide)) (.S rfl (HasO.cU (x := (100 : UInt8)) rfl (by decide)) (.S rfl (HasO.cU (x := (101 : UInt8)) rfl (by decide)) (.S rfl (HasO.cU (x := (102 : UInt8)) rfl (by decide)) .nil)))))))))))))))) rfl) (fun q => ?_)
          obtain ⟨gb_7, hqq⟩ : ∃ z, z = q := ⟨_, rfl⟩
          subst hqq
          refine JL.pre (Imp.sub (ρ' := [(0, .one (.val (S rS s_1))), (2, .one (.val (PTR gb_2 0))), (3, .one (.val (S (rI .i64) (0 : Int)))), (4, .one (.val (S (rI .i64) x_5))), (11, .one (.val (S (rI .i64) (List.length s_1 : Int)))), (12, .one (.val (S (rI .i64) x_5))), (15, .one (.val (HDR (some gb_7) 0 (List.length ([(48 : UInt8), (49 : UInt8), (50 : UInt8), (51 : UInt8), (52 : UInt8), (53 : UInt8), (54 : UInt8), (55 : UInt8), (56 : UInt8), (57 : UInt8), (97 : UInt8), (98 : UInt8), (99 : UInt8), (100 : UInt8), (101 : UInt8), (102 : UInt8)] : (List UInt8))) (16))))]) (.cons rfl (.cons rfl (.cons rfl (.cons rfl (.cons rfl (.cons rfl (.cons rfl .nil)))))))) ?_
          refine JL.at ⟨[(0, .one (.val (S rS s_1))), (2, .one (.val (PTR gb_2 0))), (3, .one (.val (S (rI .i64) (0 : Int)))), (4, .one (.val (S (rI .i64) x_5))), (11, .one (.val (S (rI .i64) (List.length s_1 : Int)))), (12, .one (.val (S (rI .i64) x_5))), (15, .one (.val (HDR (some gb_7) 0 (List.length ([(48 : UInt8), (49 : UInt8), (50 : UInt8), (51 : UInt8), (52 : UInt8), (53 : UInt8), (54 : UInt8), (55 : UInt8), (56 : UInt8), (57 : UInt8), (97 : UInt8), (98 : UInt8), (99 : UInt8), (100 : UInt8), (101 : UInt8), (102 : UInt8)] : (List UInt8))) (16))))], [cvar gb_2 (rV 32 (rU UInt8)) h_4, cown (some gb_7) (rU UInt8) ([(48 : UInt8), (49 : UInt8), (50 : UInt8), (51 : UInt8), (52 : UInt8), (53 : UInt8), (54 : UInt8), (55 : UInt8), (56 : UInt8), (57 : UInt8), (97 : UInt8), (98 : UInt8), (99 : UInt8), (100 : UInt8), (101 : UInt8), (102 : UInt8)] : (List UInt8)) 0 (16)], []⟩ ?_
          refine JL.cons rfl (op_markO (j := 1) (ltB rfl) tu25 tu5 rfl (.tmp rfl) (Nat.le_of_ble_eq_true rfl)) ?_
          refine JL.cons rfl (op_move (ltB rfl) (.tmp rfl)) ?_
          refine JL.cons rfl (op_move (ltB rfl) (.tmp rfl)) ?_
          replace hx := bnd_inv hx
          obtain ⟨v_8, hv_v_8, hx⟩ := hx
          refine JL.cons rfl (op_indexStrg (ltB rfl) tu9 (.tmp rfl) (.tmp rfl) hv_v_8) ?_
          replace hx := bnd_inv hx
          obtain ⟨v_9, hv_v_9, hx⟩ := hx
          refine JL.pre (Imp.frz (j := 1) rfl (ImpK.slotH (s := 15) rfl (ImpK.slotH (s := 16) rfl ImpK.refl))) ?_
          refine JL.consX rfl (op_call (js := []) (ltD rfl) cl31 (sim_slices_Indexbyte_byte k ([(48 : UInt8), (49 : UInt8), (50 : UInt8), (51 : UInt8), (52 : UInt8), (53 : UInt8), (54 : UInt8), (55 : UInt8), (56 : UInt8), (57 : UInt8), (97 : UInt8), (98 : UInt8), (99 : UInt8), (100 : UInt8), (101 : UInt8), (102 : UInt8)] : (List UInt8)) v_8 v_9 hv_v_9) .func (.cons (HasO.wk (.tmp rfl) wkHL) (.cons (.tmp rfl) .nil)) rfl) (fun _ => ?_)
          refine JL.pre (Imp.norm (ρ' := [(0, .one (.val (S rS s_1))), (2, .one (.val (PTR gb_2 0))), (3, .one (.val (S (rI .i64) (0 : Int)))), (4, .one (.val (S (rI .i64) x_5))), (11, .one (.val (S (rI .i64) (List.length s_1 : Int)))), (12, .one (.val (S (rI .i64) x_5))), (20, .one (.val (S (rI .i64) v_9)))]) (js := [0]) rfl (.cons rfl (.cons rfl (.cons rfl (.cons rfl (.cons rfl (.cons rfl (.cons rfl .nil)))))))) ?_
          refine JL.at ⟨[(0, .one (.val (S rS s_1))), (2, .one (.val (PTR gb_2 0))), (3, .one (.val (S (rI .i64) (0 : Int)))), (4, .one (.val (S (rI .i64) x_5))), (11, .one (.val (S (rI .i64) (List.length s_1 : Int)))), (12, .one (.val (S (rI .i64) x_5))), (20, .one (.val (S (rI .i64) v_9)))], [cvar gb_2 (rV 32 (rU UInt8)) h_4], []⟩ ?_
          refine JL.cons rfl (op_assign (ltB rfl) (.tmp rfl)) ?_
          refine JL.nil ?_
          refine JQ.then ?_
          refine JC.seq ?_
          refine JC.seq ?_
          refine JC.region ?_
          refine JL.cons rfl (op_move (ltB rfl) (.tmp rfl)) ?_
          replace hx := lt1_inv hx
          obtain ⟨v_10, hv_v_10, hx⟩ := hx
          refine JL.cons rfl (op_cmpI (ltB rfl) (.tmp rfl) .cI (congrArg some hv_v_10)) ?_
          refine JL.nil ?_
          refine JQ.then ?_
          replace hx := iteB_inv hx
          rcases hx with ⟨hc5, hx⟩ | ⟨hc5, hx⟩
          · refine JC.condT (.tmp rfl) hc5 ?_
            refine JC.seq ?_
            refine JC.region ?_
            refine JL.cons rfl (op_build (ltB rfl) tZ28 zv28 tp28 .nil rfl) ?_
            refine JL.cons rfl (op_storeA (j := 0) tA28 (.tmp rfl) (.tmp rfl) rfl (UpdR.self (by rfl)) rfl) ?_
            refine JL.pre (Imp.sub (ρ' := [(2, .one (.val (PTR gb_2 0))), (3, .one (.val (S (rI .i64) (0 : Int))))]) (.cons rfl (.cons rfl .nil))) ?_
            refine JL.at ⟨[(2, .one (.val (PTR gb_2 0))), (3, .one (.val (S (rI .i64) (0 : Int))))], [cvar gb_2 (rV 32 (rU UInt8)) (Vector.replicate 32 (0 : UInt8))], []⟩ ?_
            refine JL.cons rfl (op_assign (ltB rfl) .cI) ?_
            refine JL.nil ?_
            refine JQ.then ?_
            refine JC.exit ?_
            refine JQ.outX ?_
            refine JQ.outE (by decide) ?_
            refine JQ.outX ?_
            replace hx := Option.some.inj hx
            first | subst hx | clear hx
            have ht := hr _ rfl
            have hq3 := congrArg some ht
            clear hr ht
            refine JQ.outX ?_
            refine JQ.here ?_
            replace hq3 := Option.some.inj hq3
            replace hq3 := Prod.mk.inj hq3
            obtain ⟨hq3_a, hq3⟩ := hq3
            first | subst hq3_a | clear hq3_a
            first | subst hq3 | clear hq3
            exact JQ.join () (Imp.norm (js := [0]) rfl (.cons rfl (.cons rfl .nil)))
          · refine JC.condF (.tmp rfl) hc5 ?_
            refine JC.skip ?_
            refine JQ.then ?_
            refine JC.region ?_
            refine JL.cons rfl (op_move (ltB rfl) (.tmp rfl)) ?_
            replace hx := bnd_inv hx
            obtain ⟨v_11, hv_v_11, hx⟩ := hx
            refine JL.cons rfl (op_arI (ltB rfl) (.tmp rfl) .cI hv_v_11) ?_
            refine JL.cons rfl (op_move (ltB rfl) (.tmp rfl)) ?_
            refine JL.pre (Imp.sub (ρ' := [(0, .one (.val (S rS s_1))), (2, .one (.val (PTR gb_2 0))), (3, .one (.val (S (rI .i64) (0 : Int)))), (5, .one (.val (S (rI .i64) v_9))), (11, .one (.val (S (rI .i64) (List.length s_1 : Int)))), (12, .one (.val (S (rI .i64) x_5))), (25, .one (.val (S (rI .i64) v_11))), (26, .one (.val (S (rI .i64) x_5)))]) (.cons rfl (.cons rfl (.cons rfl (.cons rfl (.cons rfl (.cons rfl (.cons rfl (.cons rfl .nil))))))))) ?_
            refine JL.at ⟨[(0, .one (.val (S rS s_1))), (2, .one (.val (PTR gb_2 0))), (3, .one (.val (S (rI .i64) (0 : Int)))), (5, .one (.val (S (rI .i64) v_9))), (11, .one (.val (S (rI .i64) (List.length s_1 : Int)))), (12, .one (.val (S (rI .i64) x_5))), (25, .one (.val (S (rI .i64) v_11))), (26, .one (.val (S (rI .i64) x_5)))], [cvar gb_2 (rV 32 (rU UInt8)) h_4], []⟩ ?_
            replace hx := bnd_inv hx
            obtain ⟨v_12, hv_v_12, hx⟩ := hx
            refine JL.cons rfl (op_arI (ltB rfl) (.tmp rfl) .cI hv_v_12) ?_
            replace hx := bnd_inv hx
            obtain ⟨i_13, hv_i_13, hx⟩ := hx
            refine JL.cons rfl (op_indexAddrIF (ltB rfl) tr28 (.tmp rfl) (.tmp rfl) hv_i_13) ?_
            replace hx := lt1_inv hx
            obtain ⟨v_14, hv_v_14, hx⟩ := hx
            refine JL.cons rfl (op_loadS (j := 0) (ltB rfl) tS5 (.tmp rfl) rfl (Comp.at (Comp.self (rV 32 (rU UInt8)) h_4) i_13.2 rfl) rfl hv_v_14) ?_
            replace hx := lt1_inv hx
            obtain ⟨v_15, hv_v_15, hx⟩ := hx
            refine JL.cons rfl (op_shlUU (ltB rfl) (.tmp rfl) (HasO.cU (x := (4 : UInt64)) rfl (by decide)) hv_v_15) ?_
            refine JL.cons rfl (op_move (ltB rfl) (.tmp rfl)) ?_
            replace hx := lt1_inv hx
            obtain ⟨v_16, hv_v_16, hx⟩ := hx
            refine JL.cons rfl (op_convIU (ltB rfl) tu3 tu5 (.tmp rfl) hv_v_16) ?_
            refine JL.pre (Imp.sub (ρ' := [(0, .one (.val (S rS s_1))), (2, .one (.val (PTR gb_2 0))), (3, .one (.val (S (rI .i64) (0 : Int)))), (11, .one (.val (S (rI .i64) (List.length s_1 : Int)))), (12, .one (.val (S (rI .i64) x_5))), (25, .one (.val (S (rI .i64) v_11))), (30, .one (.val (S (rU UInt8) v_15))), (32, .one (.val (S (rU UInt8) v_16)))]) (.cons rfl (.cons rfl (.cons rfl (.cons rfl (.cons rfl (.cons rfl (.cons rfl (.cons rfl .nil))))))))) ?_
            refine JL.at ⟨[(0, .one (.val (S rS s_1))), (2, .one (.val (PTR gb_2 0))), (3, .one (.val (S (rI .i64) (0 : Int)))), (11, .one (.val (S (rI .i64) (List.length s_1 : Int)))), (12, .one (.val (S (rI .i64) x_5))), (25, .one (.val (S (rI .i64) v_11))), (30, .one (.val (S (rU UInt8) v_15))), (32, .one (.val (S (rU UInt8) v_16)))], [cvar gb_2 (rV 32 (rU UInt8)) h_4], []⟩ ?_
            replace hx := lt1_inv hx
            obtain ⟨v_17, hv_v_17, hx⟩ := hx
            refine JL.cons rfl (op_arU (ltB rfl) (.tmp rfl) (.tmp rfl) (congrArg some hv_v_17)) ?_
            replace hx := bnd_inv hx
            obtain ⟨i_18, hv_i_18, hx⟩ := hx
            refine JL.cons rfl (op_indexAddrIF (ltB rfl) tr28 (.tmp rfl) (.tmp rfl) hv_i_18) ?_
            replace hx := lt1_inv hx
            obtain ⟨h_19, hv_h_19, hx⟩ := hx
            refine JL.cons rfl (op_storeS (j := 0) tS5 (.tmp rfl) (.tmp rfl) rfl rfl (Upd.at (Comp.self (rV 32 (rU UInt8)) h_4) i_18.2 rfl (Upd.self (rV 32 (rU UInt8)) h_4 _)).R hv_h_19) ?_
            refine JL.pre (Imp.sub (ρ' := [(0, .one (.val (S rS s_1))), (2, .one (.val (PTR gb_2 0))), (3, .one (.val (S (rI .i64) (0 : Int)))), (11, .one (.val (S (rI .i64) (List.length s_1 : Int)))), (12, .one (.val (S (rI .i64) x_5)))]) (.cons rfl (.cons rfl (.cons rfl (.cons rfl (.cons rfl .nil)))))) ?_
            refine JL.at ⟨[(0, .one (.val (S rS s_1))), (2, .one (.val (PTR gb_2 0))), (3, .one (.val (S (rI .i64) (0 : Int)))), (11, .one (.val (S (rI .i64) (List.length s_1 : Int)))), (12, .one (.val (S (rI .i64) x_5)))], [cvar gb_2 (rV 32 (rU UInt8)) h_19], []⟩ ?_
            refine JL.nil ?_
            refine JQ.outNB ?_
            refine JQ.then ?_
            refine JC.region ?_
            replace hx := lt1_inv hx
            obtain ⟨v_20, hv_v_20, hx⟩ := hx
            refine JL.cons rfl (op_arI (ltB rfl) (.tmp rfl) .cI (congrArg some hv_v_20)) ?_
            refine JL.cons rfl (op_move (ltB rfl) (.tmp rfl)) ?_
            refine JL.nil ?_
            replace hx := Option.some.inj hx
            first | subst hx | clear hx
            exact JQ.next () rfl (Imp.norm (js := [0]) rfl (.cons rfl (.cons rfl (.cons rfl (.cons rfl (.cons rfl .nil))))))
        · refine JC.condF (.tmp rfl) hc4 ?_
          refine JC.exit ?_
          refine JQ.outX ?_
          replace hx := Option.some.inj hx
          first | subst hx | clear hx
          have ht := hr _ rfl
          have hq3 := congrArg some ht
          clear hr ht
          refine JQ.outX ?_
          refine JQ.here ?_
          replace hq3 := Option.some.inj hq3
          replace hq3 := Prod.mk.inj hq3
          obtain ⟨hq3_a, hq3⟩ := hq3
          first | subst hq3_a | clear hq3_a
          first | subst hq3 | clear hq3
          exact JQ.join () (Imp.norm (js := [0]) rfl (.cons rfl (.cons rfl .nil)))

theorem sim_law03_num (k : Nat) (e_1 : Int) (r : Unit) (hm : law03_num k e_1 = some r) : Sim Try.prog 18 [S (rI .i64) e_1] [] (γ := Unit) (fun q => []) (fun q => .one (.val (S (rI .i64) e_1))) := by
  unfold law03_num at hm
  refine Sim.of Try.func18 rfl rfl (Nat.le_of_ble_eq_true rfl) (fun e0 w0 => ?_)
  refine JC.at ⟨[(0, .one (.val (S (rI .i64) e_1)))], [], []⟩ ?_
  refine JC.seq ?_
  refine JC.region ?_
  refine JL.cons rfl (op_assign (ltB rfl) .cI) ?_
  refine JL.nil ?_
  refine JQ.then ?_
  refine JC.seq ?_
  refine JC.region ?_
  refine JL.cons rfl (op_move (ltB rfl) (.tmp rfl)) ?_
  refine JL.cons rfl (op_assign (ltB rfl) (.tmp rfl)) ?_
  refine JL.nil ?_
  refine JQ.then ?_
  refine JC.ret ?_
  exact JQ.done (js := []) (ss := [.val (S (rI .i64) e_1)]) () (.inl rfl) (.nil rfl) rfl (.cons (.tmp rfl) .nil) rfl rfl rfl

end Go.Proofs.Ytdncoiehmkcajaa
