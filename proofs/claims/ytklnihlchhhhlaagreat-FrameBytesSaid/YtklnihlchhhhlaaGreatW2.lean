/- Walks. -/
import Derived.Test.YtklnihlchhhhlaaGreatT
import Derived.Test.YtklnihlchhhhlaaGreatW0
import Derived.Test.YtklnihlchhhhlaaGreatW1
namespace Go.Proofs.YtklnihlchhhhlaaGreat
open Go Fw
set_option linter.unusedVariables false
set_option maxRecDepth 100000
set_option maxHeartbeats 4000000

theorem sim_ctx_order (k : Nat) (a_1 : api_Dot) (b_2 : api_Dot) (r : Int) (hm : ctx_order k a_1 b_2 = some r) : Sim Tryz.prog 86 [A r_api_Dot a_1, A r_api_Dot b_2] [] (γ := Unit) (fun q => []) (fun q => .one (.val (S (rI .i64) r))) := by
 unfold ctx_order at hm
 refine Sim.of Tryz.func86 rfl rfl (lE rfl) (fun e0 w0 => ?_)
 refine JC.at ⟨[(0, ov (A r_api_Dot a_1)), (1, ov (A r_api_Dot b_2))], [], []⟩ <| jr <| jx (op_boxA lb (.tmp rfl)) fun gb_3 => jx (op_boxA lb (.tmp rfl)) fun gb_4 => jc (op_assign lb .cI) <| jn <| JC.seq <| bI hm fun v_5 hv_5 hm => bI hm fun v_6 hv_6 hm => ?_
 obtain ⟨v_7, hv_7, hm⟩ := bnd_inv hm
 refine JC.anyF (base := [(2, ov (PTR gb_3 0)), (3, ov (PTR gb_4 0))])
     (fs := fun γ => [⟨some 5, ov (PTR gb_3 (0 + 0))⟩, ⟨some 6, ov (S (rI .i64) a_1.Region)⟩, ⟨some 7, ov (PTR gb_4 (0 + 0))⟩, ⟨some 8, ov (S (rI .i64) b_2.Region)⟩, ⟨some 9, ov (S (rI .i64) v_5)⟩, ⟨some 10, ov (PTR gb_3 (0 + 1))⟩, ⟨some 11, ov (S (rU UInt64) a_1.Count)⟩, ⟨some 12, ov (PTR gb_4 (0 + 1))⟩, ⟨some 13, ov (S (rU UInt64) b_2.Count)⟩, ⟨some 14, ov (S (rI .i64) v_6)⟩, ⟨some 15, ov (S (rL (rI .i64)) ([v_5, v_6] : (List Int)))⟩, ⟨some 16, ov (S (rI .i64) v_7)⟩, ⟨some 4, ov (S (rI .i64) v_7)⟩])
     (rs := fun γ => [⟨cvar gb_3 r_api_Dot a_1, none, none, [1, 6]⟩, ⟨cvar gb_4 r_api_Dot b_2, none, none, [3, 8]⟩])
     (afts := nn 13) (js := [0, 0]) mixed (.cons rfl (.cons rfl .nil)) (fun _ => rfl)
     (by
      refine dS 1 (fun γ ρ B hb hd => op_fieldAddr (off := 0) lb tf26_0 (.tmp (hb 2 _ rfl))) <| dR 2 (fun γ ρ B hb hd => OpStep.lk ⟨ρ, (cvar gb_3 r_api_Dot a_1) :: B, _⟩ (op_loadS (j := 0) lb tS3 (tl hd 0 5) rfl (cT (comp_api_Dot_Region a_1) rfl) rfl rfl)) <| dS 3 (fun γ ρ B hb hd => op_fieldAddr (off := 0) lb tf26_0 (.tmp (hb 3 _ rfl))) <| dR 4 (fun γ ρ B hb hd => OpStep.lk ⟨ρ, (cvar gb_4 r_api_Dot b_2) :: B, _⟩ (op_loadS (j := 0) lb tS3 (tl hd 2 7) rfl (cT (comp_api_Dot_Region b_2) rfl) rfl rfl)) <| dS 5 (fun γ ρ B hb hd => (op_call (js := []) ld cl118 (sim_cmp_Compareint k a_1.Region b_2.Region v_5 hv_5) .func (.cons (tl hd 1 6) (.cons (tl hd 3 8) .nil)) rfl).post (fun _ => Imp.refl)) ?_
      refine dS 6 (fun γ ρ B hb hd => op_fieldAddr (off := 1) lb tf26_1 (.tmp (hb 2 _ rfl))) <| dR 7 (fun γ ρ B hb hd => OpStep.lk ⟨ρ, (cvar gb_3 r_api_Dot a_1) :: B, _⟩ (op_loadS (j := 0) lb tS24 (tl hd 5 10) rfl (cT (comp_api_Dot_Count a_1) rfl) rfl rfl)) <| dS 8 (fun γ ρ B hb hd => op_fieldAddr (off := 1) lb tf26_1 (.tmp (hb 3 _ rfl))) <| dR 9 (fun γ ρ B hb hd => OpStep.lk ⟨ρ, (cvar gb_4 r_api_Dot b_2) :: B, _⟩ (op_loadS (j := 0) lb tS24 (tl hd 7 12) rfl (cT (comp_api_Dot_Count b_2) rfl) rfl rfl)) <| dS 10 (fun γ ρ B hb hd => (op_call (js := []) ld cl119 (sim_cmp_Compareuint64 k a_1.Count b_2.Count v_6 hv_6) .func (.cons (tl hd 6 11) (.cons (tl hd 8 13) .nil)) rfl).post (fun _ => Imp.refl)) ?_
      refine dS 11 (fun γ ρ B hb hd => op_buildF (r := (rI .i64)) lb tu37 tz3 tZ3 rfl (lE rfl) (.S rfl (tl hd 4 9) (.S rfl (tl hd 9 14) .nil)) rfl) <| dS 12 (fun γ ρ B hb hd => (op_call (js := []) ld cl117 (sim_cmp_Orint k ([v_5, v_6] : (List Int)) v_7 hv_7) .func (.cons (tl hd 10 15) .nil) rfl).post (fun _ => Imp.refl)) <| dS 13 (fun γ ρ B hb hd => op_assign lb (tl hd 11 16)) ?_
      exact DSteps.nil)
     (by decide +kernel) (fun _ => rfl) (fun _ => rfl) (fun _ => rfl) rfl
     (ρ' := fun γ => [(4, ov (S (rI .i64) v_7))])
     (X' := fun γ => [cvar gb_3 r_api_Dot a_1, cvar gb_4 r_api_Dot b_2])
     (fun γ ρ hb hd => (.cons (hdq hd 12 4 rfl) .nil)) (fun _ => rfl) (fun γ => ?_)
 refine JQ.at ⟨[(4, ov (S (rI .i64) v_7))], [cvar gb_3 r_api_Dot a_1, cvar gb_4 r_api_Dot b_2], []⟩ <| JQ.then <| JC.ret ?_
 obtain rfl := so hm
 exact jd (.val (S (rI .i64) v_7)) rfl rfl rfl rfl rfl rfl

theorem sim_ctx_Less (k : Nat) (a_1 : api_Dot) (b_2 : api_Dot) (r : Bool) (hm : ctx_Less k a_1 b_2 = some r) : Sim Tryz.prog 35 [A r_api_Dot a_1, A r_api_Dot b_2] [] (γ := Unit) (fun q => []) (fun q => .one (.val (S rB r))) := by
 unfold ctx_Less at hm
 refine Sim.of Tryz.func35 rfl rfl (lE rfl) (fun e0 w0 => ?_)
 refine JC.at ⟨[(0, ov (A r_api_Dot a_1)), (1, ov (A r_api_Dot b_2))], [], []⟩ <| jr <| jx (op_boxA lb (.tmp rfl)) fun gb_3 => jx (op_boxA lb (.tmp rfl)) fun gb_4 => jc (op_assign lb .cB) <| jn <| jr <| jc (op_loadA (j := 0) lb tA26 (.tmp rfl) rfl (Comp.self r_api_Dot a_1) rfl) <| jc (op_loadA (j := 1) lb tA26 (.tmp rfl) rfl (Comp.self r_api_Dot b_2) rfl) <| bI hm fun v_5 hv_5 hm => jx (op_call (js := []) ld cl86 (sim_ctx_order k a_1 b_2 v_5 hv_5) .func (.cons (.tmp rfl) (.cons (.tmp rfl) .nil)) rfl) fun _ => lI hm fun v_6 hv_6 hm => jc (op_cmpI lb (.tmp rfl) .cI (cs hv_6)) <| jc (op_assign lb (.tmp rfl)) ?_
 refine JL.nrm ⟨[(4, ov (S rB v_6))], [], []⟩ [] rfl (.cons rfl .nil) rfl <| jn <| JC.ret ?_
 obtain rfl := so hm
 exact jd (.val (S rB v_6)) rfl rfl rfl rfl rfl rfl

theorem sim_slices_Cloneapi_Dot_api_Dot (k : Nat) (s_1 : (List api_Dot)) (r : (List api_Dot)) (hm : slices_Cloneapi_Dot_api_Dot k s_1 = some r) : Sim Tryz.prog 120 [S (rL r_api_Dot) s_1] [] (γ := Option Nat × Nat) (fun q => [cown q.1 r_api_Dot r 0 q.2]) (fun q => .one (.val (HDR q.1 0 (List.length r) q.2))) := by
 unfold slices_Cloneapi_Dot_api_Dot at hm
 refine Sim.of Tryz.func120 rfl rfl (lE rfl) (fun e0 w0 => ?_)
 refine JC.at ⟨[(0, ov (S (rL r_api_Dot) s_1))], [], []⟩ <| jr <| jc (op_assign lb HasO.nilH) <| jn <| JC.seq <| jr <| jmv rfl rfl <| JL.consX rfl (op_isNil (neg := false) (ltB rfl) tu33 (.tmp rfl) HasO.nilH) (fun q => ?_)
 obtain ⟨hb1, hb1_⟩ := q
 cases hb1
 · refine jn <| JC.condF (.tmp rfl) rfl <| JC.skip <| JQ.then <| jr <| jx (op_buildO (r := r_api_Dot) lb tu33 tz26 tZ26 rfl (lE rfl) .nil rfl) fun gb_2 => jmv rfl rfl <| bI hm fun x_3 hv_x_3 hm => jx (op_appendL (j := 0) lb tu33 tu33 rfl tB26 rfl (Nat.lt_of_lt_of_le Nat.zero_lt_one (lE rfl)) (Nat.lt_of_lt_of_le Nat.zero_lt_one (lE rfl))  rfl (.tmp rfl) (.tmp rfl) hv_x_3) (fun q => ?_)
   obtain ⟨go_4, gc_5⟩ := q
   refine jc (op_assign lb (.tmp rfl)) <| jn <| JC.ret ?_
   obtain rfl := so hm
   exact JQ.done (js := [0]) (ss := [.val (HDR go_4 0 (List.length x_3) gc_5)]) (go_4, gc_5) (.inl rfl) (.nil rfl) rfl (.cons (.tmp rfl) .nil) rfl rfl rfl
 replace hm := nilK hm (show _ = (
       some ([] : (List api_Dot))
       ) by simp [hb1_ rfl, subL, apL])
 refine jn <| JC.condT (.tmp rfl) rfl <| jr <| jc (op_assign lb HasO.nilH) <| jn <| JC.ret <| JQ.outR ?_
 obtain rfl := so hm
 exact JQ.pre (Imp.nilown r_api_Dot) <| JQ.done (js := [0]) (ss := [.val (HDR none 0 (List.length ([] : (List api_Dot))) (0))]) (none, 0) (.inl rfl) (.nil rfl) rfl (.cons (.tmp rfl) .nil) rfl rfl rfl

theorem sim_ctx_Of_vv (k : Nat) (v_1 : (Vector UInt64 16)) (extra_2 : (List api_Dot)) (r : (List api_Dot) ⊕ Int) (hm : ctx_Of k v_1 extra_2 = some r) : Sim Tryz.prog 87 [A (rV 16 (rU UInt64)) v_1, S (rL r_api_Dot) extra_2] [] (γ := GS2 (Nat × Option Nat × Nat) (Unit) r) (fS2 (fun r q => [cvar q.1 (rP (rV 16 (rU UInt64)) (rP (rW (HDR q.2.1 0 (List.length r) q.2.2)) (rP rB r0))) (v_1, ((), (true, ()))), cown q.2.1 r_api_Dot r 0 q.2.2]) (fun r q => []) r) (fS2 (fun r q => .tup [.val (PTR q.1 0), .val (S (rI .i64) (0 : Int))]) (fun r q => .tup [.val (PTO none), .val (S (rI .i64) r)]) r) := by
 unfold ctx_Of at hm
 refine Sim.of Tryz.func87 rfl rfl (lE rfl) (fun e0 w0 => ?_)
 refine JC.at ⟨[(0, ov (A (rV 16 (rU UInt64)) v_1)), (1, ov (S (rL r_api_Dot) extra_2))], [], []⟩ <| jr <| jx (op_boxA lb (.tmp rfl)) fun gb_3 => jc (op_assign lb (HasO.const (p := PTO none) fun _ => rfl)) <| jc (op_assign lb .cI) <| jn <| bI hm fun tv1 hx1 hq1 => JC.seqK (α := Unit) (γ := Unit) (stj := fun v q => ⟨[(1, ov (S (rL r_api_Dot) extra_2)), (2, ov (PTR gb_3 0))], [cvar gb_3 (rV 16 (rU UInt64)) v_1], []⟩) (p := fun v => tv1 = (.inl v)) (fun v q hv => ?_) ?_
 · subst hv
   skip
   obtain _ := q
   dsimp only at hq1
   refine JC.at ⟨[(1, ov (S (rL r_api_Dot) extra_2)), (2, ov (PTR gb_3 0))], [cvar gb_3 (rV 16 (rU UInt64)) v_1], []⟩ <| bI hq1 fun tv5 hx5 hq5 => JC.seqK (α := Unit) (γ := Unit) (stj := fun v q => ⟨[(1, ov (S (rL r_api_Dot) extra_2)), (2, ov (PTR gb_3 0))], [cvar gb_3 (rV 16 (rU UInt64)) v_1], []⟩) (p := fun v => tv5 = (.inl v)) (fun v q hv => ?_) ?_
   · subst hv
     skip
     obtain _ := q
     dsimp only at hq5
     refine JC.at ⟨[(1, ov (S (rL r_api_Dot) extra_2)), (2, ov (PTR gb_3 0))], [cvar gb_3 (rV 16 (rU UInt64)) v_1], []⟩ <| JC.seq <| jr <| jmv rfl rfl <| jc (op_lenL lb tu33 (.tmp rfl)) <| lI hq5 fun v_29 hv_29 hq5 => jc (op_cmpI lb (.tmp rfl) .cI (cs hv_29)) <| jn <| jif (.tmp rfl) hq5 (fun hc31 hq5 => ?_) (fun hc31 hq5 => ?_)
     · refine jr <| jc (op_assign lb (HasO.const (p := PTO none) fun _ => rfl)) <| jc (op_assign lb .cI) <| jn <| JC.ret <| JQ.outR ?_
       obtain rfl := so hq5
       exact JQ.done (js := []) (ss := [.val (PTO none), .val (S (rI .i64) (5 : Int))]) () (.inl rfl) (.nil rfl) rfl (.cons (.tmp rfl) (.cons (.tmp rfl) .nil)) rfl rfl rfl
     refine JC.skip <| JQ.then <| JC.seq ?_
     obtain ⟨v_30, hv_30, hq5⟩ := bnd_inv hq5
     refine JC.anyF (base := [(1, ov (S (rL r_api_Dot) extra_2)), (2, ov (PTR gb_3 0))])
         (fs := fun γ => [⟨some 56, ov (A (rV 16 (rU UInt64)) v_1)⟩, ⟨some 57, ov (S (rL r_api_Dot) extra_2)⟩, ⟨some 58, ov (HDR (deo (γ 2 0)) 0 (List.length v_30) (γ 2 1))⟩, ⟨some 59, ov (A (zq18 (deo (γ 2 0)) v_30 (γ 2 1)) (v_1, ((), (true, ()))))⟩, ⟨some 60, ov (PTR (γ 4 0) 0)⟩, ⟨some 4, ov (PTR (γ 4 0) 0)⟩, ⟨some 5, ov (S (rI .i64) (0 : Int))⟩])
         (rs := fun γ => [⟨cvar gb_3 (rV 16 (rU UInt64)) v_1, none, none, [0]⟩, ⟨cown (deo (γ 2 0)) r_api_Dot v_30 0 (γ 2 1), (some 2), none, []⟩, ⟨cvar (γ 4 0) (zq18 (deo (γ 2 0)) v_30 (γ 2 1)) (v_1, ((), (true, ()))), (some 4), none, []⟩])
         (afts := [[], [], [2, 3, 4, 5, 6], [], [4, 5, 6], [], []]) (js := [0]) mixed (.cons rfl (.cons rfl .nil)) (fun _ => rfl)
         (by
      refine dR 1 (fun γ ρ B hb hd => OpStep.lk ⟨ρ, (cvar gb_3 (rV 16 (rU UInt64)) v_1) :: B, _⟩ (op_loadA (j := 0) lb tA29 (.tmp (hb 2 _ rfl)) rfl (Comp.self (rV 16 (rU UInt64)) v_1) rfl)) <| db 2 1 ?_
      refine DSteps.cons (j := 3) rfl (fun _ => rfl) (.runX (fun _ _ => rfl) (fun γ ρ B hb hd => ⟨.none, OpX.ghost (γ := Option Nat × Nat) (st' := fun q => setO ⟨ρ, (cown q.1 r_api_Dot v_30 0 q.2) :: B, _⟩ (some 58) (ov (HDR q.1 0 (List.length v_30) q.2))) (fun q c => bif Nat.beq c 0 then eno q.1 else q.2) (op_call (js := []) ld cl120 (sim_slices_Cloneapi_Dot_api_Dot k extra_2 v_30 hv_30) .func (.cons (tl hd 1 57) .nil) rfl) (fun q => by obtain ⟨q0, q1⟩ := q; cases q0 <;> exact Imp.refl)⟩) (fun _ _ => rfl) (fun _ _ => rfl)) ?_
      refine dS 4 (fun γ ρ B hb hd => op_build lb tZ159 zr159 tp159 (.A (off := 0) rfl (tl hd 0 56) ((UpdR.fst (UpdR.self (by rfl))).at (by rfl)) (.S (off := 16) (s := rW (HDR (deo (γ 2 0)) 0 (List.length v_30) (γ 2 1))) (u := ()) rfl (HasO.wk (q := S (rW (HDR (deo (γ 2 0)) 0 (List.length v_30) (γ 2 1))) ()) (tl hd 2 58) wkV) rfl ((UpdR.snd (UpdR.fst (UpdR.self (by rfl)))).at (by rfl)) (.S (off := 17) rfl .cB rfl ((UpdR.snd (UpdR.snd (UpdR.fst (UpdR.self (by rfl))))).at (by rfl)) .nil))) rfl) ?_
      refine DSteps.cons (j := 5) rfl (fun _ => rfl) (.runX (fun _ _ => rfl) (fun γ ρ B hb hd => ⟨.none, OpX.ghost (γ := Nat) (st' := fun q => setO ⟨ρ, (cvar q (zq18 (deo (γ 2 0)) v_30 (γ 2 1)) (v_1, ((), (true, ())))) :: B, _⟩ (some 60) (ov (PTR q 0))) (fun q c => q) (OpX.front (op_boxA lb (tl hd 3 59))) (fun q => Imp.refl)⟩) (fun _ _ => rfl) (fun _ _ => rfl)) ?_
      refine dS 6 (fun γ ρ B hb hd => op_assign lb (tl hd 4 60)) <| dS 7 (fun γ ρ B hb hd => op_assign lb .cI) ?_
      exact DSteps.nil)
         (by decide +kernel) (fun _ => rfl) (fun _ => rfl) (fun _ => rfl) rfl
         (ρ' := fun γ => [(4, ov (PTR (γ 4 0) 0)), (5, ov (S (rI .i64) (0 : Int)))])
         (X' := fun γ => [cvar gb_3 (rV 16 (rU UInt64)) v_1, cown (deo (γ 2 0)) r_api_Dot v_30 0 (γ 2 1), cvar (γ 4 0) (zq18 (deo (γ 2 0)) v_30 (γ 2 1)) (v_1, ((), (true, ())))])
         (fun γ ρ hb hd => (.cons (hdq hd 5 4 rfl) (.cons (hdq hd 6 5 rfl) .nil))) (fun _ => rfl) (fun γ => ?_)
     generalize (deo (γ 2 0)) = go_31
     generalize (γ 2 1) = gc_32
     generalize (γ 4 0) = gb_33
     clear γ
     refine JQ.at ⟨[(4, ov (PTR gb_33 0)), (5, ov (S (rI .i64) (0 : Int)))], [cvar gb_3 (rV 16 (rU UInt64)) v_1, cown go_31 r_api_Dot v_30 0 gc_32, cvar gb_33 (zq18 go_31 v_30 gc_32) (v_1, ((), (true, ())))], []⟩ <| JQ.then <| JC.ret ?_
     obtain rfl := so hq5
     exact JQ.done (js := [2, 1]) (ss := [.val (PTR gb_33 0), .val (S (rI .i64) (0 : Int))]) (gb_33, go_31, gc_32) (.inl rfl) (.nil rfl) rfl (.cons (.tmp rfl) (.cons (.tmp rfl) .nil)) rfl rfl rfl
   refine jr <| jmv rfl rfl <| jc (op_lenL lb tu33 (.tmp rfl)) <| jc (op_move lb .cI) <| jn <| JC.block <| bI hx5 fun tv6 hL6 hq6 => JC.pre ?_ (JC.loop (γ := Unit) (stf := fun s q => ⟨[(1, ov (S (rL r_api_Dot) extra_2)), (2, ov (PTR gb_3 0)), (17, ov (S (rL r_api_Dot) extra_2)), (18, ov (S (rI .i64) (List.length extra_2 : Int))), (19, ov (S (rI .i64) s))], [cvar gb_3 (rV 16 (rU UInt64)) v_1], []⟩) (q := ()) hL6 ?_)
   · exact (Imp.norm (js := [0]) rfl (.cons rfl (.cons rfl (.cons rfl (.cons rfl (.cons rfl .nil))))))
   intro x_9 q x hx hr
   obtain _ := q
   change ctx_Of.b2 k extra_2 v_1 x_9 = some x at hx
   unfold ctx_Of.b2 at hx
   refine JC.at ⟨[(1, ov (S (rL r_api_Dot) extra_2)), (2, ov (PTR gb_3 0)), (17, ov (S (rL r_api_Dot) extra_2)), (18, ov (S (rI .i64) (List.length extra_2 : Int))), (19, ov (S (rI .i64) x_9))], [cvar gb_3 (rV 16 (rU UInt64)) v_1], []⟩ <| jr <| lI hx fun v_10 hv_10 hx => jc (op_cmpI lb (.tmp rfl) (.tmp rfl) (cs hv_10)) <| jn <| JC.seq <| jif (.tmp rfl) hx (fun hc7 hx => ?_) (fun hc7 hx => ?_)
   · refine JC.skip <| JQ.then <| JC.seq <| JC.block <| jr <| jmv rfl rfl <| bI hx fun v_11 hv_11 hx => jc (op_indexAddrLg lb tu33 tz26 (.tmp rfl) (.tmp rfl) hv_11) <| jc (op_loadPAg lb tA26 (.tmp rfl) rfl) <| jx (op_alloc lb tZ26 zr26) fun gb_12 => jc (op_assign lb (.tmp rfl)) <| jc (op_storeA (j := 1) tA26 (.tmp rfl) (.tmp rfl) rfl (UpdR.self (by rfl)) rfl) <| jn <| bI hx fun x_27 hx8 hq8 => JC.seqJ (γ := Unit) (stj := fun _ => ⟨[(1, ov (S (rL r_api_Dot) extra_2)), (2, ov (PTR gb_3 0)), (17, ov (S (rL r_api_Dot) extra_2)), (18, ov (S (rI .i64) (List.length extra_2 : Int))), (19, ov (S (rI .i64) x_9)), (51, ov (S rB x_27))], [cvar gb_3 (rV 16 (rU UInt64)) v_1], []⟩) (fun _ => ?_) ?_
     · refine jif (.tmp rfl) hq8 (fun hc30 hq8 => ?_) (fun hc30 hq8 => ?_)
       · refine jr <| jc (op_assign lb (HasO.const (p := PTO none) fun _ => rfl)) <| jc (op_assign lb .cI) <| jn <| JC.ret <| JQ.outRB <| JQ.outR ?_
         try obtain rfl := so hq8
         try obtain rfl := hr _ rfl
         dsimp only at hq6
         refine JQ.outR <| JQ.outRB ?_
         try obtain rfl := so hq6
         dsimp only at hq5
         refine JQ.outR ?_
         obtain rfl := so hq5
         exact JQ.done (js := []) (ss := [.val (PTO none), .val (S (rI .i64) (2 : Int))]) () (.inl rfl) (.nil rfl) rfl (.cons (.tmp rfl) (.cons (.tmp rfl) .nil)) rfl rfl rfl
       refine JC.skip <| JQ.outNB <| JQ.then <| JC.region <| lI hq8 fun v_28 hv_28 hq8 => jc (op_arI lb (.tmp rfl) .cI (cs hv_28)) <| jmv rfl rfl <| JL.nil ?_
       try obtain rfl := so hq8
       exact JQ.next () rfl (Imp.norm (js := [0]) rfl (.cons rfl (.cons rfl (.cons rfl (.cons rfl (.cons rfl .nil))))))
     refine bI hx8 fun v_13 hv_13 hx8 => lI hx8 fun v_14 hv_14 hx8 => lI hx8 fun v_15 hv_15 hx8 => lI hx8 fun v_16 hv_16 hx8 => bI hx8 fun v_17 hv_17 hx8 => bI hx8 fun v_18 hv_18 hx8 => lI hx8 fun v_19 hv_19 hx8 => lI hx8 fun v_20 hv_20 hx8 => ?_
     obtain ⟨v_21, hv_21, hx8⟩ := lt1_inv hx8
     obtain ⟨v_22, hv_22, hx8⟩ := lt1_inv hx8
     rcases iteB_inv hx8 with ⟨hc29, hx8⟩ | ⟨hc29, hx8⟩
     · refine JC.anyF (base := [(1, ov (S (rL r_api_Dot) extra_2)), (2, ov (PTR gb_3 0)), (8, ov (S (rI .i64) x_9)), (9, ov (PTR gb_12 0)), (17, ov (S (rL r_api_Dot) extra_2)), (18, ov (S (rI .i64) (List.length extra_2 : Int))), (19, ov (S (rI .i64) x_9))])
           (fs := fun γ => [⟨some 24, ov (A r_api_Dot v_11)⟩, ⟨some 25, ov (S rB v_13)⟩, ⟨some 26, ov (S rB v_14)⟩, ⟨some 27, ov (S rB v_14)⟩, ⟨some 28, bif (!v_14) then ov (S (rI .i64) x_9) else .one .und⟩, ⟨some 29, bif (!v_14) then ov (S rB v_15) else .one .und⟩, ⟨some 30, bif (!v_14) then ov (S rB v_15) else .one .und⟩, ⟨some 31, bif ((!v_14) && v_15) then ov (S (rL r_api_Dot) extra_2) else .one .und⟩, ⟨some 32, bif ((!v_14) && v_15) then ov (S (rI .i64) x_9) else .one .und⟩, ⟨some 33, bif ((!v_14) && v_15) then ov (S (rI .i64) v_16) else .one .und⟩, ⟨some 34, bif ((!v_14) && v_15) then ov (PT r_api_Dot v_17) else .one .und⟩, ⟨some 35, bif ((!v_14) && v_15) then ov (A r_api_Dot v_17) else .one .und⟩, ⟨some 36, bif ((!v_14) && v_15) then ov (A r_api_Dot v_11) else .one .und⟩, ⟨some 37, bif ((!v_14) && v_15) then ov (S rB v_18) else .one .und⟩, ⟨some 38, bif ((!v_14) && v_15) then ov (S rB v_19) else .one .und⟩, ⟨some 39, bif (!v_14) then ov (S rB v_20) else .one .und⟩, ⟨some 40, ov (S rB v_21)⟩, ⟨some 41, ov (S rB v_21)⟩, ⟨some 42, bif (!v_21) then ov (PTR gb_12 (0 + 1)) else .one .und⟩, ⟨some 43, bif (!v_21) then ov (S (rU UInt64) v_11.Count) else .one .und⟩, ⟨some 44, bif (!v_21) then ov (PTR gb_12 (0 + 0)) else .one .und⟩, ⟨some 45, bif (!v_21) then ov (S (rI .i64) v_11.Region) else .one .und⟩, ⟨some 46, bif (!v_21) then ov (S (rI .i64) v_22) else .one .und⟩, ⟨some 47, .one .und⟩, ⟨some 48, .one .und⟩, ⟨some 49, .one .und⟩, ⟨some 50, .one .und⟩, ⟨some 51, ov (S rB true)⟩])
           (rs := fun γ => [⟨cvar gb_3 (rV 16 (rU UInt64)) v_1, none, none, []⟩, ⟨cvar gb_12 r_api_Dot v_11, none, none, [0, 12, 19, 21]⟩])
           (afts := nn 28) (js := [0, 0]) mixed (.cons rfl (.cons rfl (.cons rfl (.cons rfl (.cons rfl (.cons rfl (.cons rfl .nil))))))) (fun _ => rfl)
           (by
      refine dR 1 (fun γ ρ B hb hd => OpStep.lk ⟨ρ, (cvar gb_12 r_api_Dot v_11) :: B, _⟩ (op_loadA (j := 0) lb tA26 (.tmp (hb 9 _ rfl)) rfl (Comp.self r_api_Dot v_11) rfl)) <| dS 2 (fun γ ρ B hb hd => (op_call (js := []) ld cl34 (sim_ctx_May k v_11 v_13 hv_13) .func (.cons (tl hd 0 24) .nil) rfl).post (fun _ => Imp.refl)) <| dS 3 (fun γ ρ B hb hd => op_not lb (tl hd 1 25) hv_14) <| dm 4 2 26 ?_
      refine dF 5 3 27 v_14 (fun γ => ov (S (rI .i64) x_9)) (fun γ ρ B hb hd hq_9 => op_move lb (.tmp (hb 8 _ rfl))) ?_
      refine dF 6 3 27 v_14 (fun γ => ov (S rB v_15)) (fun γ ρ B hb hd hq_10 => op_cmpI lb (HasO.cnd (tl hd 4 28) (notT (notF hq_10))) .cI (cs hv_15)) ?_
      refine dF 7 3 27 v_14 (fun γ => ov (S rB v_15)) (fun γ ρ B hb hd hq_11 => op_move lb (HasO.cnd (tl hd 5 29) (notT (notF hq_11)))) ?_
      refine dA 8 6 30 (!v_14) v_15 (fun γ => ov (S (rL r_api_Dot) extra_2)) (fun γ ρ B hb hd hq_12 => op_move lb (.tmp (hb 1 _ rfl))) ?_
      refine dA 9 6 30 (!v_14) v_15 (fun γ => ov (S (rI .i64) x_9)) (fun γ ρ B hb hd hq_13 => op_move lb (.tmp (hb 8 _ rfl))) ?_
      refine dA 10 6 30 (!v_14) v_15 (fun γ => ov (S (rI .i64) v_16)) (fun γ ρ B hb hd hq_14 => op_arI lb (HasO.cnd (tl hd 8 32) (andI (notT (notF (andL hq_14))) (andR hq_14))) .cI (cs hv_16)) ?_
      refine dA 11 6 30 (!v_14) v_15 (fun γ => ov (PT r_api_Dot v_17)) (fun γ ρ B hb hd hq_15 => op_indexAddrLg lb tu33 tz26 (HasO.cnd (tl hd 7 31) (andI (notT (notF (andL hq_15))) (andR hq_15))) (HasO.cnd (tl hd 9 33) (andI (notT (notF (andL hq_15))) (andR hq_15))) (ifT hv_17 hq_15)) ?_
      refine dA 12 6 30 (!v_14) v_15 (fun γ => ov (A r_api_Dot v_17)) (fun γ ρ B hb hd hq_16 => op_loadPAg lb tA26 (HasO.cnd (tl hd 10 34) (andI (notT (notF (andL hq_16))) (andR hq_16))) rfl) ?_
      refine eA 13 6 30 (!v_14) v_15 (fun γ => ov (A r_api_Dot v_11)) (fun γ ρ B hb hd hq_17 => OpStep.lk ⟨ρ, (cvar gb_12 r_api_Dot v_11) :: B, _⟩ (op_loadA (j := 0) lb tA26 (.tmp (hb 9 _ rfl)) rfl (Comp.self r_api_Dot v_11) rfl)) ?_
      refine dA 14 6 30 (!v_14) v_15 (fun γ => ov (S rB v_18)) (fun γ ρ B hb hd hq_18 => (op_call (js := []) ld cl35 (sim_ctx_Less k v_17 v_11 v_18 (ifT hv_18 hq_18)) .func (.cons (HasO.cnd (tl hd 11 35) (andI (notT (notF (andL hq_18))) (andR hq_18))) (.cons (HasO.cnd (tl hd 12 36) (andI (notT (notF (andL hq_18))) (andR hq_18))) .nil)) rfl).post (fun _ => Imp.refl)) ?_
      refine dA 15 6 30 (!v_14) v_15 (fun γ => ov (S rB v_19)) (fun γ ρ B hb hd hq_19 => op_not lb (HasO.cnd (tl hd 13 37) (andI (notT (notF (andL hq_19))) (andR hq_19))) hv_19) ?_
      refine dF 16 3 27 v_14 (fun γ => ov (S rB v_20)) (fun γ ρ B hb hd hq_20 => op_pickCS lb (HasO.cnd (tl hd 6 30) (notT (notF hq_20))) (fun hb21 => (HasO.cnd (tl hd 14 38) (andI (notT (notF hq_20)) hb21))) (fun hb21 => .cB) hv_20) ?_
      refine dS 17 (fun γ ρ B hb hd => op_pickCS lb (tl hd 3 27) (fun hb22 => .cB) (fun hb22 => (HasO.cnd (tl hd 15 39) (notT hb22))) hv_21) <| dm 18 16 40 ?_
      refine dF 19 17 41 v_21 (fun γ => ov (PTR gb_12 (0 + 1))) (fun γ ρ B hb hd hq_23 => op_fieldAddr (off := 1) lb tf26_1 (.tmp (hb 9 _ rfl))) ?_
      refine eF 20 17 41 v_21 (fun γ => ov (S (rU UInt64) v_11.Count)) (fun γ ρ B hb hd hq_24 => OpStep.lk ⟨ρ, (cvar gb_12 r_api_Dot v_11) :: B, _⟩ (op_loadS (j := 0) lb tS24 (HasO.cnd (tl hd 18 42) (notT (notF hq_24))) rfl (cT (comp_api_Dot_Count v_11) rfl) rfl rfl)) ?_
      refine dF 21 17 41 v_21 (fun γ => ov (PTR gb_12 (0 + 0))) (fun γ ρ B hb hd hq_25 => op_fieldAddr (off := 0) lb tf26_0 (.tmp (hb 9 _ rfl))) ?_
      refine eF 22 17 41 v_21 (fun γ => ov (S (rI .i64) v_11.Region)) (fun γ ρ B hb hd hq_26 => OpStep.lk ⟨ρ, (cvar gb_12 r_api_Dot v_11) :: B, _⟩ (op_loadS (j := 0) lb tS3 (HasO.cnd (tl hd 20 44) (notT (notF hq_26))) rfl (cT (comp_api_Dot_Region v_11) rfl) rfl rfl)) ?_
      refine dF 23 17 41 v_21 (fun γ => ov (S (rI .i64) v_22)) (fun γ ρ B hb hd hq_27 => op_arI lb (HasO.cnd (tl hd 21 45) (notT (notF hq_27))) .cI (cs hv_22)) ?_
      refine kn 24 17 41 rfl hc29 <| kn 25 17 41 rfl hc29 <| kn 26 17 41 rfl hc29 <| kn 27 17 41 rfl hc29 <| dS 28 (fun γ ρ B hb hd => op_pickT lb (tl hd 17 41) hc29 .cB) ?_
      exact DSteps.nil)
           (by decide +kernel) (fun _ => rfl) (fun _ => rfl) (fun _ => rfl) rfl
           (ρ' := fun γ => [(1, ov (S (rL r_api_Dot) extra_2)), (2, ov (PTR gb_3 0)), (17, ov (S (rL r_api_Dot) extra_2)), (18, ov (S (rI .i64) (List.length extra_2 : Int))), (19, ov (S (rI .i64) x_9)), (51, ov (S rB true))])
           (X' := fun γ => [cvar gb_3 (rV 16 (rU UInt64)) v_1, cvar gb_12 r_api_Dot v_11])
           (fun γ ρ hb hd => (.cons (hb 1 _ rfl) (.cons (hb 2 _ rfl) (.cons (hb 17 _ rfl) (.cons (hb 18 _ rfl) (.cons (hb 19 _ rfl) (.cons (hdq hd 27 51 rfl) .nil))))))) (fun _ => rfl) (fun γ => ?_)
       refine JQ.at ⟨[(1, ov (S (rL r_api_Dot) extra_2)), (2, ov (PTR gb_3 0)), (17, ov (S (rL r_api_Dot) extra_2)), (18, ov (S (rI .i64) (List.length extra_2 : Int))), (19, ov (S (rI .i64) x_9)), (51, ov (S rB true))], [cvar gb_3 (rV 16 (rU UInt64)) v_1, cvar gb_12 r_api_Dot v_11], []⟩ ?_
       try obtain rfl := so hx8
       exact JQ.join () (Imp.norm (js := [0]) rfl (.cons rfl (.cons rfl (.cons rfl (.cons rfl (.cons rfl (.cons rfl .nil)))))))
     refine bI hx8 fun i_23 hv_i_23 hx8 => lI hx8 fun v_24 hv_24 hx8 => lI hx8 fun v_25 hv_25 hx8 => ?_
     obtain ⟨v_26, hv_26, hx8⟩ := lt1_inv hx8
     refine JC.anyF (base := [(1, ov (S (rL r_api_Dot) extra_2)), (2, ov (PTR gb_3 0)), (8, ov (S (rI .i64) x_9)), (9, ov (PTR gb_12 0)), (17, ov (S (rL r_api_Dot) extra_2)), (18, ov (S (rI .i64) (List.length extra_2 : Int))), (19, ov (S (rI .i64) x_9))])
         (fs := fun γ => [⟨some 24, ov (A r_api_Dot v_11)⟩, ⟨some 25, ov (S rB v_13)⟩, ⟨some 26, ov (S rB v_14)⟩, ⟨some 27, ov (S rB v_14)⟩, ⟨some 28, bif (!v_14) then ov (S (rI .i64) x_9) else .one .und⟩, ⟨some 29, bif (!v_14) then ov (S rB v_15) else .one .und⟩, ⟨some 30, bif (!v_14) then ov (S rB v_15) else .one .und⟩, ⟨some 31, bif ((!v_14) && v_15) then ov (S (rL r_api_Dot) extra_2) else .one .und⟩, ⟨some 32, bif ((!v_14) && v_15) then ov (S (rI .i64) x_9) else .one .und⟩, ⟨some 33, bif ((!v_14) && v_15) then ov (S (rI .i64) v_16) else .one .und⟩, ⟨some 34, bif ((!v_14) && v_15) then ov (PT r_api_Dot v_17) else .one .und⟩, ⟨some 35, bif ((!v_14) && v_15) then ov (A r_api_Dot v_17) else .one .und⟩, ⟨some 36, bif ((!v_14) && v_15) then ov (A r_api_Dot v_11) else .one .und⟩, ⟨some 37, bif ((!v_14) && v_15) then ov (S rB v_18) else .one .und⟩, ⟨some 38, bif ((!v_14) && v_15) then ov (S rB v_19) else .one .und⟩, ⟨some 39, bif (!v_14) then ov (S rB v_20) else .one .und⟩, ⟨some 40, ov (S rB v_21)⟩, ⟨some 41, ov (S rB v_21)⟩, ⟨some 42, bif (!v_21) then ov (PTR gb_12 (0 + 1)) else .one .und⟩, ⟨some 43, bif (!v_21) then ov (S (rU UInt64) v_11.Count) else .one .und⟩, ⟨some 44, bif (!v_21) then ov (PTR gb_12 (0 + 0)) else .one .und⟩, ⟨some 45, bif (!v_21) then ov (S (rI .i64) v_11.Region) else .one .und⟩, ⟨some 46, bif (!v_21) then ov (S (rI .i64) v_22) else .one .und⟩, ⟨some 47, ov (PTR gb_3 (0 + i_23.1 * 1))⟩, ⟨some 48, ov (S (rU UInt64) v_24)⟩, ⟨some 49, ov (S (rU UInt64) v_25)⟩, ⟨some 50, ov (S rB v_26)⟩, ⟨some 51, ov (S rB v_26)⟩])
         (rs := fun γ => [⟨cvar gb_3 (rV 16 (rU UInt64)) v_1, none, none, [24]⟩, ⟨cvar gb_12 r_api_Dot v_11, none, none, [0, 12, 19, 21]⟩])
         (afts := nn 28) (js := [0, 0]) mixed (.cons rfl (.cons rfl (.cons rfl (.cons rfl (.cons rfl (.cons rfl (.cons rfl .nil))))))) (fun _ => rfl)
         (by
      refine dR 1 (fun γ ρ B hb hd => OpStep.lk ⟨ρ, (cvar gb_12 r_api_Dot v_11) :: B, _⟩ (op_loadA (j := 0) lb tA26 (.tmp (hb 9 _ rfl)) rfl (Comp.self r_api_Dot v_11) rfl)) <| dS 2 (fun γ ρ B hb hd => (op_call (js := []) ld cl34 (sim_ctx_May k v_11 v_13 hv_13) .func (.cons (tl hd 0 24) .nil) rfl).post (fun _ => Imp.refl)) <| dS 3 (fun γ ρ B hb hd => op_not lb (tl hd 1 25) hv_14) <| dm 4 2 26 ?_
      refine dF 5 3 27 v_14 (fun γ => ov (S (rI .i64) x_9)) (fun γ ρ B hb hd hq_9 => op_move lb (.tmp (hb 8 _ rfl))) ?_
      refine dF 6 3 27 v_14 (fun γ => ov (S rB v_15)) (fun γ ρ B hb hd hq_10 => op_cmpI lb (HasO.cnd (tl hd 4 28) (notT (notF hq_10))) .cI (cs hv_15)) ?_
      refine dF 7 3 27 v_14 (fun γ => ov (S rB v_15)) (fun γ ρ B hb hd hq_11 => op_move lb (HasO.cnd (tl hd 5 29) (notT (notF hq_11)))) ?_
      refine dA 8 6 30 (!v_14) v_15 (fun γ => ov (S (rL r_api_Dot) extra_2)) (fun γ ρ B hb hd hq_12 => op_move lb (.tmp (hb 1 _ rfl))) ?_
      refine dA 9 6 30 (!v_14) v_15 (fun γ => ov (S (rI .i64) x_9)) (fun γ ρ B hb hd hq_13 => op_move lb (.tmp (hb 8 _ rfl))) ?_
      refine dA 10 6 30 (!v_14) v_15 (fun γ => ov (S (rI .i64) v_16)) (fun γ ρ B hb hd hq_14 => op_arI lb (HasO.cnd (tl hd 8 32) (andI (notT (notF (andL hq_14))) (andR hq_14))) .cI (cs hv_16)) ?_
      refine dA 11 6 30 (!v_14) v_15 (fun γ => ov (PT r_api_Dot v_17)) (fun γ ρ B hb hd hq_15 => op_indexAddrLg lb tu33 tz26 (HasO.cnd (tl hd 7 31) (andI (notT (notF (andL hq_15))) (andR hq_15))) (HasO.cnd (tl hd 9 33) (andI (notT (notF (andL hq_15))) (andR hq_15))) (ifT hv_17 hq_15)) ?_
      refine dA 12 6 30 (!v_14) v_15 (fun γ => ov (A r_api_Dot v_17)) (fun γ ρ B hb hd hq_16 => op_loadPAg lb tA26 (HasO.cnd (tl hd 10 34) (andI (notT (notF (andL hq_16))) (andR hq_16))) rfl) ?_
      refine eA 13 6 30 (!v_14) v_15 (fun γ => ov (A r_api_Dot v_11)) (fun γ ρ B hb hd hq_17 => OpStep.lk ⟨ρ, (cvar gb_12 r_api_Dot v_11) :: B, _⟩ (op_loadA (j := 0) lb tA26 (.tmp (hb 9 _ rfl)) rfl (Comp.self r_api_Dot v_11) rfl)) ?_
      refine dA 14 6 30 (!v_14) v_15 (fun γ => ov (S rB v_18)) (fun γ ρ B hb hd hq_18 => (op_call (js := []) ld cl35 (sim_ctx_Less k v_17 v_11 v_18 (ifT hv_18 hq_18)) .func (.cons (HasO.cnd (tl hd 11 35) (andI (notT (notF (andL hq_18))) (andR hq_18))) (.cons (HasO.cnd (tl hd 12 36) (andI (notT (notF (andL hq_18))) (andR hq_18))) .nil)) rfl).post (fun _ => Imp.refl)) ?_
      refine dA 15 6 30 (!v_14) v_15 (fun γ => ov (S rB v_19)) (fun γ ρ B hb hd hq_19 => op_not lb (HasO.cnd (tl hd 13 37) (andI (notT (notF (andL hq_19))) (andR hq_19))) hv_19) ?_
      refine dF 16 3 27 v_14 (fun γ => ov (S rB v_20)) (fun γ ρ B hb hd hq_20 => op_pickCS lb (HasO.cnd (tl hd 6 30) (notT (notF hq_20))) (fun hb21 => (HasO.cnd (tl hd 14 38) (andI (notT (notF hq_20)) hb21))) (fun hb21 => .cB) hv_20) ?_
      refine dS 17 (fun γ ρ B hb hd => op_pickCS lb (tl hd 3 27) (fun hb22 => .cB) (fun hb22 => (HasO.cnd (tl hd 15 39) (notT hb22))) hv_21) <| dm 18 16 40 ?_
      refine dF 19 17 41 v_21 (fun γ => ov (PTR gb_12 (0 + 1))) (fun γ ρ B hb hd hq_23 => op_fieldAddr (off := 1) lb tf26_1 (.tmp (hb 9 _ rfl))) ?_
      refine eF 20 17 41 v_21 (fun γ => ov (S (rU UInt64) v_11.Count)) (fun γ ρ B hb hd hq_24 => OpStep.lk ⟨ρ, (cvar gb_12 r_api_Dot v_11) :: B, _⟩ (op_loadS (j := 0) lb tS24 (HasO.cnd (tl hd 18 42) (notT (notF hq_24))) rfl (cT (comp_api_Dot_Count v_11) rfl) rfl rfl)) ?_
      refine dF 21 17 41 v_21 (fun γ => ov (PTR gb_12 (0 + 0))) (fun γ ρ B hb hd hq_25 => op_fieldAddr (off := 0) lb tf26_0 (.tmp (hb 9 _ rfl))) ?_
      refine eF 22 17 41 v_21 (fun γ => ov (S (rI .i64) v_11.Region)) (fun γ ρ B hb hd hq_26 => OpStep.lk ⟨ρ, (cvar gb_12 r_api_Dot v_11) :: B, _⟩ (op_loadS (j := 0) lb tS3 (HasO.cnd (tl hd 20 44) (notT (notF hq_26))) rfl (cT (comp_api_Dot_Region v_11) rfl) rfl rfl)) ?_
      refine dF 23 17 41 v_21 (fun γ => ov (S (rI .i64) v_22)) (fun γ ρ B hb hd hq_27 => op_arI lb (HasO.cnd (tl hd 21 45) (notT (notF hq_27))) .cI (cs hv_22)) ?_
      refine dY 24 (fun γ ρ B hb hd => ⟨.yes rfl (ltB rfl) (hl hd 17 41 rfl) hc29, lkB (op_indexAddrIF lb tr29 (.tmp (hb 2 _ rfl)) (HasO.cnd (tl hd 22 46) (notT hc29)) hv_i_23)⟩) <| dY 25 (fun γ ρ B hb hd => ⟨.yes rfl (ltB rfl) (hl hd 17 41 rfl) hc29, OpStep.lk ⟨ρ, (cvar gb_3 (rV 16 (rU UInt64)) v_1) :: B, _⟩ (op_loadS (j := 0) lb tS24 (tl hd 23 47) rfl (Comp.at (Comp.self (rV 16 (rU UInt64)) v_1) i_23.2 rfl) rfl hv_24)⟩) <| dY 26 (fun γ ρ B hb hd => ⟨.yes rfl (ltB rfl) (hl hd 17 41 rfl) hc29, lkB (op_arU lb (tl hd 24 48) (HasO.cU (x := (1 : UInt64)) rfl (by decide)) (cs hv_25))⟩) <| dY 27 (fun γ ρ B hb hd => ⟨.yes rfl (ltB rfl) (hl hd 17 41 rfl) hc29, lkB (op_cmpU lb (HasO.cnd (tl hd 19 43) (notT hc29)) (tl hd 25 49) (cs hv_26))⟩) <| dS 28 (fun γ ρ B hb hd => op_pickF lb (tl hd 17 41) hc29 (tl hd 26 50)) ?_
      exact DSteps.nil)
         (by decide +kernel) (fun _ => rfl) (fun _ => rfl) (fun _ => rfl) rfl
         (ρ' := fun γ => [(1, ov (S (rL r_api_Dot) extra_2)), (2, ov (PTR gb_3 0)), (17, ov (S (rL r_api_Dot) extra_2)), (18, ov (S (rI .i64) (List.length extra_2 : Int))), (19, ov (S (rI .i64) x_9)), (51, ov (S rB v_26))])
         (X' := fun γ => [cvar gb_3 (rV 16 (rU UInt64)) v_1, cvar gb_12 r_api_Dot v_11])
         (fun γ ρ hb hd => (.cons (hb 1 _ rfl) (.cons (hb 2 _ rfl) (.cons (hb 17 _ rfl) (.cons (hb 18 _ rfl) (.cons (hb 19 _ rfl) (.cons (hdq hd 27 51 rfl) .nil))))))) (fun _ => rfl) (fun γ => ?_)
     refine JQ.at ⟨[(1, ov (S (rL r_api_Dot) extra_2)), (2, ov (PTR gb_3 0)), (17, ov (S (rL r_api_Dot) extra_2)), (18, ov (S (rI .i64) (List.length extra_2 : Int))), (19, ov (S (rI .i64) x_9)), (51, ov (S rB v_26))], [cvar gb_3 (rV 16 (rU UInt64)) v_1, cvar gb_12 r_api_Dot v_11], []⟩ ?_
     try obtain rfl := so hx8
     exact JQ.join () (Imp.norm (js := [0]) rfl (.cons rfl (.cons rfl (.cons rfl (.cons rfl (.cons rfl (.cons rfl .nil)))))))
   refine JC.exit <| JQ.outX ?_
   try obtain rfl := so hx
   try obtain rfl := hr _ rfl
   dsimp only at hq6
   refine JQ.outX <| JQ.here ?_
   try obtain rfl := so hq6
   exact JQ.joinK () () rfl (Imp.norm (js := [0]) rfl (.cons rfl (.cons rfl .nil)))
 refine jr <| jc (op_loadA (j := 0) lb tA29 (.tmp rfl) rfl (Comp.self (rV 16 (rU UInt64)) v_1) rfl) <| jc (op_move lb .cI) <| jn <| JC.block <| bI hx1 fun tv2 hL2 hq2 => JC.pre ?_ (JC.loop (γ := Unit) (stf := fun s q => ⟨[(1, ov (S (rL r_api_Dot) extra_2)), (2, ov (PTR gb_3 0)), (10, ov (A (rV 16 (rU UInt64)) v_1)), (11, ov (S (rI .i64) s))], [cvar gb_3 (rV 16 (rU UInt64)) v_1], []⟩) (q := ()) hL2 ?_)
 · exact (Imp.norm (js := [0]) rfl (.cons rfl (.cons rfl (.cons rfl (.cons rfl .nil)))))
 intro x_4 q x hx hr
 obtain _ := q
 change ctx_Of.b1 k v_1 x_4 = some x at hx
 unfold ctx_Of.b1 at hx
 refine JC.at ⟨[(1, ov (S (rL r_api_Dot) extra_2)), (2, ov (PTR gb_3 0)), (10, ov (A (rV 16 (rU UInt64)) v_1)), (11, ov (S (rI .i64) x_4))], [cvar gb_3 (rV 16 (rU UInt64)) v_1], []⟩ <| jr <| lI hx fun v_5 hv_5 hx => jc (op_cmpI lb (.tmp rfl) .cI (cs hv_5)) <| jn <| JC.seq <| jif (.tmp rfl) hx (fun hc3 hx => ?_) (fun hc3 hx => ?_)
 · refine JC.skip <| JQ.then <| JC.seq <| JC.block <| jr <| bI hx fun v_6 hv_6 hx => jc (op_indexSg lb tu29 tS24 rfl (.tmp rfl) (.tmp rfl) hv_6) <| jc (op_assign lb (.tmp rfl)) <| jn <| jr <| jmv rfl rfl <| lI hx fun v_7 hv_7 hx => jc (op_cmpU lb (.tmp rfl) (HasO.cU (x := (4611686018427387904 : UInt64)) rfl (by decide)) (cs hv_7)) <| jn <| jif (.tmp rfl) hx (fun hc4 hx => ?_) (fun hc4 hx => ?_)
   · refine jr <| jc (op_assign lb (HasO.const (p := PTO none) fun _ => rfl)) <| jc (op_assign lb .cI) <| jn <| JC.ret <| JQ.outRB <| JQ.outR ?_
     try obtain rfl := so hx
     try obtain rfl := hr _ rfl
     dsimp only at hq2
     refine JQ.outR <| JQ.outRB ?_
     try obtain rfl := so hq2
     dsimp only at hq1
     refine JQ.outR ?_
     obtain rfl := so hq1
     exact JQ.done (js := []) (ss := [.val (PTO none), .val (S (rI .i64) (2 : Int))]) () (.inl rfl) (.nil rfl) rfl (.cons (.tmp rfl) (.cons (.tmp rfl) .nil)) rfl rfl rfl
   refine JC.skip <| JQ.outNB <| JQ.then <| JC.region <| lI hx fun v_8 hv_8 hx => jc (op_arI lb (.tmp rfl) .cI (cs hv_8)) <| jmv rfl rfl <| JL.nil ?_
   try obtain rfl := so hx
   exact JQ.next () rfl (Imp.norm (js := [0]) rfl (.cons rfl (.cons rfl (.cons rfl (.cons rfl .nil)))))
 refine JC.exit <| JQ.outX ?_
 try obtain rfl := so hx
 try obtain rfl := hr _ rfl
 dsimp only at hq2
 refine JQ.outX <| JQ.here ?_
 try obtain rfl := so hq2
 exact JQ.joinK () () rfl (Imp.norm (js := [0]) rfl (.cons rfl (.cons rfl .nil)))

theorem sim_ctx_Of_v0 (k : Nat) (v_1 : (Vector UInt64 16)) (extra_2 : (List api_Dot)) (r : (List api_Dot)) (hm : ctx_Of k v_1 extra_2 = some (.inl r)) : Sim Tryz.prog 87 [A (rV 16 (rU UInt64)) v_1, S (rL r_api_Dot) extra_2] [] (γ := Nat × Option Nat × Nat) (fun q => [cvar q.1 (rP (rV 16 (rU UInt64)) (rP (rW (HDR q.2.1 0 (List.length r) q.2.2)) (rP rB r0))) (v_1, ((), (true, ()))), cown q.2.1 r_api_Dot r 0 q.2.2]) (fun q => .tup [.val (PTR q.1 0), .val (S (rI .i64) (0 : Int))]) := sim_ctx_Of_vv k v_1 extra_2 (.inl r) hm

theorem sim_ctx_Of_v1 (k : Nat) (v_1 : (Vector UInt64 16)) (extra_2 : (List api_Dot)) (r : Int) (hm : ctx_Of k v_1 extra_2 = some (.inr r)) : Sim Tryz.prog 87 [A (rV 16 (rU UInt64)) v_1, S (rL r_api_Dot) extra_2] [] (γ := Unit) (fun q => []) (fun q => .tup [.val (PTO none), .val (S (rI .i64) r)]) := sim_ctx_Of_vv k v_1 extra_2 (.inr r) hm

theorem sim_frame_seen (k : Nat) (f_1 : api_Frame) (r : Bool) (hm : frame_seen k f_1 = some r) : Sim Tryz.prog 36 [A r_api_Frame f_1] [] (γ := Unit) (fun q => []) (fun q => .one (.val (S rB r))) := by
 unfold frame_seen at hm
 refine Sim.of Tryz.func36 rfl rfl (lE rfl) (fun e0 w0 => ?_)
 refine JC.at ⟨[(0, ov (A r_api_Frame f_1))], [], []⟩ <| jr <| jx (op_boxA lb (.tmp rfl)) fun gb_2 => jc (op_assign lb .cB) <| jn <| jr <| jc (op_fieldAddr (off := 41) lb tf39_6 (.tmp rfl)) <| jc (op_loadA (j := 0) lb tA29 (.tmp rfl) rfl (cT (comp_api_Frame_Seen f_1) rfl) rfl) <| jc (op_fieldAddr (off := 57) lb tf39_7 (.tmp rfl)) <| jc (op_loadS (j := 0) lb tS33 (.tmp rfl) rfl (cT (comp_api_Frame_Extra f_1) rfl) rfl rfl) ?_
 obtain ⟨ts1, hs1, hm⟩ := bnd_inv hm
 rcases ts1 with ts1 | ts1
 · obtain ⟨v_3, hvv⟩ : ∃ z, z = ts1 := ⟨_, rfl⟩
   subst hvv
   dsimp only at hm
   refine jx (op_call (js := []) ld cl87 (sim_ctx_Of_v0 k f_1.Seen f_1.Extra v_3 hs1) .func (.cons (.tmp rfl) (.cons (.tmp rfl) .nil)) rfl) (fun q => ?_)
   obtain ⟨gb_4, go_5, gc_6⟩ := q
   refine jmv rfl rfl <| JL.nrm ⟨[(5, .tup [.val (PTR gb_4 0), .val (S (rI .i64) (0 : Int))])], [cvar gb_4 (zq18 go_5 v_3 gc_6) (f_1.Seen, ((), (true, ()))), cown go_5 r_api_Dot v_3 0 gc_6], []⟩ [0, 0] rfl (.cons rfl .nil) rfl <| jc (op_extract (i := 0) lb (.tmp rfl) rfl) <| jc (op_extract (i := 1) lb (.tmp rfl) rfl) <| jc (op_assign lb (.tmp rfl)) <| jc (op_assign lb (.tmp rfl)) <| jn <| jr <| jmv rfl rfl <| jc (op_cmpI lb (.tmp rfl) .cI (cs (by decide : ((0 : Int) == (0 : Int)) = true))) <| jc (op_assign lb (.tmp rfl)) <| jn <| JC.ret ?_
   obtain rfl := so hm
   exact jd (.val (S rB true)) rfl rfl rfl rfl rfl rfl
 obtain ⟨v_7, hvv⟩ : ∃ z, z = ts1 := ⟨_, rfl⟩
 subst hvv
 dsimp only at hm
 refine jx (op_call (js := []) ld cl87 (sim_ctx_Of_v1 k f_1.Seen f_1.Extra v_7 hs1) .func (.cons (.tmp rfl) (.cons (.tmp rfl) .nil)) rfl) fun _ => jmv rfl rfl <| JL.nrm ⟨[(5, .tup [.val (PTO none), .val (S (rI .i64) v_7)])], [], []⟩ [] rfl (.cons rfl .nil) rfl <| jc (op_extract (i := 0) lb (.tmp rfl) rfl) <| jc (op_extract (i := 1) lb (.tmp rfl) rfl) <| jc (op_assign lb (.tmp rfl)) <| jc (op_assign lb (.tmp rfl)) <| jn <| jr <| jmv rfl rfl <| lI hm fun v_8 hv_8 hm => jc (op_cmpI lb (.tmp rfl) .cI (cs hv_8)) <| jc (op_assign lb (.tmp rfl)) <| jn <| JC.ret ?_
 obtain rfl := so hm
 exact jd (.val (S rB v_8)) rfl rfl rfl rfl rfl rfl

theorem sim_frame_May (k : Nat) (t_1 : api_Frame) (r : Bool) (hm : frame_May k t_1 = some r) : Sim Tryz.prog 11 [A r_api_Frame t_1] [] (γ := Unit) (fun q => []) (fun q => .one (.val (S rB r))) := by
 unfold frame_May at hm
 refine Sim.of Tryz.func11 rfl rfl (lE rfl) (fun e0 w0 => ?_)
 refine JC.at ⟨[(0, ov (A r_api_Frame t_1))], [], []⟩ <| jr <| jx (op_boxA lb (.tmp rfl)) fun gb_2 => jc (op_assign lb .cB) <| jn <| JC.seq <| bI hm fun x_16 hx1 hq1 => JC.seqJ (γ := Unit) (stj := fun _ => ⟨[(1, ov (PTR gb_2 0)), (41, ov (S rB x_16))], [cvar gb_2 r_api_Frame t_1], []⟩) (fun _ => ?_) ?_
 · refine jif (.tmp rfl) hq1 (fun hc26 hq1 => ?_) (fun hc26 hq1 => ?_)
   · refine jr <| jc (op_assign lb .cB) <| jn <| JC.ret <| JQ.outR ?_
     obtain rfl := so hq1
     exact jd (.val (S rB false)) rfl rfl rfl rfl rfl rfl
   refine JC.skip <| JQ.then <| jr <| jc (op_assign lb .func) <| jn <| bI hq1 fun tv27 hx27 hq27 => JC.seqK (α := Unit) (γ := Unit) (stj := fun v q => ⟨[], [], []⟩) (p := fun v => tv27 = (.inl v)) (fun v q hv => ?_) ?_
   · subst hv
     skip
     obtain _ := q
     dsimp only at hq27
     refine JC.at ⟨[], [], []⟩ <| jr <| jc (op_assign lb .cB) <| jn <| JC.ret ?_
     obtain rfl := so hq27
     exact jd (.val (S rB false)) rfl rfl rfl rfl rfl rfl
   refine jr <| jc (op_fieldAddr (off := 0) lb tf39_0 (.tmp rfl)) <| jc (op_loadS (j := 0) lb tS22 (.tmp rfl) rfl (cT (comp_api_Frame_Kind t_1) rfl) rfl rfl) <| jn <| JC.block <| jr <| lI hx27 fun v_17 hv_17 hx27 => jc (op_cmpI lb (.tmp rfl) .cI (cs hv_17)) <| jc (op_assign lb (.tmp rfl)) <| jn <| jif (.tmp rfl) hx27 (fun hc28 hx27 => ?_) (fun hc28 hx27 => ?_)
   · refine bI hx27 fun x_21 hx29 hq29 => JC.seqJ (γ := Unit) (stj := fun _ => ⟨[(2, ov (S rB x_21))], [], []⟩) (fun _ => ?_) ?_
     · refine JC.ret <| JQ.outRB ?_
       try obtain rfl := so hq29
       dsimp only at hq27
       refine JQ.outR ?_
       obtain rfl := so hq27
       exact jd (.val (S rB x_21)) rfl rfl rfl rfl rfl rfl
     refine JC.region <| jc (op_fieldAddr (off := 3) lb tf39_3 (.tmp rfl)) <| jc (op_loadS (j := 0) lb tS23 (.tmp rfl) rfl (cT (comp_api_Frame_Items t_1) rfl) rfl rfl) <| jc (op_lenL lb tu23 (.tmp rfl)) <| lI hx29 fun v_18 hv_18 hx29 => jc (op_cmpI lb (.tmp rfl) .cI (cs hv_18)) <| jmv rfl rfl <| jT (ov (A r_api_Frame t_1)) rfl rfl rfl rfl (fun hq_30 => op_loadA (j := 0) lb tA39 (.tmp rfl) rfl (Comp.self r_api_Frame t_1) rfl) <| bI hx29 fun v_19 hv_19 hx29 => jT (ov (S rB v_19)) rfl rfl rfl rfl (fun hq_31 => (op_call (js := []) ld cl30 (sim_frame_items k t_1 v_19 (ifT hv_19 hq_31)) .func (.cons (HasO.cnd (.tmp rfl) hq_31) .nil) rfl).post (fun _ => Imp.refl)) <| JL.nrm ⟨[(50, ov (S rB v_18)), (52, bif v_18 then ov (S rB v_19) else .one .und)], [], []⟩ [] rfl (.cons rfl (.cons rfl .nil)) rfl <| lI hx29 fun v_20 hv_20 hx29 => jc (op_pickCS lb (.tmp rfl) (fun hb32 => (HasO.cnd (.tmp rfl) hb32)) (fun hb32 => .cB) hv_20) <| jc (op_assign lb (.tmp rfl)) <| JL.nil ?_
     try obtain rfl := so hx29
     exact jo rfl rfl rfl
   refine jr <| lI hx27 fun v_22 hv_22 hx27 => jc (op_cmpI lb (.tmp rfl) .cI (cs hv_22)) <| jc (op_assign lb (.tmp rfl)) <| jn <| jif (.tmp rfl) hx27 (fun hc33 hx27 => ?_) (fun hc33 hx27 => ?_)
   · refine jr <| jc (op_fieldAddr (off := 4) lb tf39_4 (.tmp rfl)) <| jc (op_loadA (j := 0) lb tA32 (.tmp rfl) rfl (cT (comp_api_Frame_Event t_1) rfl) rfl) <| bI hx27 fun v_23 hv_23 hx27 => jx (op_call (js := []) ld cl31 (sim_event_May k t_1.Event v_23 hv_23) .func (.cons (.tmp rfl) .nil) rfl) fun _ => jc (op_assign lb (.tmp rfl)) <| jn <| JC.ret <| JQ.outRB ?_
     try obtain rfl := so hx27
     dsimp only at hq27
     refine JQ.outR ?_
     obtain rfl := so hq27
     exact jd (.val (S rB v_23)) rfl rfl rfl rfl rfl rfl
   refine jr <| lI hx27 fun v_24 hv_24 hx27 => jc (op_cmpI lb (.tmp rfl) .cI (cs hv_24)) <| jc (op_assign lb (.tmp rfl)) <| jn <| jif (.tmp rfl) hx27 (fun hc34 hx27 => ?_) (fun hc34 hx27 => ?_)
   · refine jr <| jc (op_fieldAddr (off := 25) lb tf39_5 (.tmp rfl)) <| bI hx27 fun v_25 hv_25 hx27 => JL.pre (Imp.frzVar (j := 0) rfl (ImpK.slotP (s := 1) rfl (Comp.self r_api_Frame t_1) (ImpK.slotP (s := 42) rfl (cT (comp_api_Frame_Kind t_1) rfl) (ImpK.slotP (s := 61) rfl (cT (comp_api_Frame_Past t_1) rfl) ImpK.refl)))) <| jc (op_sliceP lb tu29 tz24 (.tmp rfl) .none .none hv_25) <| JL.sub ⟨[(62, ov (S (rL (rU UInt64)) v_25))], [], []⟩ (.cons rfl .nil) rfl rfl <| bI hx27 fun v_26 hv_26 hx27 => jx (op_call (js := []) ld cl32 (sim_slices_ContainsFuncuint64_uint64'2 k v_25 v_26 hv_26) .func (.cons (.tmp rfl) (.cons .func .nil)) rfl) fun _ => lI hx27 fun v_27 hv_27 hx27 => jc (op_not lb (.tmp rfl) hv_27) <| jc (op_assign lb (.tmp rfl)) <| jn ?_
     refine JC.ret <| JQ.outRB ?_
     try obtain rfl := so hx27
     dsimp only at hq27
     refine JQ.outR ?_
     obtain rfl := so hq27
     exact jd (.val (S rB v_27)) rfl rfl rfl rfl rfl rfl
   refine jr <| lI hx27 fun v_28 hv_28 hx27 => jc (op_cmpI lb (.tmp rfl) .cI (cs hv_28)) <| jc (op_assign lb (.tmp rfl)) <| jn <| jif (.tmp rfl) hx27 (fun hc35 hx27 => ?_) (fun hc35 hx27 => ?_)
   · refine bI hx27 fun tv36 hx36 hq36 => JC.seqK (α := Unit) (γ := Unit) (stj := fun v q => ⟨[(1, ov (PTR gb_2 0))], [cvar gb_2 r_api_Frame t_1], []⟩) (p := fun v => tv36 = (.inl v)) (fun v q hv => ?_) ?_
     · subst hv
       skip
       obtain _ := q
       dsimp only at hq36
       refine JC.at ⟨[(1, ov (PTR gb_2 0))], [cvar gb_2 r_api_Frame t_1], []⟩ <| bI hq36 fun x_48 hx59 hq59 => JC.seqJ (γ := Unit) (stj := fun _ => ⟨[(2, ov (S rB x_48))], [], []⟩) (fun _ => ?_) ?_
       · refine JC.ret <| JQ.outRB ?_
         try obtain rfl := so hq59
         dsimp only at hq27
         refine JQ.outR ?_
         obtain rfl := so hq27
         exact jd (.val (S rB x_48)) rfl rfl rfl rfl rfl rfl
       refine JC.region <| jc (op_fieldAddr (off := 58) lb tf39_8 (.tmp rfl)) <| jc (op_loadS (j := 0) lb tS33 (.tmp rfl) rfl (cT (comp_api_Frame_Live t_1) rfl) rfl rfl) <| jc (op_lenL lb tu33 (.tmp rfl)) <| lI hx59 fun v_45 hv_45 hx59 => jc (op_cmpI lb (.tmp rfl) .cI (cs hv_45)) <| jmv rfl rfl <| jT (ov (A r_api_Frame t_1)) rfl rfl rfl rfl (fun hq_60 => op_loadA (j := 0) lb tA39 (.tmp rfl) rfl (Comp.self r_api_Frame t_1) rfl) <| bI hx59 fun v_46 hv_46 hx59 => jT (ov (S rB v_46)) rfl rfl rfl rfl (fun hq_61 => (op_call (js := []) ld cl36 (sim_frame_seen k t_1 v_46 (ifT hv_46 hq_61)) .func (.cons (HasO.cnd (.tmp rfl) hq_61) .nil) rfl).post (fun _ => Imp.refl)) <| lI hx59 fun v_47 hv_47 hx59 => jc (op_pickCS lb (.tmp rfl) (fun hb62 => (HasO.cnd (.tmp rfl) hb62)) (fun hb62 => .cB) hv_47) <| jc (op_assign lb (.tmp rfl)) <| JL.nil ?_
       try obtain rfl := so hx59
       exact jo rfl rfl rfl
     refine jr <| jc (op_fieldAddr (off := 58) lb tf39_8 (.tmp rfl)) <| JL.sub ⟨[(1, ov (PTR gb_2 0)), (3, ov (CLO 29 [])), (67, ov (PTR gb_2 (0 + 58)))], [cvar gb_2 r_api_Frame t_1], []⟩ (.cons rfl (.cons rfl (.cons rfl .nil))) rfl rfl <| jc (op_loadS (j := 0) lb tS33 (.tmp rfl) rfl (cT (comp_api_Frame_Live t_1) rfl) rfl rfl) <| jc (op_lenL lb tu33 (.tmp rfl)) <| jc (op_move lb .cI) <| jn <| JC.block <| bI hx36 fun tv37 hL37 hq37 => JC.pre ?_ (JC.loop (γ := Unit) (stf := fun s q => ⟨[(1, ov (PTR gb_2 0)), (3, ov (CLO 29 [])), (68, ov (S (rL r_api_Dot) t_1.Live)), (69, ov (S (rI .i64) (List.length t_1.Live : Int))), (70, ov (S (rI .i64) s))], [cvar gb_2 r_api_Frame t_1], []⟩) (q := ()) hL37 ?_)
     · exact (Imp.norm (js := [0]) rfl (.cons rfl (.cons rfl (.cons rfl (.cons rfl (.cons rfl .nil))))))
     intro x_29 q x hx hr
     obtain _ := q
     change frame_May.b1 k t_1 x_29 = some x at hx
     unfold frame_May.b1 at hx
     refine JC.at ⟨[(1, ov (PTR gb_2 0)), (3, ov (CLO 29 [])), (68, ov (S (rL r_api_Dot) t_1.Live)), (69, ov (S (rI .i64) (List.length t_1.Live : Int))), (70, ov (S (rI .i64) x_29))], [cvar gb_2 r_api_Frame t_1], []⟩ <| jr <| lI hx fun v_30 hv_30 hx => jc (op_cmpI lb (.tmp rfl) (.tmp rfl) (cs hv_30)) <| jn <| JC.seq <| jif (.tmp rfl) hx (fun hc38 hx => ?_) (fun hc38 hx => ?_)
     · refine JC.skip <| JQ.then <| JC.seq <| JC.block <| jr <| jmv rfl rfl <| bI hx fun v_31 hv_31 hx => jc (op_indexAddrLg lb tu33 tz26 (.tmp rfl) (.tmp rfl) hv_31) <| jc (op_loadPAg lb tA26 (.tmp rfl) rfl) <| jx (op_alloc lb tZ26 zr26) fun gb_32 => jc (op_assign lb (.tmp rfl)) <| jc (op_storeA (j := 1) tA26 (.tmp rfl) (.tmp rfl) rfl (UpdR.self (by rfl)) rfl) <| jn <| bI hx fun x_43 hx39 hq39 => JC.seqJ (γ := Unit) (stj := fun _ => ⟨[(1, ov (PTR gb_2 0)), (3, ov (CLO 29 [])), (68, ov (S (rL r_api_Dot) t_1.Live)), (69, ov (S (rI .i64) (List.length t_1.Live : Int))), (70, ov (S (rI .i64) x_29)), (95, ov (S rB x_43))], [cvar gb_2 r_api_Frame t_1], []⟩) (fun _ => ?_) ?_
       · refine jif (.tmp rfl) hq39 (fun hc58 hq39 => ?_) (fun hc58 hq39 => ?_)
         · refine jr <| jc (op_assign lb .cB) <| jn <| JC.ret <| JQ.outRB <| JQ.outR ?_
           try obtain rfl := so hq39
           try obtain rfl := hr _ rfl
           dsimp only at hq37
           refine JQ.outR <| JQ.outRB ?_
           try obtain rfl := so hq37
           dsimp only at hq36
           refine JQ.outR <| JQ.outRB ?_
           try obtain rfl := so hq36
           dsimp only at hq27
           refine JQ.outR ?_
           obtain rfl := so hq27
           exact jd (.val (S rB false)) rfl rfl rfl rfl rfl rfl
         refine JC.skip <| JQ.outNB <| JQ.then <| JC.region <| lI hq39 fun v_44 hv_44 hq39 => jc (op_arI lb (.tmp rfl) .cI (cs hv_44)) <| jmv rfl rfl <| JL.nil ?_
         try obtain rfl := so hq39
         exact JQ.next () rfl (Imp.norm (js := [0]) rfl (.cons rfl (.cons rfl (.cons rfl (.cons rfl (.cons rfl .nil))))))
       refine bI hx39 fun v_33 hv_33 hx39 => lI hx39 fun v_34 hv_34 hx39 => lI hx39 fun v_35 hv_35 hx39 => lI hx39 fun v_36 hv_36 hx39 => bI hx39 fun v_37 hv_37 hx39 => bI hx39 fun v_38 hv_38 hx39 => lI hx39 fun v_39 hv_39 hx39 => bI hx39 fun v_40 hv_40 hx39 => ?_
       obtain ⟨v_41, hv_41, hx39⟩ := lt1_inv hx39
       obtain ⟨v_42, hv_42, hx39⟩ := lt1_inv hx39
       refine JC.anyF (base := [(1, ov (PTR gb_2 0)), (3, ov (CLO 29 [])), (4, ov (S (rI .i64) x_29)), (5, ov (PTR gb_32 0)), (68, ov (S (rL r_api_Dot) t_1.Live)), (69, ov (S (rI .i64) (List.length t_1.Live : Int))), (70, ov (S (rI .i64) x_29))])
           (fs := fun γ => [⟨some 75, ov (A r_api_Dot v_31)⟩, ⟨some 76, ov (S rB v_33)⟩, ⟨some 77, ov (S rB v_34)⟩, ⟨some 78, ov (S rB v_34)⟩, ⟨some 79, bif (!v_34) then ov (CLO 29 []) else .one .und⟩, ⟨some 80, bif (!v_34) then ov (S (rI .i64) x_29) else .one .und⟩, ⟨some 81, bif (!v_34) then ov (S (rI .i64) x_29) else .one .und⟩, ⟨some 82, bif (!v_34) then ov (S rB v_35) else .one .und⟩, ⟨some 83, bif (!v_34) then ov (S rB v_35) else .one .und⟩, ⟨some 84, bif ((!v_34) && v_35) then ov (PTR gb_2 (0 + 58)) else .one .und⟩, ⟨some 85, bif ((!v_34) && v_35) then ov (S (rL r_api_Dot) t_1.Live) else .one .und⟩, ⟨some 86, bif ((!v_34) && v_35) then ov (S (rI .i64) x_29) else .one .und⟩, ⟨some 87, bif ((!v_34) && v_35) then ov (S (rI .i64) v_36) else .one .und⟩, ⟨some 88, bif ((!v_34) && v_35) then ov (PT r_api_Dot v_37) else .one .und⟩, ⟨some 89, bif ((!v_34) && v_35) then ov (A r_api_Dot v_37) else .one .und⟩, ⟨some 90, bif ((!v_34) && v_35) then ov (A r_api_Dot v_31) else .one .und⟩, ⟨some 91, bif ((!v_34) && v_35) then ov (S rB v_38) else .one .und⟩, ⟨some 92, bif (!v_34) then ov (S rB v_39) else .one .und⟩, ⟨some 93, bif (!v_34) then ov (S rB v_40) else .one .und⟩, ⟨some 94, bif (!v_34) then ov (S rB v_41) else .one .und⟩, ⟨some 95, ov (S rB v_42)⟩])
           (rs := fun γ => [⟨cvar gb_2 r_api_Frame t_1, none, none, [10]⟩, ⟨cvar gb_32 r_api_Dot v_31, none, none, [0, 15]⟩])
           (afts := nn 21) (js := [0, 0]) mixed (.cons rfl (.cons rfl (.cons rfl (.cons rfl (.cons rfl (.cons rfl (.cons rfl .nil))))))) (fun _ => rfl)
           (by
      refine dR 1 (fun γ ρ B hb hd => OpStep.lk ⟨ρ, (cvar gb_32 r_api_Dot v_31) :: B, _⟩ (op_loadA (j := 0) lb tA26 (.tmp (hb 5 _ rfl)) rfl (Comp.self r_api_Dot v_31) rfl)) <| dS 2 (fun γ ρ B hb hd => (op_call (js := []) ld cl34 (sim_ctx_May k v_31 v_33 hv_33) .func (.cons (tl hd 0 75) .nil) rfl).post (fun _ => Imp.refl)) <| dS 3 (fun γ ρ B hb hd => op_not lb (tl hd 1 76) hv_34) <| dm 4 2 77 ?_
      refine dF 5 3 78 v_34 (fun γ => ov (CLO 29 [])) (fun γ ρ B hb hd hq_40 => op_move lb (.tmp (hb 3 _ rfl))) ?_
      refine dF 6 3 78 v_34 (fun γ => ov (S (rI .i64) x_29)) (fun γ ρ B hb hd hq_41 => op_move lb (.tmp (hb 4 _ rfl))) ?_
      refine dF 7 3 78 v_34 (fun γ => ov (S (rI .i64) x_29)) (fun γ ρ B hb hd hq_42 => op_move lb (.tmp (hb 4 _ rfl))) ?_
      refine dF 8 3 78 v_34 (fun γ => ov (S rB v_35)) (fun γ ρ B hb hd hq_43 => op_cmpI lb (HasO.cnd (tl hd 6 81) (notT (notF hq_43))) .cI (cs hv_35)) ?_
      refine dF 9 3 78 v_34 (fun γ => ov (S rB v_35)) (fun γ ρ B hb hd hq_44 => op_move lb (HasO.cnd (tl hd 7 82) (notT (notF hq_44)))) ?_
      refine dA 10 8 83 (!v_34) v_35 (fun γ => ov (PTR gb_2 (0 + 58))) (fun γ ρ B hb hd hq_45 => op_fieldAddr (off := 58) lb tf39_8 (.tmp (hb 1 _ rfl))) ?_
      refine eA 11 8 83 (!v_34) v_35 (fun γ => ov (S (rL r_api_Dot) t_1.Live)) (fun γ ρ B hb hd hq_46 => OpStep.lk ⟨ρ, (cvar gb_2 r_api_Frame t_1) :: B, _⟩ (op_loadS (j := 0) lb tS33 (HasO.cnd (tl hd 9 84) (andI (notT (notF (andL hq_46))) (andR hq_46))) rfl (cT (comp_api_Frame_Live t_1) rfl) rfl rfl)) ?_
      refine dA 12 8 83 (!v_34) v_35 (fun γ => ov (S (rI .i64) x_29)) (fun γ ρ B hb hd hq_47 => op_move lb (.tmp (hb 4 _ rfl))) ?_
      refine dA 13 8 83 (!v_34) v_35 (fun γ => ov (S (rI .i64) v_36)) (fun γ ρ B hb hd hq_48 => op_arI lb (HasO.cnd (tl hd 11 86) (andI (notT (notF (andL hq_48))) (andR hq_48))) .cI (cs hv_36)) ?_
      refine dA 14 8 83 (!v_34) v_35 (fun γ => ov (PT r_api_Dot v_37)) (fun γ ρ B hb hd hq_49 => op_indexAddrLg lb tu33 tz26 (HasO.cnd (tl hd 10 85) (andI (notT (notF (andL hq_49))) (andR hq_49))) (HasO.cnd (tl hd 12 87) (andI (notT (notF (andL hq_49))) (andR hq_49))) (ifT hv_37 hq_49)) ?_
      refine dA 15 8 83 (!v_34) v_35 (fun γ => ov (A r_api_Dot v_37)) (fun γ ρ B hb hd hq_50 => op_loadPAg lb tA26 (HasO.cnd (tl hd 13 88) (andI (notT (notF (andL hq_50))) (andR hq_50))) rfl) ?_
      refine eA 16 8 83 (!v_34) v_35 (fun γ => ov (A r_api_Dot v_31)) (fun γ ρ B hb hd hq_51 => OpStep.lk ⟨ρ, (cvar gb_32 r_api_Dot v_31) :: B, _⟩ (op_loadA (j := 0) lb tA26 (.tmp (hb 5 _ rfl)) rfl (Comp.self r_api_Dot v_31) rfl)) ?_
      refine dA 17 8 83 (!v_34) v_35 (fun γ => ov (S rB v_38)) (fun γ ρ B hb hd hq_52 => (op_call (js := []) ld cl35 (sim_ctx_Less k v_37 v_31 v_38 (ifT hv_38 hq_52)) .func (.cons (HasO.cnd (tl hd 14 89) (andI (notT (notF (andL hq_52))) (andR hq_52))) (.cons (HasO.cnd (tl hd 15 90) (andI (notT (notF (andL hq_52))) (andR hq_52))) .nil)) rfl).post (fun _ => Imp.refl)) ?_
      refine dF 18 3 78 v_34 (fun γ => ov (S rB v_39)) (fun γ ρ B hb hd hq_53 => op_pickCS lb (HasO.cnd (tl hd 8 83) (notT (notF hq_53))) (fun hb54 => (HasO.cnd (tl hd 16 91) (andI (notT (notF hq_53)) hb54))) (fun hb54 => .cB) hv_39) ?_
      refine dF 19 3 78 v_34 (fun γ => ov (S rB v_40)) (fun γ ρ B hb hd hq_55 => (op_call (js := []) ld cl29 (sim_frame_May_1 k x_29 v_39 v_40 (ifT hv_40 hq_55)) (HasO.cnd (tl hd 4 79) (notT (notF hq_55))) (.cons (HasO.cnd (tl hd 5 80) (notT (notF hq_55))) (.cons (HasO.cnd (tl hd 17 92) (notT (notF hq_55))) .nil)) rfl).post (fun _ => Imp.refl)) ?_
      refine dF 20 3 78 v_34 (fun γ => ov (S rB v_41)) (fun γ ρ B hb hd hq_56 => op_not lb (HasO.cnd (tl hd 18 93) (notT (notF hq_56))) hv_41) ?_
      refine dS 21 (fun γ ρ B hb hd => op_pickCS lb (tl hd 3 78) (fun hb57 => .cB) (fun hb57 => (HasO.cnd (tl hd 19 94) (notT hb57))) hv_42) ?_
      exact DSteps.nil)
           (by decide +kernel) (fun _ => rfl) (fun _ => rfl) (fun _ => rfl) rfl
           (ρ' := fun γ => [(1, ov (PTR gb_2 0)), (3, ov (CLO 29 [])), (68, ov (S (rL r_api_Dot) t_1.Live)), (69, ov (S (rI .i64) (List.length t_1.Live : Int))), (70, ov (S (rI .i64) x_29)), (95, ov (S rB v_42))])
           (X' := fun γ => [cvar gb_2 r_api_Frame t_1, cvar gb_32 r_api_Dot v_31])
           (fun γ ρ hb hd => (.cons (hb 1 _ rfl) (.cons (hb 3 _ rfl) (.cons (hb 68 _ rfl) (.cons (hb 69 _ rfl) (.cons (hb 70 _ rfl) (.cons (hdq hd 20 95 rfl) .nil))))))) (fun _ => rfl) (fun γ => ?_)
       refine JQ.at ⟨[(1, ov (PTR gb_2 0)), (3, ov (CLO 29 [])), (68, ov (S (rL r_api_Dot) t_1.Live)), (69, ov (S (rI .i64) (List.length t_1.Live : Int))), (70, ov (S (rI .i64) x_29)), (95, ov (S rB v_42))], [cvar gb_2 r_api_Frame t_1, cvar gb_32 r_api_Dot v_31], []⟩ ?_
       try obtain rfl := so hx39
       exact JQ.join () (Imp.norm (js := [0]) rfl (.cons rfl (.cons rfl (.cons rfl (.cons rfl (.cons rfl (.cons rfl .nil)))))))
     refine JC.exit <| JQ.outX ?_
     try obtain rfl := so hx
     try obtain rfl := hr _ rfl
     dsimp only at hq37
     refine JQ.outX <| JQ.here ?_
     try obtain rfl := so hq37
     exact JQ.joinK () () rfl (Imp.norm (js := [0]) rfl (.cons rfl .nil))
   refine jr <| lI hx27 fun v_49 hv_49 hx27 => jc (op_cmpI lb (.tmp rfl) .cI (cs hv_49)) <| JL.sub ⟨[(1, ov (PTR gb_2 0)), (3, ov (CLO 29 [])), (43, ov (S (rI .i64) t_1.Kind)), (106, ov (S rB v_49))], [cvar gb_2 r_api_Frame t_1], []⟩ (.cons rfl (.cons rfl (.cons rfl (.cons rfl .nil)))) rfl rfl <| jc (op_assign lb (.tmp rfl)) <| jn <| jif (.tmp rfl) hx27 (fun hc63 hx27 => ?_) (fun hc63 hx27 => ?_)
   · refine jr <| jc (op_assign lb .cB) <| jn <| JC.ret <| JQ.outRB ?_
     try obtain rfl := so hx27
     dsimp only at hq27
     refine JQ.outR ?_
     obtain rfl := so hq27
     exact jd (.val (S rB true)) rfl rfl rfl rfl rfl rfl
   refine jr <| lI hx27 fun v_50 hv_50 hx27 => jc (op_cmpI lb (.tmp rfl) .cI (cs hv_50)) <| jc (op_assign lb (.tmp rfl)) <| jn <| jif (.tmp rfl) hx27 (fun hc64 hx27 => ?_) (fun hc64 hx27 => ?_)
   · refine jr <| jc (op_fieldAddr (off := 91) lb tf39_10 (.tmp rfl)) <| jc (op_loadS (j := 0) lb tS36 (.tmp rfl) rfl (cT (comp_api_Frame_Leaves t_1) rfl) rfl rfl) <| jc (op_lenL lb tu36 (.tmp rfl)) <| lI hx27 fun v_51 hv_51 hx27 => jc (op_cmpI lb (.tmp rfl) .cI (cs hv_51)) <| jc (op_assign lb (.tmp rfl)) <| jn <| JC.ret <| JQ.outRB ?_
     try obtain rfl := so hx27
     dsimp only at hq27
     refine JQ.outR ?_
     obtain rfl := so hq27
     exact jd (.val (S rB v_51)) rfl rfl rfl rfl rfl rfl
   refine jr <| lI hx27 fun v_52 hv_52 hx27 => jc (op_cmpI lb (.tmp rfl) .cI (cs hv_52)) <| jc (op_assign lb (.tmp rfl)) <| jn <| jif (.tmp rfl) hx27 (fun hc65 hx27 => ?_) (fun hc65 hx27 => ?_)
   · refine bI hx27 fun tv66 hx66 hq66 => JC.seqK (α := Unit) (γ := Unit) (stj := fun v q => ⟨[(1, ov (PTR gb_2 0)), (3, ov (CLO 29 []))], [cvar gb_2 r_api_Frame t_1], []⟩) (p := fun v => tv66 = (.inl v)) (fun v q hv => ?_) ?_
     · subst hv
       skip
       obtain _ := q
       dsimp only at hq66
       refine JC.at ⟨[(1, ov (PTR gb_2 0)), (3, ov (CLO 29 []))], [cvar gb_2 r_api_Frame t_1], []⟩ <| bI hq66 fun tv92 hx92 hq92 => JC.seqK (α := Unit) (γ := Unit) (stj := fun v q => ⟨[(1, ov (PTR gb_2 0))], [cvar gb_2 r_api_Frame t_1], []⟩) (p := fun v => tv92 = (.inl v)) (fun v q hv => ?_) ?_
       · subst hv
         skip
         obtain _ := q
         dsimp only at hq92
         refine JC.at ⟨[(1, ov (PTR gb_2 0))], [cvar gb_2 r_api_Frame t_1], []⟩ <| bI hq92 fun x_87 hx108 hq108 => JC.seqJ (γ := Unit) (stj := fun _ => ⟨[(2, ov (S rB x_87))], [], []⟩) (fun _ => ?_) ?_
         · refine JC.ret <| JQ.outRB ?_
           try obtain rfl := so hq108
           dsimp only at hq27
           refine JQ.outR ?_
           obtain rfl := so hq27
           exact jd (.val (S rB x_87)) rfl rfl rfl rfl rfl rfl
         refine JC.region <| jc (op_fieldAddr (off := 92) lb tf39_11 (.tmp rfl)) <| jc (op_loadS (j := 0) lb tS37 (.tmp rfl) rfl (cT (comp_api_Frame_Buckets t_1) rfl) rfl rfl) <| jc (op_lenL lb tu37 (.tmp rfl)) <| lI hx108 fun v_82 hv_82 hx108 => jc (op_cmpI lb (.tmp rfl) .cI (cs hv_82)) <| jmv rfl rfl <| jT (ov (A r_api_Frame t_1)) rfl rfl rfl rfl (fun hq_109 => op_loadA (j := 0) lb tA39 (.tmp rfl) rfl (Comp.self r_api_Frame t_1) rfl) <| bI hx108 fun v_83 hv_83 hx108 => jT (ov (S rB v_83)) rfl rfl rfl rfl (fun hq_110 => (op_call (js := []) ld cl30 (sim_frame_items k t_1 v_83 (ifT hv_83 hq_110)) .func (.cons (HasO.cnd (.tmp rfl) hq_110) .nil) rfl).post (fun _ => Imp.refl)) <| lI hx108 fun v_84 hv_84 hx108 => jc (op_pickCS lb (.tmp rfl) (fun hb111 => (HasO.cnd (.tmp rfl) hb111)) (fun hb111 => .cB) hv_84) <| jmv rfl rfl <| jT (ov (A r_api_Frame t_1)) rfl rfl rfl rfl (fun hq_112 => op_loadA (j := 0) lb tA39 (.tmp rfl) rfl (Comp.self r_api_Frame t_1) rfl) ?_
         refine bI hx108 fun v_85 hv_85 hx108 => jT (ov (S rB v_85)) rfl rfl rfl rfl (fun hq_113 => (op_call (js := []) ld cl36 (sim_frame_seen k t_1 v_85 (ifT hv_85 hq_113)) .func (.cons (HasO.cnd (.tmp rfl) hq_113) .nil) rfl).post (fun _ => Imp.refl)) <| lI hx108 fun v_86 hv_86 hx108 => jc (op_pickCS lb (.tmp rfl) (fun hb114 => (HasO.cnd (.tmp rfl) hb114)) (fun hb114 => .cB) hv_86) <| JL.nrm ⟨[(186, ov (S rB v_86))], [], []⟩ [] rfl (.cons rfl .nil) rfl <| jc (op_assign lb (.tmp rfl)) <| JL.nil ?_
         try obtain rfl := so hx108
         exact jo rfl rfl rfl
       refine jr <| jc (op_fieldAddr (off := 3) lb tf39_3 (.tmp rfl)) <| jc (op_loadS (j := 0) lb tS23 (.tmp rfl) rfl (cT (comp_api_Frame_Items t_1) rfl) rfl rfl) <| jc (op_lenL lb tu23 (.tmp rfl)) <| jc (op_move lb .cI) <| jn <| JC.block <| bI hx92 fun tv93 hL93 hq93 => JC.pre ?_ (JC.loop (γ := Unit) (stf := fun s q => ⟨[(1, ov (PTR gb_2 0)), (3, ov (CLO 29 [])), (149, ov (S (rL r_api_Item) t_1.Items)), (150, ov (S (rI .i64) (List.length t_1.Items : Int))), (151, ov (S (rI .i64) s))], [cvar gb_2 r_api_Frame t_1], []⟩) (q := ()) hL93 ?_)
       · exact (Imp.norm (js := [0]) rfl (.cons rfl (.cons rfl (.cons rfl (.cons rfl (.cons rfl .nil))))))
       intro x_69 q x hx hr
       obtain _ := q
       change frame_May.b3 k t_1 x_69 = some x at hx
       unfold frame_May.b3 at hx
       refine JC.at ⟨[(1, ov (PTR gb_2 0)), (3, ov (CLO 29 [])), (149, ov (S (rL r_api_Item) t_1.Items)), (150, ov (S (rI .i64) (List.length t_1.Items : Int))), (151, ov (S (rI .i64) x_69))], [cvar gb_2 r_api_Frame t_1], []⟩ <| jr <| lI hx fun v_70 hv_70 hx => jc (op_cmpI lb (.tmp rfl) (.tmp rfl) (cs hv_70)) <| jn <| JC.seq ?_
       rcases iteB_inv hx with ⟨hc94, hx⟩ | ⟨hc94, hx⟩
       · refine JC.condT (.tmp rfl) hc94 <| JC.skip <| JQ.then <| JC.seq <| JC.block <| jr <| jmv rfl rfl <| bI hx fun v_71 hv_71 hx => jc (op_indexAddrLg lb tu23 tz62 (.tmp rfl) (.tmp rfl) hv_71) <| jc (op_loadPAg lb tA62 (.tmp rfl) rfl) <| jx (op_alloc lb tZ62 zr62) fun gb_72 => jc (op_assign lb (.tmp rfl)) <| jc (op_storeA (j := 1) tA62 (.tmp rfl) (.tmp rfl) rfl (UpdR.self (by rfl)) rfl) <| jn <| bI hx fun x_80 hx95 hq95 => JC.seqJ (γ := Unit) (stj := fun _ => ⟨[(1, ov (PTR gb_2 0)), (3, ov (CLO 29 [])), (149, ov (S (rL r_api_Item) t_1.Items)), (150, ov (S (rI .i64) (List.length t_1.Items : Int))), (151, ov (S (rI .i64) x_69)), (173, ov (S rB x_80))], [cvar gb_2 r_api_Frame t_1], []⟩) (fun _ => ?_) ?_
         · refine jif (.tmp rfl) hq95 (fun hc107 hq95 => ?_) (fun hc107 hq95 => ?_)
           · refine jr <| jc (op_assign lb .cB) <| jn <| JC.ret <| JQ.outRB <| JQ.outR ?_
             try obtain rfl := so hq95
             try obtain rfl := hr _ rfl
             dsimp only at hq93
             refine JQ.outR <| JQ.outRB ?_
             try obtain rfl := so hq93
             dsimp only at hq92
             refine JQ.outR <| JQ.outRB ?_
             try obtain rfl := so hq92
             dsimp only at hq27
             refine JQ.outR ?_
             obtain rfl := so hq27
             exact jd (.val (S rB false)) rfl rfl rfl rfl rfl rfl
           refine JC.skip <| JQ.outNB <| JQ.then <| JC.region <| lI hq95 fun v_81 hv_81 hq95 => jc (op_arI lb (.tmp rfl) .cI (cs hv_81)) <| jmv rfl rfl <| JL.nil ?_
           try obtain rfl := so hq95
           exact JQ.next () rfl (Imp.norm (js := [0]) rfl (.cons rfl (.cons rfl (.cons rfl (.cons rfl (.cons rfl .nil))))))
         refine lI hx95 fun v_73 hv_73 hx95 => lI hx95 fun v_74 hv_74 hx95 => bI hx95 fun v_75 hv_75 hx95 => bI hx95 fun v_76 hv_76 hx95 => lI hx95 fun v_77 hv_77 hx95 => bI hx95 fun v_78 hv_78 hx95 => ?_
         obtain ⟨v_79, hv_79, hx95⟩ := lt1_inv hx95
         refine JC.anyF (base := [(1, ov (PTR gb_2 0)), (3, ov (CLO 29 [])), (8, ov (S (rI .i64) x_69)), (9, ov (PTR gb_72 0)), (149, ov (S (rL r_api_Item) t_1.Items)), (150, ov (S (rI .i64) (List.length t_1.Items : Int))), (151, ov (S (rI .i64) x_69))])
             (fs := fun γ => [⟨some 156, ov (CLO 29 [])⟩, ⟨some 157, ov (S (rI .i64) x_69)⟩, ⟨some 158, ov (S (rI .i64) x_69)⟩, ⟨some 159, ov (S rB v_73)⟩, ⟨some 160, ov (S rB v_73)⟩, ⟨some 161, bif v_73 then ov (PTR gb_2 (0 + 3)) else .one .und⟩, ⟨some 162, bif v_73 then ov (S (rL r_api_Item) t_1.Items) else .one .und⟩, ⟨some 163, bif v_73 then ov (S (rI .i64) x_69) else .one .und⟩, ⟨some 164, bif v_73 then ov (S (rI .i64) v_74) else .one .und⟩, ⟨some 165, bif v_73 then ov (PT r_api_Item v_75) else .one .und⟩, ⟨some 166, bif v_73 then ov (PT r_api_Dot v_75.Dot) else .one .und⟩, ⟨some 167, bif v_73 then ov (A r_api_Dot v_75.Dot) else .one .und⟩, ⟨some 168, bif v_73 then ov (PTR gb_72 (0 + 0)) else .one .und⟩, ⟨some 169, bif v_73 then ov (A r_api_Dot v_71.Dot) else .one .und⟩, ⟨some 170, bif v_73 then ov (S rB v_76) else .one .und⟩, ⟨some 171, ov (S rB v_77)⟩, ⟨some 172, ov (S rB v_78)⟩, ⟨some 173, ov (S rB v_79)⟩])
             (rs := fun γ => [⟨cvar gb_2 r_api_Frame t_1, none, none, [6]⟩, ⟨cvar gb_72 r_api_Item v_71, none, none, [13]⟩])
             (afts := nn 18) (js := [0, 0]) mixed (.cons rfl (.cons rfl (.cons rfl (.cons rfl (.cons rfl (.cons rfl (.cons rfl .nil))))))) (fun _ => rfl)
             (by
      refine db 1 3 <| db 2 8 <| db 3 8 <| dS 4 (fun γ ρ B hb hd => op_cmpI lb (tl hd 2 158) .cI (cs hv_73)) <| dm 5 3 159 ?_
      refine dT 6 4 160 v_73 (fun γ => ov (PTR gb_2 (0 + 3))) (fun γ ρ B hb hd hq_96 => op_fieldAddr (off := 3) lb tf39_3 (.tmp (hb 1 _ rfl))) ?_
      refine eT 7 4 160 v_73 (fun γ => ov (S (rL r_api_Item) t_1.Items)) (fun γ ρ B hb hd hq_97 => OpStep.lk ⟨ρ, (cvar gb_2 r_api_Frame t_1) :: B, _⟩ (op_loadS (j := 0) lb tS23 (HasO.cnd (tl hd 5 161) hq_97) rfl (cT (comp_api_Frame_Items t_1) rfl) rfl rfl)) ?_
      refine dT 8 4 160 v_73 (fun γ => ov (S (rI .i64) x_69)) (fun γ ρ B hb hd hq_98 => op_move lb (.tmp (hb 8 _ rfl))) ?_
      refine dT 9 4 160 v_73 (fun γ => ov (S (rI .i64) v_74)) (fun γ ρ B hb hd hq_99 => op_arI lb (HasO.cnd (tl hd 7 163) hq_99) .cI (cs hv_74)) ?_
      refine dT 10 4 160 v_73 (fun γ => ov (PT r_api_Item v_75)) (fun γ ρ B hb hd hq_100 => op_indexAddrLg lb tu23 tz62 (HasO.cnd (tl hd 6 162) hq_100) (HasO.cnd (tl hd 8 164) hq_100) (ifT hv_75 hq_100)) ?_
      refine dT 11 4 160 v_73 (fun γ => ov (PT r_api_Dot v_75.Dot)) (fun γ ρ B hb hd hq_101 => op_fieldAddrP lb tf62_0 (HasO.cnd (tl hd 9 165) hq_101) (comp_api_Item_Dot v_75)) ?_
      refine dT 12 4 160 v_73 (fun γ => ov (A r_api_Dot v_75.Dot)) (fun γ ρ B hb hd hq_102 => op_loadPAg lb tA26 (HasO.cnd (tl hd 10 166) hq_102) rfl) ?_
      refine dT 13 4 160 v_73 (fun γ => ov (PTR gb_72 (0 + 0))) (fun γ ρ B hb hd hq_103 => op_fieldAddr (off := 0) lb tf62_0 (.tmp (hb 9 _ rfl))) ?_
      refine eT 14 4 160 v_73 (fun γ => ov (A r_api_Dot v_71.Dot)) (fun γ ρ B hb hd hq_104 => OpStep.lk ⟨ρ, (cvar gb_72 r_api_Item v_71) :: B, _⟩ (op_loadA (j := 0) lb tA26 (HasO.cnd (tl hd 12 168) hq_104) rfl (cT (comp_api_Item_Dot v_71) rfl) rfl)) ?_
      refine dT 15 4 160 v_73 (fun γ => ov (S rB v_76)) (fun γ ρ B hb hd hq_105 => (op_call (js := []) ld cl35 (sim_ctx_Less k v_75.Dot v_71.Dot v_76 (ifT hv_76 hq_105)) .func (.cons (HasO.cnd (tl hd 11 167) hq_105) (.cons (HasO.cnd (tl hd 13 169) hq_105) .nil)) rfl).post (fun _ => Imp.refl)) ?_
      refine dS 16 (fun γ ρ B hb hd => op_pickCS lb (tl hd 4 160) (fun hb106 => (HasO.cnd (tl hd 14 170) hb106)) (fun hb106 => .cB) hv_77) <| dS 17 (fun γ ρ B hb hd => (op_call (js := []) ld cl29 (sim_frame_May_1 k x_69 v_77 v_78 hv_78) (tl hd 0 156) (.cons (tl hd 1 157) (.cons (tl hd 15 171) .nil)) rfl).post (fun _ => Imp.refl)) <| dS 18 (fun γ ρ B hb hd => op_not lb (tl hd 16 172) hv_79) ?_
      exact DSteps.nil)
             (by decide +kernel) (fun _ => rfl) (fun _ => rfl) (fun _ => rfl) rfl
             (ρ' := fun γ => [(1, ov (PTR gb_2 0)), (3, ov (CLO 29 [])), (149, ov (S (rL r_api_Item) t_1.Items)), (150, ov (S (rI .i64) (List.length t_1.Items : Int))), (151, ov (S (rI .i64) x_69)), (173, ov (S rB v_79))])
             (X' := fun γ => [cvar gb_2 r_api_Frame t_1, cvar gb_72 r_api_Item v_71])
             (fun γ ρ hb hd => (.cons (hb 1 _ rfl) (.cons (hb 3 _ rfl) (.cons (hb 149 _ rfl) (.cons (hb 150 _ rfl) (.cons (hb 151 _ rfl) (.cons (hdq hd 17 173 rfl) .nil))))))) (fun _ => rfl) (fun γ => ?_)
         refine JQ.at ⟨[(1, ov (PTR gb_2 0)), (3, ov (CLO 29 [])), (149, ov (S (rL r_api_Item) t_1.Items)), (150, ov (S (rI .i64) (List.length t_1.Items : Int))), (151, ov (S (rI .i64) x_69)), (173, ov (S rB v_79))], [cvar gb_2 r_api_Frame t_1, cvar gb_72 r_api_Item v_71], []⟩ ?_
         try obtain rfl := so hx95
         exact JQ.join () (Imp.norm (js := [0]) rfl (.cons rfl (.cons rfl (.cons rfl (.cons rfl (.cons rfl (.cons rfl .nil)))))))
       refine JC.condF (.tmp rfl) hc94 <| JC.exit <| JQ.outX ?_
       try obtain rfl := so hx
       try obtain rfl := hr _ rfl
       dsimp only at hq93
       refine JQ.outX <| JQ.here ?_
       try obtain rfl := so hq93
       exact JQ.joinK () () rfl (Imp.norm (js := [0]) rfl (.cons rfl .nil))
     refine jr <| jc (op_fieldAddr (off := 92) lb tf39_11 (.tmp rfl)) <| jc (op_loadS (j := 0) lb tS37 (.tmp rfl) rfl (cT (comp_api_Frame_Buckets t_1) rfl) rfl rfl) <| jc (op_lenL lb tu37 (.tmp rfl)) <| jc (op_move lb .cI) <| jn <| JC.block <| bI hx66 fun tv67 hL67 hq67 => JC.pre ?_ (JC.loop (γ := Unit) (stf := fun s q => ⟨[(1, ov (PTR gb_2 0)), (3, ov (CLO 29 [])), (116, ov (S (rL (rI .i64)) t_1.Buckets)), (117, ov (S (rI .i64) (List.length t_1.Buckets : Int))), (118, ov (S (rI .i64) s))], [cvar gb_2 r_api_Frame t_1], []⟩) (q := ()) hL67 ?_)
     · exact (Imp.norm (js := [0]) rfl (.cons rfl (.cons rfl (.cons rfl (.cons rfl (.cons rfl .nil))))))
     intro x_53 q x hx hr
     obtain _ := q
     change frame_May.b2 k t_1 x_53 = some x at hx
     unfold frame_May.b2 at hx
     refine JC.at ⟨[(1, ov (PTR gb_2 0)), (3, ov (CLO 29 [])), (116, ov (S (rL (rI .i64)) t_1.Buckets)), (117, ov (S (rI .i64) (List.length t_1.Buckets : Int))), (118, ov (S (rI .i64) x_53))], [cvar gb_2 r_api_Frame t_1], []⟩ <| jr <| lI hx fun v_54 hv_54 hx => jc (op_cmpI lb (.tmp rfl) (.tmp rfl) (cs hv_54)) <| jn <| JC.seq <| jif (.tmp rfl) hx (fun hc68 hx => ?_) (fun hc68 hx => ?_)
     · refine JC.skip <| JQ.then <| JC.seq <| JC.block <| jr <| jmv rfl rfl <| bI hx fun v_55 hv_55 hx => jc (op_indexAddrLg lb tu37 tz3 (.tmp rfl) (.tmp rfl) hv_55) <| jc (op_loadPSg lb tS3 rfl (.tmp rfl) rfl) <| jc (op_assign lb (.tmp rfl)) <| jc (op_assign lb (.tmp rfl)) <| jn <| bI hx fun x_67 hx69 hq69 => JC.seqJ (γ := Unit) (stj := fun _ => ⟨[(1, ov (PTR gb_2 0)), (3, ov (CLO 29 [])), (116, ov (S (rL (rI .i64)) t_1.Buckets)), (117, ov (S (rI .i64) (List.length t_1.Buckets : Int))), (118, ov (S (rI .i64) x_53)), (146, ov (S rB x_67))], [cvar gb_2 r_api_Frame t_1], []⟩) (fun _ => ?_) ?_
       · refine jif (.tmp rfl) hq69 (fun hc91 hq69 => ?_) (fun hc91 hq69 => ?_)
         · refine jr <| jc (op_assign lb .cB) <| jn <| JC.ret <| JQ.outRB <| JQ.outR ?_
           try obtain rfl := so hq69
           try obtain rfl := hr _ rfl
           dsimp only at hq67
           refine JQ.outR <| JQ.outRB ?_
           try obtain rfl := so hq67
           dsimp only at hq66
           refine JQ.outR <| JQ.outRB ?_
           try obtain rfl := so hq66
           dsimp only at hq27
           refine JQ.outR ?_
           obtain rfl := so hq27
           exact jd (.val (S rB false)) rfl rfl rfl rfl rfl rfl
         refine JC.skip <| JQ.outNB <| JQ.then <| JC.region <| lI hq69 fun v_68 hv_68 hq69 => jc (op_arI lb (.tmp rfl) .cI (cs hv_68)) <| jmv rfl rfl <| JL.nil ?_
         try obtain rfl := so hq69
         exact JQ.next () rfl (Imp.norm (js := [0]) rfl (.cons rfl (.cons rfl (.cons rfl (.cons rfl (.cons rfl .nil))))))
       refine JC.region <| jmv rfl rfl <| lI hx69 fun v_56 hv_56 hx69 => jc (op_cmpI lb (.tmp rfl) .cI (cs hv_56)) <| jmv rfl rfl <| jF (ov (S (rI .i64) v_55)) rfl rfl rfl rfl (fun hq_70 => op_move lb (.tmp rfl)) <| lI hx69 fun v_57 hv_57 hx69 => jF (ov (S rB v_57)) rfl rfl rfl rfl (fun hq_71 => op_cmpI lb (HasO.cnd (.tmp rfl) (notT (notF hq_71))) .cI (cs hv_57)) <| lI hx69 fun v_58 hv_58 hx69 => jc (op_pickCS lb (.tmp rfl) (fun hb72 => .cB) (fun hb72 => (HasO.cnd (.tmp rfl) (notT hb72))) hv_58) <| JL.sub ⟨[(1, ov (PTR gb_2 0)), (3, ov (CLO 29 [])), (6, ov (S (rI .i64) x_53)), (7, ov (S (rI .i64) v_55)), (116, ov (S (rL (rI .i64)) t_1.Buckets)), (117, ov (S (rI .i64) (List.length t_1.Buckets : Int))), (118, ov (S (rI .i64) x_53)), (128, ov (S rB v_58))], [cvar gb_2 r_api_Frame t_1], []⟩ (.cons rfl (.cons rfl (.cons rfl (.cons rfl (.cons rfl (.cons rfl (.cons rfl (.cons rfl .nil)))))))) rfl rfl ?_
       refine jmv rfl rfl <| jF (ov (CLO 29 [])) rfl rfl rfl rfl (fun hq_73 => op_move lb (.tmp rfl)) <| jF (ov (S (rI .i64) x_53)) rfl rfl rfl rfl (fun hq_74 => op_move lb (.tmp rfl)) <| jF (ov (S (rI .i64) x_53)) rfl rfl rfl rfl (fun hq_75 => op_move lb (.tmp rfl)) <| lI hx69 fun v_59 hv_59 hx69 => jF (ov (S rB v_59)) rfl rfl rfl rfl (fun hq_76 => op_cmpI lb (HasO.cnd (.tmp rfl) (notT (notF hq_76))) .cI (cs hv_59)) <| jF (ov (S rB v_59)) rfl rfl rfl rfl (fun hq_77 => op_move lb (HasO.cnd (.tmp rfl) (notT (notF hq_77)))) <| JL.cnd (sv := ov (PTR gb_2 (0 + 92))) (Guard.cT (q := (!v_58)) (ltB rfl) rfl rfl) rfl (ltB rfl) (fun hq_78 => op_fieldAddr (off := 92) lb tf39_11 (.tmp rfl)) <| JL.cnd (sv := ov (S (rL (rI .i64)) t_1.Buckets)) (Guard.cT (q := (!v_58)) (ltB rfl) rfl rfl) rfl (ltB rfl) (fun hq_79 => op_loadS (j := 0) lb tS37 (HasO.cnd (.tmp rfl) (andI (notT (notF (andL hq_79))) (andR hq_79))) rfl (cT (comp_api_Frame_Buckets t_1) rfl) rfl rfl) ?_
       refine JL.cnd (sv := ov (S (rI .i64) x_53)) (Guard.cT (q := (!v_58)) (ltB rfl) rfl rfl) rfl (ltB rfl) (fun hq_80 => op_move lb (.tmp rfl)) <| lI hx69 fun v_60 hv_60 hx69 => JL.cnd (sv := ov (S (rI .i64) v_60)) (Guard.cT (q := (!v_58)) (ltB rfl) rfl rfl) rfl (ltB rfl) (fun hq_81 => op_arI lb (HasO.cnd (.tmp rfl) (andI (notT (notF (andL hq_81))) (andR hq_81))) .cI (cs hv_60)) <| bI hx69 fun v_61 hv_61 hx69 => JL.cnd (sv := ov (PT (rI .i64) v_61)) (Guard.cT (q := (!v_58)) (ltB rfl) rfl rfl) rfl (ltB rfl) (fun hq_82 => op_indexAddrLg lb tu37 tz3 (HasO.cnd (.tmp rfl) (andI (notT (notF (andL hq_82))) (andR hq_82))) (HasO.cnd (.tmp rfl) (andI (notT (notF (andL hq_82))) (andR hq_82))) (ifT hv_61 hq_82)) <| JL.cnd (sv := ov (S (rI .i64) v_61)) (Guard.cT (q := (!v_58)) (ltB rfl) rfl rfl) rfl (ltB rfl) (fun hq_83 => op_loadPSg lb tS3 rfl (HasO.cnd (.tmp rfl) (andI (notT (notF (andL hq_83))) (andR hq_83))) rfl) <| JL.sub ⟨[(1, ov (PTR gb_2 0)), (3, ov (CLO 29 [])), (7, ov (S (rI .i64) v_55)), (116, ov (S (rL (rI .i64)) t_1.Buckets)), (117, ov (S (rI .i64) (List.length t_1.Buckets : Int))), (118, ov (S (rI .i64) x_53)), (129, ov (S rB v_58)), (130, bif (!v_58) then ov (CLO 29 []) else .one .und), (131, bif (!v_58) then ov (S (rI .i64) x_53) else .one .und), (134, bif (!v_58) then ov (S rB v_59) else .one .und), (140, bif ((!v_58) && v_59) then ov (S (rI .i64) v_61) else .one .und)], [cvar gb_2 r_api_Frame t_1], []⟩ (.cons rfl (.cons rfl (.cons rfl (.cons rfl (.cons rfl (.cons rfl (.cons rfl (.cons rfl (.cons rfl (.cons rfl (.cons rfl .nil))))))))))) rfl rfl <| JL.cnd (sv := ov (S (rI .i64) v_55)) (Guard.cT (q := (!v_58)) (ltB rfl) rfl rfl) rfl (ltB rfl) (fun hq_84 => op_move lb (.tmp rfl)) ?_
       obtain ⟨v_62, hv_62, hx69⟩ := lt1_inv hx69
       refine JL.cnd (sv := ov (S rB v_62)) (Guard.cT (q := (!v_58)) (ltB rfl) rfl rfl) rfl (ltB rfl) (fun hq_85 => op_cmpI lb (HasO.cnd (.tmp rfl) (andI (notT (notF (andL hq_85))) (andR hq_85))) (HasO.cnd (.tmp rfl) (andI (notT (notF (andL hq_85))) (andR hq_85))) (cs hv_62)) <| lI hx69 fun v_63 hv_63 hx69 => jF (ov (S rB v_63)) rfl rfl rfl rfl (fun hq_86 => op_pickCS lb (HasO.cnd (.tmp rfl) (notT (notF hq_86))) (fun hb87 => (HasO.cnd (.tmp rfl) (andI (notT (notF hq_86)) hb87))) (fun hb87 => .cB) hv_63) <| bI hx69 fun v_64 hv_64 hx69 => jF (ov (S rB v_64)) rfl rfl rfl rfl (fun hq_88 => (op_call (js := []) ld cl29 (sim_frame_May_1 k x_53 v_63 v_64 (ifT hv_64 hq_88)) (HasO.cnd (.tmp rfl) (notT (notF hq_88))) (.cons (HasO.cnd (.tmp rfl) (notT (notF hq_88))) (.cons (HasO.cnd (.tmp rfl) (notT (notF hq_88))) .nil)) rfl).post (fun _ => Imp.refl)) <| lI hx69 fun v_65 hv_65 hx69 => jF (ov (S rB v_65)) rfl rfl rfl rfl (fun hq_89 => op_not lb (HasO.cnd (.tmp rfl) (notT (notF hq_89))) hv_65) <| lI hx69 fun v_66 hv_66 hx69 => jc (op_pickCS lb (.tmp rfl) (fun hb90 => .cB) (fun hb90 => (HasO.cnd (.tmp rfl) (notT hb90))) hv_66) <| JL.nil ?_
       try obtain rfl := so hx69
       exact JQ.join () (Imp.norm (js := [0]) rfl (.cons rfl (.cons rfl (.cons rfl (.cons rfl (.cons rfl (.cons rfl .nil)))))))
     refine JC.exit <| JQ.outX ?_
     try obtain rfl := so hx
     try obtain rfl := hr _ rfl
     dsimp only at hq67
     refine JQ.outX <| JQ.here ?_
     try obtain rfl := so hq67
     exact JQ.joinK () () rfl (Imp.norm (js := [0]) rfl (.cons rfl (.cons rfl .nil)))
   refine JC.skip <| JQ.outNB ?_
   try obtain rfl := so hx27
   exact JQ.joinK () () rfl (Imp.norm (js := []) rfl .nil)
 refine lI hx1 fun v_3 hv_3 hx1 => lI hx1 fun v_4 hv_4 hx1 => lI hx1 fun v_5 hv_5 hx1 => lI hx1 fun v_6 hv_6 hx1 => lI hx1 fun v_7 hv_7 hx1 => lI hx1 fun v_8 hv_8 hx1 => lI hx1 fun v_9 hv_9 hx1 => lI hx1 fun v_10 hv_10 hx1 => ?_
 obtain ⟨v_11, hv_11, hx1⟩ := lt1_inv hx1
 refine bI hx1 fun v_12 hv_12 hx1 => bI hx1 fun v_13 hv_13 hx1 => lI hx1 fun v_14 hv_14 hx1 => ?_
 obtain ⟨v_15, hv_15, hx1⟩ := lt1_inv hx1
 refine JC.anyF (base := [(1, ov (PTR gb_2 0))])
     (fs := fun γ => [⟨some 10, ov (PTR gb_2 (0 + 1))⟩, ⟨some 11, ov (S (rI .i64) t_1.From)⟩, ⟨some 12, ov (S rB v_3)⟩, ⟨some 13, ov (S rB v_3)⟩, ⟨some 14, bif (!v_3) then ov (PTR gb_2 (0 + 1)) else .one .und⟩, ⟨some 15, bif (!v_3) then ov (S (rI .i64) t_1.From) else .one .und⟩, ⟨some 16, bif (!v_3) then ov (S rB v_4) else .one .und⟩, ⟨some 17, ov (S rB v_5)⟩, ⟨some 18, ov (S rB v_5)⟩, ⟨some 19, bif (!v_5) then ov (PTR gb_2 (0 + 2)) else .one .und⟩, ⟨some 20, bif (!v_5) then ov (S (rI .i64) t_1.To) else .one .und⟩, ⟨some 21, bif (!v_5) then ov (S rB v_6) else .one .und⟩, ⟨some 22, ov (S rB v_7)⟩, ⟨some 23, ov (S rB v_7)⟩, ⟨some 24, bif (!v_7) then ov (PTR gb_2 (0 + 2)) else .one .und⟩, ⟨some 25, bif (!v_7) then ov (S (rI .i64) t_1.To) else .one .und⟩, ⟨some 26, bif (!v_7) then ov (S rB v_8) else .one .und⟩, ⟨some 27, ov (S rB v_9)⟩, ⟨some 28, ov (S rB v_9)⟩, ⟨some 29, bif (!v_9) then ov (PTR gb_2 (0 + 1)) else .one .und⟩, ⟨some 30, bif (!v_9) then ov (S (rI .i64) t_1.From) else .one .und⟩, ⟨some 31, bif (!v_9) then ov (PTR gb_2 (0 + 2)) else .one .und⟩, ⟨some 32, bif (!v_9) then ov (S (rI .i64) t_1.To) else .one .und⟩, ⟨some 33, bif (!v_9) then ov (S rB v_10) else .one .und⟩, ⟨some 34, ov (S rB v_11)⟩, ⟨some 35, ov (S rB v_11)⟩, ⟨some 36, bif (!v_11) then ov (A r_api_Frame t_1) else .one .und⟩, ⟨some 37, bif (!v_11) then ov (A r_api_Frame t_1) else .one .und⟩, ⟨some 38, bif (!v_11) then ov (A r_api_Frame v_12) else .one .und⟩, ⟨some 39, bif (!v_11) then ov (S rB v_13) else .one .und⟩, ⟨some 40, bif (!v_11) then ov (S rB v_14) else .one .und⟩, ⟨some 41, ov (S rB v_15)⟩])
     (rs := fun γ => [⟨cvar gb_2 r_api_Frame t_1, none, none, [1, 5, 10, 15, 20, 22, 26, 27]⟩])
     (afts := nn 32) (js := [0]) mixed (.cons rfl .nil) (fun _ => rfl)
     (by
      refine dS 1 (fun γ ρ B hb hd => op_fieldAddr (off := 1) lb tf39_1 (.tmp (hb 1 _ rfl))) <| dR 2 (fun γ ρ B hb hd => OpStep.lk ⟨ρ, (cvar gb_2 r_api_Frame t_1) :: B, _⟩ (op_loadS (j := 0) lb tS3 (tl hd 0 10) rfl (cT (comp_api_Frame_From t_1) rfl) rfl rfl)) <| dS 3 (fun γ ρ B hb hd => op_cmpI lb (tl hd 1 11) .cI (cs hv_3)) <| dm 4 2 12 ?_
      refine dF 5 3 13 v_3 (fun γ => ov (PTR gb_2 (0 + 1))) (fun γ ρ B hb hd hq_2 => op_fieldAddr (off := 1) lb tf39_1 (.tmp (hb 1 _ rfl))) ?_
      refine eF 6 3 13 v_3 (fun γ => ov (S (rI .i64) t_1.From)) (fun γ ρ B hb hd hq_3 => OpStep.lk ⟨ρ, (cvar gb_2 r_api_Frame t_1) :: B, _⟩ (op_loadS (j := 0) lb tS3 (HasO.cnd (tl hd 4 14) (notT (notF hq_3))) rfl (cT (comp_api_Frame_From t_1) rfl) rfl rfl)) ?_
      refine dF 7 3 13 v_3 (fun γ => ov (S rB v_4)) (fun γ ρ B hb hd hq_4 => op_cmpI lb (HasO.cnd (tl hd 5 15) (notT (notF hq_4))) .cI (cs hv_4)) ?_
      refine dS 8 (fun γ ρ B hb hd => op_pickCS lb (tl hd 3 13) (fun hb5 => .cB) (fun hb5 => (HasO.cnd (tl hd 6 16) (notT hb5))) hv_5) <| dm 9 7 17 ?_
      refine dF 10 8 18 v_5 (fun γ => ov (PTR gb_2 (0 + 2))) (fun γ ρ B hb hd hq_6 => op_fieldAddr (off := 2) lb tf39_2 (.tmp (hb 1 _ rfl))) ?_
      refine eF 11 8 18 v_5 (fun γ => ov (S (rI .i64) t_1.To)) (fun γ ρ B hb hd hq_7 => OpStep.lk ⟨ρ, (cvar gb_2 r_api_Frame t_1) :: B, _⟩ (op_loadS (j := 0) lb tS3 (HasO.cnd (tl hd 9 19) (notT (notF hq_7))) rfl (cT (comp_api_Frame_To t_1) rfl) rfl rfl)) ?_
      refine dF 12 8 18 v_5 (fun γ => ov (S rB v_6)) (fun γ ρ B hb hd hq_8 => op_cmpI lb (HasO.cnd (tl hd 10 20) (notT (notF hq_8))) .cI (cs hv_6)) ?_
      refine dS 13 (fun γ ρ B hb hd => op_pickCS lb (tl hd 8 18) (fun hb9 => .cB) (fun hb9 => (HasO.cnd (tl hd 11 21) (notT hb9))) hv_7) <| dm 14 12 22 ?_
      refine dF 15 13 23 v_7 (fun γ => ov (PTR gb_2 (0 + 2))) (fun γ ρ B hb hd hq_10 => op_fieldAddr (off := 2) lb tf39_2 (.tmp (hb 1 _ rfl))) ?_
      refine eF 16 13 23 v_7 (fun γ => ov (S (rI .i64) t_1.To)) (fun γ ρ B hb hd hq_11 => OpStep.lk ⟨ρ, (cvar gb_2 r_api_Frame t_1) :: B, _⟩ (op_loadS (j := 0) lb tS3 (HasO.cnd (tl hd 14 24) (notT (notF hq_11))) rfl (cT (comp_api_Frame_To t_1) rfl) rfl rfl)) ?_
      refine dF 17 13 23 v_7 (fun γ => ov (S rB v_8)) (fun γ ρ B hb hd hq_12 => op_cmpI lb (HasO.cnd (tl hd 15 25) (notT (notF hq_12))) .cI (cs hv_8)) ?_
      refine dS 18 (fun γ ρ B hb hd => op_pickCS lb (tl hd 13 23) (fun hb13 => .cB) (fun hb13 => (HasO.cnd (tl hd 16 26) (notT hb13))) hv_9) <| dm 19 17 27 ?_
      refine dF 20 18 28 v_9 (fun γ => ov (PTR gb_2 (0 + 1))) (fun γ ρ B hb hd hq_14 => op_fieldAddr (off := 1) lb tf39_1 (.tmp (hb 1 _ rfl))) ?_
      refine eF 21 18 28 v_9 (fun γ => ov (S (rI .i64) t_1.From)) (fun γ ρ B hb hd hq_15 => OpStep.lk ⟨ρ, (cvar gb_2 r_api_Frame t_1) :: B, _⟩ (op_loadS (j := 0) lb tS3 (HasO.cnd (tl hd 19 29) (notT (notF hq_15))) rfl (cT (comp_api_Frame_From t_1) rfl) rfl rfl)) ?_
      refine dF 22 18 28 v_9 (fun γ => ov (PTR gb_2 (0 + 2))) (fun γ ρ B hb hd hq_16 => op_fieldAddr (off := 2) lb tf39_2 (.tmp (hb 1 _ rfl))) ?_
      refine eF 23 18 28 v_9 (fun γ => ov (S (rI .i64) t_1.To)) (fun γ ρ B hb hd hq_17 => OpStep.lk ⟨ρ, (cvar gb_2 r_api_Frame t_1) :: B, _⟩ (op_loadS (j := 0) lb tS3 (HasO.cnd (tl hd 21 31) (notT (notF hq_17))) rfl (cT (comp_api_Frame_To t_1) rfl) rfl rfl)) ?_
      refine dF 24 18 28 v_9 (fun γ => ov (S rB v_10)) (fun γ ρ B hb hd hq_18 => op_cmpI lb (HasO.cnd (tl hd 20 30) (notT (notF hq_18))) (HasO.cnd (tl hd 22 32) (notT (notF hq_18))) (cs hv_10)) ?_
      refine dS 25 (fun γ ρ B hb hd => op_pickCS lb (tl hd 18 28) (fun hb19 => .cB) (fun hb19 => (HasO.cnd (tl hd 23 33) (notT hb19))) hv_11) <| dm 26 24 34 ?_
      refine eF 27 25 35 v_11 (fun γ => ov (A r_api_Frame t_1)) (fun γ ρ B hb hd hq_20 => OpStep.lk ⟨ρ, (cvar gb_2 r_api_Frame t_1) :: B, _⟩ (op_loadA (j := 0) lb tA39 (.tmp (hb 1 _ rfl)) rfl (Comp.self r_api_Frame t_1) rfl)) ?_
      refine eF 28 25 35 v_11 (fun γ => ov (A r_api_Frame t_1)) (fun γ ρ B hb hd hq_21 => OpStep.lk ⟨ρ, (cvar gb_2 r_api_Frame t_1) :: B, _⟩ (op_loadA (j := 0) lb tA39 (.tmp (hb 1 _ rfl)) rfl (Comp.self r_api_Frame t_1) rfl)) ?_
      refine dF 29 25 35 v_11 (fun γ => ov (A r_api_Frame v_12)) (fun γ ρ B hb hd hq_22 => (op_call (js := []) ld cl28 (sim_frame_bare k t_1 v_12 (ifT hv_12 hq_22)) .func (.cons (HasO.cnd (tl hd 27 37) (notT (notF hq_22))) .nil) rfl).post (fun _ => Imp.refl)) ?_
      refine dF 30 25 35 v_11 (fun γ => ov (S rB v_13)) (fun γ ρ B hb hd hq_23 => (op_call (js := []) ld cl18 (sim_frame_Same k t_1 v_12 v_13 (ifT hv_13 hq_23)) .func (.cons (HasO.cnd (tl hd 26 36) (notT (notF hq_23))) (.cons (HasO.cnd (tl hd 28 38) (notT (notF hq_23))) .nil)) rfl).post (fun _ => Imp.refl)) ?_
      refine dF 31 25 35 v_11 (fun γ => ov (S rB v_14)) (fun γ ρ B hb hd hq_24 => op_not lb (HasO.cnd (tl hd 29 39) (notT (notF hq_24))) hv_14) ?_
      refine dS 32 (fun γ ρ B hb hd => op_pickCS lb (tl hd 25 35) (fun hb25 => .cB) (fun hb25 => (HasO.cnd (tl hd 30 40) (notT hb25))) hv_15) ?_
      exact DSteps.nil)
     (by decide +kernel) (fun _ => rfl) (fun _ => rfl) (fun _ => rfl) rfl
     (ρ' := fun γ => [(1, ov (PTR gb_2 0)), (41, ov (S rB v_15))])
     (X' := fun γ => [cvar gb_2 r_api_Frame t_1])
     (fun γ ρ hb hd => (.cons (hb 1 _ rfl) (.cons (hdq hd 31 41 rfl) .nil))) (fun _ => rfl) (fun γ => ?_)
 refine JQ.at ⟨[(1, ov (PTR gb_2 0)), (41, ov (S rB v_15))], [cvar gb_2 r_api_Frame t_1], []⟩ ?_
 try obtain rfl := so hx1
 exact JQ.join () (Imp.norm (js := [0]) rfl (.cons rfl (.cons rfl .nil)))

end Go.Proofs.YtklnihlchhhhlaaGreat
