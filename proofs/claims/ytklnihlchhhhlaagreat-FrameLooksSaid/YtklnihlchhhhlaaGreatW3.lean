/- Walks. -/
import Derived.Test.YtklnihlchhhhlaaGreatT
import Derived.Test.YtklnihlchhhhlaaGreatW1
import Derived.Test.YtklnihlchhhhlaaGreatW2
namespace Go.Proofs.YtklnihlchhhhlaaGreat
open Go Fw
set_option linter.unusedVariables false
set_option maxRecDepth 100000
set_option maxHeartbeats 4000000

theorem sim_ctx_Of_v0 (k : Nat) (v_1 : (Vector UInt64 16)) (extra_2 : (List api_Dot)) (r : (List api_Dot)) (hm : ctx_Of k v_1 extra_2 = some (.inl r)) : Sim Tryz.prog 87 [A (rV 16 (rU UInt64)) v_1, S (rL r_api_Dot) extra_2] [] (γ := Nat × Option Nat × Nat) (fun q => [cvar q.1 (rP (rV 16 (rU UInt64)) (rP (rW (HDR q.2.1 0 (List.length r) q.2.2)) (rP rB r0))) (v_1, ((), (true, ()))), cown q.2.1 r_api_Dot r 0 q.2.2]) (fun q => .tup [.val (PTR q.1 0), .val (S (rI .i64) (0 : Int))]) := by
 unfold ctx_Of at hm
 refine Sim.of Tryz.func87 rfl rfl (lE rfl) (fun e0 w0 => ?_)
 refine JC.at ⟨[(0, ov (A (rV 16 (rU UInt64)) v_1)), (1, ov (S (rL r_api_Dot) extra_2))], [], []⟩ ?_
 refine jr ?_
 refine jx (op_boxA lb (.tmp rfl)) (fun gb_3 => ?_)
 refine jc (op_assign lb (HasO.const (p := PTO none) fun _ => rfl)) <| jc (op_assign lb .cI) <| jn ?_
 obtain ⟨tv1, hx1, hq1⟩ := bnd_inv hm
 refine JC.seqK (α := Unit) (γ := Unit) (stj := fun v q => ⟨[(1, ov (S (rL r_api_Dot) extra_2)), (2, ov (PTR gb_3 0))], [cvar gb_3 (rV 16 (rU UInt64)) v_1], []⟩) (p := fun v => tv1 = (.inl v)) (fun v q hv => ?_) ?_
 · subst hv
   skip
   obtain _ := q
   dsimp only at hq1
   refine JC.at ⟨[(1, ov (S (rL r_api_Dot) extra_2)), (2, ov (PTR gb_3 0))], [cvar gb_3 (rV 16 (rU UInt64)) v_1], []⟩ ?_
   obtain ⟨tv5, hx5, hq5⟩ := bnd_inv hq1
   refine JC.seqK (α := Unit) (γ := Unit) (stj := fun v q => ⟨[(1, ov (S (rL r_api_Dot) extra_2)), (2, ov (PTR gb_3 0))], [cvar gb_3 (rV 16 (rU UInt64)) v_1], []⟩) (p := fun v => tv5 = (.inl v)) (fun v q hv => ?_) ?_
   · subst hv
     skip
     obtain _ := q
     dsimp only at hq5
     refine JC.at ⟨[(1, ov (S (rL r_api_Dot) extra_2)), (2, ov (PTR gb_3 0))], [cvar gb_3 (rV 16 (rU UInt64)) v_1], []⟩ ?_
     refine JC.seq <| jr <| jmv rfl rfl <| jc (op_lenL lb tu33 (.tmp rfl)) ?_
     obtain ⟨v_29, hv_29, hq5⟩ := lt1_inv hq5
     refine jc (op_cmpI lb (.tmp rfl) .cI (cs hv_29)) <| jn ?_
     rcases iteB_inv hq5 with ⟨hc26, hq5⟩ | ⟨hc26, hq5⟩
     · refine JC.condT (.tmp rfl) hc26 ?_
       refine jr <| jc (op_assign lb (HasO.const (p := PTO none) fun _ => rfl)) <| jc (op_assign lb .cI) <| jn ?_
       refine JC.ret ?_
       refine JQ.outR ?_
       cases hq5
     refine JC.condF (.tmp rfl) hc26 ?_
     refine JC.skip ?_
     refine JQ.then <| JC.seq ?_
     obtain ⟨v_30, hv_30, hq5⟩ := bnd_inv hq5
     refine JC.anyF (base := [(1, ov (S (rL r_api_Dot) extra_2)), (2, ov (PTR gb_3 0))])
         (fs := fun γ => [⟨some 56, ov (A (rV 16 (rU UInt64)) v_1)⟩, ⟨some 57, ov (S (rL r_api_Dot) extra_2)⟩, ⟨some 58, ov (HDR (deo (γ 2 0)) 0 (List.length v_30) (γ 2 1))⟩, ⟨some 59, ov (A (zq18 (deo (γ 2 0)) v_30 (γ 2 1)) (v_1, ((), (true, ()))))⟩, ⟨some 60, ov (PTR (γ 4 0) 0)⟩, ⟨some 4, ov (PTR (γ 4 0) 0)⟩, ⟨some 5, ov (S (rI .i64) (0 : Int))⟩])
         (rs := fun γ => [⟨cvar gb_3 (rV 16 (rU UInt64)) v_1, none, none, [0]⟩, ⟨cown (deo (γ 2 0)) r_api_Dot v_30 0 (γ 2 1), (some 2), none, []⟩, ⟨cvar (γ 4 0) (zq18 (deo (γ 2 0)) v_30 (γ 2 1)) (v_1, ((), (true, ()))), (some 4), none, []⟩])
         (afts := [[], [], [2, 3, 4, 5, 6], [], [4, 5, 6], [], []]) (js := [0]) mixed (.cons rfl (.cons rfl .nil)) (fun _ => rfl)
         (by
      refine dR 1 (fun γ ρ B hb hd => OpStep.lk ⟨ρ, (cvar gb_3 (rV 16 (rU UInt64)) v_1) :: B, _⟩ (op_loadA (j := 0) lb tA29 (.tmp (hb 2 _ rfl)) rfl (Comp.self (rV 16 (rU UInt64)) v_1) rfl)) <| db 2 1 ?_
      refine DSteps.cons (j := 3) rfl (fun _ => rfl) (.runX (fun _ _ => rfl) (fun γ ρ B hb hd => ⟨.none, OpX.ghost (γ := Option Nat × Nat) (st' := fun q => setO ⟨ρ, (cown q.1 r_api_Dot v_30 0 q.2) :: B, _⟩ (some 58) (ov (HDR q.1 0 (List.length v_30) q.2))) (fun q c => bif Nat.beq c 0 then eno q.1 else q.2) (op_call (js := []) ld cl120 (sim_slices_Cloneapi_Dot_api_Dot k extra_2 v_30 hv_30) .func (.cons (tl hd 1 57) .nil) rfl) (fun q => by obtain ⟨q0, q1⟩ := q; cases q0 <;> exact Imp.refl)⟩) (fun _ _ => rfl) (fun _ _ => rfl)) ?_
      refine dS 4 (fun γ ρ B hb hd => op_build lb tZ159 zr159 tp159 (.A (off := 0) rfl (tl hd 0 56) ((UpdR.fst (UpdR.self (by rfl))).at (by rfl)) (.S (off := 16) (s := rW (HDR (deo (γ 2 0)) 0 (List.length v_30) (γ 2 1))) (u := ()) rfl (HasO.wk (q := S (rW (HDR (deo (γ 2 0)) 0 (List.length v_30) (γ 2 1))) ()) (tl hd 2 58) wkV) rfl ((UpdR.snd (UpdR.fst (UpdR.self (by rfl)))).at (by rfl)) (.S (off := 17) rfl .cB rfl ((UpdR.snd (UpdR.snd (UpdR.fst (UpdR.self (by rfl))))).at (by rfl)) .nil))) rfl) ?_
      refine DSteps.cons (j := 5) rfl (fun _ => rfl) (.runX (fun _ _ => rfl) (fun γ ρ B hb hd => ⟨.none, OpX.ghost (γ := Nat) (st' := fun q => setO ⟨ρ, (cvar q (zq18 (deo (γ 2 0)) v_30 (γ 2 1)) (v_1, ((), (true, ())))) :: B, _⟩ (some 60) (ov (PTR q 0))) (fun q c => q) (OpX.front (op_boxA lb (tl hd 3 59))) (fun q => Imp.refl)⟩) (fun _ _ => rfl) (fun _ _ => rfl)) ?_
      refine dS 6 (fun γ ρ B hb hd => op_assign lb (tl hd 4 60)) <| dS 7 (fun γ ρ B hb hd => op_assign lb .cI) ?_
      exact DSteps.nil)
         (by decide +kernel) (fun _ => rfl) (fun _ => rfl) (fun _ => rfl) rfl
         (ρ' := fun γ => [(4, ov (PTR (γ 4 0) 0)), (5, ov (S (rI .i64) (0 : Int)))])
         (X' := fun γ => [cvar gb_3 (rV 16 (rU UInt64)) v_1, cown (deo (γ 2 0)) r_api_Dot v_30 0 (γ 2 1), cvar (γ 4 0) (zq18 (deo (γ 2 0)) v_30 (γ 2 1)) (v_1, ((), (true, ())))])
         (fun γ ρ hb hd => (.cons (hdq hd 5 4 rfl) (.cons (hdq hd 6 5 rfl) .nil))) (fun _ => rfl) (fun γ => ?_)
     generalize (deo (γ 2 0)) = go_31
     generalize (γ 2 1) = gc_32
     generalize (γ 4 0) = gb_33
     clear γ
     refine JQ.at ⟨[(4, ov (PTR gb_33 0)), (5, ov (S (rI .i64) (0 : Int)))], [cvar gb_3 (rV 16 (rU UInt64)) v_1, cown go_31 r_api_Dot v_30 0 gc_32, cvar gb_33 (zq18 go_31 v_30 gc_32) (v_1, ((), (true, ())))], []⟩ ?_
     refine JQ.then ?_
     refine JC.ret ?_
     injection hq5 with hq5
     injection hq5 with hq5
     subst hq5
     exact JQ.done (js := [2, 1]) (ss := [.val (PTR gb_33 0), .val (S (rI .i64) (0 : Int))]) (gb_33, go_31, gc_32) (.inl rfl) (.nil rfl) rfl (.cons (.tmp rfl) (.cons (.tmp rfl) .nil)) rfl rfl rfl
   refine jr <| jmv rfl rfl <| jc (op_lenL lb tu33 (.tmp rfl)) <| jc (op_move lb .cI) <| jn ?_
   refine JC.block ?_
   obtain ⟨tv6, hL6, hq6⟩ := bnd_inv hx5
   refine JC.pre ?_ (JC.loop (γ := Unit) (stf := fun s q => ⟨[(1, ov (S (rL r_api_Dot) extra_2)), (2, ov (PTR gb_3 0)), (17, ov (S (rL r_api_Dot) extra_2)), (18, ov (S (rI .i64) (List.length extra_2 : Int))), (19, ov (S (rI .i64) s))], [cvar gb_3 (rV 16 (rU UInt64)) v_1], []⟩) (q := ()) hL6 ?_)
   · exact (Imp.norm (js := [0]) rfl (.cons rfl (.cons rfl (.cons rfl (.cons rfl (.cons rfl .nil))))))
   intro x_9 q x hx hr
   obtain _ := q
   change ctx_Of.b2 k extra_2 v_1 x_9 = some x at hx
   unfold ctx_Of.b2 at hx
   refine JC.at ⟨[(1, ov (S (rL r_api_Dot) extra_2)), (2, ov (PTR gb_3 0)), (17, ov (S (rL r_api_Dot) extra_2)), (18, ov (S (rI .i64) (List.length extra_2 : Int))), (19, ov (S (rI .i64) x_9))], [cvar gb_3 (rV 16 (rU UInt64)) v_1], []⟩ ?_
   refine jr ?_
   obtain ⟨v_10, hv_10, hx⟩ := lt1_inv hx
   refine jc (op_cmpI lb (.tmp rfl) (.tmp rfl) (cs hv_10)) <| jn <| JC.seq ?_
   rcases iteB_inv hx with ⟨hc7, hx⟩ | ⟨hc7, hx⟩
   · refine JC.condT (.tmp rfl) hc7 ?_
     refine JC.skip ?_
     refine JQ.then <| JC.seq <| JC.block <| jr <| jmv rfl rfl ?_
     obtain ⟨v_11, hv_11, hx⟩ := bnd_inv hx
     refine jc (op_indexAddrLg lb tu33 tz26 (.tmp rfl) (.tmp rfl) hv_11) <| jc (op_loadPAg lb tA26 (.tmp rfl) rfl) ?_
     refine jx (op_alloc lb tZ26 zr26) (fun gb_12 => ?_)
     refine jc (op_assign lb (.tmp rfl)) <| jc (op_storeA (j := 1) tA26 (.tmp rfl) (.tmp rfl) rfl (UpdR.self (by rfl)) rfl) <| jn ?_
     obtain ⟨x_27, hx8, hq8⟩ := bnd_inv hx
     refine JC.seqJ (γ := Unit) (stj := fun _ => ⟨[(1, ov (S (rL r_api_Dot) extra_2)), (2, ov (PTR gb_3 0)), (17, ov (S (rL r_api_Dot) extra_2)), (18, ov (S (rI .i64) (List.length extra_2 : Int))), (19, ov (S (rI .i64) x_9)), (51, ov (S rB x_27))], [cvar gb_3 (rV 16 (rU UInt64)) v_1], []⟩) (fun _ => ?_) ?_
     · rcases iteB_inv hq8 with ⟨hc25, hq8⟩ | ⟨hc25, hq8⟩
       · refine JC.condT (.tmp rfl) hc25 ?_
         refine jr <| jc (op_assign lb (HasO.const (p := PTO none) fun _ => rfl)) <| jc (op_assign lb .cI) <| jn ?_
         refine JC.ret ?_
         refine JQ.outRB ?_
         refine JQ.outR ?_
         try obtain rfl := so hq8
         have ht := hr _ rfl
         clear hr
         first | subst ht | clear ht
         dsimp only at hq6
         refine JQ.outR ?_
         refine JQ.outRB ?_
         try obtain rfl := so hq6
         dsimp only at hq5
         refine JQ.outR ?_
         cases hq5
       refine JC.condF (.tmp rfl) hc25 ?_
       refine JC.skip ?_
       refine JQ.outNB ?_
       refine JQ.then <| JC.region ?_
       obtain ⟨v_28, hv_28, hq8⟩ := lt1_inv hq8
       refine jc (op_arI lb (.tmp rfl) .cI (cs hv_28)) <| jmv rfl rfl <| JL.nil ?_
       try obtain rfl := so hq8
       exact JQ.next () rfl (Imp.norm (js := [0]) rfl (.cons rfl (.cons rfl (.cons rfl (.cons rfl (.cons rfl .nil))))))
     obtain ⟨v_13, hv_13, hx8⟩ := bnd_inv hx8
     obtain ⟨v_14, hv_14, hx8⟩ := lt1_inv hx8
     obtain ⟨v_15, hv_15, hx8⟩ := lt1_inv hx8
     obtain ⟨v_16, hv_16, hx8⟩ := lt1_inv hx8
     obtain ⟨v_17, hv_17, hx8⟩ := bnd_inv hx8
     obtain ⟨v_18, hv_18, hx8⟩ := bnd_inv hx8
     obtain ⟨v_19, hv_19, hx8⟩ := lt1_inv hx8
     obtain ⟨v_20, hv_20, hx8⟩ := lt1_inv hx8
     obtain ⟨v_21, hv_21, hx8⟩ := lt1_inv hx8
     rcases iteB_inv hx8 with ⟨hc24, hx8⟩ | ⟨hc24, hx8⟩
     · refine JC.anyF (base := [(1, ov (S (rL r_api_Dot) extra_2)), (2, ov (PTR gb_3 0)), (8, ov (S (rI .i64) x_9)), (9, ov (PTR gb_12 0)), (17, ov (S (rL r_api_Dot) extra_2)), (18, ov (S (rI .i64) (List.length extra_2 : Int))), (19, ov (S (rI .i64) x_9))])
           (fs := fun γ => [⟨some 24, ov (A r_api_Dot v_11)⟩, ⟨some 25, ov (S rB v_13)⟩, ⟨some 26, ov (S rB v_14)⟩, ⟨some 27, ov (S rB v_14)⟩, ⟨some 28, bif (!v_14) then ov (S (rI .i64) x_9) else .one .und⟩, ⟨some 29, bif (!v_14) then ov (S rB v_15) else .one .und⟩, ⟨some 30, bif (!v_14) then ov (S rB v_15) else .one .und⟩, ⟨some 31, bif ((!v_14) && v_15) then ov (S (rL r_api_Dot) extra_2) else .one .und⟩, ⟨some 32, bif ((!v_14) && v_15) then ov (S (rI .i64) x_9) else .one .und⟩, ⟨some 33, bif ((!v_14) && v_15) then ov (S (rI .i64) v_16) else .one .und⟩, ⟨some 34, bif ((!v_14) && v_15) then ov (PT r_api_Dot v_17) else .one .und⟩, ⟨some 35, bif ((!v_14) && v_15) then ov (A r_api_Dot v_17) else .one .und⟩, ⟨some 36, bif ((!v_14) && v_15) then ov (A r_api_Dot v_11) else .one .und⟩, ⟨some 37, bif ((!v_14) && v_15) then ov (S rB v_18) else .one .und⟩, ⟨some 38, bif ((!v_14) && v_15) then ov (S rB v_19) else .one .und⟩, ⟨some 39, bif (!v_14) then ov (S rB v_20) else .one .und⟩, ⟨some 40, ov (S rB v_21)⟩, ⟨some 41, ov (S rB v_21)⟩, ⟨some 42, .one .und⟩, ⟨some 43, .one .und⟩, ⟨some 44, .one .und⟩, ⟨some 45, .one .und⟩, ⟨some 46, .one .und⟩, ⟨some 47, .one .und⟩, ⟨some 48, .one .und⟩, ⟨some 49, .one .und⟩, ⟨some 50, .one .und⟩, ⟨some 51, ov (S rB true)⟩])
           (rs := fun γ => [⟨cvar gb_3 (rV 16 (rU UInt64)) v_1, none, none, []⟩, ⟨cvar gb_12 r_api_Dot v_11, none, none, [0, 12]⟩])
           (afts := nn 28) (js := [0, 0]) mixed (.cons rfl (.cons rfl (.cons rfl (.cons rfl (.cons rfl (.cons rfl (.cons rfl .nil))))))) (fun _ => rfl)
           (by
      refine dR 1 (fun γ ρ B hb hd => OpStep.lk ⟨ρ, (cvar gb_12 r_api_Dot v_11) :: B, _⟩ (op_loadA (j := 0) lb tA26 (.tmp (hb 9 _ rfl)) rfl (Comp.self r_api_Dot v_11) rfl)) <| dS 2 (fun γ ρ B hb hd => (op_call (js := []) ld cl34 (sim_ctx_May k v_11 v_13 hv_13) .func (.cons (tl hd 0 24) .nil) rfl).post (fun _ => Imp.refl)) <| dS 3 (fun γ ρ B hb hd => op_not lb (tl hd 1 25) hv_14) <| dm 4 2 26 ?_
      refine dC 5 (!v_14) (fun γ => ov (S (rI .i64) x_9)) (fun γ ρ B hb hd => ⟨(Guard.isF (ltB rfl) rfl (hl hd 3 27 rfl)), fun hq_9 => op_move lb (.tmp (hb 8 _ rfl))⟩) ?_
      refine dC 6 (!v_14) (fun γ => ov (S rB v_15)) (fun γ ρ B hb hd => ⟨(Guard.isF (ltB rfl) rfl (hl hd 3 27 rfl)), fun hq_10 => op_cmpI lb (HasO.cnd (tl hd 4 28) (notT (notF hq_10))) .cI (cs hv_15)⟩) ?_
      refine dC 7 (!v_14) (fun γ => ov (S rB v_15)) (fun γ ρ B hb hd => ⟨(Guard.isF (ltB rfl) rfl (hl hd 3 27 rfl)), fun hq_11 => op_move lb (HasO.cnd (tl hd 5 29) (notT (notF hq_11)))⟩) ?_
      refine dC 8 ((!v_14) && v_15) (fun γ => ov (S (rL r_api_Dot) extra_2)) (fun γ ρ B hb hd => ⟨(Guard.cT (q := (!v_14)) (ltB rfl) rfl (hl hd 6 30 rfl)), fun hq_12 => op_move lb (.tmp (hb 1 _ rfl))⟩) ?_
      refine dC 9 ((!v_14) && v_15) (fun γ => ov (S (rI .i64) x_9)) (fun γ ρ B hb hd => ⟨(Guard.cT (q := (!v_14)) (ltB rfl) rfl (hl hd 6 30 rfl)), fun hq_13 => op_move lb (.tmp (hb 8 _ rfl))⟩) ?_
      refine dC 10 ((!v_14) && v_15) (fun γ => ov (S (rI .i64) v_16)) (fun γ ρ B hb hd => ⟨(Guard.cT (q := (!v_14)) (ltB rfl) rfl (hl hd 6 30 rfl)), fun hq_14 => op_arI lb (HasO.cnd (tl hd 8 32) (andI (notT (notF (andL hq_14))) (andR hq_14))) .cI (cs hv_16)⟩) ?_
      refine dC 11 ((!v_14) && v_15) (fun γ => ov (PT r_api_Dot v_17)) (fun γ ρ B hb hd => ⟨(Guard.cT (q := (!v_14)) (ltB rfl) rfl (hl hd 6 30 rfl)), fun hq_15 => op_indexAddrLg lb tu33 tz26 (HasO.cnd (tl hd 7 31) (andI (notT (notF (andL hq_15))) (andR hq_15))) (HasO.cnd (tl hd 9 33) (andI (notT (notF (andL hq_15))) (andR hq_15))) (ifT hv_17 hq_15)⟩) ?_
      refine dC 12 ((!v_14) && v_15) (fun γ => ov (A r_api_Dot v_17)) (fun γ ρ B hb hd => ⟨(Guard.cT (q := (!v_14)) (ltB rfl) rfl (hl hd 6 30 rfl)), fun hq_16 => op_loadPAg lb tA26 (HasO.cnd (tl hd 10 34) (andI (notT (notF (andL hq_16))) (andR hq_16))) rfl⟩) ?_
      refine DSteps.cons (j := 13) rfl (fun _ => rfl) (.cnd (q := ((!v_14) && v_15)) (sv := fun γ => ov (A r_api_Dot v_11)) (fun _ => rfl) (fun _ => rfl) (fun d h => by cases h; exact ltB rfl) (fun _ => rfl) (fun γ ρ B hb hd => ⟨(Guard.cT (q := (!v_14)) (ltB rfl) rfl (hl hd 6 30 rfl)), fun hq_17 => OpStep.lk ⟨ρ, (cvar gb_12 r_api_Dot v_11) :: B, _⟩ (op_loadA (j := 0) lb tA26 (.tmp (hb 9 _ rfl)) rfl (Comp.self r_api_Dot v_11) rfl)⟩)) ?_
      refine dC 14 ((!v_14) && v_15) (fun γ => ov (S rB v_18)) (fun γ ρ B hb hd => ⟨(Guard.cT (q := (!v_14)) (ltB rfl) rfl (hl hd 6 30 rfl)), fun hq_18 => (op_call (js := []) ld cl35 (sim_ctx_Less k v_17 v_11 v_18 (ifT hv_18 hq_18)) .func (.cons (HasO.cnd (tl hd 11 35) (andI (notT (notF (andL hq_18))) (andR hq_18))) (.cons (HasO.cnd (tl hd 12 36) (andI (notT (notF (andL hq_18))) (andR hq_18))) .nil)) rfl).post (fun _ => Imp.refl)⟩) ?_
      refine dC 15 ((!v_14) && v_15) (fun γ => ov (S rB v_19)) (fun γ ρ B hb hd => ⟨(Guard.cT (q := (!v_14)) (ltB rfl) rfl (hl hd 6 30 rfl)), fun hq_19 => op_not lb (HasO.cnd (tl hd 13 37) (andI (notT (notF (andL hq_19))) (andR hq_19))) hv_19⟩) ?_
      refine dC 16 (!v_14) (fun γ => ov (S rB v_20)) (fun γ ρ B hb hd => ⟨(Guard.isF (ltB rfl) rfl (hl hd 3 27 rfl)), fun hq_20 => op_pickCS lb (HasO.cnd (tl hd 6 30) (notT (notF hq_20))) (fun hb21 => (HasO.cnd (tl hd 14 38) (andI (notT (notF hq_20)) hb21))) (fun hb21 => .cB) hv_20⟩) ?_
      refine dS 17 (fun γ ρ B hb hd => op_pickCS lb (tl hd 3 27) (fun hb22 => .cB) (fun hb22 => (HasO.cnd (tl hd 15 39) (notT hb22))) hv_21) <| dm 18 16 40 <| kn 19 17 41 rfl hc24 <| kn 20 17 41 rfl hc24 <| kn 21 17 41 rfl hc24 ?_
      refine kn 22 17 41 rfl hc24 <| kn 23 17 41 rfl hc24 <| kn 24 17 41 rfl hc24 <| kn 25 17 41 rfl hc24 <| kn 26 17 41 rfl hc24 ?_
      refine kn 27 17 41 rfl hc24 <| dS 28 (fun γ ρ B hb hd => op_pickT lb (tl hd 17 41) hc24 .cB) ?_
      exact DSteps.nil)
           (by decide +kernel) (fun _ => rfl) (fun _ => rfl) (fun _ => rfl) rfl
           (ρ' := fun γ => [(1, ov (S (rL r_api_Dot) extra_2)), (2, ov (PTR gb_3 0)), (17, ov (S (rL r_api_Dot) extra_2)), (18, ov (S (rI .i64) (List.length extra_2 : Int))), (19, ov (S (rI .i64) x_9)), (51, ov (S rB true))])
           (X' := fun γ => [cvar gb_3 (rV 16 (rU UInt64)) v_1, cvar gb_12 r_api_Dot v_11])
           (fun γ ρ hb hd => (.cons (hb 1 _ rfl) (.cons (hb 2 _ rfl) (.cons (hb 17 _ rfl) (.cons (hb 18 _ rfl) (.cons (hb 19 _ rfl) (.cons (hdq hd 27 51 rfl) .nil))))))) (fun _ => rfl) (fun γ => ?_)
       refine JQ.at ⟨[(1, ov (S (rL r_api_Dot) extra_2)), (2, ov (PTR gb_3 0)), (17, ov (S (rL r_api_Dot) extra_2)), (18, ov (S (rI .i64) (List.length extra_2 : Int))), (19, ov (S (rI .i64) x_9)), (51, ov (S rB true))], [cvar gb_3 (rV 16 (rU UInt64)) v_1, cvar gb_12 r_api_Dot v_11], []⟩ ?_
       try obtain rfl := so hx8
       exact JQ.join () (Imp.norm (js := [0]) rfl (.cons rfl (.cons rfl (.cons rfl (.cons rfl (.cons rfl (.cons rfl .nil)))))))
     obtain ⟨v_22, hv_22, hx8⟩ := lt1_inv hx8
     obtain ⟨i_23, hv_i_23, hx8⟩ := bnd_inv hx8
     obtain ⟨v_24, hv_24, hx8⟩ := lt1_inv hx8
     obtain ⟨v_25, hv_25, hx8⟩ := lt1_inv hx8
     obtain ⟨v_26, hv_26, hx8⟩ := lt1_inv hx8
     refine JC.anyF (base := [(1, ov (S (rL r_api_Dot) extra_2)), (2, ov (PTR gb_3 0)), (8, ov (S (rI .i64) x_9)), (9, ov (PTR gb_12 0)), (17, ov (S (rL r_api_Dot) extra_2)), (18, ov (S (rI .i64) (List.length extra_2 : Int))), (19, ov (S (rI .i64) x_9))])
         (fs := fun γ => [⟨some 24, ov (A r_api_Dot v_11)⟩, ⟨some 25, ov (S rB v_13)⟩, ⟨some 26, ov (S rB v_14)⟩, ⟨some 27, ov (S rB v_14)⟩, ⟨some 28, bif (!v_14) then ov (S (rI .i64) x_9) else .one .und⟩, ⟨some 29, bif (!v_14) then ov (S rB v_15) else .one .und⟩, ⟨some 30, bif (!v_14) then ov (S rB v_15) else .one .und⟩, ⟨some 31, bif ((!v_14) && v_15) then ov (S (rL r_api_Dot) extra_2) else .one .und⟩, ⟨some 32, bif ((!v_14) && v_15) then ov (S (rI .i64) x_9) else .one .und⟩, ⟨some 33, bif ((!v_14) && v_15) then ov (S (rI .i64) v_16) else .one .und⟩, ⟨some 34, bif ((!v_14) && v_15) then ov (PT r_api_Dot v_17) else .one .und⟩, ⟨some 35, bif ((!v_14) && v_15) then ov (A r_api_Dot v_17) else .one .und⟩, ⟨some 36, bif ((!v_14) && v_15) then ov (A r_api_Dot v_11) else .one .und⟩, ⟨some 37, bif ((!v_14) && v_15) then ov (S rB v_18) else .one .und⟩, ⟨some 38, bif ((!v_14) && v_15) then ov (S rB v_19) else .one .und⟩, ⟨some 39, bif (!v_14) then ov (S rB v_20) else .one .und⟩, ⟨some 40, ov (S rB v_21)⟩, ⟨some 41, ov (S rB v_21)⟩, ⟨some 42, ov (PTR gb_12 (0 + 1))⟩, ⟨some 43, ov (S (rU UInt64) v_11.Count)⟩, ⟨some 44, ov (PTR gb_12 (0 + 0))⟩, ⟨some 45, ov (S (rI .i64) v_11.Region)⟩, ⟨some 46, ov (S (rI .i64) v_22)⟩, ⟨some 47, ov (PTR gb_3 (0 + i_23.1 * 1))⟩, ⟨some 48, ov (S (rU UInt64) v_24)⟩, ⟨some 49, ov (S (rU UInt64) v_25)⟩, ⟨some 50, ov (S rB v_26)⟩, ⟨some 51, ov (S rB v_26)⟩])
         (rs := fun γ => [⟨cvar gb_3 (rV 16 (rU UInt64)) v_1, none, none, [24]⟩, ⟨cvar gb_12 r_api_Dot v_11, none, none, [0, 12, 19, 21]⟩])
         (afts := nn 28) (js := [0, 0]) mixed (.cons rfl (.cons rfl (.cons rfl (.cons rfl (.cons rfl (.cons rfl (.cons rfl .nil))))))) (fun _ => rfl)
         (by
      refine dR 1 (fun γ ρ B hb hd => OpStep.lk ⟨ρ, (cvar gb_12 r_api_Dot v_11) :: B, _⟩ (op_loadA (j := 0) lb tA26 (.tmp (hb 9 _ rfl)) rfl (Comp.self r_api_Dot v_11) rfl)) <| dS 2 (fun γ ρ B hb hd => (op_call (js := []) ld cl34 (sim_ctx_May k v_11 v_13 hv_13) .func (.cons (tl hd 0 24) .nil) rfl).post (fun _ => Imp.refl)) <| dS 3 (fun γ ρ B hb hd => op_not lb (tl hd 1 25) hv_14) <| dm 4 2 26 ?_
      refine dC 5 (!v_14) (fun γ => ov (S (rI .i64) x_9)) (fun γ ρ B hb hd => ⟨(Guard.isF (ltB rfl) rfl (hl hd 3 27 rfl)), fun hq_9 => op_move lb (.tmp (hb 8 _ rfl))⟩) ?_
      refine dC 6 (!v_14) (fun γ => ov (S rB v_15)) (fun γ ρ B hb hd => ⟨(Guard.isF (ltB rfl) rfl (hl hd 3 27 rfl)), fun hq_10 => op_cmpI lb (HasO.cnd (tl hd 4 28) (notT (notF hq_10))) .cI (cs hv_15)⟩) ?_
      refine dC 7 (!v_14) (fun γ => ov (S rB v_15)) (fun γ ρ B hb hd => ⟨(Guard.isF (ltB rfl) rfl (hl hd 3 27 rfl)), fun hq_11 => op_move lb (HasO.cnd (tl hd 5 29) (notT (notF hq_11)))⟩) ?_
      refine dC 8 ((!v_14) && v_15) (fun γ => ov (S (rL r_api_Dot) extra_2)) (fun γ ρ B hb hd => ⟨(Guard.cT (q := (!v_14)) (ltB rfl) rfl (hl hd 6 30 rfl)), fun hq_12 => op_move lb (.tmp (hb 1 _ rfl))⟩) ?_
      refine dC 9 ((!v_14) && v_15) (fun γ => ov (S (rI .i64) x_9)) (fun γ ρ B hb hd => ⟨(Guard.cT (q := (!v_14)) (ltB rfl) rfl (hl hd 6 30 rfl)), fun hq_13 => op_move lb (.tmp (hb 8 _ rfl))⟩) ?_
      refine dC 10 ((!v_14) && v_15) (fun γ => ov (S (rI .i64) v_16)) (fun γ ρ B hb hd => ⟨(Guard.cT (q := (!v_14)) (ltB rfl) rfl (hl hd 6 30 rfl)), fun hq_14 => op_arI lb (HasO.cnd (tl hd 8 32) (andI (notT (notF (andL hq_14))) (andR hq_14))) .cI (cs hv_16)⟩) ?_
      refine dC 11 ((!v_14) && v_15) (fun γ => ov (PT r_api_Dot v_17)) (fun γ ρ B hb hd => ⟨(Guard.cT (q := (!v_14)) (ltB rfl) rfl (hl hd 6 30 rfl)), fun hq_15 => op_indexAddrLg lb tu33 tz26 (HasO.cnd (tl hd 7 31) (andI (notT (notF (andL hq_15))) (andR hq_15))) (HasO.cnd (tl hd 9 33) (andI (notT (notF (andL hq_15))) (andR hq_15))) (ifT hv_17 hq_15)⟩) ?_
      refine dC 12 ((!v_14) && v_15) (fun γ => ov (A r_api_Dot v_17)) (fun γ ρ B hb hd => ⟨(Guard.cT (q := (!v_14)) (ltB rfl) rfl (hl hd 6 30 rfl)), fun hq_16 => op_loadPAg lb tA26 (HasO.cnd (tl hd 10 34) (andI (notT (notF (andL hq_16))) (andR hq_16))) rfl⟩) ?_
      refine DSteps.cons (j := 13) rfl (fun _ => rfl) (.cnd (q := ((!v_14) && v_15)) (sv := fun γ => ov (A r_api_Dot v_11)) (fun _ => rfl) (fun _ => rfl) (fun d h => by cases h; exact ltB rfl) (fun _ => rfl) (fun γ ρ B hb hd => ⟨(Guard.cT (q := (!v_14)) (ltB rfl) rfl (hl hd 6 30 rfl)), fun hq_17 => OpStep.lk ⟨ρ, (cvar gb_12 r_api_Dot v_11) :: B, _⟩ (op_loadA (j := 0) lb tA26 (.tmp (hb 9 _ rfl)) rfl (Comp.self r_api_Dot v_11) rfl)⟩)) ?_
      refine dC 14 ((!v_14) && v_15) (fun γ => ov (S rB v_18)) (fun γ ρ B hb hd => ⟨(Guard.cT (q := (!v_14)) (ltB rfl) rfl (hl hd 6 30 rfl)), fun hq_18 => (op_call (js := []) ld cl35 (sim_ctx_Less k v_17 v_11 v_18 (ifT hv_18 hq_18)) .func (.cons (HasO.cnd (tl hd 11 35) (andI (notT (notF (andL hq_18))) (andR hq_18))) (.cons (HasO.cnd (tl hd 12 36) (andI (notT (notF (andL hq_18))) (andR hq_18))) .nil)) rfl).post (fun _ => Imp.refl)⟩) ?_
      refine dC 15 ((!v_14) && v_15) (fun γ => ov (S rB v_19)) (fun γ ρ B hb hd => ⟨(Guard.cT (q := (!v_14)) (ltB rfl) rfl (hl hd 6 30 rfl)), fun hq_19 => op_not lb (HasO.cnd (tl hd 13 37) (andI (notT (notF (andL hq_19))) (andR hq_19))) hv_19⟩) ?_
      refine dC 16 (!v_14) (fun γ => ov (S rB v_20)) (fun γ ρ B hb hd => ⟨(Guard.isF (ltB rfl) rfl (hl hd 3 27 rfl)), fun hq_20 => op_pickCS lb (HasO.cnd (tl hd 6 30) (notT (notF hq_20))) (fun hb21 => (HasO.cnd (tl hd 14 38) (andI (notT (notF hq_20)) hb21))) (fun hb21 => .cB) hv_20⟩) ?_
      refine dS 17 (fun γ ρ B hb hd => op_pickCS lb (tl hd 3 27) (fun hb22 => .cB) (fun hb22 => (HasO.cnd (tl hd 15 39) (notT hb22))) hv_21) <| dm 18 16 40 <| dY 19 (fun γ ρ B hb hd => ⟨.yes rfl (ltB rfl) (hl hd 17 41 rfl) hc24, lkB (op_fieldAddr (off := 1) lb tf26_1 (.tmp (hb 9 _ rfl)))⟩) <| dY 20 (fun γ ρ B hb hd => ⟨.yes rfl (ltB rfl) (hl hd 17 41 rfl) hc24, OpStep.lk ⟨ρ, (cvar gb_12 r_api_Dot v_11) :: B, _⟩ (op_loadS (j := 0) lb tS24 (tl hd 18 42) rfl (cT (comp_api_Dot_Count v_11) rfl) rfl rfl)⟩) <| dY 21 (fun γ ρ B hb hd => ⟨.yes rfl (ltB rfl) (hl hd 17 41 rfl) hc24, lkB (op_fieldAddr (off := 0) lb tf26_0 (.tmp (hb 9 _ rfl)))⟩) ?_
      refine dY 22 (fun γ ρ B hb hd => ⟨.yes rfl (ltB rfl) (hl hd 17 41 rfl) hc24, OpStep.lk ⟨ρ, (cvar gb_12 r_api_Dot v_11) :: B, _⟩ (op_loadS (j := 0) lb tS3 (tl hd 20 44) rfl (cT (comp_api_Dot_Region v_11) rfl) rfl rfl)⟩) <| dY 23 (fun γ ρ B hb hd => ⟨.yes rfl (ltB rfl) (hl hd 17 41 rfl) hc24, lkB (op_arI lb (tl hd 21 45) .cI (cs hv_22))⟩) <| dY 24 (fun γ ρ B hb hd => ⟨.yes rfl (ltB rfl) (hl hd 17 41 rfl) hc24, lkB (op_indexAddrIF lb tr29 (.tmp (hb 2 _ rfl)) (tl hd 22 46) hv_i_23)⟩) <| dY 25 (fun γ ρ B hb hd => ⟨.yes rfl (ltB rfl) (hl hd 17 41 rfl) hc24, OpStep.lk ⟨ρ, (cvar gb_3 (rV 16 (rU UInt64)) v_1) :: B, _⟩ (op_loadS (j := 0) lb tS24 (tl hd 23 47) rfl (Comp.at (Comp.self (rV 16 (rU UInt64)) v_1) i_23.2 rfl) rfl hv_24)⟩) <| dY 26 (fun γ ρ B hb hd => ⟨.yes rfl (ltB rfl) (hl hd 17 41 rfl) hc24, lkB (op_arU lb (tl hd 24 48) (HasO.cU (x := (1 : UInt64)) rfl (by decide)) (cs hv_25))⟩) ?_
      refine dY 27 (fun γ ρ B hb hd => ⟨.yes rfl (ltB rfl) (hl hd 17 41 rfl) hc24, lkB (op_cmpU lb (tl hd 19 43) (tl hd 25 49) (cs hv_26))⟩) <| dS 28 (fun γ ρ B hb hd => op_pickF lb (tl hd 17 41) hc24 (tl hd 26 50)) ?_
      exact DSteps.nil)
         (by decide +kernel) (fun _ => rfl) (fun _ => rfl) (fun _ => rfl) rfl
         (ρ' := fun γ => [(1, ov (S (rL r_api_Dot) extra_2)), (2, ov (PTR gb_3 0)), (17, ov (S (rL r_api_Dot) extra_2)), (18, ov (S (rI .i64) (List.length extra_2 : Int))), (19, ov (S (rI .i64) x_9)), (51, ov (S rB v_26))])
         (X' := fun γ => [cvar gb_3 (rV 16 (rU UInt64)) v_1, cvar gb_12 r_api_Dot v_11])
         (fun γ ρ hb hd => (.cons (hb 1 _ rfl) (.cons (hb 2 _ rfl) (.cons (hb 17 _ rfl) (.cons (hb 18 _ rfl) (.cons (hb 19 _ rfl) (.cons (hdq hd 27 51 rfl) .nil))))))) (fun _ => rfl) (fun γ => ?_)
     refine JQ.at ⟨[(1, ov (S (rL r_api_Dot) extra_2)), (2, ov (PTR gb_3 0)), (17, ov (S (rL r_api_Dot) extra_2)), (18, ov (S (rI .i64) (List.length extra_2 : Int))), (19, ov (S (rI .i64) x_9)), (51, ov (S rB v_26))], [cvar gb_3 (rV 16 (rU UInt64)) v_1, cvar gb_12 r_api_Dot v_11], []⟩ ?_
     try obtain rfl := so hx8
     exact JQ.join () (Imp.norm (js := [0]) rfl (.cons rfl (.cons rfl (.cons rfl (.cons rfl (.cons rfl (.cons rfl .nil)))))))
   refine JC.condF (.tmp rfl) hc7 ?_
   refine JC.exit ?_
   refine JQ.outX ?_
   try obtain rfl := so hx
   have ht := hr _ rfl
   clear hr
   first | subst ht | clear ht
   dsimp only at hq6
   refine JQ.outX ?_
   refine JQ.here ?_
   try obtain rfl := so hq6
   exact JQ.joinK () () rfl (Imp.norm (js := [0]) rfl (.cons rfl (.cons rfl .nil)))
 refine jr <| jc (op_loadA (j := 0) lb tA29 (.tmp rfl) rfl (Comp.self (rV 16 (rU UInt64)) v_1) rfl) <| jc (op_move lb .cI) <| jn <| JC.block ?_
 obtain ⟨tv2, hL2, hq2⟩ := bnd_inv hx1
 refine JC.pre ?_ (JC.loop (γ := Unit) (stf := fun s q => ⟨[(1, ov (S (rL r_api_Dot) extra_2)), (2, ov (PTR gb_3 0)), (10, ov (A (rV 16 (rU UInt64)) v_1)), (11, ov (S (rI .i64) s))], [cvar gb_3 (rV 16 (rU UInt64)) v_1], []⟩) (q := ()) hL2 ?_)
 · exact (Imp.norm (js := [0]) rfl (.cons rfl (.cons rfl (.cons rfl (.cons rfl .nil)))))
 intro x_4 q x hx hr
 obtain _ := q
 change ctx_Of.b1 k v_1 x_4 = some x at hx
 unfold ctx_Of.b1 at hx
 refine JC.at ⟨[(1, ov (S (rL r_api_Dot) extra_2)), (2, ov (PTR gb_3 0)), (10, ov (A (rV 16 (rU UInt64)) v_1)), (11, ov (S (rI .i64) x_4))], [cvar gb_3 (rV 16 (rU UInt64)) v_1], []⟩ ?_
 refine jr ?_
 obtain ⟨v_5, hv_5, hx⟩ := lt1_inv hx
 refine jc (op_cmpI lb (.tmp rfl) .cI (cs hv_5)) <| jn <| JC.seq ?_
 rcases iteB_inv hx with ⟨hc3, hx⟩ | ⟨hc3, hx⟩
 · refine JC.condT (.tmp rfl) hc3 ?_
   refine JC.skip ?_
   refine JQ.then <| JC.seq <| JC.block <| jr ?_
   obtain ⟨v_6, hv_6, hx⟩ := bnd_inv hx
   refine jc (op_indexSg lb tu29 tS24 rfl (.tmp rfl) (.tmp rfl) hv_6) <| jc (op_assign lb (.tmp rfl)) <| jn <| jr <| jmv rfl rfl ?_
   obtain ⟨v_7, hv_7, hx⟩ := lt1_inv hx
   refine jc (op_cmpU lb (.tmp rfl) (HasO.cU (x := (4611686018427387904 : UInt64)) rfl (by decide)) (cs hv_7)) <| jn ?_
   rcases iteB_inv hx with ⟨hc4, hx⟩ | ⟨hc4, hx⟩
   · refine JC.condT (.tmp rfl) hc4 ?_
     refine jr <| jc (op_assign lb (HasO.const (p := PTO none) fun _ => rfl)) <| jc (op_assign lb .cI) <| jn ?_
     refine JC.ret ?_
     refine JQ.outRB ?_
     refine JQ.outR ?_
     try obtain rfl := so hx
     have ht := hr _ rfl
     clear hr
     first | subst ht | clear ht
     dsimp only at hq2
     refine JQ.outR ?_
     refine JQ.outRB ?_
     try obtain rfl := so hq2
     dsimp only at hq1
     refine JQ.outR ?_
     cases hq1
   refine JC.condF (.tmp rfl) hc4 ?_
   refine JC.skip ?_
   refine JQ.outNB ?_
   refine JQ.then <| JC.region ?_
   obtain ⟨v_8, hv_8, hx⟩ := lt1_inv hx
   refine jc (op_arI lb (.tmp rfl) .cI (cs hv_8)) <| jmv rfl rfl <| JL.nil ?_
   try obtain rfl := so hx
   exact JQ.next () rfl (Imp.norm (js := [0]) rfl (.cons rfl (.cons rfl (.cons rfl (.cons rfl .nil)))))
 refine JC.condF (.tmp rfl) hc3 ?_
 refine JC.exit ?_
 refine JQ.outX ?_
 try obtain rfl := so hx
 have ht := hr _ rfl
 clear hr
 first | subst ht | clear ht
 dsimp only at hq2
 refine JQ.outX ?_
 refine JQ.here ?_
 try obtain rfl := so hq2
 exact JQ.joinK () () rfl (Imp.norm (js := [0]) rfl (.cons rfl (.cons rfl .nil)))

theorem sim_ctx_Of_v1 (k : Nat) (v_1 : (Vector UInt64 16)) (extra_2 : (List api_Dot)) (r : Int) (hm : ctx_Of k v_1 extra_2 = some (.inr r)) : Sim Tryz.prog 87 [A (rV 16 (rU UInt64)) v_1, S (rL r_api_Dot) extra_2] [] (γ := Unit) (fun q => []) (fun q => .tup [.val (PTO none), .val (S (rI .i64) r)]) := by
 unfold ctx_Of at hm
 refine Sim.of Tryz.func87 rfl rfl (lE rfl) (fun e0 w0 => ?_)
 refine JC.at ⟨[(0, ov (A (rV 16 (rU UInt64)) v_1)), (1, ov (S (rL r_api_Dot) extra_2))], [], []⟩ ?_
 refine jr ?_
 refine jx (op_boxA lb (.tmp rfl)) (fun gb_3 => ?_)
 refine jc (op_assign lb (HasO.const (p := PTO none) fun _ => rfl)) <| jc (op_assign lb .cI) <| jn ?_
 obtain ⟨tv1, hx1, hq1⟩ := bnd_inv hm
 refine JC.seqK (α := Unit) (γ := Unit) (stj := fun v q => ⟨[(1, ov (S (rL r_api_Dot) extra_2)), (2, ov (PTR gb_3 0))], [cvar gb_3 (rV 16 (rU UInt64)) v_1], []⟩) (p := fun v => tv1 = (.inl v)) (fun v q hv => ?_) ?_
 · subst hv
   skip
   obtain _ := q
   dsimp only at hq1
   refine JC.at ⟨[(1, ov (S (rL r_api_Dot) extra_2)), (2, ov (PTR gb_3 0))], [cvar gb_3 (rV 16 (rU UInt64)) v_1], []⟩ ?_
   obtain ⟨tv5, hx5, hq5⟩ := bnd_inv hq1
   refine JC.seqK (α := Unit) (γ := Unit) (stj := fun v q => ⟨[(1, ov (S (rL r_api_Dot) extra_2)), (2, ov (PTR gb_3 0))], [cvar gb_3 (rV 16 (rU UInt64)) v_1], []⟩) (p := fun v => tv5 = (.inl v)) (fun v q hv => ?_) ?_
   · subst hv
     skip
     obtain _ := q
     dsimp only at hq5
     refine JC.at ⟨[(1, ov (S (rL r_api_Dot) extra_2)), (2, ov (PTR gb_3 0))], [cvar gb_3 (rV 16 (rU UInt64)) v_1], []⟩ ?_
     refine JC.seq <| jr <| jmv rfl rfl <| jc (op_lenL lb tu33 (.tmp rfl)) ?_
     obtain ⟨v_29, hv_29, hq5⟩ := lt1_inv hq5
     refine jc (op_cmpI lb (.tmp rfl) .cI (cs hv_29)) <| jn ?_
     rcases iteB_inv hq5 with ⟨hc26, hq5⟩ | ⟨hc26, hq5⟩
     · refine JC.condT (.tmp rfl) hc26 ?_
       refine jr <| jc (op_assign lb (HasO.const (p := PTO none) fun _ => rfl)) <| jc (op_assign lb .cI) <| jn ?_
       refine JC.ret ?_
       refine JQ.outR ?_
       injection hq5 with hq5
       injection hq5 with hq5
       subst hq5
       exact JQ.done (js := []) (ss := [.val (PTO none), .val (S (rI .i64) (5 : Int))]) () (.inl rfl) (.nil rfl) rfl (.cons (.tmp rfl) (.cons (.tmp rfl) .nil)) rfl rfl rfl
     refine JC.condF (.tmp rfl) hc26 ?_
     refine JC.skip ?_
     refine JQ.then <| JC.seq ?_
     obtain ⟨v_30, hv_30, hq5⟩ := bnd_inv hq5
     refine JC.anyF (base := [(1, ov (S (rL r_api_Dot) extra_2)), (2, ov (PTR gb_3 0))])
         (fs := fun γ => [⟨some 56, ov (A (rV 16 (rU UInt64)) v_1)⟩, ⟨some 57, ov (S (rL r_api_Dot) extra_2)⟩, ⟨some 58, ov (HDR (deo (γ 2 0)) 0 (List.length v_30) (γ 2 1))⟩, ⟨some 59, ov (A (zq18 (deo (γ 2 0)) v_30 (γ 2 1)) (v_1, ((), (true, ()))))⟩, ⟨some 60, ov (PTR (γ 4 0) 0)⟩, ⟨some 4, ov (PTR (γ 4 0) 0)⟩, ⟨some 5, ov (S (rI .i64) (0 : Int))⟩])
         (rs := fun γ => [⟨cvar gb_3 (rV 16 (rU UInt64)) v_1, none, none, [0]⟩, ⟨cown (deo (γ 2 0)) r_api_Dot v_30 0 (γ 2 1), (some 2), none, []⟩, ⟨cvar (γ 4 0) (zq18 (deo (γ 2 0)) v_30 (γ 2 1)) (v_1, ((), (true, ()))), (some 4), none, []⟩])
         (afts := [[], [], [2, 3, 4, 5, 6], [], [4, 5, 6], [], []]) (js := [0]) mixed (.cons rfl (.cons rfl .nil)) (fun _ => rfl)
         (by
      refine dR 1 (fun γ ρ B hb hd => OpStep.lk ⟨ρ, (cvar gb_3 (rV 16 (rU UInt64)) v_1) :: B, _⟩ (op_loadA (j := 0) lb tA29 (.tmp (hb 2 _ rfl)) rfl (Comp.self (rV 16 (rU UInt64)) v_1) rfl)) <| db 2 1 ?_
      refine DSteps.cons (j := 3) rfl (fun _ => rfl) (.runX (fun _ _ => rfl) (fun γ ρ B hb hd => ⟨.none, OpX.ghost (γ := Option Nat × Nat) (st' := fun q => setO ⟨ρ, (cown q.1 r_api_Dot v_30 0 q.2) :: B, _⟩ (some 58) (ov (HDR q.1 0 (List.length v_30) q.2))) (fun q c => bif Nat.beq c 0 then eno q.1 else q.2) (op_call (js := []) ld cl120 (sim_slices_Cloneapi_Dot_api_Dot k extra_2 v_30 hv_30) .func (.cons (tl hd 1 57) .nil) rfl) (fun q => by obtain ⟨q0, q1⟩ := q; cases q0 <;> exact Imp.refl)⟩) (fun _ _ => rfl) (fun _ _ => rfl)) ?_
      refine dS 4 (fun γ ρ B hb hd => op_build lb tZ159 zr159 tp159 (.A (off := 0) rfl (tl hd 0 56) ((UpdR.fst (UpdR.self (by rfl))).at (by rfl)) (.S (off := 16) (s := rW (HDR (deo (γ 2 0)) 0 (List.length v_30) (γ 2 1))) (u := ()) rfl (HasO.wk (q := S (rW (HDR (deo (γ 2 0)) 0 (List.length v_30) (γ 2 1))) ()) (tl hd 2 58) wkV) rfl ((UpdR.snd (UpdR.fst (UpdR.self (by rfl)))).at (by rfl)) (.S (off := 17) rfl .cB rfl ((UpdR.snd (UpdR.snd (UpdR.fst (UpdR.self (by rfl))))).at (by rfl)) .nil))) rfl) ?_
      refine DSteps.cons (j := 5) rfl (fun _ => rfl) (.runX (fun _ _ => rfl) (fun γ ρ B hb hd => ⟨.none, OpX.ghost (γ := Nat) (st' := fun q => setO ⟨ρ, (cvar q (zq18 (deo (γ 2 0)) v_30 (γ 2 1)) (v_1, ((), (true, ())))) :: B, _⟩ (some 60) (ov (PTR q 0))) (fun q c => q) (OpX.front (op_boxA lb (tl hd 3 59))) (fun q => Imp.refl)⟩) (fun _ _ => rfl) (fun _ _ => rfl)) ?_
      refine dS 6 (fun γ ρ B hb hd => op_assign lb (tl hd 4 60)) <| dS 7 (fun γ ρ B hb hd => op_assign lb .cI) ?_
      exact DSteps.nil)
         (by decide +kernel) (fun _ => rfl) (fun _ => rfl) (fun _ => rfl) rfl
         (ρ' := fun γ => [(4, ov (PTR (γ 4 0) 0)), (5, ov (S (rI .i64) (0 : Int)))])
         (X' := fun γ => [cvar gb_3 (rV 16 (rU UInt64)) v_1, cown (deo (γ 2 0)) r_api_Dot v_30 0 (γ 2 1), cvar (γ 4 0) (zq18 (deo (γ 2 0)) v_30 (γ 2 1)) (v_1, ((), (true, ())))])
         (fun γ ρ hb hd => (.cons (hdq hd 5 4 rfl) (.cons (hdq hd 6 5 rfl) .nil))) (fun _ => rfl) (fun γ => ?_)
     generalize (deo (γ 2 0)) = go_31
     generalize (γ 2 1) = gc_32
     generalize (γ 4 0) = gb_33
     clear γ
     refine JQ.at ⟨[(4, ov (PTR gb_33 0)), (5, ov (S (rI .i64) (0 : Int)))], [cvar gb_3 (rV 16 (rU UInt64)) v_1, cown go_31 r_api_Dot v_30 0 gc_32, cvar gb_33 (zq18 go_31 v_30 gc_32) (v_1, ((), (true, ())))], []⟩ ?_
     refine JQ.then ?_
     refine JC.ret ?_
     cases hq5
   refine jr <| jmv rfl rfl <| jc (op_lenL lb tu33 (.tmp rfl)) <| jc (op_move lb .cI) <| jn ?_
   refine JC.block ?_
   obtain ⟨tv6, hL6, hq6⟩ := bnd_inv hx5
   refine JC.pre ?_ (JC.loop (γ := Unit) (stf := fun s q => ⟨[(1, ov (S (rL r_api_Dot) extra_2)), (2, ov (PTR gb_3 0)), (17, ov (S (rL r_api_Dot) extra_2)), (18, ov (S (rI .i64) (List.length extra_2 : Int))), (19, ov (S (rI .i64) s))], [cvar gb_3 (rV 16 (rU UInt64)) v_1], []⟩) (q := ()) hL6 ?_)
   · exact (Imp.norm (js := [0]) rfl (.cons rfl (.cons rfl (.cons rfl (.cons rfl (.cons rfl .nil))))))
   intro x_9 q x hx hr
   obtain _ := q
   change ctx_Of.b2 k extra_2 v_1 x_9 = some x at hx
   unfold ctx_Of.b2 at hx
   refine JC.at ⟨[(1, ov (S (rL r_api_Dot) extra_2)), (2, ov (PTR gb_3 0)), (17, ov (S (rL r_api_Dot) extra_2)), (18, ov (S (rI .i64) (List.length extra_2 : Int))), (19, ov (S (rI .i64) x_9))], [cvar gb_3 (rV 16 (rU UInt64)) v_1], []⟩ ?_
   refine jr ?_
   obtain ⟨v_10, hv_10, hx⟩ := lt1_inv hx
   refine jc (op_cmpI lb (.tmp rfl) (.tmp rfl) (cs hv_10)) <| jn <| JC.seq ?_
   rcases iteB_inv hx with ⟨hc7, hx⟩ | ⟨hc7, hx⟩
   · refine JC.condT (.tmp rfl) hc7 ?_
     refine JC.skip ?_
     refine JQ.then <| JC.seq <| JC.block <| jr <| jmv rfl rfl ?_
     obtain ⟨v_11, hv_11, hx⟩ := bnd_inv hx
     refine jc (op_indexAddrLg lb tu33 tz26 (.tmp rfl) (.tmp rfl) hv_11) <| jc (op_loadPAg lb tA26 (.tmp rfl) rfl) ?_
     refine jx (op_alloc lb tZ26 zr26) (fun gb_12 => ?_)
     refine jc (op_assign lb (.tmp rfl)) <| jc (op_storeA (j := 1) tA26 (.tmp rfl) (.tmp rfl) rfl (UpdR.self (by rfl)) rfl) <| jn ?_
     obtain ⟨x_27, hx8, hq8⟩ := bnd_inv hx
     refine JC.seqJ (γ := Unit) (stj := fun _ => ⟨[(1, ov (S (rL r_api_Dot) extra_2)), (2, ov (PTR gb_3 0)), (17, ov (S (rL r_api_Dot) extra_2)), (18, ov (S (rI .i64) (List.length extra_2 : Int))), (19, ov (S (rI .i64) x_9)), (51, ov (S rB x_27))], [cvar gb_3 (rV 16 (rU UInt64)) v_1], []⟩) (fun _ => ?_) ?_
     · rcases iteB_inv hq8 with ⟨hc25, hq8⟩ | ⟨hc25, hq8⟩
       · refine JC.condT (.tmp rfl) hc25 ?_
         refine jr <| jc (op_assign lb (HasO.const (p := PTO none) fun _ => rfl)) <| jc (op_assign lb .cI) <| jn ?_
         refine JC.ret ?_
         refine JQ.outRB ?_
         refine JQ.outR ?_
         try obtain rfl := so hq8
         have ht := hr _ rfl
         clear hr
         first | subst ht | clear ht
         dsimp only at hq6
         refine JQ.outR ?_
         refine JQ.outRB ?_
         try obtain rfl := so hq6
         dsimp only at hq5
         refine JQ.outR ?_
         injection hq5 with hq5
         injection hq5 with hq5
         subst hq5
         exact JQ.done (js := []) (ss := [.val (PTO none), .val (S (rI .i64) (2 : Int))]) () (.inl rfl) (.nil rfl) rfl (.cons (.tmp rfl) (.cons (.tmp rfl) .nil)) rfl rfl rfl
       refine JC.condF (.tmp rfl) hc25 ?_
       refine JC.skip ?_
       refine JQ.outNB ?_
       refine JQ.then <| JC.region ?_
       obtain ⟨v_28, hv_28, hq8⟩ := lt1_inv hq8
       refine jc (op_arI lb (.tmp rfl) .cI (cs hv_28)) <| jmv rfl rfl <| JL.nil ?_
       try obtain rfl := so hq8
       exact JQ.next () rfl (Imp.norm (js := [0]) rfl (.cons rfl (.cons rfl (.cons rfl (.cons rfl (.cons rfl .nil))))))
     obtain ⟨v_13, hv_13, hx8⟩ := bnd_inv hx8
     obtain ⟨v_14, hv_14, hx8⟩ := lt1_inv hx8
     obtain ⟨v_15, hv_15, hx8⟩ := lt1_inv hx8
     obtain ⟨v_16, hv_16, hx8⟩ := lt1_inv hx8
     obtain ⟨v_17, hv_17, hx8⟩ := bnd_inv hx8
     obtain ⟨v_18, hv_18, hx8⟩ := bnd_inv hx8
     obtain ⟨v_19, hv_19, hx8⟩ := lt1_inv hx8
     obtain ⟨v_20, hv_20, hx8⟩ := lt1_inv hx8
     obtain ⟨v_21, hv_21, hx8⟩ := lt1_inv hx8
     rcases iteB_inv hx8 with ⟨hc24, hx8⟩ | ⟨hc24, hx8⟩
     · refine JC.anyF (base := [(1, ov (S (rL r_api_Dot) extra_2)), (2, ov (PTR gb_3 0)), (8, ov (S (rI .i64) x_9)), (9, ov (PTR gb_12 0)), (17, ov (S (rL r_api_Dot) extra_2)), (18, ov (S (rI .i64) (List.length extra_2 : Int))), (19, ov (S (rI .i64) x_9))])
           (fs := fun γ => [⟨some 24, ov (A r_api_Dot v_11)⟩, ⟨some 25, ov (S rB v_13)⟩, ⟨some 26, ov (S rB v_14)⟩, ⟨some 27, ov (S rB v_14)⟩, ⟨some 28, bif (!v_14) then ov (S (rI .i64) x_9) else .one .und⟩, ⟨some 29, bif (!v_14) then ov (S rB v_15) else .one .und⟩, ⟨some 30, bif (!v_14) then ov (S rB v_15) else .one .und⟩, ⟨some 31, bif ((!v_14) && v_15) then ov (S (rL r_api_Dot) extra_2) else .one .und⟩, ⟨some 32, bif ((!v_14) && v_15) then ov (S (rI .i64) x_9) else .one .und⟩, ⟨some 33, bif ((!v_14) && v_15) then ov (S (rI .i64) v_16) else .one .und⟩, ⟨some 34, bif ((!v_14) && v_15) then ov (PT r_api_Dot v_17) else .one .und⟩, ⟨some 35, bif ((!v_14) && v_15) then ov (A r_api_Dot v_17) else .one .und⟩, ⟨some 36, bif ((!v_14) && v_15) then ov (A r_api_Dot v_11) else .one .und⟩, ⟨some 37, bif ((!v_14) && v_15) then ov (S rB v_18) else .one .und⟩, ⟨some 38, bif ((!v_14) && v_15) then ov (S rB v_19) else .one .und⟩, ⟨some 39, bif (!v_14) then ov (S rB v_20) else .one .und⟩, ⟨some 40, ov (S rB v_21)⟩, ⟨some 41, ov (S rB v_21)⟩, ⟨some 42, .one .und⟩, ⟨some 43, .one .und⟩, ⟨some 44, .one .und⟩, ⟨some 45, .one .und⟩, ⟨some 46, .one .und⟩, ⟨some 47, .one .und⟩, ⟨some 48, .one .und⟩, ⟨some 49, .one .und⟩, ⟨some 50, .one .und⟩, ⟨some 51, ov (S rB true)⟩])
           (rs := fun γ => [⟨cvar gb_3 (rV 16 (rU UInt64)) v_1, none, none, []⟩, ⟨cvar gb_12 r_api_Dot v_11, none, none, [0, 12]⟩])
           (afts := nn 28) (js := [0, 0]) mixed (.cons rfl (.cons rfl (.cons rfl (.cons rfl (.cons rfl (.cons rfl (.cons rfl .nil))))))) (fun _ => rfl)
           (by
      refine dR 1 (fun γ ρ B hb hd => OpStep.lk ⟨ρ, (cvar gb_12 r_api_Dot v_11) :: B, _⟩ (op_loadA (j := 0) lb tA26 (.tmp (hb 9 _ rfl)) rfl (Comp.self r_api_Dot v_11) rfl)) <| dS 2 (fun γ ρ B hb hd => (op_call (js := []) ld cl34 (sim_ctx_May k v_11 v_13 hv_13) .func (.cons (tl hd 0 24) .nil) rfl).post (fun _ => Imp.refl)) <| dS 3 (fun γ ρ B hb hd => op_not lb (tl hd 1 25) hv_14) <| dm 4 2 26 ?_
      refine dC 5 (!v_14) (fun γ => ov (S (rI .i64) x_9)) (fun γ ρ B hb hd => ⟨(Guard.isF (ltB rfl) rfl (hl hd 3 27 rfl)), fun hq_9 => op_move lb (.tmp (hb 8 _ rfl))⟩) ?_
      refine dC 6 (!v_14) (fun γ => ov (S rB v_15)) (fun γ ρ B hb hd => ⟨(Guard.isF (ltB rfl) rfl (hl hd 3 27 rfl)), fun hq_10 => op_cmpI lb (HasO.cnd (tl hd 4 28) (notT (notF hq_10))) .cI (cs hv_15)⟩) ?_
      refine dC 7 (!v_14) (fun γ => ov (S rB v_15)) (fun γ ρ B hb hd => ⟨(Guard.isF (ltB rfl) rfl (hl hd 3 27 rfl)), fun hq_11 => op_move lb (HasO.cnd (tl hd 5 29) (notT (notF hq_11)))⟩) ?_
      refine dC 8 ((!v_14) && v_15) (fun γ => ov (S (rL r_api_Dot) extra_2)) (fun γ ρ B hb hd => ⟨(Guard.cT (q := (!v_14)) (ltB rfl) rfl (hl hd 6 30 rfl)), fun hq_12 => op_move lb (.tmp (hb 1 _ rfl))⟩) ?_
      refine dC 9 ((!v_14) && v_15) (fun γ => ov (S (rI .i64) x_9)) (fun γ ρ B hb hd => ⟨(Guard.cT (q := (!v_14)) (ltB rfl) rfl (hl hd 6 30 rfl)), fun hq_13 => op_move lb (.tmp (hb 8 _ rfl))⟩) ?_
      refine dC 10 ((!v_14) && v_15) (fun γ => ov (S (rI .i64) v_16)) (fun γ ρ B hb hd => ⟨(Guard.cT (q := (!v_14)) (ltB rfl) rfl (hl hd 6 30 rfl)), fun hq_14 => op_arI lb (HasO.cnd (tl hd 8 32) (andI (notT (notF (andL hq_14))) (andR hq_14))) .cI (cs hv_16)⟩) ?_
      refine dC 11 ((!v_14) && v_15) (fun γ => ov (PT r_api_Dot v_17)) (fun γ ρ B hb hd => ⟨(Guard.cT (q := (!v_14)) (ltB rfl) rfl (hl hd 6 30 rfl)), fun hq_15 => op_indexAddrLg lb tu33 tz26 (HasO.cnd (tl hd 7 31) (andI (notT (notF (andL hq_15))) (andR hq_15))) (HasO.cnd (tl hd 9 33) (andI (notT (notF (andL hq_15))) (andR hq_15))) (ifT hv_17 hq_15)⟩) ?_
      refine dC 12 ((!v_14) && v_15) (fun γ => ov (A r_api_Dot v_17)) (fun γ ρ B hb hd => ⟨(Guard.cT (q := (!v_14)) (ltB rfl) rfl (hl hd 6 30 rfl)), fun hq_16 => op_loadPAg lb tA26 (HasO.cnd (tl hd 10 34) (andI (notT (notF (andL hq_16))) (andR hq_16))) rfl⟩) ?_
      refine DSteps.cons (j := 13) rfl (fun _ => rfl) (.cnd (q := ((!v_14) && v_15)) (sv := fun γ => ov (A r_api_Dot v_11)) (fun _ => rfl) (fun _ => rfl) (fun d h => by cases h; exact ltB rfl) (fun _ => rfl) (fun γ ρ B hb hd => ⟨(Guard.cT (q := (!v_14)) (ltB rfl) rfl (hl hd 6 30 rfl)), fun hq_17 => OpStep.lk ⟨ρ, (cvar gb_12 r_api_Dot v_11) :: B, _⟩ (op_loadA (j := 0) lb tA26 (.tmp (hb 9 _ rfl)) rfl (Comp.self r_api_Dot v_11) rfl)⟩)) ?_
      refine dC 14 ((!v_14) && v_15) (fun γ => ov (S rB v_18)) (fun γ ρ B hb hd => ⟨(Guard.cT (q := (!v_14)) (ltB rfl) rfl (hl hd 6 30 rfl)), fun hq_18 => (op_call (js := []) ld cl35 (sim_ctx_Less k v_17 v_11 v_18 (ifT hv_18 hq_18)) .func (.cons (HasO.cnd (tl hd 11 35) (andI (notT (notF (andL hq_18))) (andR hq_18))) (.cons (HasO.cnd (tl hd 12 36) (andI (notT (notF (andL hq_18))) (andR hq_18))) .nil)) rfl).post (fun _ => Imp.refl)⟩) ?_
      refine dC 15 ((!v_14) && v_15) (fun γ => ov (S rB v_19)) (fun γ ρ B hb hd => ⟨(Guard.cT (q := (!v_14)) (ltB rfl) rfl (hl hd 6 30 rfl)), fun hq_19 => op_not lb (HasO.cnd (tl hd 13 37) (andI (notT (notF (andL hq_19))) (andR hq_19))) hv_19⟩) ?_
      refine dC 16 (!v_14) (fun γ => ov (S rB v_20)) (fun γ ρ B hb hd => ⟨(Guard.isF (ltB rfl) rfl (hl hd 3 27 rfl)), fun hq_20 => op_pickCS lb (HasO.cnd (tl hd 6 30) (notT (notF hq_20))) (fun hb21 => (HasO.cnd (tl hd 14 38) (andI (notT (notF hq_20)) hb21))) (fun hb21 => .cB) hv_20⟩) ?_
      refine dS 17 (fun γ ρ B hb hd => op_pickCS lb (tl hd 3 27) (fun hb22 => .cB) (fun hb22 => (HasO.cnd (tl hd 15 39) (notT hb22))) hv_21) <| dm 18 16 40 <| kn 19 17 41 rfl hc24 <| kn 20 17 41 rfl hc24 <| kn 21 17 41 rfl hc24 ?_
      refine kn 22 17 41 rfl hc24 <| kn 23 17 41 rfl hc24 <| kn 24 17 41 rfl hc24 <| kn 25 17 41 rfl hc24 <| kn 26 17 41 rfl hc24 ?_
      refine kn 27 17 41 rfl hc24 <| dS 28 (fun γ ρ B hb hd => op_pickT lb (tl hd 17 41) hc24 .cB) ?_
      exact DSteps.nil)
           (by decide +kernel) (fun _ => rfl) (fun _ => rfl) (fun _ => rfl) rfl
           (ρ' := fun γ => [(1, ov (S (rL r_api_Dot) extra_2)), (2, ov (PTR gb_3 0)), (17, ov (S (rL r_api_Dot) extra_2)), (18, ov (S (rI .i64) (List.length extra_2 : Int))), (19, ov (S (rI .i64) x_9)), (51, ov (S rB true))])
           (X' := fun γ => [cvar gb_3 (rV 16 (rU UInt64)) v_1, cvar gb_12 r_api_Dot v_11])
           (fun γ ρ hb hd => (.cons (hb 1 _ rfl) (.cons (hb 2 _ rfl) (.cons (hb 17 _ rfl) (.cons (hb 18 _ rfl) (.cons (hb 19 _ rfl) (.cons (hdq hd 27 51 rfl) .nil))))))) (fun _ => rfl) (fun γ => ?_)
       refine JQ.at ⟨[(1, ov (S (rL r_api_Dot) extra_2)), (2, ov (PTR gb_3 0)), (17, ov (S (rL r_api_Dot) extra_2)), (18, ov (S (rI .i64) (List.length extra_2 : Int))), (19, ov (S (rI .i64) x_9)), (51, ov (S rB true))], [cvar gb_3 (rV 16 (rU UInt64)) v_1, cvar gb_12 r_api_Dot v_11], []⟩ ?_
       try obtain rfl := so hx8
       exact JQ.join () (Imp.norm (js := [0]) rfl (.cons rfl (.cons rfl (.cons rfl (.cons rfl (.cons rfl (.cons rfl .nil)))))))
     obtain ⟨v_22, hv_22, hx8⟩ := lt1_inv hx8
     obtain ⟨i_23, hv_i_23, hx8⟩ := bnd_inv hx8
     obtain ⟨v_24, hv_24, hx8⟩ := lt1_inv hx8
     obtain ⟨v_25, hv_25, hx8⟩ := lt1_inv hx8
     obtain ⟨v_26, hv_26, hx8⟩ := lt1_inv hx8
     refine JC.anyF (base := [(1, ov (S (rL r_api_Dot) extra_2)), (2, ov (PTR gb_3 0)), (8, ov (S (rI .i64) x_9)), (9, ov (PTR gb_12 0)), (17, ov (S (rL r_api_Dot) extra_2)), (18, ov (S (rI .i64) (List.length extra_2 : Int))), (19, ov (S (rI .i64) x_9))])
         (fs := fun γ => [⟨some 24, ov (A r_api_Dot v_11)⟩, ⟨some 25, ov (S rB v_13)⟩, ⟨some 26, ov (S rB v_14)⟩, ⟨some 27, ov (S rB v_14)⟩, ⟨some 28, bif (!v_14) then ov (S (rI .i64) x_9) else .one .und⟩, ⟨some 29, bif (!v_14) then ov (S rB v_15) else .one .und⟩, ⟨some 30, bif (!v_14) then ov (S rB v_15) else .one .und⟩, ⟨some 31, bif ((!v_14) && v_15) then ov (S (rL r_api_Dot) extra_2) else .one .und⟩, ⟨some 32, bif ((!v_14) && v_15) then ov (S (rI .i64) x_9) else .one .und⟩, ⟨some 33, bif ((!v_14) && v_15) then ov (S (rI .i64) v_16) else .one .und⟩, ⟨some 34, bif ((!v_14) && v_15) then ov (PT r_api_Dot v_17) else .one .und⟩, ⟨some 35, bif ((!v_14) && v_15) then ov (A r_api_Dot v_17) else .one .und⟩, ⟨some 36, bif ((!v_14) && v_15) then ov (A r_api_Dot v_11) else .one .und⟩, ⟨some 37, bif ((!v_14) && v_15) then ov (S rB v_18) else .one .und⟩, ⟨some 38, bif ((!v_14) && v_15) then ov (S rB v_19) else .one .und⟩, ⟨some 39, bif (!v_14) then ov (S rB v_20) else .one .und⟩, ⟨some 40, ov (S rB v_21)⟩, ⟨some 41, ov (S rB v_21)⟩, ⟨some 42, ov (PTR gb_12 (0 + 1))⟩, ⟨some 43, ov (S (rU UInt64) v_11.Count)⟩, ⟨some 44, ov (PTR gb_12 (0 + 0))⟩, ⟨some 45, ov (S (rI .i64) v_11.Region)⟩, ⟨some 46, ov (S (rI .i64) v_22)⟩, ⟨some 47, ov (PTR gb_3 (0 + i_23.1 * 1))⟩, ⟨some 48, ov (S (rU UInt64) v_24)⟩, ⟨some 49, ov (S (rU UInt64) v_25)⟩, ⟨some 50, ov (S rB v_26)⟩, ⟨some 51, ov (S rB v_26)⟩])
         (rs := fun γ => [⟨cvar gb_3 (rV 16 (rU UInt64)) v_1, none, none, [24]⟩, ⟨cvar gb_12 r_api_Dot v_11, none, none, [0, 12, 19, 21]⟩])
         (afts := nn 28) (js := [0, 0]) mixed (.cons rfl (.cons rfl (.cons rfl (.cons rfl (.cons rfl (.cons rfl (.cons rfl .nil))))))) (fun _ => rfl)
         (by
      refine dR 1 (fun γ ρ B hb hd => OpStep.lk ⟨ρ, (cvar gb_12 r_api_Dot v_11) :: B, _⟩ (op_loadA (j := 0) lb tA26 (.tmp (hb 9 _ rfl)) rfl (Comp.self r_api_Dot v_11) rfl)) <| dS 2 (fun γ ρ B hb hd => (op_call (js := []) ld cl34 (sim_ctx_May k v_11 v_13 hv_13) .func (.cons (tl hd 0 24) .nil) rfl).post (fun _ => Imp.refl)) <| dS 3 (fun γ ρ B hb hd => op_not lb (tl hd 1 25) hv_14) <| dm 4 2 26 ?_
      refine dC 5 (!v_14) (fun γ => ov (S (rI .i64) x_9)) (fun γ ρ B hb hd => ⟨(Guard.isF (ltB rfl) rfl (hl hd 3 27 rfl)), fun hq_9 => op_move lb (.tmp (hb 8 _ rfl))⟩) ?_
      refine dC 6 (!v_14) (fun γ => ov (S rB v_15)) (fun γ ρ B hb hd => ⟨(Guard.isF (ltB rfl) rfl (hl hd 3 27 rfl)), fun hq_10 => op_cmpI lb (HasO.cnd (tl hd 4 28) (notT (notF hq_10))) .cI (cs hv_15)⟩) ?_
      refine dC 7 (!v_14) (fun γ => ov (S rB v_15)) (fun γ ρ B hb hd => ⟨(Guard.isF (ltB rfl) rfl (hl hd 3 27 rfl)), fun hq_11 => op_move lb (HasO.cnd (tl hd 5 29) (notT (notF hq_11)))⟩) ?_
      refine dC 8 ((!v_14) && v_15) (fun γ => ov (S (rL r_api_Dot) extra_2)) (fun γ ρ B hb hd => ⟨(Guard.cT (q := (!v_14)) (ltB rfl) rfl (hl hd 6 30 rfl)), fun hq_12 => op_move lb (.tmp (hb 1 _ rfl))⟩) ?_
      refine dC 9 ((!v_14) && v_15) (fun γ => ov (S (rI .i64) x_9)) (fun γ ρ B hb hd => ⟨(Guard.cT (q := (!v_14)) (ltB rfl) rfl (hl hd 6 30 rfl)), fun hq_13 => op_move lb (.tmp (hb 8 _ rfl))⟩) ?_
      refine dC 10 ((!v_14) && v_15) (fun γ => ov (S (rI .i64) v_16)) (fun γ ρ B hb hd => ⟨(Guard.cT (q := (!v_14)) (ltB rfl) rfl (hl hd 6 30 rfl)), fun hq_14 => op_arI lb (HasO.cnd (tl hd 8 32) (andI (notT (notF (andL hq_14))) (andR hq_14))) .cI (cs hv_16)⟩) ?_
      refine dC 11 ((!v_14) && v_15) (fun γ => ov (PT r_api_Dot v_17)) (fun γ ρ B hb hd => ⟨(Guard.cT (q := (!v_14)) (ltB rfl) rfl (hl hd 6 30 rfl)), fun hq_15 => op_indexAddrLg lb tu33 tz26 (HasO.cnd (tl hd 7 31) (andI (notT (notF (andL hq_15))) (andR hq_15))) (HasO.cnd (tl hd 9 33) (andI (notT (notF (andL hq_15))) (andR hq_15))) (ifT hv_17 hq_15)⟩) ?_
      refine dC 12 ((!v_14) && v_15) (fun γ => ov (A r_api_Dot v_17)) (fun γ ρ B hb hd => ⟨(Guard.cT (q := (!v_14)) (ltB rfl) rfl (hl hd 6 30 rfl)), fun hq_16 => op_loadPAg lb tA26 (HasO.cnd (tl hd 10 34) (andI (notT (notF (andL hq_16))) (andR hq_16))) rfl⟩) ?_
      refine DSteps.cons (j := 13) rfl (fun _ => rfl) (.cnd (q := ((!v_14) && v_15)) (sv := fun γ => ov (A r_api_Dot v_11)) (fun _ => rfl) (fun _ => rfl) (fun d h => by cases h; exact ltB rfl) (fun _ => rfl) (fun γ ρ B hb hd => ⟨(Guard.cT (q := (!v_14)) (ltB rfl) rfl (hl hd 6 30 rfl)), fun hq_17 => OpStep.lk ⟨ρ, (cvar gb_12 r_api_Dot v_11) :: B, _⟩ (op_loadA (j := 0) lb tA26 (.tmp (hb 9 _ rfl)) rfl (Comp.self r_api_Dot v_11) rfl)⟩)) ?_
      refine dC 14 ((!v_14) && v_15) (fun γ => ov (S rB v_18)) (fun γ ρ B hb hd => ⟨(Guard.cT (q := (!v_14)) (ltB rfl) rfl (hl hd 6 30 rfl)), fun hq_18 => (op_call (js := []) ld cl35 (sim_ctx_Less k v_17 v_11 v_18 (ifT hv_18 hq_18)) .func (.cons (HasO.cnd (tl hd 11 35) (andI (notT (notF (andL hq_18))) (andR hq_18))) (.cons (HasO.cnd (tl hd 12 36) (andI (notT (notF (andL hq_18))) (andR hq_18))) .nil)) rfl).post (fun _ => Imp.refl)⟩) ?_
      refine dC 15 ((!v_14) && v_15) (fun γ => ov (S rB v_19)) (fun γ ρ B hb hd => ⟨(Guard.cT (q := (!v_14)) (ltB rfl) rfl (hl hd 6 30 rfl)), fun hq_19 => op_not lb (HasO.cnd (tl hd 13 37) (andI (notT (notF (andL hq_19))) (andR hq_19))) hv_19⟩) ?_
      refine dC 16 (!v_14) (fun γ => ov (S rB v_20)) (fun γ ρ B hb hd => ⟨(Guard.isF (ltB rfl) rfl (hl hd 3 27 rfl)), fun hq_20 => op_pickCS lb (HasO.cnd (tl hd 6 30) (notT (notF hq_20))) (fun hb21 => (HasO.cnd (tl hd 14 38) (andI (notT (notF hq_20)) hb21))) (fun hb21 => .cB) hv_20⟩) ?_
      refine dS 17 (fun γ ρ B hb hd => op_pickCS lb (tl hd 3 27) (fun hb22 => .cB) (fun hb22 => (HasO.cnd (tl hd 15 39) (notT hb22))) hv_21) <| dm 18 16 40 <| dY 19 (fun γ ρ B hb hd => ⟨.yes rfl (ltB rfl) (hl hd 17 41 rfl) hc24, lkB (op_fieldAddr (off := 1) lb tf26_1 (.tmp (hb 9 _ rfl)))⟩) <| dY 20 (fun γ ρ B hb hd => ⟨.yes rfl (ltB rfl) (hl hd 17 41 rfl) hc24, OpStep.lk ⟨ρ, (cvar gb_12 r_api_Dot v_11) :: B, _⟩ (op_loadS (j := 0) lb tS24 (tl hd 18 42) rfl (cT (comp_api_Dot_Count v_11) rfl) rfl rfl)⟩) <| dY 21 (fun γ ρ B hb hd => ⟨.yes rfl (ltB rfl) (hl hd 17 41 rfl) hc24, lkB (op_fieldAddr (off := 0) lb tf26_0 (.tmp (hb 9 _ rfl)))⟩) ?_
      refine dY 22 (fun γ ρ B hb hd => ⟨.yes rfl (ltB rfl) (hl hd 17 41 rfl) hc24, OpStep.lk ⟨ρ, (cvar gb_12 r_api_Dot v_11) :: B, _⟩ (op_loadS (j := 0) lb tS3 (tl hd 20 44) rfl (cT (comp_api_Dot_Region v_11) rfl) rfl rfl)⟩) <| dY 23 (fun γ ρ B hb hd => ⟨.yes rfl (ltB rfl) (hl hd 17 41 rfl) hc24, lkB (op_arI lb (tl hd 21 45) .cI (cs hv_22))⟩) <| dY 24 (fun γ ρ B hb hd => ⟨.yes rfl (ltB rfl) (hl hd 17 41 rfl) hc24, lkB (op_indexAddrIF lb tr29 (.tmp (hb 2 _ rfl)) (tl hd 22 46) hv_i_23)⟩) <| dY 25 (fun γ ρ B hb hd => ⟨.yes rfl (ltB rfl) (hl hd 17 41 rfl) hc24, OpStep.lk ⟨ρ, (cvar gb_3 (rV 16 (rU UInt64)) v_1) :: B, _⟩ (op_loadS (j := 0) lb tS24 (tl hd 23 47) rfl (Comp.at (Comp.self (rV 16 (rU UInt64)) v_1) i_23.2 rfl) rfl hv_24)⟩) <| dY 26 (fun γ ρ B hb hd => ⟨.yes rfl (ltB rfl) (hl hd 17 41 rfl) hc24, lkB (op_arU lb (tl hd 24 48) (HasO.cU (x := (1 : UInt64)) rfl (by decide)) (cs hv_25))⟩) ?_
      refine dY 27 (fun γ ρ B hb hd => ⟨.yes rfl (ltB rfl) (hl hd 17 41 rfl) hc24, lkB (op_cmpU lb (tl hd 19 43) (tl hd 25 49) (cs hv_26))⟩) <| dS 28 (fun γ ρ B hb hd => op_pickF lb (tl hd 17 41) hc24 (tl hd 26 50)) ?_
      exact DSteps.nil)
         (by decide +kernel) (fun _ => rfl) (fun _ => rfl) (fun _ => rfl) rfl
         (ρ' := fun γ => [(1, ov (S (rL r_api_Dot) extra_2)), (2, ov (PTR gb_3 0)), (17, ov (S (rL r_api_Dot) extra_2)), (18, ov (S (rI .i64) (List.length extra_2 : Int))), (19, ov (S (rI .i64) x_9)), (51, ov (S rB v_26))])
         (X' := fun γ => [cvar gb_3 (rV 16 (rU UInt64)) v_1, cvar gb_12 r_api_Dot v_11])
         (fun γ ρ hb hd => (.cons (hb 1 _ rfl) (.cons (hb 2 _ rfl) (.cons (hb 17 _ rfl) (.cons (hb 18 _ rfl) (.cons (hb 19 _ rfl) (.cons (hdq hd 27 51 rfl) .nil))))))) (fun _ => rfl) (fun γ => ?_)
     refine JQ.at ⟨[(1, ov (S (rL r_api_Dot) extra_2)), (2, ov (PTR gb_3 0)), (17, ov (S (rL r_api_Dot) extra_2)), (18, ov (S (rI .i64) (List.length extra_2 : Int))), (19, ov (S (rI .i64) x_9)), (51, ov (S rB v_26))], [cvar gb_3 (rV 16 (rU UInt64)) v_1, cvar gb_12 r_api_Dot v_11], []⟩ ?_
     try obtain rfl := so hx8
     exact JQ.join () (Imp.norm (js := [0]) rfl (.cons rfl (.cons rfl (.cons rfl (.cons rfl (.cons rfl (.cons rfl .nil)))))))
   refine JC.condF (.tmp rfl) hc7 ?_
   refine JC.exit ?_
   refine JQ.outX ?_
   try obtain rfl := so hx
   have ht := hr _ rfl
   clear hr
   first | subst ht | clear ht
   dsimp only at hq6
   refine JQ.outX ?_
   refine JQ.here ?_
   try obtain rfl := so hq6
   exact JQ.joinK () () rfl (Imp.norm (js := [0]) rfl (.cons rfl (.cons rfl .nil)))
 refine jr <| jc (op_loadA (j := 0) lb tA29 (.tmp rfl) rfl (Comp.self (rV 16 (rU UInt64)) v_1) rfl) <| jc (op_move lb .cI) <| jn <| JC.block ?_
 obtain ⟨tv2, hL2, hq2⟩ := bnd_inv hx1
 refine JC.pre ?_ (JC.loop (γ := Unit) (stf := fun s q => ⟨[(1, ov (S (rL r_api_Dot) extra_2)), (2, ov (PTR gb_3 0)), (10, ov (A (rV 16 (rU UInt64)) v_1)), (11, ov (S (rI .i64) s))], [cvar gb_3 (rV 16 (rU UInt64)) v_1], []⟩) (q := ()) hL2 ?_)
 · exact (Imp.norm (js := [0]) rfl (.cons rfl (.cons rfl (.cons rfl (.cons rfl .nil)))))
 intro x_4 q x hx hr
 obtain _ := q
 change ctx_Of.b1 k v_1 x_4 = some x at hx
 unfold ctx_Of.b1 at hx
 refine JC.at ⟨[(1, ov (S (rL r_api_Dot) extra_2)), (2, ov (PTR gb_3 0)), (10, ov (A (rV 16 (rU UInt64)) v_1)), (11, ov (S (rI .i64) x_4))], [cvar gb_3 (rV 16 (rU UInt64)) v_1], []⟩ ?_
 refine jr ?_
 obtain ⟨v_5, hv_5, hx⟩ := lt1_inv hx
 refine jc (op_cmpI lb (.tmp rfl) .cI (cs hv_5)) <| jn <| JC.seq ?_
 rcases iteB_inv hx with ⟨hc3, hx⟩ | ⟨hc3, hx⟩
 · refine JC.condT (.tmp rfl) hc3 ?_
   refine JC.skip ?_
   refine JQ.then <| JC.seq <| JC.block <| jr ?_
   obtain ⟨v_6, hv_6, hx⟩ := bnd_inv hx
   refine jc (op_indexSg lb tu29 tS24 rfl (.tmp rfl) (.tmp rfl) hv_6) <| jc (op_assign lb (.tmp rfl)) <| jn <| jr <| jmv rfl rfl ?_
   obtain ⟨v_7, hv_7, hx⟩ := lt1_inv hx
   refine jc (op_cmpU lb (.tmp rfl) (HasO.cU (x := (4611686018427387904 : UInt64)) rfl (by decide)) (cs hv_7)) <| jn ?_
   rcases iteB_inv hx with ⟨hc4, hx⟩ | ⟨hc4, hx⟩
   · refine JC.condT (.tmp rfl) hc4 ?_
     refine jr <| jc (op_assign lb (HasO.const (p := PTO none) fun _ => rfl)) <| jc (op_assign lb .cI) <| jn ?_
     refine JC.ret ?_
     refine JQ.outRB ?_
     refine JQ.outR ?_
     try obtain rfl := so hx
     have ht := hr _ rfl
     clear hr
     first | subst ht | clear ht
     dsimp only at hq2
     refine JQ.outR ?_
     refine JQ.outRB ?_
     try obtain rfl := so hq2
     dsimp only at hq1
     refine JQ.outR ?_
     injection hq1 with hq1
     injection hq1 with hq1
     subst hq1
     exact JQ.done (js := []) (ss := [.val (PTO none), .val (S (rI .i64) (2 : Int))]) () (.inl rfl) (.nil rfl) rfl (.cons (.tmp rfl) (.cons (.tmp rfl) .nil)) rfl rfl rfl
   refine JC.condF (.tmp rfl) hc4 ?_
   refine JC.skip ?_
   refine JQ.outNB ?_
   refine JQ.then <| JC.region ?_
   obtain ⟨v_8, hv_8, hx⟩ := lt1_inv hx
   refine jc (op_arI lb (.tmp rfl) .cI (cs hv_8)) <| jmv rfl rfl <| JL.nil ?_
   try obtain rfl := so hx
   exact JQ.next () rfl (Imp.norm (js := [0]) rfl (.cons rfl (.cons rfl (.cons rfl (.cons rfl .nil)))))
 refine JC.condF (.tmp rfl) hc3 ?_
 refine JC.exit ?_
 refine JQ.outX ?_
 try obtain rfl := so hx
 have ht := hr _ rfl
 clear hr
 first | subst ht | clear ht
 dsimp only at hq2
 refine JQ.outX ?_
 refine JQ.here ?_
 try obtain rfl := so hq2
 exact JQ.joinK () () rfl (Imp.norm (js := [0]) rfl (.cons rfl (.cons rfl .nil)))

theorem sim_frame_seen (k : Nat) (f_1 : api_Frame) (r : Bool) (hm : frame_seen k f_1 = some r) : Sim Tryz.prog 36 [A r_api_Frame f_1] [] (γ := Unit) (fun q => []) (fun q => .one (.val (S rB r))) := by
 unfold frame_seen at hm
 refine Sim.of Tryz.func36 rfl rfl (lE rfl) (fun e0 w0 => ?_)
 refine JC.at ⟨[(0, ov (A r_api_Frame f_1))], [], []⟩ ?_
 refine jr ?_
 refine jx (op_boxA lb (.tmp rfl)) (fun gb_2 => ?_)
 refine jc (op_assign lb .cB) <| jn <| jr <| jc (op_fieldAddr (off := 41) lb tf39_6 (.tmp rfl)) <| jc (op_loadA (j := 0) lb tA29 (.tmp rfl) rfl (cT (comp_api_Frame_Seen f_1) rfl) rfl) ?_
 refine jc (op_fieldAddr (off := 57) lb tf39_7 (.tmp rfl)) <| jc (op_loadS (j := 0) lb tS33 (.tmp rfl) rfl (cT (comp_api_Frame_Extra f_1) rfl) rfl rfl) ?_
 obtain ⟨ts1, hs1, hm⟩ := bnd_inv hm
 rcases ts1 with ts1 | ts1
 · obtain ⟨v_3, hvv⟩ : ∃ z, z = ts1 := ⟨_, rfl⟩
   subst hvv
   dsimp only at hm
   refine jx (op_call (js := []) ld cl87 (sim_ctx_Of_v0 k f_1.Seen f_1.Extra v_3 hs1) .func (.cons (.tmp rfl) (.cons (.tmp rfl) .nil)) rfl) (fun q => ?_)
   obtain ⟨gb_4, go_5, gc_6⟩ := q
   refine jmv rfl rfl ?_
   refine JL.nrm ⟨[(5, .tup [.val (PTR gb_4 0), .val (S (rI .i64) (0 : Int))])], [cvar gb_4 (zq18 go_5 v_3 gc_6) (f_1.Seen, ((), (true, ()))), cown go_5 r_api_Dot v_3 0 gc_6], []⟩ [0, 0] rfl (.cons rfl .nil) rfl ?_
   refine jc (op_extract (i := 0) lb (.tmp rfl) rfl) <| jc (op_extract (i := 1) lb (.tmp rfl) rfl) <| jc (op_assign lb (.tmp rfl)) <| jc (op_assign lb (.tmp rfl)) <| jn ?_
   refine jr <| jmv rfl rfl <| jc (op_cmpI lb (.tmp rfl) .cI (cs (by decide : ((0 : Int) == (0 : Int)) = true))) <| jc (op_assign lb (.tmp rfl)) <| jn ?_
   refine JC.ret ?_
   obtain rfl := so hm
   exact jd (.val (S rB true)) rfl rfl rfl rfl rfl rfl
 obtain ⟨v_7, hvv⟩ : ∃ z, z = ts1 := ⟨_, rfl⟩
 subst hvv
 dsimp only at hm
 refine jx (op_call (js := []) ld cl87 (sim_ctx_Of_v1 k f_1.Seen f_1.Extra v_7 hs1) .func (.cons (.tmp rfl) (.cons (.tmp rfl) .nil)) rfl) (fun _ => ?_)
 refine jmv rfl rfl ?_
 refine JL.nrm ⟨[(5, .tup [.val (PTO none), .val (S (rI .i64) v_7)])], [], []⟩ [] rfl (.cons rfl .nil) rfl ?_
 refine jc (op_extract (i := 0) lb (.tmp rfl) rfl) <| jc (op_extract (i := 1) lb (.tmp rfl) rfl) <| jc (op_assign lb (.tmp rfl)) <| jc (op_assign lb (.tmp rfl)) <| jn ?_
 refine jr <| jmv rfl rfl ?_
 obtain ⟨v_8, hv_8, hm⟩ := lt1_inv hm
 refine jc (op_cmpI lb (.tmp rfl) .cI (cs hv_8)) <| jc (op_assign lb (.tmp rfl)) <| jn ?_
 refine JC.ret ?_
 obtain rfl := so hm
 exact jd (.val (S rB v_8)) rfl rfl rfl rfl rfl rfl

end Go.Proofs.YtklnihlchhhhlaaGreat
