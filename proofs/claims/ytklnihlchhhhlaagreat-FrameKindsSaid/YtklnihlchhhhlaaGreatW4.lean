/- Walks. -/
import Derived.Test.YtklnihlchhhhlaaGreatT
import Derived.Test.YtklnihlchhhhlaaGreatW2
import Derived.Test.YtklnihlchhhhlaaGreatW3
namespace Go.Proofs.YtklnihlchhhhlaaGreat
open Go Fw
set_option linter.unusedVariables false
set_option maxRecDepth 100000
set_option maxHeartbeats 4000000

theorem ZdK (k : Nat) (s_1 : (List Zaf)) (r : (List Zaf)) (hm : ZbE k s_1 = some r) : Sim Tryz.prog 120 [S (rL Zad) s_1] [] (γ := Option Nat × Nat) (fun q => [cown q.1 Zad r 0 q.2]) (fun q => .one (.val (HDR q.1 0 (List.length r) q.2))) := by
 unfold ZbE at hm
 refine Sim.of Tryz.func120 rfl rfl (lE rfl) (fun e0 w0 => ?_)
 refine JC.at ⟨[(0, ov (S (rL Zad) s_1))], [], []⟩ <| jr <| jc (Zab lb HasO.nilH) <| jn <| JC.seq <| jr <| jmv rfl rfl <| JL.consX rfl (Zke (neg := false) (ltB rfl) tu33 tR HasO.nilH) (fun q => ?_)
 obtain ⟨hb1, hb1_⟩ := q
 cases hb1
 · refine jn <| JC.condF tR rfl <| JC.skip <| JQ.then <| jr <| jx (ZgH (r := Zad) lb tu33 tz26 tZ26 rfl (lE rfl) .nil rfl) fun gb_2 => jmv rfl rfl <| bI hm fun x_3 hv_x_3 hm => jx (Zbp (j := 0) lb tu33 tu33 rfl tB26 rfl (Nat.lt_of_lt_of_le Nat.zero_lt_one (lE rfl)) (Nat.lt_of_lt_of_le Nat.zero_lt_one (lE rfl))  rfl tR tR hv_x_3) (fun q => ?_)
   obtain ⟨go_4, gc_5⟩ := q
   refine jc (Zab lb tR) <| jn <| JC.ret ?_
   obtain rfl := so hm
   exact JQ.done (js := [0]) (ss := [.val (HDR go_4 0 (List.length x_3) gc_5)]) (go_4, gc_5) (.inl rfl) (.nil rfl) rfl (.cons (.tmp rfl) .nil) rfl rfl rfl
 replace hm := nilK hm (show _ = (
       some ([] : (List Zaf))
       ) by simp [hb1_ rfl, subL, apL])
 refine jn <| JC.condT tR rfl <| jr <| jc (Zab lb HasO.nilH) <| jn <| JC.ret <| JQ.outR ?_
 obtain rfl := so hm
 exact JQ.pre (Imp.nilown Zad) <| JQ.done (js := [0]) (ss := [.val (HDR none 0 (List.length ([] : (List Zaf))) (0))]) (none, 0) (.inl rfl) (.nil rfl) rfl (.cons (.tmp rfl) .nil) rfl rfl rfl

theorem ZgL (k : Nat) (v1 : (Vector UInt64 16)) (extra_2 : (List Zaf)) (r : (List Zaf) ⊕ Int) (hm : ctx_Of k v1 extra_2 = some r) : Sim Tryz.prog 87 [A (rV 16 (rU UInt64)) v1, S (rL Zad) extra_2] [] (γ := GS2 (Nat × Option Nat × Nat) (Unit) r) (fS2 (fun r q => [cvar q.1 (rP (rV 16 (rU UInt64)) (rP (rW (HDR q.2.1 0 (List.length r) q.2.2)) (rP rB r0))) (v1, ((), (true, ()))), cown q.2.1 Zad r 0 q.2.2]) (fun r q => []) r) (fS2 (fun r q => .tup [.val (PTR q.1 0), .val (S (rI .i64) (0 : Int))]) (fun r q => .tup [.val (PTO none), .val (S (rI .i64) r)]) r) := by
 unfold ctx_Of at hm
 refine Sim.of Tryz.func87 rfl rfl (lE rfl) (fun e0 w0 => ?_)
 refine JC.at ⟨[(0, ov (A (rV 16 (rU UInt64)) v1)), (1, ov (S (rL Zad) extra_2))], [], []⟩ <| jr <| jx (ZaX lb tR) fun gb_3 => jc (Zab lb (HasO.const (p := PTO none) fun _ => rfl)) <| jc (Zab lb .cI) <| jn <| bI hm fun tv1 hx1 hq1 => JC.seqK (α := Unit) (γ := Unit) (stj := fun v q => ⟨[(1, ov (S (rL Zad) extra_2)), (2, ov (PTR gb_3 0))], [cvar gb_3 (rV 16 (rU UInt64)) v1], []⟩) (p := fun v => tv1 = (.inl v)) (fun v q hv => ?_) ?_
 · subst hv
   skip
   obtain _ := q
   dsimp only at hq1
   refine JC.at ⟨[(1, ov (S (rL Zad) extra_2)), (2, ov (PTR gb_3 0))], [cvar gb_3 (rV 16 (rU UInt64)) v1], []⟩ <| bI hq1 fun tv5 hx5 hq5 => JC.seqK (α := Unit) (γ := Unit) (stj := fun v q => ⟨[(1, ov (S (rL Zad) extra_2)), (2, ov (PTR gb_3 0))], [cvar gb_3 (rV 16 (rU UInt64)) v1], []⟩) (p := fun v => tv5 = (.inl v)) (fun v q hv => ?_) ?_
   · subst hv
     skip
     obtain _ := q
     dsimp only at hq5
     refine JC.at ⟨[(1, ov (S (rL Zad) extra_2)), (2, ov (PTR gb_3 0))], [cvar gb_3 (rV 16 (rU UInt64)) v1], []⟩ <| JC.seq <| jr <| jmv rfl rfl <| jc (ZaE lb tu33 tR) <| lI hq5 fun v29 hv_29 hq5 => jc (Zaq lb tR .cI (cs hv_29)) <| jn <| jif tR hq5 (fun hc31 hq5 => ?_) (fun hc31 hq5 => ?_)
     · refine jr <| jc (Zab lb (HasO.const (p := PTO none) fun _ => rfl)) <| jc (Zab lb .cI) <| jn <| JC.ret <| JQ.outR ?_
       obtain rfl := so hq5
       exact JQ.done (js := []) (ss := [.val (PTO none), .val (S (rI .i64) (5 : Int))]) () (.inl rfl) (.nil rfl) rfl (.cons (.tmp rfl) (.cons (.tmp rfl) .nil)) rfl rfl rfl
     refine JC.skip <| JQ.then <| JC.seq ?_
     obtain ⟨v30, hv_30, hq5⟩ := Zay hq5
     refine JC.anyF (base := [(1, ov (S (rL Zad) extra_2)), (2, ov (PTR gb_3 0))])
         (fs := fun γ => [⟨some 56, ov (A (rV 16 (rU UInt64)) v1)⟩, ⟨some 57, ov (S (rL Zad) extra_2)⟩, ⟨some 58, ov (HDR (deo (γ 2 0)) 0 (List.length v30) (γ 2 1))⟩, ⟨some 59, ov (A (zq20 (deo (γ 2 0)) v30 (γ 2 1)) (v1, ((), (true, ()))))⟩, ⟨some 60, ov (PTR (γ 4 0) 0)⟩, ⟨some 4, ov (PTR (γ 4 0) 0)⟩, ⟨some 5, ov (S (rI .i64) (0 : Int))⟩])
         (rs := fun γ => [⟨cvar gb_3 (rV 16 (rU UInt64)) v1, none, none, [0]⟩, ⟨cown (deo (γ 2 0)) Zad v30 0 (γ 2 1), (some 2), none, []⟩, ⟨cvar (γ 4 0) (zq20 (deo (γ 2 0)) v30 (γ 2 1)) (v1, ((), (true, ()))), (some 4), none, []⟩])
         (afts := [[], [], [2, 3, 4, 5, 6], [], [4, 5, 6], [], []]) (js := [0]) ZbT (.cons rfl (.cons rfl .nil)) (fun _ => rfl)
         (by
      refine dR 1 (fun γ ρ B hb hd => Zan.lk ⟨ρ, (cvar gb_3 (rV 16 (rU UInt64)) v1) :: B, _⟩ (Zaw (j := 0) lb tA29 (.tmp (hb 2 _ rfl)) rfl (Comp.self (rV 16 (rU UInt64)) v1) rfl)) <| db 2 1 ?_
      refine ZaG.cons (j := 3) rfl (fun _ => rfl) (.runX (fun _ _ => rfl) (fun γ ρ B hb hd => ⟨.none, OpX.ghost (γ := Option Nat × Nat) (st' := fun q => setO ⟨ρ, (cown q.1 Zad v30 0 q.2) :: B, _⟩ (some 58) (ov (HDR q.1 0 (List.length v30) q.2))) (fun q c => bif Nat.beq c 0 then eno q.1 else q.2) (Zak (js := []) ld Zn1 (ZdK k extra_2 v30 hv_30) .func (.cons (tl hd 1 57) .nil) rfl) (fun q => by obtain ⟨q0, q1⟩ := q; cases q0 <;> exact Imp.refl)⟩) (fun _ _ => rfl) (fun _ _ => rfl)) ?_
      refine dS 4 (fun γ ρ B hb hd => Za9 lb Zos Zn9 Zof (.A (off := 0) rfl (tl hd 0 56) ((UpdR.fst (UpdR.self (by rfl))).at (by rfl)) (.S (off := 16) (s := rW (HDR (deo (γ 2 0)) 0 (List.length v30) (γ 2 1))) (u := ()) rfl (HasO.wk (q := S (rW (HDR (deo (γ 2 0)) 0 (List.length v30) (γ 2 1))) ()) (tl hd 2 58) wkV) rfl ((UpdR.snd (UpdR.fst (UpdR.self (by rfl)))).at (by rfl)) (.S (off := 17) rfl .cB rfl ((UpdR.snd (UpdR.snd (UpdR.fst (UpdR.self (by rfl))))).at (by rfl)) .nil))) rfl) ?_
      refine ZaG.cons (j := 5) rfl (fun _ => rfl) (.runX (fun _ _ => rfl) (fun γ ρ B hb hd => ⟨.none, OpX.ghost (γ := Nat) (st' := fun q => setO ⟨ρ, (cvar q (zq20 (deo (γ 2 0)) v30 (γ 2 1)) (v1, ((), (true, ())))) :: B, _⟩ (some 60) (ov (PTR q 0))) (fun q c => q) (OpX.front (ZaX lb (tl hd 3 59))) (fun q => Imp.refl)⟩) (fun _ _ => rfl) (fun _ _ => rfl)) ?_
      refine dS 6 (fun γ ρ B hb hd => Zab lb (tl hd 4 60)) <| dS 7 (fun γ ρ B hb hd => Zab lb .cI) ?_
      exact ZaG.nil)
         (by decide +kernel) (fun _ => rfl) (fun _ => rfl) (fun _ => rfl) rfl
         (ρ' := fun γ => [(4, ov (PTR (γ 4 0) 0)), (5, ov (S (rI .i64) (0 : Int)))])
         (X' := fun γ => [cvar gb_3 (rV 16 (rU UInt64)) v1, cown (deo (γ 2 0)) Zad v30 0 (γ 2 1), cvar (γ 4 0) (zq20 (deo (γ 2 0)) v30 (γ 2 1)) (v1, ((), (true, ())))])
         (fun γ ρ hb hd => (.cons (hdq hd 5 4 rfl) (.cons (hdq hd 6 5 rfl) .nil))) (fun _ => rfl) (fun γ => ?_)
     generalize (deo (γ 2 0)) = go_31
     generalize (γ 2 1) = gc_32
     generalize (γ 4 0) = gb_33
     clear γ
     refine JQ.at ⟨[(4, ov (PTR gb_33 0)), (5, ov (S (rI .i64) (0 : Int)))], [cvar gb_3 (rV 16 (rU UInt64)) v1, cown go_31 Zad v30 0 gc_32, cvar gb_33 (zq20 go_31 v30 gc_32) (v1, ((), (true, ())))], []⟩ <| JQ.then <| JC.ret ?_
     obtain rfl := so hq5
     exact JQ.done (js := [2, 1]) (ss := [.val (PTR gb_33 0), .val (S (rI .i64) (0 : Int))]) (gb_33, go_31, gc_32) (.inl rfl) (.nil rfl) rfl (.cons (.tmp rfl) (.cons (.tmp rfl) .nil)) rfl rfl rfl
   refine jr <| jmv rfl rfl <| jc (ZaE lb tu33 tR) <| jc (Zax lb .cI) <| jn <| JC.block <| bI hx5 fun tv6 hL6 hq6 => JC.pre ?_ (JC.loop (γ := Unit) (stf := fun s q => ⟨[(1, ov (S (rL Zad) extra_2)), (2, ov (PTR gb_3 0)), (17, ov (S (rL Zad) extra_2)), (18, ov (S (rI .i64) (List.length extra_2 : Int))), (19, ov (S (rI .i64) s))], [cvar gb_3 (rV 16 (rU UInt64)) v1], []⟩) (q := ()) hL6 ?_)
   · exact (Imp.norm (js := [0]) rfl (.cons rfl (.cons rfl (.cons rfl (.cons rfl (.cons rfl .nil))))))
   intro x_9 q x hx hr
   obtain _ := q
   change ctx_Of.b2 k extra_2 v1 x_9 = some x at hx
   unfold ctx_Of.b2 at hx
   refine JC.at ⟨[(1, ov (S (rL Zad) extra_2)), (2, ov (PTR gb_3 0)), (17, ov (S (rL Zad) extra_2)), (18, ov (S (rI .i64) (List.length extra_2 : Int))), (19, ov (S (rI .i64) x_9))], [cvar gb_3 (rV 16 (rU UInt64)) v1], []⟩ <| jr <| lI hx fun v10 hv_10 hx => jc (Zaq lb tR tR (cs hv_10)) <| jn <| JC.seq <| jif tR hx (fun hc7 hx => ?_) (fun hc7 hx => ?_)
   · refine JC.skip <| JQ.then <| JC.seq <| JC.block <| jr <| jmv rfl rfl <| bI hx fun v11 hv_11 hx => jc (Zau lb tu33 tz26 tR tR hv_11) <| jc (ZaR lb tA26 tR rfl) <| jx (Zbh lb tZ26 zr26) fun gb_12 => jc (Zab lb tR) <| jc (ZaP (j := 1) tA26 tR tR rfl (UpdR.self (by rfl)) rfl) <| jn <| bI hx fun x_27 hx8 hq8 => JC.seqJ (γ := Unit) (stj := fun _ => ⟨[(1, ov (S (rL Zad) extra_2)), (2, ov (PTR gb_3 0)), (17, ov (S (rL Zad) extra_2)), (18, ov (S (rI .i64) (List.length extra_2 : Int))), (19, ov (S (rI .i64) x_9)), (51, ov (S rB x_27))], [cvar gb_3 (rV 16 (rU UInt64)) v1], []⟩) (fun _ => ?_) ?_
     · refine jif tR hq8 (fun hc30 hq8 => ?_) (fun hc30 hq8 => ?_)
       · refine jr <| jc (Zab lb (HasO.const (p := PTO none) fun _ => rfl)) <| jc (Zab lb .cI) <| jn <| JC.ret <| JQ.outRB <| JQ.outR ?_
         try obtain rfl := so hq8
         try obtain rfl := hr _ rfl
         dsimp only at hq6
         refine JQ.outR <| JQ.outRB ?_
         try obtain rfl := so hq6
         dsimp only at hq5
         refine JQ.outR ?_
         obtain rfl := so hq5
         exact JQ.done (js := []) (ss := [.val (PTO none), .val (S (rI .i64) (2 : Int))]) () (.inl rfl) (.nil rfl) rfl (.cons (.tmp rfl) (.cons (.tmp rfl) .nil)) rfl rfl rfl
       refine JC.skip <| JQ.outNB <| JQ.then <| JC.region <| lI hq8 fun v28 hv_28 hq8 => jc (ZaY lb tR .cI (cs hv_28)) <| jmv rfl rfl <| JL.nil ?_
       try obtain rfl := so hq8
       exact JQ.next () rfl (Imp.norm (js := [0]) rfl (.cons rfl (.cons rfl (.cons rfl (.cons rfl (.cons rfl .nil))))))
     refine bI hx8 fun v13 hv_13 hx8 => lI hx8 fun v14 hv_14 hx8 => lI hx8 fun v15 hv_15 hx8 => lI hx8 fun v16 hv_16 hx8 => bI hx8 fun v17 hv_17 hx8 => bI hx8 fun v18 hv_18 hx8 => lI hx8 fun v19 hv_19 hx8 => lI hx8 fun v20 hv_20 hx8 => ?_
     obtain ⟨v21, hv_21, hx8⟩ := ZaQ hx8
     obtain ⟨v22, hv_22, hx8⟩ := ZaQ hx8
     rcases ZcG hx8 with ⟨hc29, hx8⟩ | ⟨hc29, hx8⟩
     · refine JC.anyF (base := [(1, ov (S (rL Zad) extra_2)), (2, ov (PTR gb_3 0)), (8, ov (S (rI .i64) x_9)), (9, ov (PTR gb_12 0)), (17, ov (S (rL Zad) extra_2)), (18, ov (S (rI .i64) (List.length extra_2 : Int))), (19, ov (S (rI .i64) x_9))])
           (fs := fun γ => [⟨some 24, ov (A Zad v11)⟩, ⟨some 25, ov (S rB v13)⟩, ⟨some 26, ov (S rB v14)⟩, ⟨some 27, ov (S rB v14)⟩, ⟨some 28, bif (!v14) then ov (S (rI .i64) x_9) else .one .und⟩, ⟨some 29, bif (!v14) then ov (S rB v15) else .one .und⟩, ⟨some 30, bif (!v14) then ov (S rB v15) else .one .und⟩, ⟨some 31, bif ((!v14) && v15) then ov (S (rL Zad) extra_2) else .one .und⟩, ⟨some 32, bif ((!v14) && v15) then ov (S (rI .i64) x_9) else .one .und⟩, ⟨some 33, bif ((!v14) && v15) then ov (S (rI .i64) v16) else .one .und⟩, ⟨some 34, bif ((!v14) && v15) then ov (PT Zad v17) else .one .und⟩, ⟨some 35, bif ((!v14) && v15) then ov (A Zad v17) else .one .und⟩, ⟨some 36, bif ((!v14) && v15) then ov (A Zad v11) else .one .und⟩, ⟨some 37, bif ((!v14) && v15) then ov (S rB v18) else .one .und⟩, ⟨some 38, bif ((!v14) && v15) then ov (S rB v19) else .one .und⟩, ⟨some 39, bif (!v14) then ov (S rB v20) else .one .und⟩, ⟨some 40, ov (S rB v21)⟩, ⟨some 41, ov (S rB v21)⟩, ⟨some 42, bif (!v21) then ov (PTR gb_12 (0 + 1)) else .one .und⟩, ⟨some 43, bif (!v21) then ov (S (rU UInt64) v11.Count) else .one .und⟩, ⟨some 44, bif (!v21) then ov (PTR gb_12 (0 + 0)) else .one .und⟩, ⟨some 45, bif (!v21) then ov (S (rI .i64) v11.Region) else .one .und⟩, ⟨some 46, bif (!v21) then ov (S (rI .i64) v22) else .one .und⟩, ⟨some 47, .one .und⟩, ⟨some 48, .one .und⟩, ⟨some 49, .one .und⟩, ⟨some 50, .one .und⟩, ⟨some 51, ov (S rB true)⟩])
           (rs := fun γ => [⟨cvar gb_3 (rV 16 (rU UInt64)) v1, none, none, []⟩, ⟨cvar gb_12 Zad v11, none, none, [0, 12, 19, 21]⟩])
           (afts := nn 28) (js := [0, 0]) ZbT (.cons rfl (.cons rfl (.cons rfl (.cons rfl (.cons rfl (.cons rfl (.cons rfl .nil))))))) (fun _ => rfl)
           (by
      refine dR 1 (fun γ ρ B hb hd => Zan.lk ⟨ρ, (cvar gb_12 Zad v11) :: B, _⟩ (Zaw (j := 0) lb tA26 (.tmp (hb 9 _ rfl)) rfl (Comp.self Zad v11) rfl)) <| dS 2 (fun γ ρ B hb hd => (Zak (js := []) ld cl34 (Zep k v11 v13 hv_13) .func (.cons (tl hd 0 24) .nil) rfl).post (fun _ => Imp.refl)) <| dS 3 (fun γ ρ B hb hd => Zbc lb (tl hd 1 25) hv_14) <| dm 4 2 26 ?_
      refine dF 5 3 27 v14 (fun γ => ov (S (rI .i64) x_9)) (fun γ ρ B hb hd hq_9 => Zax lb (.tmp (hb 8 _ rfl))) ?_
      refine dF 6 3 27 v14 (fun γ => ov (S rB v15)) (fun γ ρ B hb hd hq_10 => Zaq lb (HasO.cnd (tl hd 4 28) (notT (notF hq_10))) .cI (cs hv_15)) ?_
      refine dF 7 3 27 v14 (fun γ => ov (S rB v15)) (fun γ ρ B hb hd hq_11 => Zax lb (HasO.cnd (tl hd 5 29) (notT (notF hq_11)))) ?_
      refine dA 8 6 30 (!v14) v15 (fun γ => ov (S (rL Zad) extra_2)) (fun γ ρ B hb hd hq_12 => Zax lb (.tmp (hb 1 _ rfl))) ?_
      refine dA 9 6 30 (!v14) v15 (fun γ => ov (S (rI .i64) x_9)) (fun γ ρ B hb hd hq_13 => Zax lb (.tmp (hb 8 _ rfl))) ?_
      refine dA 10 6 30 (!v14) v15 (fun γ => ov (S (rI .i64) v16)) (fun γ ρ B hb hd hq_14 => ZaY lb (HasO.cnd (tl hd 8 32) (andI (notT (notF (andL hq_14))) (andR hq_14))) .cI (cs hv_16)) ?_
      refine dA 11 6 30 (!v14) v15 (fun γ => ov (PT Zad v17)) (fun γ ρ B hb hd hq_15 => Zau lb tu33 tz26 (HasO.cnd (tl hd 7 31) (andI (notT (notF (andL hq_15))) (andR hq_15))) (HasO.cnd (tl hd 9 33) (andI (notT (notF (andL hq_15))) (andR hq_15))) (ifT hv_17 hq_15)) ?_
      refine dA 12 6 30 (!v14) v15 (fun γ => ov (A Zad v17)) (fun γ ρ B hb hd hq_16 => ZaR lb tA26 (HasO.cnd (tl hd 10 34) (andI (notT (notF (andL hq_16))) (andR hq_16))) rfl) ?_
      refine eA 13 6 30 (!v14) v15 (fun γ => ov (A Zad v11)) (fun γ ρ B hb hd hq_17 => Zan.lk ⟨ρ, (cvar gb_12 Zad v11) :: B, _⟩ (Zaw (j := 0) lb tA26 (.tmp (hb 9 _ rfl)) rfl (Comp.self Zad v11) rfl)) ?_
      refine dA 14 6 30 (!v14) v15 (fun γ => ov (S rB v18)) (fun γ ρ B hb hd hq_18 => (Zak (js := []) ld cl35 (ZeG k v17 v11 v18 (ifT hv_18 hq_18)) .func (.cons (HasO.cnd (tl hd 11 35) (andI (notT (notF (andL hq_18))) (andR hq_18))) (.cons (HasO.cnd (tl hd 12 36) (andI (notT (notF (andL hq_18))) (andR hq_18))) .nil)) rfl).post (fun _ => Imp.refl)) ?_
      refine dA 15 6 30 (!v14) v15 (fun γ => ov (S rB v19)) (fun γ ρ B hb hd hq_19 => Zbc lb (HasO.cnd (tl hd 13 37) (andI (notT (notF (andL hq_19))) (andR hq_19))) hv_19) ?_
      refine dF 16 3 27 v14 (fun γ => ov (S rB v20)) (fun γ ρ B hb hd hq_20 => Zao lb (HasO.cnd (tl hd 6 30) (notT (notF hq_20))) (fun hb21 => (HasO.cnd (tl hd 14 38) (andI (notT (notF hq_20)) hb21))) (fun hb21 => .cB) hv_20) ?_
      refine dS 17 (fun γ ρ B hb hd => Zao lb (tl hd 3 27) (fun hb22 => .cB) (fun hb22 => (HasO.cnd (tl hd 15 39) (notT hb22))) hv_21) <| dm 18 16 40 ?_
      refine dF 19 17 41 v21 (fun γ => ov (PTR gb_12 (0 + 1))) (fun γ ρ B hb hd hq_23 => Zaa (off := 1) lb ZdA (.tmp (hb 9 _ rfl))) ?_
      refine eF 20 17 41 v21 (fun γ => ov (S (rU UInt64) v11.Count)) (fun γ ρ B hb hd hq_24 => Zan.lk ⟨ρ, (cvar gb_12 Zad v11) :: B, _⟩ (Zai (j := 0) lb tS24 (HasO.cnd (tl hd 18 42) (notT (notF hq_24))) rfl (cT (ZaN v11) rfl) rfl rfl)) ?_
      refine dF 21 17 41 v21 (fun γ => ov (PTR gb_12 (0 + 0))) (fun γ ρ B hb hd hq_25 => Zaa (off := 0) lb Zcx (.tmp (hb 9 _ rfl))) ?_
      refine eF 22 17 41 v21 (fun γ => ov (S (rI .i64) v11.Region)) (fun γ ρ B hb hd hq_26 => Zan.lk ⟨ρ, (cvar gb_12 Zad v11) :: B, _⟩ (Zai (j := 0) lb tS3 (HasO.cnd (tl hd 20 44) (notT (notF hq_26))) rfl (cT (ZaC v11) rfl) rfl rfl)) ?_
      refine dF 23 17 41 v21 (fun γ => ov (S (rI .i64) v22)) (fun γ ρ B hb hd hq_27 => ZaY lb (HasO.cnd (tl hd 21 45) (notT (notF hq_27))) .cI (cs hv_22)) ?_
      refine kn 24 17 41 rfl hc29 <| kn 25 17 41 rfl hc29 <| kn 26 17 41 rfl hc29 <| kn 27 17 41 rfl hc29 <| dS 28 (fun γ ρ B hb hd => Zb7 lb (tl hd 17 41) hc29 .cB) ?_
      exact ZaG.nil)
           (by decide +kernel) (fun _ => rfl) (fun _ => rfl) (fun _ => rfl) rfl
           (ρ' := fun γ => [(1, ov (S (rL Zad) extra_2)), (2, ov (PTR gb_3 0)), (17, ov (S (rL Zad) extra_2)), (18, ov (S (rI .i64) (List.length extra_2 : Int))), (19, ov (S (rI .i64) x_9)), (51, ov (S rB true))])
           (X' := fun γ => [cvar gb_3 (rV 16 (rU UInt64)) v1, cvar gb_12 Zad v11])
           (fun γ ρ hb hd => (.cons (hb 1 _ rfl) (.cons (hb 2 _ rfl) (.cons (hb 17 _ rfl) (.cons (hb 18 _ rfl) (.cons (hb 19 _ rfl) (.cons (hdq hd 27 51 rfl) .nil))))))) (fun _ => rfl) (fun γ => ?_)
       refine JQ.at ⟨[(1, ov (S (rL Zad) extra_2)), (2, ov (PTR gb_3 0)), (17, ov (S (rL Zad) extra_2)), (18, ov (S (rI .i64) (List.length extra_2 : Int))), (19, ov (S (rI .i64) x_9)), (51, ov (S rB true))], [cvar gb_3 (rV 16 (rU UInt64)) v1, cvar gb_12 Zad v11], []⟩ ?_
       try obtain rfl := so hx8
       exact JQ.join () (Imp.norm (js := [0]) rfl (.cons rfl (.cons rfl (.cons rfl (.cons rfl (.cons rfl (.cons rfl .nil)))))))
     refine bI hx8 fun i_23 hv_i_23 hx8 => lI hx8 fun v24 hv_24 hx8 => lI hx8 fun v25 hv_25 hx8 => ?_
     obtain ⟨v26, hv_26, hx8⟩ := ZaQ hx8
     refine JC.anyF (base := [(1, ov (S (rL Zad) extra_2)), (2, ov (PTR gb_3 0)), (8, ov (S (rI .i64) x_9)), (9, ov (PTR gb_12 0)), (17, ov (S (rL Zad) extra_2)), (18, ov (S (rI .i64) (List.length extra_2 : Int))), (19, ov (S (rI .i64) x_9))])
         (fs := fun γ => [⟨some 24, ov (A Zad v11)⟩, ⟨some 25, ov (S rB v13)⟩, ⟨some 26, ov (S rB v14)⟩, ⟨some 27, ov (S rB v14)⟩, ⟨some 28, bif (!v14) then ov (S (rI .i64) x_9) else .one .und⟩, ⟨some 29, bif (!v14) then ov (S rB v15) else .one .und⟩, ⟨some 30, bif (!v14) then ov (S rB v15) else .one .und⟩, ⟨some 31, bif ((!v14) && v15) then ov (S (rL Zad) extra_2) else .one .und⟩, ⟨some 32, bif ((!v14) && v15) then ov (S (rI .i64) x_9) else .one .und⟩, ⟨some 33, bif ((!v14) && v15) then ov (S (rI .i64) v16) else .one .und⟩, ⟨some 34, bif ((!v14) && v15) then ov (PT Zad v17) else .one .und⟩, ⟨some 35, bif ((!v14) && v15) then ov (A Zad v17) else .one .und⟩, ⟨some 36, bif ((!v14) && v15) then ov (A Zad v11) else .one .und⟩, ⟨some 37, bif ((!v14) && v15) then ov (S rB v18) else .one .und⟩, ⟨some 38, bif ((!v14) && v15) then ov (S rB v19) else .one .und⟩, ⟨some 39, bif (!v14) then ov (S rB v20) else .one .und⟩, ⟨some 40, ov (S rB v21)⟩, ⟨some 41, ov (S rB v21)⟩, ⟨some 42, bif (!v21) then ov (PTR gb_12 (0 + 1)) else .one .und⟩, ⟨some 43, bif (!v21) then ov (S (rU UInt64) v11.Count) else .one .und⟩, ⟨some 44, bif (!v21) then ov (PTR gb_12 (0 + 0)) else .one .und⟩, ⟨some 45, bif (!v21) then ov (S (rI .i64) v11.Region) else .one .und⟩, ⟨some 46, bif (!v21) then ov (S (rI .i64) v22) else .one .und⟩, ⟨some 47, ov (PTR gb_3 (0 + i_23.1 * 1))⟩, ⟨some 48, ov (S (rU UInt64) v24)⟩, ⟨some 49, ov (S (rU UInt64) v25)⟩, ⟨some 50, ov (S rB v26)⟩, ⟨some 51, ov (S rB v26)⟩])
         (rs := fun γ => [⟨cvar gb_3 (rV 16 (rU UInt64)) v1, none, none, [24]⟩, ⟨cvar gb_12 Zad v11, none, none, [0, 12, 19, 21]⟩])
         (afts := nn 28) (js := [0, 0]) ZbT (.cons rfl (.cons rfl (.cons rfl (.cons rfl (.cons rfl (.cons rfl (.cons rfl .nil))))))) (fun _ => rfl)
         (by
      refine dR 1 (fun γ ρ B hb hd => Zan.lk ⟨ρ, (cvar gb_12 Zad v11) :: B, _⟩ (Zaw (j := 0) lb tA26 (.tmp (hb 9 _ rfl)) rfl (Comp.self Zad v11) rfl)) <| dS 2 (fun γ ρ B hb hd => (Zak (js := []) ld cl34 (Zep k v11 v13 hv_13) .func (.cons (tl hd 0 24) .nil) rfl).post (fun _ => Imp.refl)) <| dS 3 (fun γ ρ B hb hd => Zbc lb (tl hd 1 25) hv_14) <| dm 4 2 26 ?_
      refine dF 5 3 27 v14 (fun γ => ov (S (rI .i64) x_9)) (fun γ ρ B hb hd hq_9 => Zax lb (.tmp (hb 8 _ rfl))) ?_
      refine dF 6 3 27 v14 (fun γ => ov (S rB v15)) (fun γ ρ B hb hd hq_10 => Zaq lb (HasO.cnd (tl hd 4 28) (notT (notF hq_10))) .cI (cs hv_15)) ?_
      refine dF 7 3 27 v14 (fun γ => ov (S rB v15)) (fun γ ρ B hb hd hq_11 => Zax lb (HasO.cnd (tl hd 5 29) (notT (notF hq_11)))) ?_
      refine dA 8 6 30 (!v14) v15 (fun γ => ov (S (rL Zad) extra_2)) (fun γ ρ B hb hd hq_12 => Zax lb (.tmp (hb 1 _ rfl))) ?_
      refine dA 9 6 30 (!v14) v15 (fun γ => ov (S (rI .i64) x_9)) (fun γ ρ B hb hd hq_13 => Zax lb (.tmp (hb 8 _ rfl))) ?_
      refine dA 10 6 30 (!v14) v15 (fun γ => ov (S (rI .i64) v16)) (fun γ ρ B hb hd hq_14 => ZaY lb (HasO.cnd (tl hd 8 32) (andI (notT (notF (andL hq_14))) (andR hq_14))) .cI (cs hv_16)) ?_
      refine dA 11 6 30 (!v14) v15 (fun γ => ov (PT Zad v17)) (fun γ ρ B hb hd hq_15 => Zau lb tu33 tz26 (HasO.cnd (tl hd 7 31) (andI (notT (notF (andL hq_15))) (andR hq_15))) (HasO.cnd (tl hd 9 33) (andI (notT (notF (andL hq_15))) (andR hq_15))) (ifT hv_17 hq_15)) ?_
      refine dA 12 6 30 (!v14) v15 (fun γ => ov (A Zad v17)) (fun γ ρ B hb hd hq_16 => ZaR lb tA26 (HasO.cnd (tl hd 10 34) (andI (notT (notF (andL hq_16))) (andR hq_16))) rfl) ?_
      refine eA 13 6 30 (!v14) v15 (fun γ => ov (A Zad v11)) (fun γ ρ B hb hd hq_17 => Zan.lk ⟨ρ, (cvar gb_12 Zad v11) :: B, _⟩ (Zaw (j := 0) lb tA26 (.tmp (hb 9 _ rfl)) rfl (Comp.self Zad v11) rfl)) ?_
      refine dA 14 6 30 (!v14) v15 (fun γ => ov (S rB v18)) (fun γ ρ B hb hd hq_18 => (Zak (js := []) ld cl35 (ZeG k v17 v11 v18 (ifT hv_18 hq_18)) .func (.cons (HasO.cnd (tl hd 11 35) (andI (notT (notF (andL hq_18))) (andR hq_18))) (.cons (HasO.cnd (tl hd 12 36) (andI (notT (notF (andL hq_18))) (andR hq_18))) .nil)) rfl).post (fun _ => Imp.refl)) ?_
      refine dA 15 6 30 (!v14) v15 (fun γ => ov (S rB v19)) (fun γ ρ B hb hd hq_19 => Zbc lb (HasO.cnd (tl hd 13 37) (andI (notT (notF (andL hq_19))) (andR hq_19))) hv_19) ?_
      refine dF 16 3 27 v14 (fun γ => ov (S rB v20)) (fun γ ρ B hb hd hq_20 => Zao lb (HasO.cnd (tl hd 6 30) (notT (notF hq_20))) (fun hb21 => (HasO.cnd (tl hd 14 38) (andI (notT (notF hq_20)) hb21))) (fun hb21 => .cB) hv_20) ?_
      refine dS 17 (fun γ ρ B hb hd => Zao lb (tl hd 3 27) (fun hb22 => .cB) (fun hb22 => (HasO.cnd (tl hd 15 39) (notT hb22))) hv_21) <| dm 18 16 40 ?_
      refine dF 19 17 41 v21 (fun γ => ov (PTR gb_12 (0 + 1))) (fun γ ρ B hb hd hq_23 => Zaa (off := 1) lb ZdA (.tmp (hb 9 _ rfl))) ?_
      refine eF 20 17 41 v21 (fun γ => ov (S (rU UInt64) v11.Count)) (fun γ ρ B hb hd hq_24 => Zan.lk ⟨ρ, (cvar gb_12 Zad v11) :: B, _⟩ (Zai (j := 0) lb tS24 (HasO.cnd (tl hd 18 42) (notT (notF hq_24))) rfl (cT (ZaN v11) rfl) rfl rfl)) ?_
      refine dF 21 17 41 v21 (fun γ => ov (PTR gb_12 (0 + 0))) (fun γ ρ B hb hd hq_25 => Zaa (off := 0) lb Zcx (.tmp (hb 9 _ rfl))) ?_
      refine eF 22 17 41 v21 (fun γ => ov (S (rI .i64) v11.Region)) (fun γ ρ B hb hd hq_26 => Zan.lk ⟨ρ, (cvar gb_12 Zad v11) :: B, _⟩ (Zai (j := 0) lb tS3 (HasO.cnd (tl hd 20 44) (notT (notF hq_26))) rfl (cT (ZaC v11) rfl) rfl rfl)) ?_
      refine dF 23 17 41 v21 (fun γ => ov (S (rI .i64) v22)) (fun γ ρ B hb hd hq_27 => ZaY lb (HasO.cnd (tl hd 21 45) (notT (notF hq_27))) .cI (cs hv_22)) ?_
      refine dY 24 (fun γ ρ B hb hd => ⟨.yes rfl (ltB rfl) (hl hd 17 41 rfl) hc29, lkB (Zcy lb tr29 (.tmp (hb 2 _ rfl)) (HasO.cnd (tl hd 22 46) (notT hc29)) hv_i_23)⟩) <| dY 25 (fun γ ρ B hb hd => ⟨.yes rfl (ltB rfl) (hl hd 17 41 rfl) hc29, Zan.lk ⟨ρ, (cvar gb_3 (rV 16 (rU UInt64)) v1) :: B, _⟩ (Zai (j := 0) lb tS24 (tl hd 23 47) rfl (Comp.at (Comp.self (rV 16 (rU UInt64)) v1) i_23.2 rfl) rfl hv_24)⟩) <| dY 26 (fun γ ρ B hb hd => ⟨.yes rfl (ltB rfl) (hl hd 17 41 rfl) hc29, lkB (Zfb lb (tl hd 24 48) (HasO.cU (x := (1 : UInt64)) rfl (by decide)) (cs hv_25))⟩) <| dY 27 (fun γ ρ B hb hd => ⟨.yes rfl (ltB rfl) (hl hd 17 41 rfl) hc29, lkB (ZbH lb (HasO.cnd (tl hd 19 43) (notT hc29)) (tl hd 25 49) (cs hv_26))⟩) <| dS 28 (fun γ ρ B hb hd => Za6 lb (tl hd 17 41) hc29 (tl hd 26 50)) ?_
      exact ZaG.nil)
         (by decide +kernel) (fun _ => rfl) (fun _ => rfl) (fun _ => rfl) rfl
         (ρ' := fun γ => [(1, ov (S (rL Zad) extra_2)), (2, ov (PTR gb_3 0)), (17, ov (S (rL Zad) extra_2)), (18, ov (S (rI .i64) (List.length extra_2 : Int))), (19, ov (S (rI .i64) x_9)), (51, ov (S rB v26))])
         (X' := fun γ => [cvar gb_3 (rV 16 (rU UInt64)) v1, cvar gb_12 Zad v11])
         (fun γ ρ hb hd => (.cons (hb 1 _ rfl) (.cons (hb 2 _ rfl) (.cons (hb 17 _ rfl) (.cons (hb 18 _ rfl) (.cons (hb 19 _ rfl) (.cons (hdq hd 27 51 rfl) .nil))))))) (fun _ => rfl) (fun γ => ?_)
     refine JQ.at ⟨[(1, ov (S (rL Zad) extra_2)), (2, ov (PTR gb_3 0)), (17, ov (S (rL Zad) extra_2)), (18, ov (S (rI .i64) (List.length extra_2 : Int))), (19, ov (S (rI .i64) x_9)), (51, ov (S rB v26))], [cvar gb_3 (rV 16 (rU UInt64)) v1, cvar gb_12 Zad v11], []⟩ ?_
     try obtain rfl := so hx8
     exact JQ.join () (Imp.norm (js := [0]) rfl (.cons rfl (.cons rfl (.cons rfl (.cons rfl (.cons rfl (.cons rfl .nil)))))))
   refine JC.exit <| JQ.outX ?_
   try obtain rfl := so hx
   try obtain rfl := hr _ rfl
   dsimp only at hq6
   refine JQ.outX <| JQ.here ?_
   try obtain rfl := so hq6
   exact JQ.joinK () () rfl (Imp.norm (js := [0]) rfl (.cons rfl (.cons rfl .nil)))
 refine jr <| jc (Zaw (j := 0) lb tA29 tR rfl (Comp.self (rV 16 (rU UInt64)) v1) rfl) <| jc (Zax lb .cI) <| jn <| JC.block <| bI hx1 fun tv2 hL2 hq2 => JC.pre ?_ (JC.loop (γ := Unit) (stf := fun s q => ⟨[(1, ov (S (rL Zad) extra_2)), (2, ov (PTR gb_3 0)), (10, ov (A (rV 16 (rU UInt64)) v1)), (11, ov (S (rI .i64) s))], [cvar gb_3 (rV 16 (rU UInt64)) v1], []⟩) (q := ()) hL2 ?_)
 · exact (Imp.norm (js := [0]) rfl (.cons rfl (.cons rfl (.cons rfl (.cons rfl .nil)))))
 intro x_4 q x hx hr
 obtain _ := q
 change ctx_Of.b1 k v1 x_4 = some x at hx
 unfold ctx_Of.b1 at hx
 refine JC.at ⟨[(1, ov (S (rL Zad) extra_2)), (2, ov (PTR gb_3 0)), (10, ov (A (rV 16 (rU UInt64)) v1)), (11, ov (S (rI .i64) x_4))], [cvar gb_3 (rV 16 (rU UInt64)) v1], []⟩ <| jr <| lI hx fun v5 hv_5 hx => jc (Zaq lb tR .cI (cs hv_5)) <| jn <| JC.seq <| jif tR hx (fun hc3 hx => ?_) (fun hc3 hx => ?_)
 · refine JC.skip <| JQ.then <| JC.seq <| JC.block <| jr <| bI hx fun v6 hv_6 hx => jc (ZiD lb tu29 tS24 rfl tR tR hv_6) <| jc (Zab lb tR) <| jn <| jr <| jmv rfl rfl <| lI hx fun v7 hv_7 hx => jc (ZbH lb tR (HasO.cU (x := (4611686018427387904 : UInt64)) rfl (by decide)) (cs hv_7)) <| jn <| jif tR hx (fun hc4 hx => ?_) (fun hc4 hx => ?_)
   · refine jr <| jc (Zab lb (HasO.const (p := PTO none) fun _ => rfl)) <| jc (Zab lb .cI) <| jn <| JC.ret <| JQ.outRB <| JQ.outR ?_
     try obtain rfl := so hx
     try obtain rfl := hr _ rfl
     dsimp only at hq2
     refine JQ.outR <| JQ.outRB ?_
     try obtain rfl := so hq2
     dsimp only at hq1
     refine JQ.outR ?_
     obtain rfl := so hq1
     exact JQ.done (js := []) (ss := [.val (PTO none), .val (S (rI .i64) (2 : Int))]) () (.inl rfl) (.nil rfl) rfl (.cons (.tmp rfl) (.cons (.tmp rfl) .nil)) rfl rfl rfl
   refine JC.skip <| JQ.outNB <| JQ.then <| JC.region <| lI hx fun v8 hv_8 hx => jc (ZaY lb tR .cI (cs hv_8)) <| jmv rfl rfl <| JL.nil ?_
   try obtain rfl := so hx
   exact JQ.next () rfl (Imp.norm (js := [0]) rfl (.cons rfl (.cons rfl (.cons rfl (.cons rfl .nil)))))
 refine JC.exit <| JQ.outX ?_
 try obtain rfl := so hx
 try obtain rfl := hr _ rfl
 dsimp only at hq2
 refine JQ.outX <| JQ.here ?_
 try obtain rfl := so hq2
 exact JQ.joinK () () rfl (Imp.norm (js := [0]) rfl (.cons rfl (.cons rfl .nil)))

theorem ZiZ (k : Nat) (v1 : (Vector UInt64 16)) (extra_2 : (List Zaf)) (r : (List Zaf)) (hm : ctx_Of k v1 extra_2 = some (.inl r)) : Sim Tryz.prog 87 [A (rV 16 (rU UInt64)) v1, S (rL Zad) extra_2] [] (γ := Nat × Option Nat × Nat) (fun q => [cvar q.1 (rP (rV 16 (rU UInt64)) (rP (rW (HDR q.2.1 0 (List.length r) q.2.2)) (rP rB r0))) (v1, ((), (true, ()))), cown q.2.1 Zad r 0 q.2.2]) (fun q => .tup [.val (PTR q.1 0), .val (S (rI .i64) (0 : Int))]) := ZgL k v1 extra_2 (.inl r) hm

theorem ZiM (k : Nat) (v1 : (Vector UInt64 16)) (extra_2 : (List Zaf)) (r : Int) (hm : ctx_Of k v1 extra_2 = some (.inr r)) : Sim Tryz.prog 87 [A (rV 16 (rU UInt64)) v1, S (rL Zad) extra_2] [] (γ := Unit) (fun q => []) (fun q => .tup [.val (PTO none), .val (S (rI .i64) r)]) := ZgL k v1 extra_2 (.inr r) hm

theorem Zga (k : Nat) (f_1 : Zah) (r : Bool) (hm : Zef k f_1 = some r) : Sim Tryz.prog 36 [A Zae f_1] [] (γ := Unit) (fun q => []) (fun q => .one (.val (S rB r))) := by
 unfold Zef at hm
 refine Sim.of Tryz.func36 rfl rfl (lE rfl) (fun e0 w0 => ?_)
 refine JC.at ⟨[(0, ov (A Zae f_1))], [], []⟩ <| jr <| jx (ZaX lb tR) fun gb_2 => jc (Zab lb .cB) <| jn <| jr <| jc (Zaa (off := 41) lb Ze8 tR) <| jc (Zaw (j := 0) lb tA29 tR rfl (cT (Zbf f_1) rfl) rfl) <| jc (Zaa (off := 57) lb ZeH tR) <| jc (Zai (j := 0) lb tS33 tR rfl (cT (Za3 f_1) rfl) rfl rfl) ?_
 obtain ⟨ts1, hs1, hm⟩ := Zay hm
 rcases ts1 with ts1 | ts1
 · obtain ⟨v3, hvv⟩ : ∃ z, z = ts1 := ⟨_, rfl⟩
   subst hvv
   dsimp only at hm
   refine jx (Zak (js := []) ld cl87 (ZiZ k f_1.Seen f_1.Extra v3 hs1) .func (.cons tR (.cons tR .nil)) rfl) (fun q => ?_)
   obtain ⟨gb_4, go_5, gc_6⟩ := q
   refine jmv rfl rfl <| JL.nrm ⟨[(5, .tup [.val (PTR gb_4 0), .val (S (rI .i64) (0 : Int))])], [cvar gb_4 (zq20 go_5 v3 gc_6) (f_1.Seen, ((), (true, ()))), cown go_5 Zad v3 0 gc_6], []⟩ [0, 0] rfl (.cons rfl .nil) rfl <| jc (Zaz (i := 0) lb tR rfl) <| jc (Zaz (i := 1) lb tR rfl) <| jc (Zab lb tR) <| jc (Zab lb tR) <| jn <| jr <| jmv rfl rfl <| jc (Zaq lb tR .cI (cs (by decide : ((0 : Int) == (0 : Int)) = true))) <| jc (Zab lb tR) <| jn <| JC.ret ?_
   obtain rfl := so hm
   exact jd (.val (S rB true)) rfl rfl rfl rfl rfl rfl
 obtain ⟨v7, hvv⟩ : ∃ z, z = ts1 := ⟨_, rfl⟩
 subst hvv
 dsimp only at hm
 refine jx (Zak (js := []) ld cl87 (ZiM k f_1.Seen f_1.Extra v7 hs1) .func (.cons tR (.cons tR .nil)) rfl) fun _ => jmv rfl rfl <| JL.nrm ⟨[(5, .tup [.val (PTO none), .val (S (rI .i64) v7)])], [], []⟩ [] rfl (.cons rfl .nil) rfl <| jc (Zaz (i := 0) lb tR rfl) <| jc (Zaz (i := 1) lb tR rfl) <| jc (Zab lb tR) <| jc (Zab lb tR) <| jn <| jr <| jmv rfl rfl <| lI hm fun v8 hv_8 hm => jc (Zaq lb tR .cI (cs hv_8)) <| jc (Zab lb tR) <| jn <| JC.ret ?_
 obtain rfl := so hm
 exact jd (.val (S rB v8)) rfl rfl rfl rfl rfl rfl

theorem Zec (k : Nat) (t_1 : Zah) (r : Bool) (hm : frame_May k t_1 = some r) : Sim Tryz.prog 11 [A Zae t_1] [] (γ := Unit) (fun q => []) (fun q => .one (.val (S rB r))) := by
 unfold frame_May at hm
 refine Sim.of Tryz.func11 rfl rfl (lE rfl) (fun e0 w0 => ?_)
 refine JC.at ⟨[(0, ov (A Zae t_1))], [], []⟩ <| jr <| jx (ZaX lb tR) fun gb_2 => jc (Zab lb .cB) <| jn <| JC.seq <| bI hm fun x_16 hx1 hq1 => JC.seqJ (γ := Unit) (stj := fun _ => ⟨[(1, ov (PTR gb_2 0)), (41, ov (S rB x_16))], [cvar gb_2 Zae t_1], []⟩) (fun _ => ?_) ?_
 · refine jif tR hq1 (fun hc26 hq1 => ?_) (fun hc26 hq1 => ?_)
   · refine jr <| jc (Zab lb .cB) <| jn <| JC.ret <| JQ.outR ?_
     obtain rfl := so hq1
     exact jd (.val (S rB false)) rfl rfl rfl rfl rfl rfl
   refine JC.skip <| JQ.then <| jr <| jc (Zab lb .func) <| jn <| bI hq1 fun tv27 hx27 hq27 => JC.seqK (α := Unit) (γ := Unit) (stj := fun v q => ⟨[], [], []⟩) (p := fun v => tv27 = (.inl v)) (fun v q hv => ?_) ?_
   · subst hv
     skip
     obtain _ := q
     dsimp only at hq27
     refine JC.at ⟨[], [], []⟩ <| jr <| jc (Zab lb .cB) <| jn <| JC.ret ?_
     obtain rfl := so hq27
     exact jd (.val (S rB false)) rfl rfl rfl rfl rfl rfl
   refine jr <| jc (Zaa (off := 0) lb Zeu tR) <| jc (Zai (j := 0) lb tS22 tR rfl (cT (ZaS t_1) rfl) rfl rfl) <| jn <| JC.block <| jr <| lI hx27 fun v17 hv_17 hx27 => jc (Zaq lb tR .cI (cs hv_17)) <| jc (Zab lb tR) <| jn <| jif tR hx27 (fun hc28 hx27 => ?_) (fun hc28 hx27 => ?_)
   · refine bI hx27 fun x_21 hx29 hq29 => JC.seqJ (γ := Unit) (stj := fun _ => ⟨[(2, ov (S rB x_21))], [], []⟩) (fun _ => ?_) ?_
     · refine JC.ret <| JQ.outRB ?_
       try obtain rfl := so hq29
       dsimp only at hq27
       refine JQ.outR ?_
       obtain rfl := so hq27
       exact jd (.val (S rB x_21)) rfl rfl rfl rfl rfl rfl
     refine JC.region <| jc (Zaa (off := 3) lb ZcK tR) <| jc (Zai (j := 0) lb tS23 tR rfl (cT (ZaH t_1) rfl) rfl rfl) <| jc (ZaE lb tu23 tR) <| lI hx29 fun v18 hv_18 hx29 => jc (Zaq lb tR .cI (cs hv_18)) <| jmv rfl rfl <| jT (ov (A Zae t_1)) rfl rfl rfl rfl (fun hq_30 => Zaw (j := 0) lb tA39 tR rfl (Comp.self Zae t_1) rfl) <| bI hx29 fun v19 hv_19 hx29 => jT (ov (S rB v19)) rfl rfl rfl rfl (fun hq_31 => (Zak (js := []) ld cl30 (ZfZ k t_1 v19 (ifT hv_19 hq_31)) .func (.cons (HasO.cnd tR hq_31) .nil) rfl).post (fun _ => Imp.refl)) <| JL.nrm ⟨[(50, ov (S rB v18)), (52, bif v18 then ov (S rB v19) else .one .und)], [], []⟩ [] rfl (.cons rfl (.cons rfl .nil)) rfl <| lI hx29 fun v20 hv_20 hx29 => jc (Zao lb tR (fun hb32 => (HasO.cnd tR hb32)) (fun hb32 => .cB) hv_20) <| jc (Zab lb tR) <| JL.nil ?_
     try obtain rfl := so hx29
     exact jo rfl rfl rfl
   refine jr <| lI hx27 fun v22 hv_22 hx27 => jc (Zaq lb tR .cI (cs hv_22)) <| jc (Zab lb tR) <| jn <| jif tR hx27 (fun hc33 hx27 => ?_) (fun hc33 hx27 => ?_)
   · refine jr <| jc (Zaa (off := 4) lb Zgi tR) <| jc (Zaw (j := 0) lb tA32 tR rfl (cT (Zbl t_1) rfl) rfl) <| bI hx27 fun v23 hv_23 hx27 => jx (Zak (js := []) ld cl31 (Zfo k t_1.Event v23 hv_23) .func (.cons tR .nil) rfl) fun _ => jc (Zab lb tR) <| jn <| JC.ret <| JQ.outRB ?_
     try obtain rfl := so hx27
     dsimp only at hq27
     refine JQ.outR ?_
     obtain rfl := so hq27
     exact jd (.val (S rB v23)) rfl rfl rfl rfl rfl rfl
   refine jr <| lI hx27 fun v24 hv_24 hx27 => jc (Zaq lb tR .cI (cs hv_24)) <| jc (Zab lb tR) <| jn <| jif tR hx27 (fun hc34 hx27 => ?_) (fun hc34 hx27 => ?_)
   · refine jr <| jc (Zaa (off := 25) lb Zgy tR) <| bI hx27 fun v25 hv_25 hx27 => JL.pre (Imp.frzVar (j := 0) rfl (ImpK.slotP (s := 1) rfl (Comp.self Zae t_1) (ImpK.slotP (s := 42) rfl (cT (ZaS t_1) rfl) (ImpK.slotP (s := 61) rfl (cT (Zby t_1) rfl) ImpK.refl)))) <| jc (Zgw lb tu29 tz24 tR .none .none hv_25) <| JL.sub ⟨[(62, ov (S (rL (rU UInt64)) v25))], [], []⟩ (.cons rfl .nil) rfl rfl <| bI hx27 fun v26 hv_26 hx27 => jx (Zak (js := []) ld cl32 (ZcU k v25 v26 hv_26) .func (.cons tR (.cons .func .nil)) rfl) fun _ => lI hx27 fun v27 hv_27 hx27 => jc (Zbc lb tR hv_27) <| jc (Zab lb tR) <| jn ?_
     refine JC.ret <| JQ.outRB ?_
     try obtain rfl := so hx27
     dsimp only at hq27
     refine JQ.outR ?_
     obtain rfl := so hq27
     exact jd (.val (S rB v27)) rfl rfl rfl rfl rfl rfl
   refine jr <| lI hx27 fun v28 hv_28 hx27 => jc (Zaq lb tR .cI (cs hv_28)) <| jc (Zab lb tR) <| jn <| jif tR hx27 (fun hc35 hx27 => ?_) (fun hc35 hx27 => ?_)
   · refine bI hx27 fun tv36 hx36 hq36 => JC.seqK (α := Unit) (γ := Unit) (stj := fun v q => ⟨[(1, ov (PTR gb_2 0))], [cvar gb_2 Zae t_1], []⟩) (p := fun v => tv36 = (.inl v)) (fun v q hv => ?_) ?_
     · subst hv
       skip
       obtain _ := q
       dsimp only at hq36
       refine JC.at ⟨[(1, ov (PTR gb_2 0))], [cvar gb_2 Zae t_1], []⟩ <| bI hq36 fun x_48 hx59 hq59 => JC.seqJ (γ := Unit) (stj := fun _ => ⟨[(2, ov (S rB x_48))], [], []⟩) (fun _ => ?_) ?_
       · refine JC.ret <| JQ.outRB ?_
         try obtain rfl := so hq59
         dsimp only at hq27
         refine JQ.outR ?_
         obtain rfl := so hq27
         exact jd (.val (S rB x_48)) rfl rfl rfl rfl rfl rfl
       refine JC.region <| jc (Zaa (off := 58) lb Zd6 tR) <| jc (Zai (j := 0) lb tS33 tR rfl (cT (ZaT t_1) rfl) rfl rfl) <| jc (ZaE lb tu33 tR) <| lI hx59 fun v45 hv_45 hx59 => jc (Zaq lb tR .cI (cs hv_45)) <| jmv rfl rfl <| jT (ov (A Zae t_1)) rfl rfl rfl rfl (fun hq_60 => Zaw (j := 0) lb tA39 tR rfl (Comp.self Zae t_1) rfl) <| bI hx59 fun v46 hv_46 hx59 => jT (ov (S rB v46)) rfl rfl rfl rfl (fun hq_61 => (Zak (js := []) ld cl36 (Zga k t_1 v46 (ifT hv_46 hq_61)) .func (.cons (HasO.cnd tR hq_61) .nil) rfl).post (fun _ => Imp.refl)) <| lI hx59 fun v47 hv_47 hx59 => jc (Zao lb tR (fun hb62 => (HasO.cnd tR hb62)) (fun hb62 => .cB) hv_47) <| jc (Zab lb tR) <| JL.nil ?_
       try obtain rfl := so hx59
       exact jo rfl rfl rfl
     refine jr <| jc (Zaa (off := 58) lb Zd6 tR) <| JL.sub ⟨[(1, ov (PTR gb_2 0)), (3, ov (CLO 29 [])), (67, ov (PTR gb_2 (0 + 58)))], [cvar gb_2 Zae t_1], []⟩ (.cons rfl (.cons rfl (.cons rfl .nil))) rfl rfl <| jc (Zai (j := 0) lb tS33 tR rfl (cT (ZaT t_1) rfl) rfl rfl) <| jc (ZaE lb tu33 tR) <| jc (Zax lb .cI) <| jn <| JC.block <| bI hx36 fun tv37 hL37 hq37 => JC.pre ?_ (JC.loop (γ := Unit) (stf := fun s q => ⟨[(1, ov (PTR gb_2 0)), (3, ov (CLO 29 [])), (68, ov (S (rL Zad) t_1.Live)), (69, ov (S (rI .i64) (List.length t_1.Live : Int))), (70, ov (S (rI .i64) s))], [cvar gb_2 Zae t_1], []⟩) (q := ()) hL37 ?_)
     · exact (Imp.norm (js := [0]) rfl (.cons rfl (.cons rfl (.cons rfl (.cons rfl (.cons rfl .nil))))))
     intro x_29 q x hx hr
     obtain _ := q
     change frame_May.b1 k t_1 x_29 = some x at hx
     unfold frame_May.b1 at hx
     refine JC.at ⟨[(1, ov (PTR gb_2 0)), (3, ov (CLO 29 [])), (68, ov (S (rL Zad) t_1.Live)), (69, ov (S (rI .i64) (List.length t_1.Live : Int))), (70, ov (S (rI .i64) x_29))], [cvar gb_2 Zae t_1], []⟩ <| jr <| lI hx fun v30 hv_30 hx => jc (Zaq lb tR tR (cs hv_30)) <| jn <| JC.seq <| jif tR hx (fun hc38 hx => ?_) (fun hc38 hx => ?_)
     · refine JC.skip <| JQ.then <| JC.seq <| JC.block <| jr <| jmv rfl rfl <| bI hx fun v31 hv_31 hx => jc (Zau lb tu33 tz26 tR tR hv_31) <| jc (ZaR lb tA26 tR rfl) <| jx (Zbh lb tZ26 zr26) fun gb_32 => jc (Zab lb tR) <| jc (ZaP (j := 1) tA26 tR tR rfl (UpdR.self (by rfl)) rfl) <| jn <| bI hx fun x_43 hx39 hq39 => JC.seqJ (γ := Unit) (stj := fun _ => ⟨[(1, ov (PTR gb_2 0)), (3, ov (CLO 29 [])), (68, ov (S (rL Zad) t_1.Live)), (69, ov (S (rI .i64) (List.length t_1.Live : Int))), (70, ov (S (rI .i64) x_29)), (95, ov (S rB x_43))], [cvar gb_2 Zae t_1], []⟩) (fun _ => ?_) ?_
       · refine jif tR hq39 (fun hc58 hq39 => ?_) (fun hc58 hq39 => ?_)
         · refine jr <| jc (Zab lb .cB) <| jn <| JC.ret <| JQ.outRB <| JQ.outR ?_
           try obtain rfl := so hq39
           try obtain rfl := hr _ rfl
           dsimp only at hq37
           refine JQ.outR <| JQ.outRB ?_
           try obtain rfl := so hq37
           dsimp only at hq36
           refine JQ.outR <| JQ.outRB ?_
           try obtain rfl := so hq36
           dsimp only at hq27
           refine JQ.outR ?_
           obtain rfl := so hq27
           exact jd (.val (S rB false)) rfl rfl rfl rfl rfl rfl
         refine JC.skip <| JQ.outNB <| JQ.then <| JC.region <| lI hq39 fun v44 hv_44 hq39 => jc (ZaY lb tR .cI (cs hv_44)) <| jmv rfl rfl <| JL.nil ?_
         try obtain rfl := so hq39
         exact JQ.next () rfl (Imp.norm (js := [0]) rfl (.cons rfl (.cons rfl (.cons rfl (.cons rfl (.cons rfl .nil))))))
       refine bI hx39 fun v33 hv_33 hx39 => lI hx39 fun v34 hv_34 hx39 => lI hx39 fun v35 hv_35 hx39 => lI hx39 fun v36 hv_36 hx39 => bI hx39 fun v37 hv_37 hx39 => bI hx39 fun v38 hv_38 hx39 => lI hx39 fun v39 hv_39 hx39 => bI hx39 fun v40 hv_40 hx39 => ?_
       obtain ⟨v41, hv_41, hx39⟩ := ZaQ hx39
       obtain ⟨v42, hv_42, hx39⟩ := ZaQ hx39
       refine JC.anyF (base := [(1, ov (PTR gb_2 0)), (3, ov (CLO 29 [])), (4, ov (S (rI .i64) x_29)), (5, ov (PTR gb_32 0)), (68, ov (S (rL Zad) t_1.Live)), (69, ov (S (rI .i64) (List.length t_1.Live : Int))), (70, ov (S (rI .i64) x_29))])
           (fs := fun γ => [⟨some 75, ov (A Zad v31)⟩, ⟨some 76, ov (S rB v33)⟩, ⟨some 77, ov (S rB v34)⟩, ⟨some 78, ov (S rB v34)⟩, ⟨some 79, bif (!v34) then ov (CLO 29 []) else .one .und⟩, ⟨some 80, bif (!v34) then ov (S (rI .i64) x_29) else .one .und⟩, ⟨some 81, bif (!v34) then ov (S (rI .i64) x_29) else .one .und⟩, ⟨some 82, bif (!v34) then ov (S rB v35) else .one .und⟩, ⟨some 83, bif (!v34) then ov (S rB v35) else .one .und⟩, ⟨some 84, bif ((!v34) && v35) then ov (PTR gb_2 (0 + 58)) else .one .und⟩, ⟨some 85, bif ((!v34) && v35) then ov (S (rL Zad) t_1.Live) else .one .und⟩, ⟨some 86, bif ((!v34) && v35) then ov (S (rI .i64) x_29) else .one .und⟩, ⟨some 87, bif ((!v34) && v35) then ov (S (rI .i64) v36) else .one .und⟩, ⟨some 88, bif ((!v34) && v35) then ov (PT Zad v37) else .one .und⟩, ⟨some 89, bif ((!v34) && v35) then ov (A Zad v37) else .one .und⟩, ⟨some 90, bif ((!v34) && v35) then ov (A Zad v31) else .one .und⟩, ⟨some 91, bif ((!v34) && v35) then ov (S rB v38) else .one .und⟩, ⟨some 92, bif (!v34) then ov (S rB v39) else .one .und⟩, ⟨some 93, bif (!v34) then ov (S rB v40) else .one .und⟩, ⟨some 94, bif (!v34) then ov (S rB v41) else .one .und⟩, ⟨some 95, ov (S rB v42)⟩])
           (rs := fun γ => [⟨cvar gb_2 Zae t_1, none, none, [10]⟩, ⟨cvar gb_32 Zad v31, none, none, [0, 15]⟩])
           (afts := nn 21) (js := [0, 0]) ZbT (.cons rfl (.cons rfl (.cons rfl (.cons rfl (.cons rfl (.cons rfl (.cons rfl .nil))))))) (fun _ => rfl)
           (by
      refine dR 1 (fun γ ρ B hb hd => Zan.lk ⟨ρ, (cvar gb_32 Zad v31) :: B, _⟩ (Zaw (j := 0) lb tA26 (.tmp (hb 5 _ rfl)) rfl (Comp.self Zad v31) rfl)) <| dS 2 (fun γ ρ B hb hd => (Zak (js := []) ld cl34 (Zep k v31 v33 hv_33) .func (.cons (tl hd 0 75) .nil) rfl).post (fun _ => Imp.refl)) <| dS 3 (fun γ ρ B hb hd => Zbc lb (tl hd 1 76) hv_34) <| dm 4 2 77 ?_
      refine dF 5 3 78 v34 (fun γ => ov (CLO 29 [])) (fun γ ρ B hb hd hq_40 => Zax lb (.tmp (hb 3 _ rfl))) ?_
      refine dF 6 3 78 v34 (fun γ => ov (S (rI .i64) x_29)) (fun γ ρ B hb hd hq_41 => Zax lb (.tmp (hb 4 _ rfl))) ?_
      refine dF 7 3 78 v34 (fun γ => ov (S (rI .i64) x_29)) (fun γ ρ B hb hd hq_42 => Zax lb (.tmp (hb 4 _ rfl))) ?_
      refine dF 8 3 78 v34 (fun γ => ov (S rB v35)) (fun γ ρ B hb hd hq_43 => Zaq lb (HasO.cnd (tl hd 6 81) (notT (notF hq_43))) .cI (cs hv_35)) ?_
      refine dF 9 3 78 v34 (fun γ => ov (S rB v35)) (fun γ ρ B hb hd hq_44 => Zax lb (HasO.cnd (tl hd 7 82) (notT (notF hq_44)))) ?_
      refine dA 10 8 83 (!v34) v35 (fun γ => ov (PTR gb_2 (0 + 58))) (fun γ ρ B hb hd hq_45 => Zaa (off := 58) lb Zd6 (.tmp (hb 1 _ rfl))) ?_
      refine eA 11 8 83 (!v34) v35 (fun γ => ov (S (rL Zad) t_1.Live)) (fun γ ρ B hb hd hq_46 => Zan.lk ⟨ρ, (cvar gb_2 Zae t_1) :: B, _⟩ (Zai (j := 0) lb tS33 (HasO.cnd (tl hd 9 84) (andI (notT (notF (andL hq_46))) (andR hq_46))) rfl (cT (ZaT t_1) rfl) rfl rfl)) ?_
      refine dA 12 8 83 (!v34) v35 (fun γ => ov (S (rI .i64) x_29)) (fun γ ρ B hb hd hq_47 => Zax lb (.tmp (hb 4 _ rfl))) ?_
      refine dA 13 8 83 (!v34) v35 (fun γ => ov (S (rI .i64) v36)) (fun γ ρ B hb hd hq_48 => ZaY lb (HasO.cnd (tl hd 11 86) (andI (notT (notF (andL hq_48))) (andR hq_48))) .cI (cs hv_36)) ?_
      refine dA 14 8 83 (!v34) v35 (fun γ => ov (PT Zad v37)) (fun γ ρ B hb hd hq_49 => Zau lb tu33 tz26 (HasO.cnd (tl hd 10 85) (andI (notT (notF (andL hq_49))) (andR hq_49))) (HasO.cnd (tl hd 12 87) (andI (notT (notF (andL hq_49))) (andR hq_49))) (ifT hv_37 hq_49)) ?_
      refine dA 15 8 83 (!v34) v35 (fun γ => ov (A Zad v37)) (fun γ ρ B hb hd hq_50 => ZaR lb tA26 (HasO.cnd (tl hd 13 88) (andI (notT (notF (andL hq_50))) (andR hq_50))) rfl) ?_
      refine eA 16 8 83 (!v34) v35 (fun γ => ov (A Zad v31)) (fun γ ρ B hb hd hq_51 => Zan.lk ⟨ρ, (cvar gb_32 Zad v31) :: B, _⟩ (Zaw (j := 0) lb tA26 (.tmp (hb 5 _ rfl)) rfl (Comp.self Zad v31) rfl)) ?_
      refine dA 17 8 83 (!v34) v35 (fun γ => ov (S rB v38)) (fun γ ρ B hb hd hq_52 => (Zak (js := []) ld cl35 (ZeG k v37 v31 v38 (ifT hv_38 hq_52)) .func (.cons (HasO.cnd (tl hd 14 89) (andI (notT (notF (andL hq_52))) (andR hq_52))) (.cons (HasO.cnd (tl hd 15 90) (andI (notT (notF (andL hq_52))) (andR hq_52))) .nil)) rfl).post (fun _ => Imp.refl)) ?_
      refine dF 18 3 78 v34 (fun γ => ov (S rB v39)) (fun γ ρ B hb hd hq_53 => Zao lb (HasO.cnd (tl hd 8 83) (notT (notF hq_53))) (fun hb54 => (HasO.cnd (tl hd 16 91) (andI (notT (notF hq_53)) hb54))) (fun hb54 => .cB) hv_39) ?_
      refine dF 19 3 78 v34 (fun γ => ov (S rB v40)) (fun γ ρ B hb hd hq_55 => (Zak (js := []) ld cl29 (Zek k x_29 v39 v40 (ifT hv_40 hq_55)) (HasO.cnd (tl hd 4 79) (notT (notF hq_55))) (.cons (HasO.cnd (tl hd 5 80) (notT (notF hq_55))) (.cons (HasO.cnd (tl hd 17 92) (notT (notF hq_55))) .nil)) rfl).post (fun _ => Imp.refl)) ?_
      refine dF 20 3 78 v34 (fun γ => ov (S rB v41)) (fun γ ρ B hb hd hq_56 => Zbc lb (HasO.cnd (tl hd 18 93) (notT (notF hq_56))) hv_41) ?_
      refine dS 21 (fun γ ρ B hb hd => Zao lb (tl hd 3 78) (fun hb57 => .cB) (fun hb57 => (HasO.cnd (tl hd 19 94) (notT hb57))) hv_42) ?_
      exact ZaG.nil)
           (by decide +kernel) (fun _ => rfl) (fun _ => rfl) (fun _ => rfl) rfl
           (ρ' := fun γ => [(1, ov (PTR gb_2 0)), (3, ov (CLO 29 [])), (68, ov (S (rL Zad) t_1.Live)), (69, ov (S (rI .i64) (List.length t_1.Live : Int))), (70, ov (S (rI .i64) x_29)), (95, ov (S rB v42))])
           (X' := fun γ => [cvar gb_2 Zae t_1, cvar gb_32 Zad v31])
           (fun γ ρ hb hd => (.cons (hb 1 _ rfl) (.cons (hb 3 _ rfl) (.cons (hb 68 _ rfl) (.cons (hb 69 _ rfl) (.cons (hb 70 _ rfl) (.cons (hdq hd 20 95 rfl) .nil))))))) (fun _ => rfl) (fun γ => ?_)
       refine JQ.at ⟨[(1, ov (PTR gb_2 0)), (3, ov (CLO 29 [])), (68, ov (S (rL Zad) t_1.Live)), (69, ov (S (rI .i64) (List.length t_1.Live : Int))), (70, ov (S (rI .i64) x_29)), (95, ov (S rB v42))], [cvar gb_2 Zae t_1, cvar gb_32 Zad v31], []⟩ ?_
       try obtain rfl := so hx39
       exact JQ.join () (Imp.norm (js := [0]) rfl (.cons rfl (.cons rfl (.cons rfl (.cons rfl (.cons rfl (.cons rfl .nil)))))))
     refine JC.exit <| JQ.outX ?_
     try obtain rfl := so hx
     try obtain rfl := hr _ rfl
     dsimp only at hq37
     refine JQ.outX <| JQ.here ?_
     try obtain rfl := so hq37
     exact JQ.joinK () () rfl (Imp.norm (js := [0]) rfl (.cons rfl .nil))
   refine jr <| lI hx27 fun v49 hv_49 hx27 => jc (Zaq lb tR .cI (cs hv_49)) <| JL.sub ⟨[(1, ov (PTR gb_2 0)), (3, ov (CLO 29 [])), (43, ov (S (rI .i64) t_1.Kind)), (106, ov (S rB v49))], [cvar gb_2 Zae t_1], []⟩ (.cons rfl (.cons rfl (.cons rfl (.cons rfl .nil)))) rfl rfl <| jc (Zab lb tR) <| jn <| jif tR hx27 (fun hc63 hx27 => ?_) (fun hc63 hx27 => ?_)
   · refine jr <| jc (Zab lb .cB) <| jn <| JC.ret <| JQ.outRB ?_
     try obtain rfl := so hx27
     dsimp only at hq27
     refine JQ.outR ?_
     obtain rfl := so hq27
     exact jd (.val (S rB true)) rfl rfl rfl rfl rfl rfl
   refine jr <| lI hx27 fun v50 hv_50 hx27 => jc (Zaq lb tR .cI (cs hv_50)) <| jc (Zab lb tR) <| jn <| jif tR hx27 (fun hc64 hx27 => ?_) (fun hc64 hx27 => ?_)
   · refine jr <| jc (Zaa (off := 91) lb ZeT tR) <| jc (Zai (j := 0) lb tS36 tR rfl (cT (Zbd t_1) rfl) rfl rfl) <| jc (ZaE lb tu36 tR) <| lI hx27 fun v51 hv_51 hx27 => jc (Zaq lb tR .cI (cs hv_51)) <| jc (Zab lb tR) <| jn <| JC.ret <| JQ.outRB ?_
     try obtain rfl := so hx27
     dsimp only at hq27
     refine JQ.outR ?_
     obtain rfl := so hq27
     exact jd (.val (S rB v51)) rfl rfl rfl rfl rfl rfl
   refine jr <| lI hx27 fun v52 hv_52 hx27 => jc (Zaq lb tR .cI (cs hv_52)) <| jc (Zab lb tR) <| jn <| jif tR hx27 (fun hc65 hx27 => ?_) (fun hc65 hx27 => ?_)
   · refine bI hx27 fun tv66 hx66 hq66 => JC.seqK (α := Unit) (γ := Unit) (stj := fun v q => ⟨[(1, ov (PTR gb_2 0)), (3, ov (CLO 29 []))], [cvar gb_2 Zae t_1], []⟩) (p := fun v => tv66 = (.inl v)) (fun v q hv => ?_) ?_
     · subst hv
       skip
       obtain _ := q
       dsimp only at hq66
       refine JC.at ⟨[(1, ov (PTR gb_2 0)), (3, ov (CLO 29 []))], [cvar gb_2 Zae t_1], []⟩ <| bI hq66 fun tv92 hx92 hq92 => JC.seqK (α := Unit) (γ := Unit) (stj := fun v q => ⟨[(1, ov (PTR gb_2 0))], [cvar gb_2 Zae t_1], []⟩) (p := fun v => tv92 = (.inl v)) (fun v q hv => ?_) ?_
       · subst hv
         skip
         obtain _ := q
         dsimp only at hq92
         refine JC.at ⟨[(1, ov (PTR gb_2 0))], [cvar gb_2 Zae t_1], []⟩ <| bI hq92 fun x_87 hx108 hq108 => JC.seqJ (γ := Unit) (stj := fun _ => ⟨[(2, ov (S rB x_87))], [], []⟩) (fun _ => ?_) ?_
         · refine JC.ret <| JQ.outRB ?_
           try obtain rfl := so hq108
           dsimp only at hq27
           refine JQ.outR ?_
           obtain rfl := so hq27
           exact jd (.val (S rB x_87)) rfl rfl rfl rfl rfl rfl
         refine JC.region <| jc (Zaa (off := 92) lb ZcE tR) <| jc (Zai (j := 0) lb tS37 tR rfl (cT (ZaJ t_1) rfl) rfl rfl) <| jc (ZaE lb tu37 tR) <| lI hx108 fun v82 hv_82 hx108 => jc (Zaq lb tR .cI (cs hv_82)) <| jmv rfl rfl <| jT (ov (A Zae t_1)) rfl rfl rfl rfl (fun hq_109 => Zaw (j := 0) lb tA39 tR rfl (Comp.self Zae t_1) rfl) <| bI hx108 fun v83 hv_83 hx108 => jT (ov (S rB v83)) rfl rfl rfl rfl (fun hq_110 => (Zak (js := []) ld cl30 (ZfZ k t_1 v83 (ifT hv_83 hq_110)) .func (.cons (HasO.cnd tR hq_110) .nil) rfl).post (fun _ => Imp.refl)) <| lI hx108 fun v84 hv_84 hx108 => jc (Zao lb tR (fun hb111 => (HasO.cnd tR hb111)) (fun hb111 => .cB) hv_84) <| jmv rfl rfl <| jT (ov (A Zae t_1)) rfl rfl rfl rfl (fun hq_112 => Zaw (j := 0) lb tA39 tR rfl (Comp.self Zae t_1) rfl) ?_
         refine bI hx108 fun v85 hv_85 hx108 => jT (ov (S rB v85)) rfl rfl rfl rfl (fun hq_113 => (Zak (js := []) ld cl36 (Zga k t_1 v85 (ifT hv_85 hq_113)) .func (.cons (HasO.cnd tR hq_113) .nil) rfl).post (fun _ => Imp.refl)) <| lI hx108 fun v86 hv_86 hx108 => jc (Zao lb tR (fun hb114 => (HasO.cnd tR hb114)) (fun hb114 => .cB) hv_86) <| JL.nrm ⟨[(186, ov (S rB v86))], [], []⟩ [] rfl (.cons rfl .nil) rfl <| jc (Zab lb tR) <| JL.nil ?_
         try obtain rfl := so hx108
         exact jo rfl rfl rfl
       refine jr <| jc (Zaa (off := 3) lb ZcK tR) <| jc (Zai (j := 0) lb tS23 tR rfl (cT (ZaH t_1) rfl) rfl rfl) <| jc (ZaE lb tu23 tR) <| jc (Zax lb .cI) <| jn <| JC.block <| bI hx92 fun tv93 hL93 hq93 => JC.pre ?_ (JC.loop (γ := Unit) (stf := fun s q => ⟨[(1, ov (PTR gb_2 0)), (3, ov (CLO 29 [])), (149, ov (S (rL Zaj) t_1.Items)), (150, ov (S (rI .i64) (List.length t_1.Items : Int))), (151, ov (S (rI .i64) s))], [cvar gb_2 Zae t_1], []⟩) (q := ()) hL93 ?_)
       · exact (Imp.norm (js := [0]) rfl (.cons rfl (.cons rfl (.cons rfl (.cons rfl (.cons rfl .nil))))))
       intro x_69 q x hx hr
       obtain _ := q
       change frame_May.b3 k t_1 x_69 = some x at hx
       unfold frame_May.b3 at hx
       refine JC.at ⟨[(1, ov (PTR gb_2 0)), (3, ov (CLO 29 [])), (149, ov (S (rL Zaj) t_1.Items)), (150, ov (S (rI .i64) (List.length t_1.Items : Int))), (151, ov (S (rI .i64) x_69))], [cvar gb_2 Zae t_1], []⟩ <| jr <| lI hx fun v70 hv_70 hx => jc (Zaq lb tR tR (cs hv_70)) <| jn <| JC.seq ?_
       rcases ZcG hx with ⟨hc94, hx⟩ | ⟨hc94, hx⟩
       · refine JC.condT tR hc94 <| JC.skip <| JQ.then <| JC.seq <| JC.block <| jr <| jmv rfl rfl <| bI hx fun v71 hv_71 hx => jc (Zau lb tu23 tz62 tR tR hv_71) <| jc (ZaR lb tA62 tR rfl) <| jx (Zbh lb tZ62 zr62) fun gb_72 => jc (Zab lb tR) <| jc (ZaP (j := 1) tA62 tR tR rfl (UpdR.self (by rfl)) rfl) <| jn <| bI hx fun x_80 hx95 hq95 => JC.seqJ (γ := Unit) (stj := fun _ => ⟨[(1, ov (PTR gb_2 0)), (3, ov (CLO 29 [])), (149, ov (S (rL Zaj) t_1.Items)), (150, ov (S (rI .i64) (List.length t_1.Items : Int))), (151, ov (S (rI .i64) x_69)), (173, ov (S rB x_80))], [cvar gb_2 Zae t_1], []⟩) (fun _ => ?_) ?_
         · refine jif tR hq95 (fun hc107 hq95 => ?_) (fun hc107 hq95 => ?_)
           · refine jr <| jc (Zab lb .cB) <| jn <| JC.ret <| JQ.outRB <| JQ.outR ?_
             try obtain rfl := so hq95
             try obtain rfl := hr _ rfl
             dsimp only at hq93
             refine JQ.outR <| JQ.outRB ?_
             try obtain rfl := so hq93
             dsimp only at hq92
             refine JQ.outR <| JQ.outRB ?_
             try obtain rfl := so hq92
             dsimp only at hq27
             refine JQ.outR ?_
             obtain rfl := so hq27
             exact jd (.val (S rB false)) rfl rfl rfl rfl rfl rfl
           refine JC.skip <| JQ.outNB <| JQ.then <| JC.region <| lI hq95 fun v81 hv_81 hq95 => jc (ZaY lb tR .cI (cs hv_81)) <| jmv rfl rfl <| JL.nil ?_
           try obtain rfl := so hq95
           exact JQ.next () rfl (Imp.norm (js := [0]) rfl (.cons rfl (.cons rfl (.cons rfl (.cons rfl (.cons rfl .nil))))))
         refine lI hx95 fun v73 hv_73 hx95 => lI hx95 fun v74 hv_74 hx95 => bI hx95 fun v75 hv_75 hx95 => bI hx95 fun v76 hv_76 hx95 => lI hx95 fun v77 hv_77 hx95 => bI hx95 fun v78 hv_78 hx95 => ?_
         obtain ⟨v79, hv_79, hx95⟩ := ZaQ hx95
         refine JC.anyF (base := [(1, ov (PTR gb_2 0)), (3, ov (CLO 29 [])), (8, ov (S (rI .i64) x_69)), (9, ov (PTR gb_72 0)), (149, ov (S (rL Zaj) t_1.Items)), (150, ov (S (rI .i64) (List.length t_1.Items : Int))), (151, ov (S (rI .i64) x_69))])
             (fs := fun γ => [⟨some 156, ov (CLO 29 [])⟩, ⟨some 157, ov (S (rI .i64) x_69)⟩, ⟨some 158, ov (S (rI .i64) x_69)⟩, ⟨some 159, ov (S rB v73)⟩, ⟨some 160, ov (S rB v73)⟩, ⟨some 161, bif v73 then ov (PTR gb_2 (0 + 3)) else .one .und⟩, ⟨some 162, bif v73 then ov (S (rL Zaj) t_1.Items) else .one .und⟩, ⟨some 163, bif v73 then ov (S (rI .i64) x_69) else .one .und⟩, ⟨some 164, bif v73 then ov (S (rI .i64) v74) else .one .und⟩, ⟨some 165, bif v73 then ov (PT Zaj v75) else .one .und⟩, ⟨some 166, bif v73 then ov (PT Zad v75.Dot) else .one .und⟩, ⟨some 167, bif v73 then ov (A Zad v75.Dot) else .one .und⟩, ⟨some 168, bif v73 then ov (PTR gb_72 (0 + 0)) else .one .und⟩, ⟨some 169, bif v73 then ov (A Zad v71.Dot) else .one .und⟩, ⟨some 170, bif v73 then ov (S rB v76) else .one .und⟩, ⟨some 171, ov (S rB v77)⟩, ⟨some 172, ov (S rB v78)⟩, ⟨some 173, ov (S rB v79)⟩])
             (rs := fun γ => [⟨cvar gb_2 Zae t_1, none, none, [6]⟩, ⟨cvar gb_72 Zaj v71, none, none, [13]⟩])
             (afts := nn 18) (js := [0, 0]) ZbT (.cons rfl (.cons rfl (.cons rfl (.cons rfl (.cons rfl (.cons rfl (.cons rfl .nil))))))) (fun _ => rfl)
             (by
      refine db 1 3 <| db 2 8 <| db 3 8 <| dS 4 (fun γ ρ B hb hd => Zaq lb (tl hd 2 158) .cI (cs hv_73)) <| dm 5 3 159 ?_
      refine dT 6 4 160 v73 (fun γ => ov (PTR gb_2 (0 + 3))) (fun γ ρ B hb hd hq_96 => Zaa (off := 3) lb ZcK (.tmp (hb 1 _ rfl))) ?_
      refine eT 7 4 160 v73 (fun γ => ov (S (rL Zaj) t_1.Items)) (fun γ ρ B hb hd hq_97 => Zan.lk ⟨ρ, (cvar gb_2 Zae t_1) :: B, _⟩ (Zai (j := 0) lb tS23 (HasO.cnd (tl hd 5 161) hq_97) rfl (cT (ZaH t_1) rfl) rfl rfl)) ?_
      refine dT 8 4 160 v73 (fun γ => ov (S (rI .i64) x_69)) (fun γ ρ B hb hd hq_98 => Zax lb (.tmp (hb 8 _ rfl))) ?_
      refine dT 9 4 160 v73 (fun γ => ov (S (rI .i64) v74)) (fun γ ρ B hb hd hq_99 => ZaY lb (HasO.cnd (tl hd 7 163) hq_99) .cI (cs hv_74)) ?_
      refine dT 10 4 160 v73 (fun γ => ov (PT Zaj v75)) (fun γ ρ B hb hd hq_100 => Zau lb tu23 tz62 (HasO.cnd (tl hd 6 162) hq_100) (HasO.cnd (tl hd 8 164) hq_100) (ifT hv_75 hq_100)) ?_
      refine dT 11 4 160 v73 (fun γ => ov (PT Zad v75.Dot)) (fun γ ρ B hb hd hq_101 => Zbm lb Zhi (HasO.cnd (tl hd 9 165) hq_101) (ZbA v75)) ?_
      refine dT 12 4 160 v73 (fun γ => ov (A Zad v75.Dot)) (fun γ ρ B hb hd hq_102 => ZaR lb tA26 (HasO.cnd (tl hd 10 166) hq_102) rfl) ?_
      refine dT 13 4 160 v73 (fun γ => ov (PTR gb_72 (0 + 0))) (fun γ ρ B hb hd hq_103 => Zaa (off := 0) lb Zhi (.tmp (hb 9 _ rfl))) ?_
      refine eT 14 4 160 v73 (fun γ => ov (A Zad v71.Dot)) (fun γ ρ B hb hd hq_104 => Zan.lk ⟨ρ, (cvar gb_72 Zaj v71) :: B, _⟩ (Zaw (j := 0) lb tA26 (HasO.cnd (tl hd 12 168) hq_104) rfl (cT (ZbA v71) rfl) rfl)) ?_
      refine dT 15 4 160 v73 (fun γ => ov (S rB v76)) (fun γ ρ B hb hd hq_105 => (Zak (js := []) ld cl35 (ZeG k v75.Dot v71.Dot v76 (ifT hv_76 hq_105)) .func (.cons (HasO.cnd (tl hd 11 167) hq_105) (.cons (HasO.cnd (tl hd 13 169) hq_105) .nil)) rfl).post (fun _ => Imp.refl)) ?_
      refine dS 16 (fun γ ρ B hb hd => Zao lb (tl hd 4 160) (fun hb106 => (HasO.cnd (tl hd 14 170) hb106)) (fun hb106 => .cB) hv_77) <| dS 17 (fun γ ρ B hb hd => (Zak (js := []) ld cl29 (Zek k x_69 v77 v78 hv_78) (tl hd 0 156) (.cons (tl hd 1 157) (.cons (tl hd 15 171) .nil)) rfl).post (fun _ => Imp.refl)) <| dS 18 (fun γ ρ B hb hd => Zbc lb (tl hd 16 172) hv_79) ?_
      exact ZaG.nil)
             (by decide +kernel) (fun _ => rfl) (fun _ => rfl) (fun _ => rfl) rfl
             (ρ' := fun γ => [(1, ov (PTR gb_2 0)), (3, ov (CLO 29 [])), (149, ov (S (rL Zaj) t_1.Items)), (150, ov (S (rI .i64) (List.length t_1.Items : Int))), (151, ov (S (rI .i64) x_69)), (173, ov (S rB v79))])
             (X' := fun γ => [cvar gb_2 Zae t_1, cvar gb_72 Zaj v71])
             (fun γ ρ hb hd => (.cons (hb 1 _ rfl) (.cons (hb 3 _ rfl) (.cons (hb 149 _ rfl) (.cons (hb 150 _ rfl) (.cons (hb 151 _ rfl) (.cons (hdq hd 17 173 rfl) .nil))))))) (fun _ => rfl) (fun γ => ?_)
         refine JQ.at ⟨[(1, ov (PTR gb_2 0)), (3, ov (CLO 29 [])), (149, ov (S (rL Zaj) t_1.Items)), (150, ov (S (rI .i64) (List.length t_1.Items : Int))), (151, ov (S (rI .i64) x_69)), (173, ov (S rB v79))], [cvar gb_2 Zae t_1, cvar gb_72 Zaj v71], []⟩ ?_
         try obtain rfl := so hx95
         exact JQ.join () (Imp.norm (js := [0]) rfl (.cons rfl (.cons rfl (.cons rfl (.cons rfl (.cons rfl (.cons rfl .nil)))))))
       refine JC.condF tR hc94 <| JC.exit <| JQ.outX ?_
       try obtain rfl := so hx
       try obtain rfl := hr _ rfl
       dsimp only at hq93
       refine JQ.outX <| JQ.here ?_
       try obtain rfl := so hq93
       exact JQ.joinK () () rfl (Imp.norm (js := [0]) rfl (.cons rfl .nil))
     refine jr <| jc (Zaa (off := 92) lb ZcE tR) <| jc (Zai (j := 0) lb tS37 tR rfl (cT (ZaJ t_1) rfl) rfl rfl) <| jc (ZaE lb tu37 tR) <| jc (Zax lb .cI) <| jn <| JC.block <| bI hx66 fun tv67 hL67 hq67 => JC.pre ?_ (JC.loop (γ := Unit) (stf := fun s q => ⟨[(1, ov (PTR gb_2 0)), (3, ov (CLO 29 [])), (116, ov (S (rL (rI .i64)) t_1.Buckets)), (117, ov (S (rI .i64) (List.length t_1.Buckets : Int))), (118, ov (S (rI .i64) s))], [cvar gb_2 Zae t_1], []⟩) (q := ()) hL67 ?_)
     · exact (Imp.norm (js := [0]) rfl (.cons rfl (.cons rfl (.cons rfl (.cons rfl (.cons rfl .nil))))))
     intro x_53 q x hx hr
     obtain _ := q
     change frame_May.b2 k t_1 x_53 = some x at hx
     unfold frame_May.b2 at hx
     refine JC.at ⟨[(1, ov (PTR gb_2 0)), (3, ov (CLO 29 [])), (116, ov (S (rL (rI .i64)) t_1.Buckets)), (117, ov (S (rI .i64) (List.length t_1.Buckets : Int))), (118, ov (S (rI .i64) x_53))], [cvar gb_2 Zae t_1], []⟩ <| jr <| lI hx fun v54 hv_54 hx => jc (Zaq lb tR tR (cs hv_54)) <| jn <| JC.seq <| jif tR hx (fun hc68 hx => ?_) (fun hc68 hx => ?_)
     · refine JC.skip <| JQ.then <| JC.seq <| JC.block <| jr <| jmv rfl rfl <| bI hx fun v55 hv_55 hx => jc (Zau lb tu37 tz3 tR tR hv_55) <| jc (Zbe lb tS3 rfl tR rfl) <| jc (Zab lb tR) <| jc (Zab lb tR) <| jn <| bI hx fun x_67 hx69 hq69 => JC.seqJ (γ := Unit) (stj := fun _ => ⟨[(1, ov (PTR gb_2 0)), (3, ov (CLO 29 [])), (116, ov (S (rL (rI .i64)) t_1.Buckets)), (117, ov (S (rI .i64) (List.length t_1.Buckets : Int))), (118, ov (S (rI .i64) x_53)), (146, ov (S rB x_67))], [cvar gb_2 Zae t_1], []⟩) (fun _ => ?_) ?_
       · refine jif tR hq69 (fun hc91 hq69 => ?_) (fun hc91 hq69 => ?_)
         · refine jr <| jc (Zab lb .cB) <| jn <| JC.ret <| JQ.outRB <| JQ.outR ?_
           try obtain rfl := so hq69
           try obtain rfl := hr _ rfl
           dsimp only at hq67
           refine JQ.outR <| JQ.outRB ?_
           try obtain rfl := so hq67
           dsimp only at hq66
           refine JQ.outR <| JQ.outRB ?_
           try obtain rfl := so hq66
           dsimp only at hq27
           refine JQ.outR ?_
           obtain rfl := so hq27
           exact jd (.val (S rB false)) rfl rfl rfl rfl rfl rfl
         refine JC.skip <| JQ.outNB <| JQ.then <| JC.region <| lI hq69 fun v68 hv_68 hq69 => jc (ZaY lb tR .cI (cs hv_68)) <| jmv rfl rfl <| JL.nil ?_
         try obtain rfl := so hq69
         exact JQ.next () rfl (Imp.norm (js := [0]) rfl (.cons rfl (.cons rfl (.cons rfl (.cons rfl (.cons rfl .nil))))))
       refine JC.region <| jmv rfl rfl <| lI hx69 fun v56 hv_56 hx69 => jc (Zaq lb tR .cI (cs hv_56)) <| jmv rfl rfl <| jF (ov (S (rI .i64) v55)) rfl rfl rfl rfl (fun hq_70 => Zax lb tR) <| lI hx69 fun v57 hv_57 hx69 => jF (ov (S rB v57)) rfl rfl rfl rfl (fun hq_71 => Zaq lb (HasO.cnd tR (notT (notF hq_71))) .cI (cs hv_57)) <| lI hx69 fun v58 hv_58 hx69 => jc (Zao lb tR (fun hb72 => .cB) (fun hb72 => (HasO.cnd tR (notT hb72))) hv_58) <| JL.sub ⟨[(1, ov (PTR gb_2 0)), (3, ov (CLO 29 [])), (6, ov (S (rI .i64) x_53)), (7, ov (S (rI .i64) v55)), (116, ov (S (rL (rI .i64)) t_1.Buckets)), (117, ov (S (rI .i64) (List.length t_1.Buckets : Int))), (118, ov (S (rI .i64) x_53)), (128, ov (S rB v58))], [cvar gb_2 Zae t_1], []⟩ (.cons rfl (.cons rfl (.cons rfl (.cons rfl (.cons rfl (.cons rfl (.cons rfl (.cons rfl .nil)))))))) rfl rfl ?_
       refine jmv rfl rfl <| jF (ov (CLO 29 [])) rfl rfl rfl rfl (fun hq_73 => Zax lb tR) <| jF (ov (S (rI .i64) x_53)) rfl rfl rfl rfl (fun hq_74 => Zax lb tR) <| jF (ov (S (rI .i64) x_53)) rfl rfl rfl rfl (fun hq_75 => Zax lb tR) <| lI hx69 fun v59 hv_59 hx69 => jF (ov (S rB v59)) rfl rfl rfl rfl (fun hq_76 => Zaq lb (HasO.cnd tR (notT (notF hq_76))) .cI (cs hv_59)) <| jF (ov (S rB v59)) rfl rfl rfl rfl (fun hq_77 => Zax lb (HasO.cnd tR (notT (notF hq_77)))) <| JL.cnd (sv := ov (PTR gb_2 (0 + 92))) (Zbg.cT (q := (!v58)) (ltB rfl) rfl rfl) rfl (ltB rfl) (fun hq_78 => Zaa (off := 92) lb ZcE tR) <| JL.cnd (sv := ov (S (rL (rI .i64)) t_1.Buckets)) (Zbg.cT (q := (!v58)) (ltB rfl) rfl rfl) rfl (ltB rfl) (fun hq_79 => Zai (j := 0) lb tS37 (HasO.cnd tR (andI (notT (notF (andL hq_79))) (andR hq_79))) rfl (cT (ZaJ t_1) rfl) rfl rfl) ?_
       refine JL.cnd (sv := ov (S (rI .i64) x_53)) (Zbg.cT (q := (!v58)) (ltB rfl) rfl rfl) rfl (ltB rfl) (fun hq_80 => Zax lb tR) <| lI hx69 fun v60 hv_60 hx69 => JL.cnd (sv := ov (S (rI .i64) v60)) (Zbg.cT (q := (!v58)) (ltB rfl) rfl rfl) rfl (ltB rfl) (fun hq_81 => ZaY lb (HasO.cnd tR (andI (notT (notF (andL hq_81))) (andR hq_81))) .cI (cs hv_60)) <| bI hx69 fun v61 hv_61 hx69 => JL.cnd (sv := ov (PT (rI .i64) v61)) (Zbg.cT (q := (!v58)) (ltB rfl) rfl rfl) rfl (ltB rfl) (fun hq_82 => Zau lb tu37 tz3 (HasO.cnd tR (andI (notT (notF (andL hq_82))) (andR hq_82))) (HasO.cnd tR (andI (notT (notF (andL hq_82))) (andR hq_82))) (ifT hv_61 hq_82)) <| JL.cnd (sv := ov (S (rI .i64) v61)) (Zbg.cT (q := (!v58)) (ltB rfl) rfl rfl) rfl (ltB rfl) (fun hq_83 => Zbe lb tS3 rfl (HasO.cnd tR (andI (notT (notF (andL hq_83))) (andR hq_83))) rfl) <| JL.sub ⟨[(1, ov (PTR gb_2 0)), (3, ov (CLO 29 [])), (7, ov (S (rI .i64) v55)), (116, ov (S (rL (rI .i64)) t_1.Buckets)), (117, ov (S (rI .i64) (List.length t_1.Buckets : Int))), (118, ov (S (rI .i64) x_53)), (129, ov (S rB v58)), (130, bif (!v58) then ov (CLO 29 []) else .one .und), (131, bif (!v58) then ov (S (rI .i64) x_53) else .one .und), (134, bif (!v58) then ov (S rB v59) else .one .und), (140, bif ((!v58) && v59) then ov (S (rI .i64) v61) else .one .und)], [cvar gb_2 Zae t_1], []⟩ (.cons rfl (.cons rfl (.cons rfl (.cons rfl (.cons rfl (.cons rfl (.cons rfl (.cons rfl (.cons rfl (.cons rfl (.cons rfl .nil))))))))))) rfl rfl <| JL.cnd (sv := ov (S (rI .i64) v55)) (Zbg.cT (q := (!v58)) (ltB rfl) rfl rfl) rfl (ltB rfl) (fun hq_84 => Zax lb tR) ?_
       obtain ⟨v62, hv_62, hx69⟩ := ZaQ hx69
       refine JL.cnd (sv := ov (S rB v62)) (Zbg.cT (q := (!v58)) (ltB rfl) rfl rfl) rfl (ltB rfl) (fun hq_85 => Zaq lb (HasO.cnd tR (andI (notT (notF (andL hq_85))) (andR hq_85))) (HasO.cnd tR (andI (notT (notF (andL hq_85))) (andR hq_85))) (cs hv_62)) <| lI hx69 fun v63 hv_63 hx69 => jF (ov (S rB v63)) rfl rfl rfl rfl (fun hq_86 => Zao lb (HasO.cnd tR (notT (notF hq_86))) (fun hb87 => (HasO.cnd tR (andI (notT (notF hq_86)) hb87))) (fun hb87 => .cB) hv_63) <| bI hx69 fun v64 hv_64 hx69 => jF (ov (S rB v64)) rfl rfl rfl rfl (fun hq_88 => (Zak (js := []) ld cl29 (Zek k x_53 v63 v64 (ifT hv_64 hq_88)) (HasO.cnd tR (notT (notF hq_88))) (.cons (HasO.cnd tR (notT (notF hq_88))) (.cons (HasO.cnd tR (notT (notF hq_88))) .nil)) rfl).post (fun _ => Imp.refl)) <| lI hx69 fun v65 hv_65 hx69 => jF (ov (S rB v65)) rfl rfl rfl rfl (fun hq_89 => Zbc lb (HasO.cnd tR (notT (notF hq_89))) hv_65) <| lI hx69 fun v66 hv_66 hx69 => jc (Zao lb tR (fun hb90 => .cB) (fun hb90 => (HasO.cnd tR (notT hb90))) hv_66) <| JL.nil ?_
       try obtain rfl := so hx69
       exact JQ.join () (Imp.norm (js := [0]) rfl (.cons rfl (.cons rfl (.cons rfl (.cons rfl (.cons rfl (.cons rfl .nil)))))))
     refine JC.exit <| JQ.outX ?_
     try obtain rfl := so hx
     try obtain rfl := hr _ rfl
     dsimp only at hq67
     refine JQ.outX <| JQ.here ?_
     try obtain rfl := so hq67
     exact JQ.joinK () () rfl (Imp.norm (js := [0]) rfl (.cons rfl (.cons rfl .nil)))
   refine JC.skip <| JQ.outNB ?_
   try obtain rfl := so hx27
   exact JQ.joinK () () rfl (Imp.norm (js := []) rfl .nil)
 refine lI hx1 fun v3 hv_3 hx1 => lI hx1 fun v4 hv_4 hx1 => lI hx1 fun v5 hv_5 hx1 => lI hx1 fun v6 hv_6 hx1 => lI hx1 fun v7 hv_7 hx1 => lI hx1 fun v8 hv_8 hx1 => lI hx1 fun v9 hv_9 hx1 => lI hx1 fun v10 hv_10 hx1 => ?_
 obtain ⟨v11, hv_11, hx1⟩ := ZaQ hx1
 refine bI hx1 fun v12 hv_12 hx1 => bI hx1 fun v13 hv_13 hx1 => lI hx1 fun v14 hv_14 hx1 => ?_
 obtain ⟨v15, hv_15, hx1⟩ := ZaQ hx1
 refine JC.anyF (base := [(1, ov (PTR gb_2 0))])
     (fs := fun γ => [⟨some 10, ov (PTR gb_2 (0 + 1))⟩, ⟨some 11, ov (S (rI .i64) t_1.From)⟩, ⟨some 12, ov (S rB v3)⟩, ⟨some 13, ov (S rB v3)⟩, ⟨some 14, bif (!v3) then ov (PTR gb_2 (0 + 1)) else .one .und⟩, ⟨some 15, bif (!v3) then ov (S (rI .i64) t_1.From) else .one .und⟩, ⟨some 16, bif (!v3) then ov (S rB v4) else .one .und⟩, ⟨some 17, ov (S rB v5)⟩, ⟨some 18, ov (S rB v5)⟩, ⟨some 19, bif (!v5) then ov (PTR gb_2 (0 + 2)) else .one .und⟩, ⟨some 20, bif (!v5) then ov (S (rI .i64) t_1.To) else .one .und⟩, ⟨some 21, bif (!v5) then ov (S rB v6) else .one .und⟩, ⟨some 22, ov (S rB v7)⟩, ⟨some 23, ov (S rB v7)⟩, ⟨some 24, bif (!v7) then ov (PTR gb_2 (0 + 2)) else .one .und⟩, ⟨some 25, bif (!v7) then ov (S (rI .i64) t_1.To) else .one .und⟩, ⟨some 26, bif (!v7) then ov (S rB v8) else .one .und⟩, ⟨some 27, ov (S rB v9)⟩, ⟨some 28, ov (S rB v9)⟩, ⟨some 29, bif (!v9) then ov (PTR gb_2 (0 + 1)) else .one .und⟩, ⟨some 30, bif (!v9) then ov (S (rI .i64) t_1.From) else .one .und⟩, ⟨some 31, bif (!v9) then ov (PTR gb_2 (0 + 2)) else .one .und⟩, ⟨some 32, bif (!v9) then ov (S (rI .i64) t_1.To) else .one .und⟩, ⟨some 33, bif (!v9) then ov (S rB v10) else .one .und⟩, ⟨some 34, ov (S rB v11)⟩, ⟨some 35, ov (S rB v11)⟩, ⟨some 36, bif (!v11) then ov (A Zae t_1) else .one .und⟩, ⟨some 37, bif (!v11) then ov (A Zae t_1) else .one .und⟩, ⟨some 38, bif (!v11) then ov (A Zae v12) else .one .und⟩, ⟨some 39, bif (!v11) then ov (S rB v13) else .one .und⟩, ⟨some 40, bif (!v11) then ov (S rB v14) else .one .und⟩, ⟨some 41, ov (S rB v15)⟩])
     (rs := fun γ => [⟨cvar gb_2 Zae t_1, none, none, [1, 5, 10, 15, 20, 22, 26, 27]⟩])
     (afts := nn 32) (js := [0]) ZbT (.cons rfl .nil) (fun _ => rfl)
     (by
      refine dS 1 (fun γ ρ B hb hd => Zaa (off := 1) lb Zgb (.tmp (hb 1 _ rfl))) <| dR 2 (fun γ ρ B hb hd => Zan.lk ⟨ρ, (cvar gb_2 Zae t_1) :: B, _⟩ (Zai (j := 0) lb tS3 (tl hd 0 10) rfl (cT (Za5 t_1) rfl) rfl rfl)) <| dS 3 (fun γ ρ B hb hd => Zaq lb (tl hd 1 11) .cI (cs hv_3)) <| dm 4 2 12 ?_
      refine dF 5 3 13 v3 (fun γ => ov (PTR gb_2 (0 + 1))) (fun γ ρ B hb hd hq_2 => Zaa (off := 1) lb Zgb (.tmp (hb 1 _ rfl))) ?_
      refine eF 6 3 13 v3 (fun γ => ov (S (rI .i64) t_1.From)) (fun γ ρ B hb hd hq_3 => Zan.lk ⟨ρ, (cvar gb_2 Zae t_1) :: B, _⟩ (Zai (j := 0) lb tS3 (HasO.cnd (tl hd 4 14) (notT (notF hq_3))) rfl (cT (Za5 t_1) rfl) rfl rfl)) ?_
      refine dF 7 3 13 v3 (fun γ => ov (S rB v4)) (fun γ ρ B hb hd hq_4 => Zaq lb (HasO.cnd (tl hd 5 15) (notT (notF hq_4))) .cI (cs hv_4)) ?_
      refine dS 8 (fun γ ρ B hb hd => Zao lb (tl hd 3 13) (fun hb5 => .cB) (fun hb5 => (HasO.cnd (tl hd 6 16) (notT hb5))) hv_5) <| dm 9 7 17 ?_
      refine dF 10 8 18 v5 (fun γ => ov (PTR gb_2 (0 + 2))) (fun γ ρ B hb hd hq_6 => Zaa (off := 2) lb Zf9 (.tmp (hb 1 _ rfl))) ?_
      refine eF 11 8 18 v5 (fun γ => ov (S (rI .i64) t_1.To)) (fun γ ρ B hb hd hq_7 => Zan.lk ⟨ρ, (cvar gb_2 Zae t_1) :: B, _⟩ (Zai (j := 0) lb tS3 (HasO.cnd (tl hd 9 19) (notT (notF hq_7))) rfl (cT (Zbj t_1) rfl) rfl rfl)) ?_
      refine dF 12 8 18 v5 (fun γ => ov (S rB v6)) (fun γ ρ B hb hd hq_8 => Zaq lb (HasO.cnd (tl hd 10 20) (notT (notF hq_8))) .cI (cs hv_6)) ?_
      refine dS 13 (fun γ ρ B hb hd => Zao lb (tl hd 8 18) (fun hb9 => .cB) (fun hb9 => (HasO.cnd (tl hd 11 21) (notT hb9))) hv_7) <| dm 14 12 22 ?_
      refine dF 15 13 23 v7 (fun γ => ov (PTR gb_2 (0 + 2))) (fun γ ρ B hb hd hq_10 => Zaa (off := 2) lb Zf9 (.tmp (hb 1 _ rfl))) ?_
      refine eF 16 13 23 v7 (fun γ => ov (S (rI .i64) t_1.To)) (fun γ ρ B hb hd hq_11 => Zan.lk ⟨ρ, (cvar gb_2 Zae t_1) :: B, _⟩ (Zai (j := 0) lb tS3 (HasO.cnd (tl hd 14 24) (notT (notF hq_11))) rfl (cT (Zbj t_1) rfl) rfl rfl)) ?_
      refine dF 17 13 23 v7 (fun γ => ov (S rB v8)) (fun γ ρ B hb hd hq_12 => Zaq lb (HasO.cnd (tl hd 15 25) (notT (notF hq_12))) .cI (cs hv_8)) ?_
      refine dS 18 (fun γ ρ B hb hd => Zao lb (tl hd 13 23) (fun hb13 => .cB) (fun hb13 => (HasO.cnd (tl hd 16 26) (notT hb13))) hv_9) <| dm 19 17 27 ?_
      refine dF 20 18 28 v9 (fun γ => ov (PTR gb_2 (0 + 1))) (fun γ ρ B hb hd hq_14 => Zaa (off := 1) lb Zgb (.tmp (hb 1 _ rfl))) ?_
      refine eF 21 18 28 v9 (fun γ => ov (S (rI .i64) t_1.From)) (fun γ ρ B hb hd hq_15 => Zan.lk ⟨ρ, (cvar gb_2 Zae t_1) :: B, _⟩ (Zai (j := 0) lb tS3 (HasO.cnd (tl hd 19 29) (notT (notF hq_15))) rfl (cT (Za5 t_1) rfl) rfl rfl)) ?_
      refine dF 22 18 28 v9 (fun γ => ov (PTR gb_2 (0 + 2))) (fun γ ρ B hb hd hq_16 => Zaa (off := 2) lb Zf9 (.tmp (hb 1 _ rfl))) ?_
      refine eF 23 18 28 v9 (fun γ => ov (S (rI .i64) t_1.To)) (fun γ ρ B hb hd hq_17 => Zan.lk ⟨ρ, (cvar gb_2 Zae t_1) :: B, _⟩ (Zai (j := 0) lb tS3 (HasO.cnd (tl hd 21 31) (notT (notF hq_17))) rfl (cT (Zbj t_1) rfl) rfl rfl)) ?_
      refine dF 24 18 28 v9 (fun γ => ov (S rB v10)) (fun γ ρ B hb hd hq_18 => Zaq lb (HasO.cnd (tl hd 20 30) (notT (notF hq_18))) (HasO.cnd (tl hd 22 32) (notT (notF hq_18))) (cs hv_10)) ?_
      refine dS 25 (fun γ ρ B hb hd => Zao lb (tl hd 18 28) (fun hb19 => .cB) (fun hb19 => (HasO.cnd (tl hd 23 33) (notT hb19))) hv_11) <| dm 26 24 34 ?_
      refine eF 27 25 35 v11 (fun γ => ov (A Zae t_1)) (fun γ ρ B hb hd hq_20 => Zan.lk ⟨ρ, (cvar gb_2 Zae t_1) :: B, _⟩ (Zaw (j := 0) lb tA39 (.tmp (hb 1 _ rfl)) rfl (Comp.self Zae t_1) rfl)) ?_
      refine eF 28 25 35 v11 (fun γ => ov (A Zae t_1)) (fun γ ρ B hb hd hq_21 => Zan.lk ⟨ρ, (cvar gb_2 Zae t_1) :: B, _⟩ (Zaw (j := 0) lb tA39 (.tmp (hb 1 _ rfl)) rfl (Comp.self Zae t_1) rfl)) ?_
      refine dF 29 25 35 v11 (fun γ => ov (A Zae v12)) (fun γ ρ B hb hd hq_22 => (Zak (js := []) ld cl28 (Zid k t_1 v12 (ifT hv_12 hq_22)) .func (.cons (HasO.cnd (tl hd 27 37) (notT (notF hq_22))) .nil) rfl).post (fun _ => Imp.refl)) ?_
      refine dF 30 25 35 v11 (fun γ => ov (S rB v13)) (fun γ ρ B hb hd hq_23 => (Zak (js := []) ld cl18 (Zgf k t_1 v12 v13 (ifT hv_13 hq_23)) .func (.cons (HasO.cnd (tl hd 26 36) (notT (notF hq_23))) (.cons (HasO.cnd (tl hd 28 38) (notT (notF hq_23))) .nil)) rfl).post (fun _ => Imp.refl)) ?_
      refine dF 31 25 35 v11 (fun γ => ov (S rB v14)) (fun γ ρ B hb hd hq_24 => Zbc lb (HasO.cnd (tl hd 29 39) (notT (notF hq_24))) hv_14) ?_
      refine dS 32 (fun γ ρ B hb hd => Zao lb (tl hd 25 35) (fun hb25 => .cB) (fun hb25 => (HasO.cnd (tl hd 30 40) (notT hb25))) hv_15) ?_
      exact ZaG.nil)
     (by decide +kernel) (fun _ => rfl) (fun _ => rfl) (fun _ => rfl) rfl
     (ρ' := fun γ => [(1, ov (PTR gb_2 0)), (41, ov (S rB v15))])
     (X' := fun γ => [cvar gb_2 Zae t_1])
     (fun γ ρ hb hd => (.cons (hb 1 _ rfl) (.cons (hdq hd 31 41 rfl) .nil))) (fun _ => rfl) (fun γ => ?_)
 refine JQ.at ⟨[(1, ov (PTR gb_2 0)), (41, ov (S rB v15))], [cvar gb_2 Zae t_1], []⟩ ?_
 try obtain rfl := so hx1
 exact JQ.join () (Imp.norm (js := [0]) rfl (.cons rfl (.cons rfl .nil)))

theorem ZfS (k : Nat) (r : (List (Int × Zal))) (hm : Zey k = some r) : Sim Tryz.prog 54 [] [] (γ := Option Nat) (fun q => [cmap q (S (rI .i64)) (A ZaI) (some r)]) (fun q => .one (.val (MPV q))) := by
 unfold Zey at hm
 refine Sim.of Tryz.func54 rfl rfl (lE rfl) (fun e0 w0 => ?_)
 refine JC.at ⟨[], [], []⟩ <| jr <| jc (Zab lb (HasO.const (p := MPV none) fun _ => rfl)) <| jn <| jr <| jx (Zkl lb (S (rI .i64)) (A ZaI)) fun gb_1 => jc (Za9 lb tZ95 zs95 tp95 (.S (off := 0) (s := rW (CLO 92 [])) (u := ()) rfl (HasO.wk (q := S (rW (CLO 92 [])) ()) .func wkV) rfl ((UpdR.fst (UpdR.self (by rfl))).at (by rfl)) (.S (off := 1) (s := rW (CLO 93 [])) (u := ()) rfl (HasO.wk (q := S (rW (CLO 93 [])) ()) .func wkV) rfl ((UpdR.snd (UpdR.fst (UpdR.self (by rfl)))).at (by rfl)) .nil)) rfl) <| lI hm fun x_2 hv_x_2 hm => jc (Zez (j := 0) tu97 ky22 rfl tR .cI (HasO.wk (q := A ZaI (Zal.mk (some 92 : Option Nat) (some 93 : Option Nat))) tR (wkAK (Wk.st (Wk.pair Wk.clo (Wk.pair Wk.clo Wk.refl))))) (congrArg (fun z => some (some z)) hv_x_2)) <| jc (Za9 lb tZ95 zs95 tp95 (.S (off := 0) (s := rW (CLO 94 [])) (u := ()) rfl (HasO.wk (q := S (rW (CLO 94 [])) ()) .func wkV) rfl ((UpdR.fst (UpdR.self (by rfl))).at (by rfl)) (.S (off := 1) (s := rW (CLO 95 [])) (u := ()) rfl (HasO.wk (q := S (rW (CLO 95 [])) ()) .func wkV) rfl ((UpdR.snd (UpdR.fst (UpdR.self (by rfl)))).at (by rfl)) .nil)) rfl) <| lI hm fun x_3 hv_x_3 hm => jc (Zez (j := 0) tu97 ky22 rfl tR .cI (HasO.wk (q := A ZaI (Zal.mk (some 94 : Option Nat) (some 95 : Option Nat))) tR (wkAK (Wk.st (Wk.pair Wk.clo (Wk.pair Wk.clo Wk.refl))))) (congrArg (fun z => some (some z)) hv_x_3)) <| JL.sub ⟨[(0, ov (MPV none)), (1, ov (MPV (some gb_1)))], [cmap (some gb_1) (S (rI .i64)) (A ZaI) (some x_3)], []⟩ (.cons rfl (.cons rfl .nil)) rfl rfl ?_
 refine jc (Za9 lb tZ95 zs95 tp95 (.S (off := 0) (s := rW (CLO 96 [])) (u := ()) rfl (HasO.wk (q := S (rW (CLO 96 [])) ()) .func wkV) rfl ((UpdR.fst (UpdR.self (by rfl))).at (by rfl)) (.S (off := 1) (s := rW (CLO 97 [])) (u := ()) rfl (HasO.wk (q := S (rW (CLO 97 [])) ()) .func wkV) rfl ((UpdR.snd (UpdR.fst (UpdR.self (by rfl)))).at (by rfl)) .nil)) rfl) <| lI hm fun x_4 hv_x_4 hm => jc (Zez (j := 0) tu97 ky22 rfl tR .cI (HasO.wk (q := A ZaI (Zal.mk (some 96 : Option Nat) (some 97 : Option Nat))) tR (wkAK (Wk.st (Wk.pair Wk.clo (Wk.pair Wk.clo Wk.refl))))) (congrArg (fun z => some (some z)) hv_x_4)) <| jc (Za9 lb tZ95 zs95 tp95 (.S (off := 0) (s := rW (CLO 98 [])) (u := ()) rfl (HasO.wk (q := S (rW (CLO 98 [])) ()) .func wkV) rfl ((UpdR.fst (UpdR.self (by rfl))).at (by rfl)) (.S (off := 1) (s := rW (CLO 99 [])) (u := ()) rfl (HasO.wk (q := S (rW (CLO 99 [])) ()) .func wkV) rfl ((UpdR.snd (UpdR.fst (UpdR.self (by rfl)))).at (by rfl)) .nil)) rfl) <| lI hm fun x_5 hv_x_5 hm => jc (Zez (j := 0) tu97 ky22 rfl tR .cI (HasO.wk (q := A ZaI (Zal.mk (some 98 : Option Nat) (some 99 : Option Nat))) tR (wkAK (Wk.st (Wk.pair Wk.clo (Wk.pair Wk.clo Wk.refl))))) (congrArg (fun z => some (some z)) hv_x_5)) <| jc (Za9 lb tZ95 zs95 tp95 (.S (off := 0) (s := rW (CLO 100 [])) (u := ()) rfl (HasO.wk (q := S (rW (CLO 100 [])) ()) .func wkV) rfl ((UpdR.fst (UpdR.self (by rfl))).at (by rfl)) (.S (off := 1) (s := rW (CLO 101 [])) (u := ()) rfl (HasO.wk (q := S (rW (CLO 101 [])) ()) .func wkV) rfl ((UpdR.snd (UpdR.fst (UpdR.self (by rfl)))).at (by rfl)) .nil)) rfl) ?_
 obtain ⟨x_6, hv_x_6, hm⟩ := ZaQ hm
 refine jc (Zez (j := 0) tu97 ky22 rfl tR .cI (HasO.wk (q := A ZaI (Zal.mk (some 100 : Option Nat) (some 101 : Option Nat))) tR (wkAK (Wk.st (Wk.pair Wk.clo (Wk.pair Wk.clo Wk.refl))))) (congrArg (fun z => some (some z)) hv_x_6)) <| JL.sub ⟨[(0, ov (MPV none)), (1, ov (MPV (some gb_1)))], [cmap (some gb_1) (S (rI .i64)) (A ZaI) (some x_6)], []⟩ (.cons rfl (.cons rfl .nil)) rfl rfl <| jc (Za9 lb tZ95 zs95 tp95 (.S (off := 0) (s := rW (CLO 102 [])) (u := ()) rfl (HasO.wk (q := S (rW (CLO 102 [])) ()) .func wkV) rfl ((UpdR.fst (UpdR.self (by rfl))).at (by rfl)) (.S (off := 1) (s := rW (CLO 103 [])) (u := ()) rfl (HasO.wk (q := S (rW (CLO 103 [])) ()) .func wkV) rfl ((UpdR.snd (UpdR.fst (UpdR.self (by rfl)))).at (by rfl)) .nil)) rfl) <| lI hm fun x_7 hv_x_7 hm => jc (Zez (j := 0) tu97 ky22 rfl tR .cI (HasO.wk (q := A ZaI (Zal.mk (some 102 : Option Nat) (some 103 : Option Nat))) tR (wkAK (Wk.st (Wk.pair Wk.clo (Wk.pair Wk.clo Wk.refl))))) (congrArg (fun z => some (some z)) hv_x_7)) <| jc (Za9 lb tZ95 zs95 tp95 (.S (off := 0) (s := rW (CLO 104 [])) (u := ()) rfl (HasO.wk (q := S (rW (CLO 104 [])) ()) .func wkV) rfl ((UpdR.fst (UpdR.self (by rfl))).at (by rfl)) (.S (off := 1) (s := rW (CLO 105 [])) (u := ()) rfl (HasO.wk (q := S (rW (CLO 105 [])) ()) .func wkV) rfl ((UpdR.snd (UpdR.fst (UpdR.self (by rfl)))).at (by rfl)) .nil)) rfl) <| lI hm fun x_8 hv_x_8 hm => jc (Zez (j := 0) tu97 ky22 rfl tR .cI (HasO.wk (q := A ZaI (Zal.mk (some 104 : Option Nat) (some 105 : Option Nat))) tR (wkAK (Wk.st (Wk.pair Wk.clo (Wk.pair Wk.clo Wk.refl))))) (congrArg (fun z => some (some z)) hv_x_8)) <| jmv rfl rfl <| jc (Zab lb tR) <| jn <| JC.ret ?_
 obtain rfl := so hm
 exact JQ.done (js := [0]) (ss := [.val (MPV (some gb_1))]) (some gb_1) (.inl rfl) (.nil rfl) rfl (.cons (.tmp rfl) .nil) rfl rfl rfl

end Go.Proofs.YtklnihlchhhhlaaGreat
