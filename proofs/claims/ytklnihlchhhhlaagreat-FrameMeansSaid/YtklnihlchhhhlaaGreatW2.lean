/- Walks. -/
import Derived.Test.YtklnihlchhhhlaaGreatT
import Derived.Test.YtklnihlchhhhlaaGreatW0
import Derived.Test.YtklnihlchhhhlaaGreatW1
namespace Go.Proofs.YtklnihlchhhhlaaGreat
open Go Fw
set_option linter.unusedVariables false
set_option maxRecDepth 100000
set_option maxHeartbeats 4000000

theorem Zgz (k : Nat) (v1 : (Vector UInt64 16)) (extra2 : (List Zah)) (r : (List Zah) ⊕ Int) (hm : ctx_Of k v1 extra2 = some r) : Sim Tryz.prog 87 [A (rV 16 (rU UInt64)) v1, S (rL Zae) extra2] [] (γ := GS2 (Nat × Option Nat × Nat) (Unit) r) (fS2 (fun r q => [cvar q.1 (rP (rV 16 (rU UInt64)) (rP (rW (HDR q.2.1 0 (List.length r) q.2.2)) (rP rB r0))) (v1, ((), (true, ()))), cown q.2.1 Zae r 0 q.2.2]) (fun r q => []) r) (fS2 (fun r q => .tup [.val (PTR q.1 0), .val (S (rI .i64) (0 : Int))]) (fun r q => .tup [.val (PTO none), .val (S (rI .i64) r)]) r) := by
 unfold ctx_Of at hm
 refine Sim.of Tryz.func87 rfl rfl (lE rfl) (fun e0 w0 => ?_)
 refine JC.at ⟨[(0, ov (A (rV 16 (rU UInt64)) v1)), (1, ov (S (rL Zae) extra2))], [], []⟩ <| jr <| jx (ZaZ lb tR) fun gb3 => jc (Zac lb (HasO.const (p := PTO none) fun _ => rfl)) <| jc (Zac lb .cI) <| jn <| bI hm fun tv1 hx1 hq1 => JC.seqK (α := Unit) (γ := Unit) (stj := fun v q => ⟨[(1, ov (S (rL Zae) extra2)), (2, ov (PTR gb3 0))], [cvar gb3 (rV 16 (rU UInt64)) v1], []⟩) (p := fun v => tv1 = (.inl v)) (fun v q hv => ?_) ?_
 · subst hv
   skip
   obtain _ := q
   dsimp only at hq1
   refine JC.at ⟨[(1, ov (S (rL Zae) extra2)), (2, ov (PTR gb3 0))], [cvar gb3 (rV 16 (rU UInt64)) v1], []⟩ <| bI hq1 fun tv5 hx5 hq5 => JC.seqK (α := Unit) (γ := Unit) (stj := fun v q => ⟨[(1, ov (S (rL Zae) extra2)), (2, ov (PTR gb3 0))], [cvar gb3 (rV 16 (rU UInt64)) v1], []⟩) (p := fun v => tv5 = (.inl v)) (fun v q hv => ?_) ?_
   · subst hv
     skip
     obtain _ := q
     dsimp only at hq5
     refine JC.at ⟨[(1, ov (S (rL Zae) extra2)), (2, ov (PTR gb3 0))], [cvar gb3 (rV 16 (rU UInt64)) v1], []⟩ <| JC.seq <| jr <| jmv rfl rfl <| jc (ZaI lb tu33 tR) <| lI hq5 fun v29 hv29 hq5 => jc (Zar lb tR .cI (cs hv29)) <| jn <| jif tR hq5 (fun hc31 hq5 => ?_) (fun hc31 hq5 => ?_)
     · refine jr <| jc (Zac lb (HasO.const (p := PTO none) fun _ => rfl)) <| jc (Zac lb .cI) <| jn <| JC.ret <| JQ.outR ?_
       obtain rfl := so hq5
       exact JQ.done (js := []) (ss := [.val (PTO none), .val (S (rI .i64) (5 : Int))]) () (.inl rfl) (.nil rfl) rfl (.cons (.tmp rfl) (.cons (.tmp rfl) .nil)) rfl rfl rfl
     refine JC.skip <| JQ.then <| JC.seq ?_
     obtain ⟨v30, hv30, hq5⟩ := Zaz hq5
     refine JC.anyF (base := [(1, ov (S (rL Zae) extra2)), (2, ov (PTR gb3 0))])
         (fs := fun γ => [⟨some 56, ov (A (rV 16 (rU UInt64)) v1)⟩, ⟨some 57, ov (S (rL Zae) extra2)⟩, ⟨some 58, ov (HDR (deo (γ 2 0)) 0 (List.length v30) (γ 2 1))⟩, ⟨some 59, ov (A (zq18 (deo (γ 2 0)) v30 (γ 2 1)) (v1, ((), (true, ()))))⟩, ⟨some 60, ov (PTR (γ 4 0) 0)⟩, ⟨some 4, ov (PTR (γ 4 0) 0)⟩, ⟨some 5, ov (S (rI .i64) (0 : Int))⟩])
         (rs := fun γ => [⟨cvar gb3 (rV 16 (rU UInt64)) v1, none, none, [0]⟩, ⟨cown (deo (γ 2 0)) Zae v30 0 (γ 2 1), (some 2), none, []⟩, ⟨cvar (γ 4 0) (zq18 (deo (γ 2 0)) v30 (γ 2 1)) (v1, ((), (true, ()))), (some 4), none, []⟩])
         (afts := [[], [], [2, 3, 4, 5, 6], [], [4, 5, 6], [], []]) (js := [0]) Zcj (.cons rfl (.cons rfl .nil)) (fun _ => rfl)
         (by
      refine dR 1 (fun γ ρ B hb hd => Zao.lk ⟨ρ, (cvar gb3 (rV 16 (rU UInt64)) v1) :: B, _⟩ (ZaB (j := 0) lb tA29 (.tmp (hb 2 _ rfl)) rfl (Comp.self (rV 16 (rU UInt64)) v1) rfl)) <| db 2 1 ?_
      refine ZaF.cons (j := 3) rfl (fun _ => rfl) (.runX (fun _ _ => rfl) (fun γ ρ B hb hd => ⟨.none, OpX.ghost (γ := Option Nat × Nat) (st' := fun q => setO ⟨ρ, (cown q.1 Zae v30 0 q.2) :: B, _⟩ (some 58) (ov (HDR q.1 0 (List.length v30) q.2))) (fun q c => bif Nat.beq c 0 then eno q.1 else q.2) (Zak (js := []) ld Zpo (ZdR k extra2 v30 hv30) .func (.cons (tl hd 1 57) .nil) rfl) (fun q => by obtain ⟨q0, q1⟩ := q; cases q0 <;> exact Imp.refl)⟩) (fun _ _ => rfl) (fun _ _ => rfl)) ?_
      refine dS 4 (fun γ ρ B hb hd => Zbl lb Zpe Zo6 ZoS (.A (off := 0) rfl (tl hd 0 56) ((UpdR.fst (UpdR.self (by rfl))).at (by rfl)) (.S (off := 16) (s := rW (HDR (deo (γ 2 0)) 0 (List.length v30) (γ 2 1))) (u := ()) rfl (HasO.wk (q := S (rW (HDR (deo (γ 2 0)) 0 (List.length v30) (γ 2 1))) ()) (tl hd 2 58) wkV) rfl ((UpdR.snd (UpdR.fst (UpdR.self (by rfl)))).at (by rfl)) (.S (off := 17) rfl .cB rfl ((UpdR.snd (UpdR.snd (UpdR.fst (UpdR.self (by rfl))))).at (by rfl)) .nil))) rfl) ?_
      refine ZaF.cons (j := 5) rfl (fun _ => rfl) (.runX (fun _ _ => rfl) (fun γ ρ B hb hd => ⟨.none, OpX.ghost (γ := Nat) (st' := fun q => setO ⟨ρ, (cvar q (zq18 (deo (γ 2 0)) v30 (γ 2 1)) (v1, ((), (true, ())))) :: B, _⟩ (some 60) (ov (PTR q 0))) (fun q c => q) (OpX.front (ZaZ lb (tl hd 3 59))) (fun q => Imp.refl)⟩) (fun _ _ => rfl) (fun _ _ => rfl)) ?_
      refine dS 6 (fun γ ρ B hb hd => Zac lb (tl hd 4 60)) <| dS 7 (fun γ ρ B hb hd => Zac lb .cI) ?_
      exact ZaF.nil)
         (by decide +kernel) (fun _ => rfl) (fun _ => rfl) (fun _ => rfl) rfl
         (ρ' := fun γ => [(4, ov (PTR (γ 4 0) 0)), (5, ov (S (rI .i64) (0 : Int)))])
         (X' := fun γ => [cvar gb3 (rV 16 (rU UInt64)) v1, cown (deo (γ 2 0)) Zae v30 0 (γ 2 1), cvar (γ 4 0) (zq18 (deo (γ 2 0)) v30 (γ 2 1)) (v1, ((), (true, ())))])
         (fun γ ρ hb hd => (.cons (hdq hd 5 4 rfl) (.cons (hdq hd 6 5 rfl) .nil))) (fun _ => rfl) (fun γ => ?_)
     generalize (deo (γ 2 0)) = go31
     generalize (γ 2 1) = gc32
     generalize (γ 4 0) = gb33
     clear γ
     refine JQ.at ⟨[(4, ov (PTR gb33 0)), (5, ov (S (rI .i64) (0 : Int)))], [cvar gb3 (rV 16 (rU UInt64)) v1, cown go31 Zae v30 0 gc32, cvar gb33 (zq18 go31 v30 gc32) (v1, ((), (true, ())))], []⟩ <| JQ.then <| JC.ret ?_
     obtain rfl := so hq5
     exact JQ.done (js := [2, 1]) (ss := [.val (PTR gb33 0), .val (S (rI .i64) (0 : Int))]) (gb33, go31, gc32) (.inl rfl) (.nil rfl) rfl (.cons (.tmp rfl) (.cons (.tmp rfl) .nil)) rfl rfl rfl
   refine jr <| jmv rfl rfl <| jc (ZaI lb tu33 tR) <| jc (ZaC lb .cI) <| jn <| JC.block <| bI hx5 fun tv6 hL6 hq6 => JC.pre ?_ (JC.loop (γ := Unit) (stf := fun s q => ⟨[(1, ov (S (rL Zae) extra2)), (2, ov (PTR gb3 0)), (17, ov (S (rL Zae) extra2)), (18, ov (S (rI .i64) (List.length extra2 : Int))), (19, ov (S (rI .i64) s))], [cvar gb3 (rV 16 (rU UInt64)) v1], []⟩) (q := ()) hL6 ?_)
   · exact (Imp.norm (js := [0]) rfl (.cons rfl (.cons rfl (.cons rfl (.cons rfl (.cons rfl .nil))))))
   intro x9 q x hx hr
   obtain _ := q
   change ctx_Of.b2 k extra2 v1 x9 = some x at hx
   unfold ctx_Of.b2 at hx
   refine JC.at ⟨[(1, ov (S (rL Zae) extra2)), (2, ov (PTR gb3 0)), (17, ov (S (rL Zae) extra2)), (18, ov (S (rI .i64) (List.length extra2 : Int))), (19, ov (S (rI .i64) x9))], [cvar gb3 (rV 16 (rU UInt64)) v1], []⟩ <| jr <| lI hx fun v10 hv10 hx => jc (Zar lb tR tR (cs hv10)) <| jn <| JC.seq <| jif tR hx (fun hc7 hx => ?_) (fun hc7 hx => ?_)
   · refine JC.skip <| JQ.then <| JC.seq <| JC.block <| jr <| jmv rfl rfl <| bI hx fun v11 hv11 hx => jc (Zau lb tu33 tz26 tR tR hv11) <| jc (ZaS lb tA26 tR rfl) <| jx (Za8 lb tZ26 zr26) fun gb12 => jc (Zac lb tR) <| jc (ZaM (j := 1) tA26 tR tR rfl (UpdR.self (by rfl)) rfl) <| jn <| bI hx fun x27 hx8 hq8 => JC.seqJ (γ := Unit) (stj := fun _ => ⟨[(1, ov (S (rL Zae) extra2)), (2, ov (PTR gb3 0)), (17, ov (S (rL Zae) extra2)), (18, ov (S (rI .i64) (List.length extra2 : Int))), (19, ov (S (rI .i64) x9)), (51, ov (S rB x27))], [cvar gb3 (rV 16 (rU UInt64)) v1], []⟩) (fun _ => ?_) ?_
     · refine jif tR hq8 (fun hc30 hq8 => ?_) (fun hc30 hq8 => ?_)
       · refine jr <| jc (Zac lb (HasO.const (p := PTO none) fun _ => rfl)) <| jc (Zac lb .cI) <| jn <| JC.ret <| JQ.outRB <| JQ.outR ?_
         try obtain rfl := so hq8
         try obtain rfl := hr _ rfl
         dsimp only at hq6
         refine JQ.outR <| JQ.outRB ?_
         try obtain rfl := so hq6
         dsimp only at hq5
         refine JQ.outR ?_
         obtain rfl := so hq5
         exact JQ.done (js := []) (ss := [.val (PTO none), .val (S (rI .i64) (2 : Int))]) () (.inl rfl) (.nil rfl) rfl (.cons (.tmp rfl) (.cons (.tmp rfl) .nil)) rfl rfl rfl
       refine JC.skip <| JQ.outNB <| JQ.then <| JC.region <| lI hq8 fun v28 hv28 hq8 => jc (ZaX lb tR .cI (cs hv28)) <| jmv rfl rfl <| JL.nil ?_
       try obtain rfl := so hq8
       exact JQ.next () rfl (Imp.norm (js := [0]) rfl (.cons rfl (.cons rfl (.cons rfl (.cons rfl (.cons rfl .nil))))))
     refine bI hx8 fun v13 hv13 hx8 => lI hx8 fun v14 hv14 hx8 => lI hx8 fun v15 hv15 hx8 => lI hx8 fun v16 hv16 hx8 => bI hx8 fun v17 hv17 hx8 => bI hx8 fun v18 hv18 hx8 => lI hx8 fun v19 hv19 hx8 => lI hx8 fun v20 hv20 hx8 => ?_
     obtain ⟨v21, hv21, hx8⟩ := ZaT hx8
     obtain ⟨v22, hv22, hx8⟩ := ZaT hx8
     rcases ZcY hx8 with ⟨hc29, hx8⟩ | ⟨hc29, hx8⟩
     · refine JC.anyF (base := [(1, ov (S (rL Zae) extra2)), (2, ov (PTR gb3 0)), (8, ov (S (rI .i64) x9)), (9, ov (PTR gb12 0)), (17, ov (S (rL Zae) extra2)), (18, ov (S (rI .i64) (List.length extra2 : Int))), (19, ov (S (rI .i64) x9))])
           (fs := fun γ => [⟨some 24, ov (A Zae v11)⟩, ⟨some 25, ov (S rB v13)⟩, ⟨some 26, ov (S rB v14)⟩, ⟨some 27, ov (S rB v14)⟩, ⟨some 28, bif (!v14) then ov (S (rI .i64) x9) else .one .und⟩, ⟨some 29, bif (!v14) then ov (S rB v15) else .one .und⟩, ⟨some 30, bif (!v14) then ov (S rB v15) else .one .und⟩, ⟨some 31, bif ((!v14) && v15) then ov (S (rL Zae) extra2) else .one .und⟩, ⟨some 32, bif ((!v14) && v15) then ov (S (rI .i64) x9) else .one .und⟩, ⟨some 33, bif ((!v14) && v15) then ov (S (rI .i64) v16) else .one .und⟩, ⟨some 34, bif ((!v14) && v15) then ov (PT Zae v17) else .one .und⟩, ⟨some 35, bif ((!v14) && v15) then ov (A Zae v17) else .one .und⟩, ⟨some 36, bif ((!v14) && v15) then ov (A Zae v11) else .one .und⟩, ⟨some 37, bif ((!v14) && v15) then ov (S rB v18) else .one .und⟩, ⟨some 38, bif ((!v14) && v15) then ov (S rB v19) else .one .und⟩, ⟨some 39, bif (!v14) then ov (S rB v20) else .one .und⟩, ⟨some 40, ov (S rB v21)⟩, ⟨some 41, ov (S rB v21)⟩, ⟨some 42, bif (!v21) then ov (PTR gb12 (0 + 1)) else .one .und⟩, ⟨some 43, bif (!v21) then ov (S (rU UInt64) v11.Count) else .one .und⟩, ⟨some 44, bif (!v21) then ov (PTR gb12 (0 + 0)) else .one .und⟩, ⟨some 45, bif (!v21) then ov (S (rI .i64) v11.Region) else .one .und⟩, ⟨some 46, bif (!v21) then ov (S (rI .i64) v22) else .one .und⟩, ⟨some 47, .one .und⟩, ⟨some 48, .one .und⟩, ⟨some 49, .one .und⟩, ⟨some 50, .one .und⟩, ⟨some 51, ov (S rB true)⟩])
           (rs := fun γ => [⟨cvar gb3 (rV 16 (rU UInt64)) v1, none, none, []⟩, ⟨cvar gb12 Zae v11, none, none, [0, 12, 19, 21]⟩])
           (afts := nn 28) (js := [0, 0]) Zcj (.cons rfl (.cons rfl (.cons rfl (.cons rfl (.cons rfl (.cons rfl (.cons rfl .nil))))))) (fun _ => rfl)
           (by
      refine dR 1 (fun γ ρ B hb hd => Zao.lk ⟨ρ, (cvar gb12 Zae v11) :: B, _⟩ (ZaB (j := 0) lb tA26 (.tmp (hb 9 _ rfl)) rfl (Comp.self Zae v11) rfl)) <| dS 2 (fun γ ρ B hb hd => (Zak (js := []) ld cl34 (Zex k v11 v13 hv13) .func (.cons (tl hd 0 24) .nil) rfl).post (fun _ => Imp.refl)) <| dS 3 (fun γ ρ B hb hd => ZbU lb (tl hd 1 25) hv14) <| dm 4 2 26 ?_
      refine dF 5 3 27 v14 (fun γ => ov (S (rI .i64) x9)) (fun γ ρ B hb hd hq9 => ZaC lb (.tmp (hb 8 _ rfl))) ?_
      refine dF 6 3 27 v14 (fun γ => ov (S rB v15)) (fun γ ρ B hb hd hq10 => Zar lb (HasO.cnd (tl hd 4 28) (notT (notF hq10))) .cI (cs hv15)) ?_
      refine dF 7 3 27 v14 (fun γ => ov (S rB v15)) (fun γ ρ B hb hd hq11 => ZaC lb (HasO.cnd (tl hd 5 29) (notT (notF hq11)))) ?_
      refine dA 8 6 30 (!v14) v15 (fun γ => ov (S (rL Zae) extra2)) (fun γ ρ B hb hd hq12 => ZaC lb (.tmp (hb 1 _ rfl))) ?_
      refine dA 9 6 30 (!v14) v15 (fun γ => ov (S (rI .i64) x9)) (fun γ ρ B hb hd hq13 => ZaC lb (.tmp (hb 8 _ rfl))) ?_
      refine dA 10 6 30 (!v14) v15 (fun γ => ov (S (rI .i64) v16)) (fun γ ρ B hb hd hq14 => ZaX lb (HasO.cnd (tl hd 8 32) (andI (notT (notF (andL hq14))) (andR hq14))) .cI (cs hv16)) ?_
      refine dA 11 6 30 (!v14) v15 (fun γ => ov (PT Zae v17)) (fun γ ρ B hb hd hq15 => Zau lb tu33 tz26 (HasO.cnd (tl hd 7 31) (andI (notT (notF (andL hq15))) (andR hq15))) (HasO.cnd (tl hd 9 33) (andI (notT (notF (andL hq15))) (andR hq15))) (ifT hv17 hq15)) ?_
      refine dA 12 6 30 (!v14) v15 (fun γ => ov (A Zae v17)) (fun γ ρ B hb hd hq16 => ZaS lb tA26 (HasO.cnd (tl hd 10 34) (andI (notT (notF (andL hq16))) (andR hq16))) rfl) ?_
      refine eA 13 6 30 (!v14) v15 (fun γ => ov (A Zae v11)) (fun γ ρ B hb hd hq17 => Zao.lk ⟨ρ, (cvar gb12 Zae v11) :: B, _⟩ (ZaB (j := 0) lb tA26 (.tmp (hb 9 _ rfl)) rfl (Comp.self Zae v11) rfl)) ?_
      refine dA 14 6 30 (!v14) v15 (fun γ => ov (S rB v18)) (fun γ ρ B hb hd hq18 => (Zak (js := []) ld cl35 (ZeC k v17 v11 v18 (ifT hv18 hq18)) .func (.cons (HasO.cnd (tl hd 11 35) (andI (notT (notF (andL hq18))) (andR hq18))) (.cons (HasO.cnd (tl hd 12 36) (andI (notT (notF (andL hq18))) (andR hq18))) .nil)) rfl).post (fun _ => Imp.refl)) ?_
      refine dA 15 6 30 (!v14) v15 (fun γ => ov (S rB v19)) (fun γ ρ B hb hd hq19 => ZbU lb (HasO.cnd (tl hd 13 37) (andI (notT (notF (andL hq19))) (andR hq19))) hv19) ?_
      refine dF 16 3 27 v14 (fun γ => ov (S rB v20)) (fun γ ρ B hb hd hq20 => Zas lb (HasO.cnd (tl hd 6 30) (notT (notF hq20))) (fun hb21 => (HasO.cnd (tl hd 14 38) (andI (notT (notF hq20)) hb21))) (fun hb21 => .cB) hv20) ?_
      refine dS 17 (fun γ ρ B hb hd => Zas lb (tl hd 3 27) (fun hb22 => .cB) (fun hb22 => (HasO.cnd (tl hd 15 39) (notT hb22))) hv21) <| dm 18 16 40 ?_
      refine dF 19 17 41 v21 (fun γ => ov (PTR gb12 (0 + 1))) (fun γ ρ B hb hd hq23 => Zaa (off := 1) lb Zft (.tmp (hb 9 _ rfl))) ?_
      refine eF 20 17 41 v21 (fun γ => ov (S (rU UInt64) v11.Count)) (fun γ ρ B hb hd hq24 => Zao.lk ⟨ρ, (cvar gb12 Zae v11) :: B, _⟩ (Zam (j := 0) lb tS24 (HasO.cnd (tl hd 18 42) (notT (notF hq24))) rfl (cT (ZaY v11) rfl) rfl rfl)) ?_
      refine dF 21 17 41 v21 (fun γ => ov (PTR gb12 (0 + 0))) (fun γ ρ B hb hd hq25 => Zaa (off := 0) lb Zeq (.tmp (hb 9 _ rfl))) ?_
      refine eF 22 17 41 v21 (fun γ => ov (S (rI .i64) v11.Region)) (fun γ ρ B hb hd hq26 => Zao.lk ⟨ρ, (cvar gb12 Zae v11) :: B, _⟩ (Zam (j := 0) lb tS3 (HasO.cnd (tl hd 20 44) (notT (notF hq26))) rfl (cT (ZaN v11) rfl) rfl rfl)) ?_
      refine dF 23 17 41 v21 (fun γ => ov (S (rI .i64) v22)) (fun γ ρ B hb hd hq_27 => ZaX lb (HasO.cnd (tl hd 21 45) (notT (notF hq_27))) .cI (cs hv22)) ?_
      refine kn 24 17 41 rfl hc29 <| kn 25 17 41 rfl hc29 <| kn 26 17 41 rfl hc29 <| kn 27 17 41 rfl hc29 <| dS 28 (fun γ ρ B hb hd => Zdf lb (tl hd 17 41) hc29 .cB) ?_
      exact ZaF.nil)
           (by decide +kernel) (fun _ => rfl) (fun _ => rfl) (fun _ => rfl) rfl
           (ρ' := fun γ => [(1, ov (S (rL Zae) extra2)), (2, ov (PTR gb3 0)), (17, ov (S (rL Zae) extra2)), (18, ov (S (rI .i64) (List.length extra2 : Int))), (19, ov (S (rI .i64) x9)), (51, ov (S rB true))])
           (X' := fun γ => [cvar gb3 (rV 16 (rU UInt64)) v1, cvar gb12 Zae v11])
           (fun γ ρ hb hd => (.cons (hb 1 _ rfl) (.cons (hb 2 _ rfl) (.cons (hb 17 _ rfl) (.cons (hb 18 _ rfl) (.cons (hb 19 _ rfl) (.cons (hdq hd 27 51 rfl) .nil))))))) (fun _ => rfl) (fun γ => ?_)
       refine JQ.at ⟨[(1, ov (S (rL Zae) extra2)), (2, ov (PTR gb3 0)), (17, ov (S (rL Zae) extra2)), (18, ov (S (rI .i64) (List.length extra2 : Int))), (19, ov (S (rI .i64) x9)), (51, ov (S rB true))], [cvar gb3 (rV 16 (rU UInt64)) v1, cvar gb12 Zae v11], []⟩ ?_
       try obtain rfl := so hx8
       exact JQ.join () (Imp.norm (js := [0]) rfl (.cons rfl (.cons rfl (.cons rfl (.cons rfl (.cons rfl (.cons rfl .nil)))))))
     refine bI hx8 fun i23 hv_i_23 hx8 => lI hx8 fun v24 hv24 hx8 => lI hx8 fun v25 hv25 hx8 => ?_
     obtain ⟨v26, hv26, hx8⟩ := ZaT hx8
     refine JC.anyF (base := [(1, ov (S (rL Zae) extra2)), (2, ov (PTR gb3 0)), (8, ov (S (rI .i64) x9)), (9, ov (PTR gb12 0)), (17, ov (S (rL Zae) extra2)), (18, ov (S (rI .i64) (List.length extra2 : Int))), (19, ov (S (rI .i64) x9))])
         (fs := fun γ => [⟨some 24, ov (A Zae v11)⟩, ⟨some 25, ov (S rB v13)⟩, ⟨some 26, ov (S rB v14)⟩, ⟨some 27, ov (S rB v14)⟩, ⟨some 28, bif (!v14) then ov (S (rI .i64) x9) else .one .und⟩, ⟨some 29, bif (!v14) then ov (S rB v15) else .one .und⟩, ⟨some 30, bif (!v14) then ov (S rB v15) else .one .und⟩, ⟨some 31, bif ((!v14) && v15) then ov (S (rL Zae) extra2) else .one .und⟩, ⟨some 32, bif ((!v14) && v15) then ov (S (rI .i64) x9) else .one .und⟩, ⟨some 33, bif ((!v14) && v15) then ov (S (rI .i64) v16) else .one .und⟩, ⟨some 34, bif ((!v14) && v15) then ov (PT Zae v17) else .one .und⟩, ⟨some 35, bif ((!v14) && v15) then ov (A Zae v17) else .one .und⟩, ⟨some 36, bif ((!v14) && v15) then ov (A Zae v11) else .one .und⟩, ⟨some 37, bif ((!v14) && v15) then ov (S rB v18) else .one .und⟩, ⟨some 38, bif ((!v14) && v15) then ov (S rB v19) else .one .und⟩, ⟨some 39, bif (!v14) then ov (S rB v20) else .one .und⟩, ⟨some 40, ov (S rB v21)⟩, ⟨some 41, ov (S rB v21)⟩, ⟨some 42, bif (!v21) then ov (PTR gb12 (0 + 1)) else .one .und⟩, ⟨some 43, bif (!v21) then ov (S (rU UInt64) v11.Count) else .one .und⟩, ⟨some 44, bif (!v21) then ov (PTR gb12 (0 + 0)) else .one .und⟩, ⟨some 45, bif (!v21) then ov (S (rI .i64) v11.Region) else .one .und⟩, ⟨some 46, bif (!v21) then ov (S (rI .i64) v22) else .one .und⟩, ⟨some 47, ov (PTR gb3 (0 + i23.1 * 1))⟩, ⟨some 48, ov (S (rU UInt64) v24)⟩, ⟨some 49, ov (S (rU UInt64) v25)⟩, ⟨some 50, ov (S rB v26)⟩, ⟨some 51, ov (S rB v26)⟩])
         (rs := fun γ => [⟨cvar gb3 (rV 16 (rU UInt64)) v1, none, none, [24]⟩, ⟨cvar gb12 Zae v11, none, none, [0, 12, 19, 21]⟩])
         (afts := nn 28) (js := [0, 0]) Zcj (.cons rfl (.cons rfl (.cons rfl (.cons rfl (.cons rfl (.cons rfl (.cons rfl .nil))))))) (fun _ => rfl)
         (by
      refine dR 1 (fun γ ρ B hb hd => Zao.lk ⟨ρ, (cvar gb12 Zae v11) :: B, _⟩ (ZaB (j := 0) lb tA26 (.tmp (hb 9 _ rfl)) rfl (Comp.self Zae v11) rfl)) <| dS 2 (fun γ ρ B hb hd => (Zak (js := []) ld cl34 (Zex k v11 v13 hv13) .func (.cons (tl hd 0 24) .nil) rfl).post (fun _ => Imp.refl)) <| dS 3 (fun γ ρ B hb hd => ZbU lb (tl hd 1 25) hv14) <| dm 4 2 26 ?_
      refine dF 5 3 27 v14 (fun γ => ov (S (rI .i64) x9)) (fun γ ρ B hb hd hq9 => ZaC lb (.tmp (hb 8 _ rfl))) ?_
      refine dF 6 3 27 v14 (fun γ => ov (S rB v15)) (fun γ ρ B hb hd hq10 => Zar lb (HasO.cnd (tl hd 4 28) (notT (notF hq10))) .cI (cs hv15)) ?_
      refine dF 7 3 27 v14 (fun γ => ov (S rB v15)) (fun γ ρ B hb hd hq11 => ZaC lb (HasO.cnd (tl hd 5 29) (notT (notF hq11)))) ?_
      refine dA 8 6 30 (!v14) v15 (fun γ => ov (S (rL Zae) extra2)) (fun γ ρ B hb hd hq12 => ZaC lb (.tmp (hb 1 _ rfl))) ?_
      refine dA 9 6 30 (!v14) v15 (fun γ => ov (S (rI .i64) x9)) (fun γ ρ B hb hd hq13 => ZaC lb (.tmp (hb 8 _ rfl))) ?_
      refine dA 10 6 30 (!v14) v15 (fun γ => ov (S (rI .i64) v16)) (fun γ ρ B hb hd hq14 => ZaX lb (HasO.cnd (tl hd 8 32) (andI (notT (notF (andL hq14))) (andR hq14))) .cI (cs hv16)) ?_
      refine dA 11 6 30 (!v14) v15 (fun γ => ov (PT Zae v17)) (fun γ ρ B hb hd hq15 => Zau lb tu33 tz26 (HasO.cnd (tl hd 7 31) (andI (notT (notF (andL hq15))) (andR hq15))) (HasO.cnd (tl hd 9 33) (andI (notT (notF (andL hq15))) (andR hq15))) (ifT hv17 hq15)) ?_
      refine dA 12 6 30 (!v14) v15 (fun γ => ov (A Zae v17)) (fun γ ρ B hb hd hq16 => ZaS lb tA26 (HasO.cnd (tl hd 10 34) (andI (notT (notF (andL hq16))) (andR hq16))) rfl) ?_
      refine eA 13 6 30 (!v14) v15 (fun γ => ov (A Zae v11)) (fun γ ρ B hb hd hq17 => Zao.lk ⟨ρ, (cvar gb12 Zae v11) :: B, _⟩ (ZaB (j := 0) lb tA26 (.tmp (hb 9 _ rfl)) rfl (Comp.self Zae v11) rfl)) ?_
      refine dA 14 6 30 (!v14) v15 (fun γ => ov (S rB v18)) (fun γ ρ B hb hd hq18 => (Zak (js := []) ld cl35 (ZeC k v17 v11 v18 (ifT hv18 hq18)) .func (.cons (HasO.cnd (tl hd 11 35) (andI (notT (notF (andL hq18))) (andR hq18))) (.cons (HasO.cnd (tl hd 12 36) (andI (notT (notF (andL hq18))) (andR hq18))) .nil)) rfl).post (fun _ => Imp.refl)) ?_
      refine dA 15 6 30 (!v14) v15 (fun γ => ov (S rB v19)) (fun γ ρ B hb hd hq19 => ZbU lb (HasO.cnd (tl hd 13 37) (andI (notT (notF (andL hq19))) (andR hq19))) hv19) ?_
      refine dF 16 3 27 v14 (fun γ => ov (S rB v20)) (fun γ ρ B hb hd hq20 => Zas lb (HasO.cnd (tl hd 6 30) (notT (notF hq20))) (fun hb21 => (HasO.cnd (tl hd 14 38) (andI (notT (notF hq20)) hb21))) (fun hb21 => .cB) hv20) ?_
      refine dS 17 (fun γ ρ B hb hd => Zas lb (tl hd 3 27) (fun hb22 => .cB) (fun hb22 => (HasO.cnd (tl hd 15 39) (notT hb22))) hv21) <| dm 18 16 40 ?_
      refine dF 19 17 41 v21 (fun γ => ov (PTR gb12 (0 + 1))) (fun γ ρ B hb hd hq23 => Zaa (off := 1) lb Zft (.tmp (hb 9 _ rfl))) ?_
      refine eF 20 17 41 v21 (fun γ => ov (S (rU UInt64) v11.Count)) (fun γ ρ B hb hd hq24 => Zao.lk ⟨ρ, (cvar gb12 Zae v11) :: B, _⟩ (Zam (j := 0) lb tS24 (HasO.cnd (tl hd 18 42) (notT (notF hq24))) rfl (cT (ZaY v11) rfl) rfl rfl)) ?_
      refine dF 21 17 41 v21 (fun γ => ov (PTR gb12 (0 + 0))) (fun γ ρ B hb hd hq25 => Zaa (off := 0) lb Zeq (.tmp (hb 9 _ rfl))) ?_
      refine eF 22 17 41 v21 (fun γ => ov (S (rI .i64) v11.Region)) (fun γ ρ B hb hd hq26 => Zao.lk ⟨ρ, (cvar gb12 Zae v11) :: B, _⟩ (Zam (j := 0) lb tS3 (HasO.cnd (tl hd 20 44) (notT (notF hq26))) rfl (cT (ZaN v11) rfl) rfl rfl)) ?_
      refine dF 23 17 41 v21 (fun γ => ov (S (rI .i64) v22)) (fun γ ρ B hb hd hq_27 => ZaX lb (HasO.cnd (tl hd 21 45) (notT (notF hq_27))) .cI (cs hv22)) ?_
      refine dY 24 (fun γ ρ B hb hd => ⟨.yes rfl (ltB rfl) (hl hd 17 41 rfl) hc29, lkB (Zb6 lb tr29 (.tmp (hb 2 _ rfl)) (HasO.cnd (tl hd 22 46) (notT hc29)) hv_i_23)⟩) <| dY 25 (fun γ ρ B hb hd => ⟨.yes rfl (ltB rfl) (hl hd 17 41 rfl) hc29, Zao.lk ⟨ρ, (cvar gb3 (rV 16 (rU UInt64)) v1) :: B, _⟩ (Zam (j := 0) lb tS24 (tl hd 23 47) rfl (Comp.at (Comp.self (rV 16 (rU UInt64)) v1) i23.2 rfl) rfl hv24)⟩) <| dY 26 (fun γ ρ B hb hd => ⟨.yes rfl (ltB rfl) (hl hd 17 41 rfl) hc29, lkB (Zfu lb (tl hd 24 48) (HasO.cU (x := (1 : UInt64)) rfl (by decide)) (cs hv25))⟩) <| dY 27 (fun γ ρ B hb hd => ⟨.yes rfl (ltB rfl) (hl hd 17 41 rfl) hc29, lkB (Zci lb (HasO.cnd (tl hd 19 43) (notT hc29)) (tl hd 25 49) (cs hv26))⟩) <| dS 28 (fun γ ρ B hb hd => Za6 lb (tl hd 17 41) hc29 (tl hd 26 50)) ?_
      exact ZaF.nil)
         (by decide +kernel) (fun _ => rfl) (fun _ => rfl) (fun _ => rfl) rfl
         (ρ' := fun γ => [(1, ov (S (rL Zae) extra2)), (2, ov (PTR gb3 0)), (17, ov (S (rL Zae) extra2)), (18, ov (S (rI .i64) (List.length extra2 : Int))), (19, ov (S (rI .i64) x9)), (51, ov (S rB v26))])
         (X' := fun γ => [cvar gb3 (rV 16 (rU UInt64)) v1, cvar gb12 Zae v11])
         (fun γ ρ hb hd => (.cons (hb 1 _ rfl) (.cons (hb 2 _ rfl) (.cons (hb 17 _ rfl) (.cons (hb 18 _ rfl) (.cons (hb 19 _ rfl) (.cons (hdq hd 27 51 rfl) .nil))))))) (fun _ => rfl) (fun γ => ?_)
     refine JQ.at ⟨[(1, ov (S (rL Zae) extra2)), (2, ov (PTR gb3 0)), (17, ov (S (rL Zae) extra2)), (18, ov (S (rI .i64) (List.length extra2 : Int))), (19, ov (S (rI .i64) x9)), (51, ov (S rB v26))], [cvar gb3 (rV 16 (rU UInt64)) v1, cvar gb12 Zae v11], []⟩ ?_
     try obtain rfl := so hx8
     exact JQ.join () (Imp.norm (js := [0]) rfl (.cons rfl (.cons rfl (.cons rfl (.cons rfl (.cons rfl (.cons rfl .nil)))))))
   refine JC.exit <| JQ.outX ?_
   try obtain rfl := so hx
   try obtain rfl := hr _ rfl
   dsimp only at hq6
   refine JQ.outX <| JQ.here ?_
   try obtain rfl := so hq6
   exact JQ.joinK () () rfl (Imp.norm (js := [0]) rfl (.cons rfl (.cons rfl .nil)))
 refine jr <| jc (ZaB (j := 0) lb tA29 tR rfl (Comp.self (rV 16 (rU UInt64)) v1) rfl) <| jc (ZaC lb .cI) <| jn <| JC.block <| bI hx1 fun tv2 hL2 hq2 => JC.pre ?_ (JC.loop (γ := Unit) (stf := fun s q => ⟨[(1, ov (S (rL Zae) extra2)), (2, ov (PTR gb3 0)), (10, ov (A (rV 16 (rU UInt64)) v1)), (11, ov (S (rI .i64) s))], [cvar gb3 (rV 16 (rU UInt64)) v1], []⟩) (q := ()) hL2 ?_)
 · exact (Imp.norm (js := [0]) rfl (.cons rfl (.cons rfl (.cons rfl (.cons rfl .nil)))))
 intro x4 q x hx hr
 obtain _ := q
 change ctx_Of.b1 k v1 x4 = some x at hx
 unfold ctx_Of.b1 at hx
 refine JC.at ⟨[(1, ov (S (rL Zae) extra2)), (2, ov (PTR gb3 0)), (10, ov (A (rV 16 (rU UInt64)) v1)), (11, ov (S (rI .i64) x4))], [cvar gb3 (rV 16 (rU UInt64)) v1], []⟩ <| jr <| lI hx fun v5 hv5 hx => jc (Zar lb tR .cI (cs hv5)) <| jn <| JC.seq <| jif tR hx (fun hc3 hx => ?_) (fun hc3 hx => ?_)
 · refine JC.skip <| JQ.then <| JC.seq <| JC.block <| jr <| bI hx fun v6 hv6 hx => jc (Zis lb tu29 tS24 rfl tR tR hv6) <| jc (Zac lb tR) <| jn <| jr <| jmv rfl rfl <| lI hx fun v7 hv7 hx => jc (Zci lb tR (HasO.cU (x := (4611686018427387904 : UInt64)) rfl (by decide)) (cs hv7)) <| jn <| jif tR hx (fun hc4 hx => ?_) (fun hc4 hx => ?_)
   · refine jr <| jc (Zac lb (HasO.const (p := PTO none) fun _ => rfl)) <| jc (Zac lb .cI) <| jn <| JC.ret <| JQ.outRB <| JQ.outR ?_
     try obtain rfl := so hx
     try obtain rfl := hr _ rfl
     dsimp only at hq2
     refine JQ.outR <| JQ.outRB ?_
     try obtain rfl := so hq2
     dsimp only at hq1
     refine JQ.outR ?_
     obtain rfl := so hq1
     exact JQ.done (js := []) (ss := [.val (PTO none), .val (S (rI .i64) (2 : Int))]) () (.inl rfl) (.nil rfl) rfl (.cons (.tmp rfl) (.cons (.tmp rfl) .nil)) rfl rfl rfl
   refine JC.skip <| JQ.outNB <| JQ.then <| JC.region <| lI hx fun v8 hv8 hx => jc (ZaX lb tR .cI (cs hv8)) <| jmv rfl rfl <| JL.nil ?_
   try obtain rfl := so hx
   exact JQ.next () rfl (Imp.norm (js := [0]) rfl (.cons rfl (.cons rfl (.cons rfl (.cons rfl .nil)))))
 refine JC.exit <| JQ.outX ?_
 try obtain rfl := so hx
 try obtain rfl := hr _ rfl
 dsimp only at hq2
 refine JQ.outX <| JQ.here ?_
 try obtain rfl := so hq2
 exact JQ.joinK () () rfl (Imp.norm (js := [0]) rfl (.cons rfl (.cons rfl .nil)))

theorem ZiG (k : Nat) (v1 : (Vector UInt64 16)) (extra2 : (List Zah)) (r : (List Zah)) (hm : ctx_Of k v1 extra2 = some (.inl r)) : Sim Tryz.prog 87 [A (rV 16 (rU UInt64)) v1, S (rL Zae) extra2] [] (γ := Nat × Option Nat × Nat) (fun q => [cvar q.1 (rP (rV 16 (rU UInt64)) (rP (rW (HDR q.2.1 0 (List.length r) q.2.2)) (rP rB r0))) (v1, ((), (true, ()))), cown q.2.1 Zae r 0 q.2.2]) (fun q => .tup [.val (PTR q.1 0), .val (S (rI .i64) (0 : Int))]) := Zgz k v1 extra2 (.inl r) hm

theorem Zi1 (k : Nat) (v1 : (Vector UInt64 16)) (extra2 : (List Zah)) (r : Int) (hm : ctx_Of k v1 extra2 = some (.inr r)) : Sim Tryz.prog 87 [A (rV 16 (rU UInt64)) v1, S (rL Zae) extra2] [] (γ := Unit) (fun q => []) (fun q => .tup [.val (PTO none), .val (S (rI .i64) r)]) := Zgz k v1 extra2 (.inr r) hm

theorem Zgh (k : Nat) (f1 : Zai) (r : Bool) (hm : Zeg k f1 = some r) : Sim Tryz.prog 36 [A Zad f1] [] (γ := Unit) (fun q => []) (fun q => .one (.val (S rB r))) := by
 unfold Zeg at hm
 refine Sim.of Tryz.func36 rfl rfl (lE rfl) (fun e0 w0 => ?_)
 refine JC.at ⟨[(0, ov (A Zad f1))], [], []⟩ <| jr <| jx (ZaZ lb tR) fun gb2 => jc (Zac lb .cB) <| jn <| jr <| jc (Zaa (off := 41) lb Zfw tR) <| jc (ZaB (j := 0) lb tA29 tR rfl (cT (Zbn f1) rfl) rfl) <| jc (Zaa (off := 57) lb Ze1 tR) <| jc (Zam (j := 0) lb tS33 tR rfl (cT (Za7 f1) rfl) rfl rfl) ?_
 obtain ⟨ts1, hs1, hm⟩ := Zaz hm
 rcases ts1 with ts1 | ts1
 · obtain ⟨v3, hvv⟩ : ∃ z, z = ts1 := ⟨_, rfl⟩
   subst hvv
   dsimp only at hm
   refine jx (Zak (js := []) ld cl87 (ZiG k f1.Seen f1.Extra v3 hs1) .func (.cons tR (.cons tR .nil)) rfl) (fun q => ?_)
   obtain ⟨gb4, go5, gc6⟩ := q
   refine jmv rfl rfl <| JL.nrm ⟨[(5, .tup [.val (PTR gb4 0), .val (S (rI .i64) (0 : Int))])], [cvar gb4 (zq18 go5 v3 gc6) (f1.Seen, ((), (true, ()))), cown go5 Zae v3 0 gc6], []⟩ [0, 0] rfl (.cons rfl .nil) rfl <| jc (Zaw (i := 0) lb tR rfl) <| jc (Zaw (i := 1) lb tR rfl) <| jc (Zac lb tR) <| jc (Zac lb tR) <| jn <| jr <| jmv rfl rfl <| jc (Zar lb tR .cI (cs (by decide : ((0 : Int) == (0 : Int)) = true))) <| jc (Zac lb tR) <| jn <| JC.ret ?_
   obtain rfl := so hm
   exact jd (.val (S rB true)) rfl rfl rfl rfl rfl rfl
 obtain ⟨v7, hvv⟩ : ∃ z, z = ts1 := ⟨_, rfl⟩
 subst hvv
 dsimp only at hm
 refine jx (Zak (js := []) ld cl87 (Zi1 k f1.Seen f1.Extra v7 hs1) .func (.cons tR (.cons tR .nil)) rfl) fun _ => jmv rfl rfl <| JL.nrm ⟨[(5, .tup [.val (PTO none), .val (S (rI .i64) v7)])], [], []⟩ [] rfl (.cons rfl .nil) rfl <| jc (Zaw (i := 0) lb tR rfl) <| jc (Zaw (i := 1) lb tR rfl) <| jc (Zac lb tR) <| jc (Zac lb tR) <| jn <| jr <| jmv rfl rfl <| lI hm fun v8 hv8 hm => jc (Zar lb tR .cI (cs hv8)) <| jc (Zac lb tR) <| jn <| JC.ret ?_
 obtain rfl := so hm
 exact jd (.val (S rB v8)) rfl rfl rfl rfl rfl rfl

theorem Zfn (k : Nat) (t1 : Zai) (r : Bool) (hm : frame_May k t1 = some r) : Sim Tryz.prog 11 [A Zad t1] [] (γ := Unit) (fun q => []) (fun q => .one (.val (S rB r))) := by
 unfold frame_May at hm
 refine Sim.of Tryz.func11 rfl rfl (lE rfl) (fun e0 w0 => ?_)
 refine JC.at ⟨[(0, ov (A Zad t1))], [], []⟩ <| jr <| jx (ZaZ lb tR) fun gb2 => jc (Zac lb .cB) <| jn <| JC.seq <| bI hm fun x16 hx1 hq1 => JC.seqJ (γ := Unit) (stj := fun _ => ⟨[(1, ov (PTR gb2 0)), (41, ov (S rB x16))], [cvar gb2 Zad t1], []⟩) (fun _ => ?_) ?_
 · refine jif tR hq1 (fun hc26 hq1 => ?_) (fun hc26 hq1 => ?_)
   · refine jr <| jc (Zac lb .cB) <| jn <| JC.ret <| JQ.outR ?_
     obtain rfl := so hq1
     exact jd (.val (S rB false)) rfl rfl rfl rfl rfl rfl
   refine JC.skip <| JQ.then <| jr <| jc (Zac lb .func) <| jn <| bI hq1 fun tv27 hx27 hq27 => JC.seqK (α := Unit) (γ := Unit) (stj := fun v q => ⟨[], [], []⟩) (p := fun v => tv27 = (.inl v)) (fun v q hv => ?_) ?_
   · subst hv
     skip
     obtain _ := q
     dsimp only at hq27
     refine JC.at ⟨[], [], []⟩ <| jr <| jc (Zac lb .cB) <| jn <| JC.ret ?_
     obtain rfl := so hq27
     exact jd (.val (S rB false)) rfl rfl rfl rfl rfl rfl
   refine jr <| jc (Zaa (off := 0) lb Zgg tR) <| jc (Zam (j := 0) lb tS22 tR rfl (cT (Za4 t1) rfl) rfl rfl) <| jn <| JC.block <| jr <| lI hx27 fun v17 hv17 hx27 => jc (Zar lb tR .cI (cs hv17)) <| jc (Zac lb tR) <| jn <| jif tR hx27 (fun hc28 hx27 => ?_) (fun hc28 hx27 => ?_)
   · refine bI hx27 fun x21 hx29 hq29 => JC.seqJ (γ := Unit) (stj := fun _ => ⟨[(2, ov (S rB x21))], [], []⟩) (fun _ => ?_) ?_
     · refine JC.ret <| JQ.outRB ?_
       try obtain rfl := so hq29
       dsimp only at hq27
       refine JQ.outR ?_
       obtain rfl := so hq27
       exact jd (.val (S rB x21)) rfl rfl rfl rfl rfl rfl
     refine JC.region <| jc (Zaa (off := 3) lb ZdJ tR) <| jc (Zam (j := 0) lb tS23 tR rfl (cT (ZaO t1) rfl) rfl rfl) <| jc (ZaI lb tu23 tR) <| lI hx29 fun v18 hv18 hx29 => jc (Zar lb tR .cI (cs hv18)) <| jmv rfl rfl <| jT (ov (A Zad t1)) rfl rfl rfl rfl (fun hq30 => ZaB (j := 0) lb tA39 tR rfl (Comp.self Zad t1) rfl) <| bI hx29 fun v19 hv19 hx29 => jT (ov (S rB v19)) rfl rfl rfl rfl (fun hq31 => (Zak (js := []) ld cl30 (ZfS k t1 v19 (ifT hv19 hq31)) .func (.cons (HasO.cnd tR hq31) .nil) rfl).post (fun _ => Imp.refl)) <| JL.nrm ⟨[(50, ov (S rB v18)), (52, bif v18 then ov (S rB v19) else .one .und)], [], []⟩ [] rfl (.cons rfl (.cons rfl .nil)) rfl <| lI hx29 fun v20 hv20 hx29 => jc (Zas lb tR (fun hb32 => (HasO.cnd tR hb32)) (fun hb32 => .cB) hv20) <| jc (Zac lb tR) <| JL.nil ?_
     try obtain rfl := so hx29
     exact jo rfl rfl rfl
   refine jr <| lI hx27 fun v22 hv22 hx27 => jc (Zar lb tR .cI (cs hv22)) <| jc (Zac lb tR) <| jn <| jif tR hx27 (fun hc33 hx27 => ?_) (fun hc33 hx27 => ?_)
   · refine jr <| jc (Zaa (off := 4) lb Zgi tR) <| jc (ZaB (j := 0) lb tA32 tR rfl (cT (Zbf t1) rfl) rfl) <| bI hx27 fun v23 hv23 hx27 => jx (Zak (js := []) ld cl31 (Zfg k t1.Event v23 hv23) .func (.cons tR .nil) rfl) fun _ => jc (Zac lb tR) <| jn <| JC.ret <| JQ.outRB ?_
     try obtain rfl := so hx27
     dsimp only at hq27
     refine JQ.outR ?_
     obtain rfl := so hq27
     exact jd (.val (S rB v23)) rfl rfl rfl rfl rfl rfl
   refine jr <| lI hx27 fun v24 hv24 hx27 => jc (Zar lb tR .cI (cs hv24)) <| jc (Zac lb tR) <| jn <| jif tR hx27 (fun hc34 hx27 => ?_) (fun hc34 hx27 => ?_)
   · refine jr <| jc (Zaa (off := 25) lb Zg3 tR) <| bI hx27 fun v25 hv25 hx27 => JL.pre (Imp.frzVar (j := 0) rfl (ImpK.slotP (s := 1) rfl (Comp.self Zad t1) (ImpK.slotP (s := 42) rfl (cT (Za4 t1) rfl) (ImpK.slotP (s := 61) rfl (cT (ZbG t1) rfl) ImpK.refl)))) <| jc (ZgF lb tu29 tz24 tR .none .none hv25) <| JL.sub ⟨[(62, ov (S (rL (rU UInt64)) v25))], [], []⟩ (.cons rfl .nil) rfl rfl <| bI hx27 fun v26 hv26 hx27 => jx (Zak (js := []) ld cl32 (Zdg k v25 v26 hv26) .func (.cons tR (.cons .func .nil)) rfl) fun _ => lI hx27 fun v27 hv27 hx27 => jc (ZbU lb tR hv27) <| jc (Zac lb tR) <| jn ?_
     refine JC.ret <| JQ.outRB ?_
     try obtain rfl := so hx27
     dsimp only at hq27
     refine JQ.outR ?_
     obtain rfl := so hq27
     exact jd (.val (S rB v27)) rfl rfl rfl rfl rfl rfl
   refine jr <| lI hx27 fun v28 hv28 hx27 => jc (Zar lb tR .cI (cs hv28)) <| jc (Zac lb tR) <| jn <| jif tR hx27 (fun hc35 hx27 => ?_) (fun hc35 hx27 => ?_)
   · refine bI hx27 fun tv36 hx36 hq36 => JC.seqK (α := Unit) (γ := Unit) (stj := fun v q => ⟨[(1, ov (PTR gb2 0))], [cvar gb2 Zad t1], []⟩) (p := fun v => tv36 = (.inl v)) (fun v q hv => ?_) ?_
     · subst hv
       skip
       obtain _ := q
       dsimp only at hq36
       refine JC.at ⟨[(1, ov (PTR gb2 0))], [cvar gb2 Zad t1], []⟩ <| bI hq36 fun x48 hx59 hq59 => JC.seqJ (γ := Unit) (stj := fun _ => ⟨[(2, ov (S rB x48))], [], []⟩) (fun _ => ?_) ?_
       · refine JC.ret <| JQ.outRB ?_
         try obtain rfl := so hq59
         dsimp only at hq27
         refine JQ.outR ?_
         obtain rfl := so hq27
         exact jd (.val (S rB x48)) rfl rfl rfl rfl rfl rfl
       refine JC.region <| jc (Zaa (off := 58) lb Zfr tR) <| jc (Zam (j := 0) lb tS33 tR rfl (cT (Za5 t1) rfl) rfl rfl) <| jc (ZaI lb tu33 tR) <| lI hx59 fun v45 hv45 hx59 => jc (Zar lb tR .cI (cs hv45)) <| jmv rfl rfl <| jT (ov (A Zad t1)) rfl rfl rfl rfl (fun hq60 => ZaB (j := 0) lb tA39 tR rfl (Comp.self Zad t1) rfl) <| bI hx59 fun v46 hv46 hx59 => jT (ov (S rB v46)) rfl rfl rfl rfl (fun hq61 => (Zak (js := []) ld cl36 (Zgh k t1 v46 (ifT hv46 hq61)) .func (.cons (HasO.cnd tR hq61) .nil) rfl).post (fun _ => Imp.refl)) <| lI hx59 fun v47 hv47 hx59 => jc (Zas lb tR (fun hb62 => (HasO.cnd tR hb62)) (fun hb62 => .cB) hv47) <| jc (Zac lb tR) <| JL.nil ?_
       try obtain rfl := so hx59
       exact jo rfl rfl rfl
     refine jr <| jc (Zaa (off := 58) lb Zfr tR) <| JL.sub ⟨[(1, ov (PTR gb2 0)), (3, ov (CLO 29 [])), (67, ov (PTR gb2 (0 + 58)))], [cvar gb2 Zad t1], []⟩ (.cons rfl (.cons rfl (.cons rfl .nil))) rfl rfl <| jc (Zam (j := 0) lb tS33 tR rfl (cT (Za5 t1) rfl) rfl rfl) <| jc (ZaI lb tu33 tR) <| jc (ZaC lb .cI) <| jn <| JC.block <| bI hx36 fun tv37 hL37 hq37 => JC.pre ?_ (JC.loop (γ := Unit) (stf := fun s q => ⟨[(1, ov (PTR gb2 0)), (3, ov (CLO 29 [])), (68, ov (S (rL Zae) t1.Live)), (69, ov (S (rI .i64) (List.length t1.Live : Int))), (70, ov (S (rI .i64) s))], [cvar gb2 Zad t1], []⟩) (q := ()) hL37 ?_)
     · exact (Imp.norm (js := [0]) rfl (.cons rfl (.cons rfl (.cons rfl (.cons rfl (.cons rfl .nil))))))
     intro x29 q x hx hr
     obtain _ := q
     change frame_May.b1 k t1 x29 = some x at hx
     unfold frame_May.b1 at hx
     refine JC.at ⟨[(1, ov (PTR gb2 0)), (3, ov (CLO 29 [])), (68, ov (S (rL Zae) t1.Live)), (69, ov (S (rI .i64) (List.length t1.Live : Int))), (70, ov (S (rI .i64) x29))], [cvar gb2 Zad t1], []⟩ <| jr <| lI hx fun v30 hv30 hx => jc (Zar lb tR tR (cs hv30)) <| jn <| JC.seq <| jif tR hx (fun hc38 hx => ?_) (fun hc38 hx => ?_)
     · refine JC.skip <| JQ.then <| JC.seq <| JC.block <| jr <| jmv rfl rfl <| bI hx fun v31 hv31 hx => jc (Zau lb tu33 tz26 tR tR hv31) <| jc (ZaS lb tA26 tR rfl) <| jx (Za8 lb tZ26 zr26) fun gb32 => jc (Zac lb tR) <| jc (ZaM (j := 1) tA26 tR tR rfl (UpdR.self (by rfl)) rfl) <| jn <| bI hx fun x43 hx39 hq39 => JC.seqJ (γ := Unit) (stj := fun _ => ⟨[(1, ov (PTR gb2 0)), (3, ov (CLO 29 [])), (68, ov (S (rL Zae) t1.Live)), (69, ov (S (rI .i64) (List.length t1.Live : Int))), (70, ov (S (rI .i64) x29)), (95, ov (S rB x43))], [cvar gb2 Zad t1], []⟩) (fun _ => ?_) ?_
       · refine jif tR hq39 (fun hc58 hq39 => ?_) (fun hc58 hq39 => ?_)
         · refine jr <| jc (Zac lb .cB) <| jn <| JC.ret <| JQ.outRB <| JQ.outR ?_
           try obtain rfl := so hq39
           try obtain rfl := hr _ rfl
           dsimp only at hq37
           refine JQ.outR <| JQ.outRB ?_
           try obtain rfl := so hq37
           dsimp only at hq36
           refine JQ.outR <| JQ.outRB ?_
           try obtain rfl := so hq36
           dsimp only at hq27
           refine JQ.outR ?_
           obtain rfl := so hq27
           exact jd (.val (S rB false)) rfl rfl rfl rfl rfl rfl
         refine JC.skip <| JQ.outNB <| JQ.then <| JC.region <| lI hq39 fun v44 hv44 hq39 => jc (ZaX lb tR .cI (cs hv44)) <| jmv rfl rfl <| JL.nil ?_
         try obtain rfl := so hq39
         exact JQ.next () rfl (Imp.norm (js := [0]) rfl (.cons rfl (.cons rfl (.cons rfl (.cons rfl (.cons rfl .nil))))))
       refine bI hx39 fun v33 hv33 hx39 => lI hx39 fun v34 hv34 hx39 => lI hx39 fun v35 hv35 hx39 => lI hx39 fun v36 hv36 hx39 => bI hx39 fun v37 hv37 hx39 => bI hx39 fun v38 hv38 hx39 => lI hx39 fun v39 hv39 hx39 => bI hx39 fun v40 hv40 hx39 => ?_
       obtain ⟨v41, hv41, hx39⟩ := ZaT hx39
       obtain ⟨v42, hv42, hx39⟩ := ZaT hx39
       refine JC.anyF (base := [(1, ov (PTR gb2 0)), (3, ov (CLO 29 [])), (4, ov (S (rI .i64) x29)), (5, ov (PTR gb32 0)), (68, ov (S (rL Zae) t1.Live)), (69, ov (S (rI .i64) (List.length t1.Live : Int))), (70, ov (S (rI .i64) x29))])
           (fs := fun γ => [⟨some 75, ov (A Zae v31)⟩, ⟨some 76, ov (S rB v33)⟩, ⟨some 77, ov (S rB v34)⟩, ⟨some 78, ov (S rB v34)⟩, ⟨some 79, bif (!v34) then ov (CLO 29 []) else .one .und⟩, ⟨some 80, bif (!v34) then ov (S (rI .i64) x29) else .one .und⟩, ⟨some 81, bif (!v34) then ov (S (rI .i64) x29) else .one .und⟩, ⟨some 82, bif (!v34) then ov (S rB v35) else .one .und⟩, ⟨some 83, bif (!v34) then ov (S rB v35) else .one .und⟩, ⟨some 84, bif ((!v34) && v35) then ov (PTR gb2 (0 + 58)) else .one .und⟩, ⟨some 85, bif ((!v34) && v35) then ov (S (rL Zae) t1.Live) else .one .und⟩, ⟨some 86, bif ((!v34) && v35) then ov (S (rI .i64) x29) else .one .und⟩, ⟨some 87, bif ((!v34) && v35) then ov (S (rI .i64) v36) else .one .und⟩, ⟨some 88, bif ((!v34) && v35) then ov (PT Zae v37) else .one .und⟩, ⟨some 89, bif ((!v34) && v35) then ov (A Zae v37) else .one .und⟩, ⟨some 90, bif ((!v34) && v35) then ov (A Zae v31) else .one .und⟩, ⟨some 91, bif ((!v34) && v35) then ov (S rB v38) else .one .und⟩, ⟨some 92, bif (!v34) then ov (S rB v39) else .one .und⟩, ⟨some 93, bif (!v34) then ov (S rB v40) else .one .und⟩, ⟨some 94, bif (!v34) then ov (S rB v41) else .one .und⟩, ⟨some 95, ov (S rB v42)⟩])
           (rs := fun γ => [⟨cvar gb2 Zad t1, none, none, [10]⟩, ⟨cvar gb32 Zae v31, none, none, [0, 15]⟩])
           (afts := nn 21) (js := [0, 0]) Zcj (.cons rfl (.cons rfl (.cons rfl (.cons rfl (.cons rfl (.cons rfl (.cons rfl .nil))))))) (fun _ => rfl)
           (by
      refine dR 1 (fun γ ρ B hb hd => Zao.lk ⟨ρ, (cvar gb32 Zae v31) :: B, _⟩ (ZaB (j := 0) lb tA26 (.tmp (hb 5 _ rfl)) rfl (Comp.self Zae v31) rfl)) <| dS 2 (fun γ ρ B hb hd => (Zak (js := []) ld cl34 (Zex k v31 v33 hv33) .func (.cons (tl hd 0 75) .nil) rfl).post (fun _ => Imp.refl)) <| dS 3 (fun γ ρ B hb hd => ZbU lb (tl hd 1 76) hv34) <| dm 4 2 77 ?_
      refine dF 5 3 78 v34 (fun γ => ov (CLO 29 [])) (fun γ ρ B hb hd hq40 => ZaC lb (.tmp (hb 3 _ rfl))) ?_
      refine dF 6 3 78 v34 (fun γ => ov (S (rI .i64) x29)) (fun γ ρ B hb hd hq41 => ZaC lb (.tmp (hb 4 _ rfl))) ?_
      refine dF 7 3 78 v34 (fun γ => ov (S (rI .i64) x29)) (fun γ ρ B hb hd hq42 => ZaC lb (.tmp (hb 4 _ rfl))) ?_
      refine dF 8 3 78 v34 (fun γ => ov (S rB v35)) (fun γ ρ B hb hd hq43 => Zar lb (HasO.cnd (tl hd 6 81) (notT (notF hq43))) .cI (cs hv35)) ?_
      refine dF 9 3 78 v34 (fun γ => ov (S rB v35)) (fun γ ρ B hb hd hq44 => ZaC lb (HasO.cnd (tl hd 7 82) (notT (notF hq44)))) ?_
      refine dA 10 8 83 (!v34) v35 (fun γ => ov (PTR gb2 (0 + 58))) (fun γ ρ B hb hd hq45 => Zaa (off := 58) lb Zfr (.tmp (hb 1 _ rfl))) ?_
      refine eA 11 8 83 (!v34) v35 (fun γ => ov (S (rL Zae) t1.Live)) (fun γ ρ B hb hd hq46 => Zao.lk ⟨ρ, (cvar gb2 Zad t1) :: B, _⟩ (Zam (j := 0) lb tS33 (HasO.cnd (tl hd 9 84) (andI (notT (notF (andL hq46))) (andR hq46))) rfl (cT (Za5 t1) rfl) rfl rfl)) ?_
      refine dA 12 8 83 (!v34) v35 (fun γ => ov (S (rI .i64) x29)) (fun γ ρ B hb hd hq47 => ZaC lb (.tmp (hb 4 _ rfl))) ?_
      refine dA 13 8 83 (!v34) v35 (fun γ => ov (S (rI .i64) v36)) (fun γ ρ B hb hd hq48 => ZaX lb (HasO.cnd (tl hd 11 86) (andI (notT (notF (andL hq48))) (andR hq48))) .cI (cs hv36)) ?_
      refine dA 14 8 83 (!v34) v35 (fun γ => ov (PT Zae v37)) (fun γ ρ B hb hd hq49 => Zau lb tu33 tz26 (HasO.cnd (tl hd 10 85) (andI (notT (notF (andL hq49))) (andR hq49))) (HasO.cnd (tl hd 12 87) (andI (notT (notF (andL hq49))) (andR hq49))) (ifT hv37 hq49)) ?_
      refine dA 15 8 83 (!v34) v35 (fun γ => ov (A Zae v37)) (fun γ ρ B hb hd hq50 => ZaS lb tA26 (HasO.cnd (tl hd 13 88) (andI (notT (notF (andL hq50))) (andR hq50))) rfl) ?_
      refine eA 16 8 83 (!v34) v35 (fun γ => ov (A Zae v31)) (fun γ ρ B hb hd hq51 => Zao.lk ⟨ρ, (cvar gb32 Zae v31) :: B, _⟩ (ZaB (j := 0) lb tA26 (.tmp (hb 5 _ rfl)) rfl (Comp.self Zae v31) rfl)) ?_
      refine dA 17 8 83 (!v34) v35 (fun γ => ov (S rB v38)) (fun γ ρ B hb hd hq52 => (Zak (js := []) ld cl35 (ZeC k v37 v31 v38 (ifT hv38 hq52)) .func (.cons (HasO.cnd (tl hd 14 89) (andI (notT (notF (andL hq52))) (andR hq52))) (.cons (HasO.cnd (tl hd 15 90) (andI (notT (notF (andL hq52))) (andR hq52))) .nil)) rfl).post (fun _ => Imp.refl)) ?_
      refine dF 18 3 78 v34 (fun γ => ov (S rB v39)) (fun γ ρ B hb hd hq53 => Zas lb (HasO.cnd (tl hd 8 83) (notT (notF hq53))) (fun hb54 => (HasO.cnd (tl hd 16 91) (andI (notT (notF hq53)) hb54))) (fun hb54 => .cB) hv39) ?_
      refine dF 19 3 78 v34 (fun γ => ov (S rB v40)) (fun γ ρ B hb hd hq55 => (Zak (js := []) ld cl29 (Zel k x29 v39 v40 (ifT hv40 hq55)) (HasO.cnd (tl hd 4 79) (notT (notF hq55))) (.cons (HasO.cnd (tl hd 5 80) (notT (notF hq55))) (.cons (HasO.cnd (tl hd 17 92) (notT (notF hq55))) .nil)) rfl).post (fun _ => Imp.refl)) ?_
      refine dF 20 3 78 v34 (fun γ => ov (S rB v41)) (fun γ ρ B hb hd hq56 => ZbU lb (HasO.cnd (tl hd 18 93) (notT (notF hq56))) hv41) ?_
      refine dS 21 (fun γ ρ B hb hd => Zas lb (tl hd 3 78) (fun hb57 => .cB) (fun hb57 => (HasO.cnd (tl hd 19 94) (notT hb57))) hv42) ?_
      exact ZaF.nil)
           (by decide +kernel) (fun _ => rfl) (fun _ => rfl) (fun _ => rfl) rfl
           (ρ' := fun γ => [(1, ov (PTR gb2 0)), (3, ov (CLO 29 [])), (68, ov (S (rL Zae) t1.Live)), (69, ov (S (rI .i64) (List.length t1.Live : Int))), (70, ov (S (rI .i64) x29)), (95, ov (S rB v42))])
           (X' := fun γ => [cvar gb2 Zad t1, cvar gb32 Zae v31])
           (fun γ ρ hb hd => (.cons (hb 1 _ rfl) (.cons (hb 3 _ rfl) (.cons (hb 68 _ rfl) (.cons (hb 69 _ rfl) (.cons (hb 70 _ rfl) (.cons (hdq hd 20 95 rfl) .nil))))))) (fun _ => rfl) (fun γ => ?_)
       refine JQ.at ⟨[(1, ov (PTR gb2 0)), (3, ov (CLO 29 [])), (68, ov (S (rL Zae) t1.Live)), (69, ov (S (rI .i64) (List.length t1.Live : Int))), (70, ov (S (rI .i64) x29)), (95, ov (S rB v42))], [cvar gb2 Zad t1, cvar gb32 Zae v31], []⟩ ?_
       try obtain rfl := so hx39
       exact JQ.join () (Imp.norm (js := [0]) rfl (.cons rfl (.cons rfl (.cons rfl (.cons rfl (.cons rfl (.cons rfl .nil)))))))
     refine JC.exit <| JQ.outX ?_
     try obtain rfl := so hx
     try obtain rfl := hr _ rfl
     dsimp only at hq37
     refine JQ.outX <| JQ.here ?_
     try obtain rfl := so hq37
     exact JQ.joinK () () rfl (Imp.norm (js := [0]) rfl (.cons rfl .nil))
   refine jr <| lI hx27 fun v49 hv49 hx27 => jc (Zar lb tR .cI (cs hv49)) <| JL.sub ⟨[(1, ov (PTR gb2 0)), (3, ov (CLO 29 [])), (43, ov (S (rI .i64) t1.Kind)), (106, ov (S rB v49))], [cvar gb2 Zad t1], []⟩ (.cons rfl (.cons rfl (.cons rfl (.cons rfl .nil)))) rfl rfl <| jc (Zac lb tR) <| jn <| jif tR hx27 (fun hc63 hx27 => ?_) (fun hc63 hx27 => ?_)
   · refine jr <| jc (Zac lb .cB) <| jn <| JC.ret <| JQ.outRB ?_
     try obtain rfl := so hx27
     dsimp only at hq27
     refine JQ.outR ?_
     obtain rfl := so hq27
     exact jd (.val (S rB true)) rfl rfl rfl rfl rfl rfl
   refine jr <| lI hx27 fun v50 hv50 hx27 => jc (Zar lb tR .cI (cs hv50)) <| jc (Zac lb tR) <| jn <| jif tR hx27 (fun hc64 hx27 => ?_) (fun hc64 hx27 => ?_)
   · refine jr <| jc (Zaa (off := 91) lb ZdM tR) <| jc (Zam (j := 0) lb tS36 tR rfl (cT (ZaU t1) rfl) rfl rfl) <| jc (ZaI lb tu36 tR) <| lI hx27 fun v51 hv51 hx27 => jc (Zar lb tR .cI (cs hv51)) <| jc (Zac lb tR) <| jn <| JC.ret <| JQ.outRB ?_
     try obtain rfl := so hx27
     dsimp only at hq27
     refine JQ.outR ?_
     obtain rfl := so hq27
     exact jd (.val (S rB v51)) rfl rfl rfl rfl rfl rfl
   refine jr <| lI hx27 fun v52 hv52 hx27 => jc (Zar lb tR .cI (cs hv52)) <| jc (Zac lb tR) <| jn <| jif tR hx27 (fun hc65 hx27 => ?_) (fun hc65 hx27 => ?_)
   · refine bI hx27 fun tv66 hx66 hq66 => JC.seqK (α := Unit) (γ := Unit) (stj := fun v q => ⟨[(1, ov (PTR gb2 0)), (3, ov (CLO 29 []))], [cvar gb2 Zad t1], []⟩) (p := fun v => tv66 = (.inl v)) (fun v q hv => ?_) ?_
     · subst hv
       skip
       obtain _ := q
       dsimp only at hq66
       refine JC.at ⟨[(1, ov (PTR gb2 0)), (3, ov (CLO 29 []))], [cvar gb2 Zad t1], []⟩ <| bI hq66 fun tv92 hx92 hq92 => JC.seqK (α := Unit) (γ := Unit) (stj := fun v q => ⟨[(1, ov (PTR gb2 0))], [cvar gb2 Zad t1], []⟩) (p := fun v => tv92 = (.inl v)) (fun v q hv => ?_) ?_
       · subst hv
         skip
         obtain _ := q
         dsimp only at hq92
         refine JC.at ⟨[(1, ov (PTR gb2 0))], [cvar gb2 Zad t1], []⟩ <| bI hq92 fun x87 hx108 hq108 => JC.seqJ (γ := Unit) (stj := fun _ => ⟨[(2, ov (S rB x87))], [], []⟩) (fun _ => ?_) ?_
         · refine JC.ret <| JQ.outRB ?_
           try obtain rfl := so hq108
           dsimp only at hq27
           refine JQ.outR ?_
           obtain rfl := so hq27
           exact jd (.val (S rB x87)) rfl rfl rfl rfl rfl rfl
         refine JC.region <| jc (Zaa (off := 92) lb Zdj tR) <| jc (Zam (j := 0) lb tS37 tR rfl (cT (ZaL t1) rfl) rfl rfl) <| jc (ZaI lb tu37 tR) <| lI hx108 fun v82 hv82 hx108 => jc (Zar lb tR .cI (cs hv82)) <| jmv rfl rfl <| jT (ov (A Zad t1)) rfl rfl rfl rfl (fun hq109 => ZaB (j := 0) lb tA39 tR rfl (Comp.self Zad t1) rfl) <| bI hx108 fun v83 hv83 hx108 => jT (ov (S rB v83)) rfl rfl rfl rfl (fun hq110 => (Zak (js := []) ld cl30 (ZfS k t1 v83 (ifT hv83 hq110)) .func (.cons (HasO.cnd tR hq110) .nil) rfl).post (fun _ => Imp.refl)) <| lI hx108 fun v84 hv84 hx108 => jc (Zas lb tR (fun hb111 => (HasO.cnd tR hb111)) (fun hb111 => .cB) hv84) <| jmv rfl rfl <| jT (ov (A Zad t1)) rfl rfl rfl rfl (fun hq112 => ZaB (j := 0) lb tA39 tR rfl (Comp.self Zad t1) rfl) ?_
         refine bI hx108 fun v85 hv85 hx108 => jT (ov (S rB v85)) rfl rfl rfl rfl (fun hq113 => (Zak (js := []) ld cl36 (Zgh k t1 v85 (ifT hv85 hq113)) .func (.cons (HasO.cnd tR hq113) .nil) rfl).post (fun _ => Imp.refl)) <| lI hx108 fun v86 hv86 hx108 => jc (Zas lb tR (fun hb114 => (HasO.cnd tR hb114)) (fun hb114 => .cB) hv86) <| JL.nrm ⟨[(186, ov (S rB v86))], [], []⟩ [] rfl (.cons rfl .nil) rfl <| jc (Zac lb tR) <| JL.nil ?_
         try obtain rfl := so hx108
         exact jo rfl rfl rfl
       refine jr <| jc (Zaa (off := 3) lb ZdJ tR) <| jc (Zam (j := 0) lb tS23 tR rfl (cT (ZaO t1) rfl) rfl rfl) <| jc (ZaI lb tu23 tR) <| jc (ZaC lb .cI) <| jn <| JC.block <| bI hx92 fun tv93 hL93 hq93 => JC.pre ?_ (JC.loop (γ := Unit) (stf := fun s q => ⟨[(1, ov (PTR gb2 0)), (3, ov (CLO 29 [])), (149, ov (S (rL Zaj) t1.Items)), (150, ov (S (rI .i64) (List.length t1.Items : Int))), (151, ov (S (rI .i64) s))], [cvar gb2 Zad t1], []⟩) (q := ()) hL93 ?_)
       · exact (Imp.norm (js := [0]) rfl (.cons rfl (.cons rfl (.cons rfl (.cons rfl (.cons rfl .nil))))))
       intro x69 q x hx hr
       obtain _ := q
       change frame_May.b3 k t1 x69 = some x at hx
       unfold frame_May.b3 at hx
       refine JC.at ⟨[(1, ov (PTR gb2 0)), (3, ov (CLO 29 [])), (149, ov (S (rL Zaj) t1.Items)), (150, ov (S (rI .i64) (List.length t1.Items : Int))), (151, ov (S (rI .i64) x69))], [cvar gb2 Zad t1], []⟩ <| jr <| lI hx fun v70 hv70 hx => jc (Zar lb tR tR (cs hv70)) <| jn <| JC.seq ?_
       rcases ZcY hx with ⟨hc94, hx⟩ | ⟨hc94, hx⟩
       · refine JC.condT tR hc94 <| JC.skip <| JQ.then <| JC.seq <| JC.block <| jr <| jmv rfl rfl <| bI hx fun v71 hv71 hx => jc (Zau lb tu23 tz62 tR tR hv71) <| jc (ZaS lb tA62 tR rfl) <| jx (Za8 lb tZ62 zr62) fun gb72 => jc (Zac lb tR) <| jc (ZaM (j := 1) tA62 tR tR rfl (UpdR.self (by rfl)) rfl) <| jn <| bI hx fun x80 hx95 hq95 => JC.seqJ (γ := Unit) (stj := fun _ => ⟨[(1, ov (PTR gb2 0)), (3, ov (CLO 29 [])), (149, ov (S (rL Zaj) t1.Items)), (150, ov (S (rI .i64) (List.length t1.Items : Int))), (151, ov (S (rI .i64) x69)), (173, ov (S rB x80))], [cvar gb2 Zad t1], []⟩) (fun _ => ?_) ?_
         · refine jif tR hq95 (fun hc107 hq95 => ?_) (fun hc107 hq95 => ?_)
           · refine jr <| jc (Zac lb .cB) <| jn <| JC.ret <| JQ.outRB <| JQ.outR ?_
             try obtain rfl := so hq95
             try obtain rfl := hr _ rfl
             dsimp only at hq93
             refine JQ.outR <| JQ.outRB ?_
             try obtain rfl := so hq93
             dsimp only at hq92
             refine JQ.outR <| JQ.outRB ?_
             try obtain rfl := so hq92
             dsimp only at hq27
             refine JQ.outR ?_
             obtain rfl := so hq27
             exact jd (.val (S rB false)) rfl rfl rfl rfl rfl rfl
           refine JC.skip <| JQ.outNB <| JQ.then <| JC.region <| lI hq95 fun v81 hv81 hq95 => jc (ZaX lb tR .cI (cs hv81)) <| jmv rfl rfl <| JL.nil ?_
           try obtain rfl := so hq95
           exact JQ.next () rfl (Imp.norm (js := [0]) rfl (.cons rfl (.cons rfl (.cons rfl (.cons rfl (.cons rfl .nil))))))
         refine lI hx95 fun v73 hv73 hx95 => lI hx95 fun v74 hv74 hx95 => bI hx95 fun v75 hv75 hx95 => bI hx95 fun v76 hv76 hx95 => lI hx95 fun v77 hv77 hx95 => bI hx95 fun v78 hv78 hx95 => ?_
         obtain ⟨v79, hv79, hx95⟩ := ZaT hx95
         refine JC.anyF (base := [(1, ov (PTR gb2 0)), (3, ov (CLO 29 [])), (8, ov (S (rI .i64) x69)), (9, ov (PTR gb72 0)), (149, ov (S (rL Zaj) t1.Items)), (150, ov (S (rI .i64) (List.length t1.Items : Int))), (151, ov (S (rI .i64) x69))])
             (fs := fun γ => [⟨some 156, ov (CLO 29 [])⟩, ⟨some 157, ov (S (rI .i64) x69)⟩, ⟨some 158, ov (S (rI .i64) x69)⟩, ⟨some 159, ov (S rB v73)⟩, ⟨some 160, ov (S rB v73)⟩, ⟨some 161, bif v73 then ov (PTR gb2 (0 + 3)) else .one .und⟩, ⟨some 162, bif v73 then ov (S (rL Zaj) t1.Items) else .one .und⟩, ⟨some 163, bif v73 then ov (S (rI .i64) x69) else .one .und⟩, ⟨some 164, bif v73 then ov (S (rI .i64) v74) else .one .und⟩, ⟨some 165, bif v73 then ov (PT Zaj v75) else .one .und⟩, ⟨some 166, bif v73 then ov (PT Zae v75.Dot) else .one .und⟩, ⟨some 167, bif v73 then ov (A Zae v75.Dot) else .one .und⟩, ⟨some 168, bif v73 then ov (PTR gb72 (0 + 0)) else .one .und⟩, ⟨some 169, bif v73 then ov (A Zae v71.Dot) else .one .und⟩, ⟨some 170, bif v73 then ov (S rB v76) else .one .und⟩, ⟨some 171, ov (S rB v77)⟩, ⟨some 172, ov (S rB v78)⟩, ⟨some 173, ov (S rB v79)⟩])
             (rs := fun γ => [⟨cvar gb2 Zad t1, none, none, [6]⟩, ⟨cvar gb72 Zaj v71, none, none, [13]⟩])
             (afts := nn 18) (js := [0, 0]) Zcj (.cons rfl (.cons rfl (.cons rfl (.cons rfl (.cons rfl (.cons rfl (.cons rfl .nil))))))) (fun _ => rfl)
             (by
      refine db 1 3 <| db 2 8 <| db 3 8 <| dS 4 (fun γ ρ B hb hd => Zar lb (tl hd 2 158) .cI (cs hv73)) <| dm 5 3 159 ?_
      refine dT 6 4 160 v73 (fun γ => ov (PTR gb2 (0 + 3))) (fun γ ρ B hb hd hq96 => Zaa (off := 3) lb ZdJ (.tmp (hb 1 _ rfl))) ?_
      refine eT 7 4 160 v73 (fun γ => ov (S (rL Zaj) t1.Items)) (fun γ ρ B hb hd hq97 => Zao.lk ⟨ρ, (cvar gb2 Zad t1) :: B, _⟩ (Zam (j := 0) lb tS23 (HasO.cnd (tl hd 5 161) hq97) rfl (cT (ZaO t1) rfl) rfl rfl)) ?_
      refine dT 8 4 160 v73 (fun γ => ov (S (rI .i64) x69)) (fun γ ρ B hb hd hq98 => ZaC lb (.tmp (hb 8 _ rfl))) ?_
      refine dT 9 4 160 v73 (fun γ => ov (S (rI .i64) v74)) (fun γ ρ B hb hd hq99 => ZaX lb (HasO.cnd (tl hd 7 163) hq99) .cI (cs hv74)) ?_
      refine dT 10 4 160 v73 (fun γ => ov (PT Zaj v75)) (fun γ ρ B hb hd hq100 => Zau lb tu23 tz62 (HasO.cnd (tl hd 6 162) hq100) (HasO.cnd (tl hd 8 164) hq100) (ifT hv75 hq100)) ?_
      refine dT 11 4 160 v73 (fun γ => ov (PT Zae v75.Dot)) (fun γ ρ B hb hd hq101 => Zcm lb Zjr (HasO.cnd (tl hd 9 165) hq101) (ZcF v75)) ?_
      refine dT 12 4 160 v73 (fun γ => ov (A Zae v75.Dot)) (fun γ ρ B hb hd hq102 => ZaS lb tA26 (HasO.cnd (tl hd 10 166) hq102) rfl) ?_
      refine dT 13 4 160 v73 (fun γ => ov (PTR gb72 (0 + 0))) (fun γ ρ B hb hd hq103 => Zaa (off := 0) lb Zjr (.tmp (hb 9 _ rfl))) ?_
      refine eT 14 4 160 v73 (fun γ => ov (A Zae v71.Dot)) (fun γ ρ B hb hd hq104 => Zao.lk ⟨ρ, (cvar gb72 Zaj v71) :: B, _⟩ (ZaB (j := 0) lb tA26 (HasO.cnd (tl hd 12 168) hq104) rfl (cT (ZcF v71) rfl) rfl)) ?_
      refine dT 15 4 160 v73 (fun γ => ov (S rB v76)) (fun γ ρ B hb hd hq105 => (Zak (js := []) ld cl35 (ZeC k v75.Dot v71.Dot v76 (ifT hv76 hq105)) .func (.cons (HasO.cnd (tl hd 11 167) hq105) (.cons (HasO.cnd (tl hd 13 169) hq105) .nil)) rfl).post (fun _ => Imp.refl)) ?_
      refine dS 16 (fun γ ρ B hb hd => Zas lb (tl hd 4 160) (fun hb106 => (HasO.cnd (tl hd 14 170) hb106)) (fun hb106 => .cB) hv77) <| dS 17 (fun γ ρ B hb hd => (Zak (js := []) ld cl29 (Zel k x69 v77 v78 hv78) (tl hd 0 156) (.cons (tl hd 1 157) (.cons (tl hd 15 171) .nil)) rfl).post (fun _ => Imp.refl)) <| dS 18 (fun γ ρ B hb hd => ZbU lb (tl hd 16 172) hv79) ?_
      exact ZaF.nil)
             (by decide +kernel) (fun _ => rfl) (fun _ => rfl) (fun _ => rfl) rfl
             (ρ' := fun γ => [(1, ov (PTR gb2 0)), (3, ov (CLO 29 [])), (149, ov (S (rL Zaj) t1.Items)), (150, ov (S (rI .i64) (List.length t1.Items : Int))), (151, ov (S (rI .i64) x69)), (173, ov (S rB v79))])
             (X' := fun γ => [cvar gb2 Zad t1, cvar gb72 Zaj v71])
             (fun γ ρ hb hd => (.cons (hb 1 _ rfl) (.cons (hb 3 _ rfl) (.cons (hb 149 _ rfl) (.cons (hb 150 _ rfl) (.cons (hb 151 _ rfl) (.cons (hdq hd 17 173 rfl) .nil))))))) (fun _ => rfl) (fun γ => ?_)
         refine JQ.at ⟨[(1, ov (PTR gb2 0)), (3, ov (CLO 29 [])), (149, ov (S (rL Zaj) t1.Items)), (150, ov (S (rI .i64) (List.length t1.Items : Int))), (151, ov (S (rI .i64) x69)), (173, ov (S rB v79))], [cvar gb2 Zad t1, cvar gb72 Zaj v71], []⟩ ?_
         try obtain rfl := so hx95
         exact JQ.join () (Imp.norm (js := [0]) rfl (.cons rfl (.cons rfl (.cons rfl (.cons rfl (.cons rfl (.cons rfl .nil)))))))
       refine JC.condF tR hc94 <| JC.exit <| JQ.outX ?_
       try obtain rfl := so hx
       try obtain rfl := hr _ rfl
       dsimp only at hq93
       refine JQ.outX <| JQ.here ?_
       try obtain rfl := so hq93
       exact JQ.joinK () () rfl (Imp.norm (js := [0]) rfl (.cons rfl .nil))
     refine jr <| jc (Zaa (off := 92) lb Zdj tR) <| jc (Zam (j := 0) lb tS37 tR rfl (cT (ZaL t1) rfl) rfl rfl) <| jc (ZaI lb tu37 tR) <| jc (ZaC lb .cI) <| jn <| JC.block <| bI hx66 fun tv67 hL67 hq67 => JC.pre ?_ (JC.loop (γ := Unit) (stf := fun s q => ⟨[(1, ov (PTR gb2 0)), (3, ov (CLO 29 [])), (116, ov (S (rL (rI .i64)) t1.Buckets)), (117, ov (S (rI .i64) (List.length t1.Buckets : Int))), (118, ov (S (rI .i64) s))], [cvar gb2 Zad t1], []⟩) (q := ()) hL67 ?_)
     · exact (Imp.norm (js := [0]) rfl (.cons rfl (.cons rfl (.cons rfl (.cons rfl (.cons rfl .nil))))))
     intro x53 q x hx hr
     obtain _ := q
     change frame_May.b2 k t1 x53 = some x at hx
     unfold frame_May.b2 at hx
     refine JC.at ⟨[(1, ov (PTR gb2 0)), (3, ov (CLO 29 [])), (116, ov (S (rL (rI .i64)) t1.Buckets)), (117, ov (S (rI .i64) (List.length t1.Buckets : Int))), (118, ov (S (rI .i64) x53))], [cvar gb2 Zad t1], []⟩ <| jr <| lI hx fun v54 hv54 hx => jc (Zar lb tR tR (cs hv54)) <| jn <| JC.seq <| jif tR hx (fun hc68 hx => ?_) (fun hc68 hx => ?_)
     · refine JC.skip <| JQ.then <| JC.seq <| JC.block <| jr <| jmv rfl rfl <| bI hx fun v55 hv55 hx => jc (Zau lb tu37 tz3 tR tR hv55) <| jc (Zbr lb tS3 rfl tR rfl) <| jc (Zac lb tR) <| jc (Zac lb tR) <| jn <| bI hx fun x67 hx69 hq69 => JC.seqJ (γ := Unit) (stj := fun _ => ⟨[(1, ov (PTR gb2 0)), (3, ov (CLO 29 [])), (116, ov (S (rL (rI .i64)) t1.Buckets)), (117, ov (S (rI .i64) (List.length t1.Buckets : Int))), (118, ov (S (rI .i64) x53)), (146, ov (S rB x67))], [cvar gb2 Zad t1], []⟩) (fun _ => ?_) ?_
       · refine jif tR hq69 (fun hc91 hq69 => ?_) (fun hc91 hq69 => ?_)
         · refine jr <| jc (Zac lb .cB) <| jn <| JC.ret <| JQ.outRB <| JQ.outR ?_
           try obtain rfl := so hq69
           try obtain rfl := hr _ rfl
           dsimp only at hq67
           refine JQ.outR <| JQ.outRB ?_
           try obtain rfl := so hq67
           dsimp only at hq66
           refine JQ.outR <| JQ.outRB ?_
           try obtain rfl := so hq66
           dsimp only at hq27
           refine JQ.outR ?_
           obtain rfl := so hq27
           exact jd (.val (S rB false)) rfl rfl rfl rfl rfl rfl
         refine JC.skip <| JQ.outNB <| JQ.then <| JC.region <| lI hq69 fun v68 hv68 hq69 => jc (ZaX lb tR .cI (cs hv68)) <| jmv rfl rfl <| JL.nil ?_
         try obtain rfl := so hq69
         exact JQ.next () rfl (Imp.norm (js := [0]) rfl (.cons rfl (.cons rfl (.cons rfl (.cons rfl (.cons rfl .nil))))))
       refine JC.region <| jmv rfl rfl <| lI hx69 fun v56 hv56 hx69 => jc (Zar lb tR .cI (cs hv56)) <| jmv rfl rfl <| jF (ov (S (rI .i64) v55)) rfl rfl rfl rfl (fun hq70 => ZaC lb tR) <| lI hx69 fun v57 hv57 hx69 => jF (ov (S rB v57)) rfl rfl rfl rfl (fun hq71 => Zar lb (HasO.cnd tR (notT (notF hq71))) .cI (cs hv57)) <| lI hx69 fun v58 hv58 hx69 => jc (Zas lb tR (fun hb72 => .cB) (fun hb72 => (HasO.cnd tR (notT hb72))) hv58) <| JL.sub ⟨[(1, ov (PTR gb2 0)), (3, ov (CLO 29 [])), (6, ov (S (rI .i64) x53)), (7, ov (S (rI .i64) v55)), (116, ov (S (rL (rI .i64)) t1.Buckets)), (117, ov (S (rI .i64) (List.length t1.Buckets : Int))), (118, ov (S (rI .i64) x53)), (128, ov (S rB v58))], [cvar gb2 Zad t1], []⟩ (.cons rfl (.cons rfl (.cons rfl (.cons rfl (.cons rfl (.cons rfl (.cons rfl (.cons rfl .nil)))))))) rfl rfl ?_
       refine jmv rfl rfl <| jF (ov (CLO 29 [])) rfl rfl rfl rfl (fun hq73 => ZaC lb tR) <| jF (ov (S (rI .i64) x53)) rfl rfl rfl rfl (fun hq74 => ZaC lb tR) <| jF (ov (S (rI .i64) x53)) rfl rfl rfl rfl (fun hq75 => ZaC lb tR) <| lI hx69 fun v59 hv59 hx69 => jF (ov (S rB v59)) rfl rfl rfl rfl (fun hq76 => Zar lb (HasO.cnd tR (notT (notF hq76))) .cI (cs hv59)) <| jF (ov (S rB v59)) rfl rfl rfl rfl (fun hq77 => ZaC lb (HasO.cnd tR (notT (notF hq77)))) <| JL.cnd (sv := ov (PTR gb2 (0 + 92))) (ZbK.cT (q := (!v58)) (ltB rfl) rfl rfl) rfl (ltB rfl) (fun hq78 => Zaa (off := 92) lb Zdj tR) <| JL.cnd (sv := ov (S (rL (rI .i64)) t1.Buckets)) (ZbK.cT (q := (!v58)) (ltB rfl) rfl rfl) rfl (ltB rfl) (fun hq79 => Zam (j := 0) lb tS37 (HasO.cnd tR (andI (notT (notF (andL hq79))) (andR hq79))) rfl (cT (ZaL t1) rfl) rfl rfl) ?_
       refine JL.cnd (sv := ov (S (rI .i64) x53)) (ZbK.cT (q := (!v58)) (ltB rfl) rfl rfl) rfl (ltB rfl) (fun hq80 => ZaC lb tR) <| lI hx69 fun v60 hv60 hx69 => JL.cnd (sv := ov (S (rI .i64) v60)) (ZbK.cT (q := (!v58)) (ltB rfl) rfl rfl) rfl (ltB rfl) (fun hq81 => ZaX lb (HasO.cnd tR (andI (notT (notF (andL hq81))) (andR hq81))) .cI (cs hv60)) <| bI hx69 fun v61 hv61 hx69 => JL.cnd (sv := ov (PT (rI .i64) v61)) (ZbK.cT (q := (!v58)) (ltB rfl) rfl rfl) rfl (ltB rfl) (fun hq82 => Zau lb tu37 tz3 (HasO.cnd tR (andI (notT (notF (andL hq82))) (andR hq82))) (HasO.cnd tR (andI (notT (notF (andL hq82))) (andR hq82))) (ifT hv61 hq82)) <| JL.cnd (sv := ov (S (rI .i64) v61)) (ZbK.cT (q := (!v58)) (ltB rfl) rfl rfl) rfl (ltB rfl) (fun hq83 => Zbr lb tS3 rfl (HasO.cnd tR (andI (notT (notF (andL hq83))) (andR hq83))) rfl) <| JL.sub ⟨[(1, ov (PTR gb2 0)), (3, ov (CLO 29 [])), (7, ov (S (rI .i64) v55)), (116, ov (S (rL (rI .i64)) t1.Buckets)), (117, ov (S (rI .i64) (List.length t1.Buckets : Int))), (118, ov (S (rI .i64) x53)), (129, ov (S rB v58)), (130, bif (!v58) then ov (CLO 29 []) else .one .und), (131, bif (!v58) then ov (S (rI .i64) x53) else .one .und), (134, bif (!v58) then ov (S rB v59) else .one .und), (140, bif ((!v58) && v59) then ov (S (rI .i64) v61) else .one .und)], [cvar gb2 Zad t1], []⟩ (.cons rfl (.cons rfl (.cons rfl (.cons rfl (.cons rfl (.cons rfl (.cons rfl (.cons rfl (.cons rfl (.cons rfl (.cons rfl .nil))))))))))) rfl rfl <| JL.cnd (sv := ov (S (rI .i64) v55)) (ZbK.cT (q := (!v58)) (ltB rfl) rfl rfl) rfl (ltB rfl) (fun hq84 => ZaC lb tR) ?_
       obtain ⟨v62, hv62, hx69⟩ := ZaT hx69
       refine JL.cnd (sv := ov (S rB v62)) (ZbK.cT (q := (!v58)) (ltB rfl) rfl rfl) rfl (ltB rfl) (fun hq85 => Zar lb (HasO.cnd tR (andI (notT (notF (andL hq85))) (andR hq85))) (HasO.cnd tR (andI (notT (notF (andL hq85))) (andR hq85))) (cs hv62)) <| lI hx69 fun v63 hv63 hx69 => jF (ov (S rB v63)) rfl rfl rfl rfl (fun hq86 => Zas lb (HasO.cnd tR (notT (notF hq86))) (fun hb87 => (HasO.cnd tR (andI (notT (notF hq86)) hb87))) (fun hb87 => .cB) hv63) <| bI hx69 fun v64 hv64 hx69 => jF (ov (S rB v64)) rfl rfl rfl rfl (fun hq88 => (Zak (js := []) ld cl29 (Zel k x53 v63 v64 (ifT hv64 hq88)) (HasO.cnd tR (notT (notF hq88))) (.cons (HasO.cnd tR (notT (notF hq88))) (.cons (HasO.cnd tR (notT (notF hq88))) .nil)) rfl).post (fun _ => Imp.refl)) <| lI hx69 fun v65 hv65 hx69 => jF (ov (S rB v65)) rfl rfl rfl rfl (fun hq89 => ZbU lb (HasO.cnd tR (notT (notF hq89))) hv65) <| lI hx69 fun v66 hv66 hx69 => jc (Zas lb tR (fun hb90 => .cB) (fun hb90 => (HasO.cnd tR (notT hb90))) hv66) <| JL.nil ?_
       try obtain rfl := so hx69
       exact JQ.join () (Imp.norm (js := [0]) rfl (.cons rfl (.cons rfl (.cons rfl (.cons rfl (.cons rfl (.cons rfl .nil)))))))
     refine JC.exit <| JQ.outX ?_
     try obtain rfl := so hx
     try obtain rfl := hr _ rfl
     dsimp only at hq67
     refine JQ.outX <| JQ.here ?_
     try obtain rfl := so hq67
     exact JQ.joinK () () rfl (Imp.norm (js := [0]) rfl (.cons rfl (.cons rfl .nil)))
   refine JC.skip <| JQ.outNB ?_
   try obtain rfl := so hx27
   exact JQ.joinK () () rfl (Imp.norm (js := []) rfl .nil)
 refine lI hx1 fun v3 hv3 hx1 => lI hx1 fun v4 hv4 hx1 => lI hx1 fun v5 hv5 hx1 => lI hx1 fun v6 hv6 hx1 => lI hx1 fun v7 hv7 hx1 => lI hx1 fun v8 hv8 hx1 => lI hx1 fun v9 hv9 hx1 => lI hx1 fun v10 hv10 hx1 => ?_
 obtain ⟨v11, hv11, hx1⟩ := ZaT hx1
 refine bI hx1 fun v12 hv12 hx1 => bI hx1 fun v13 hv13 hx1 => lI hx1 fun v14 hv14 hx1 => ?_
 obtain ⟨v15, hv15, hx1⟩ := ZaT hx1
 refine JC.anyF (base := [(1, ov (PTR gb2 0))])
     (fs := fun γ => [⟨some 10, ov (PTR gb2 (0 + 1))⟩, ⟨some 11, ov (S (rI .i64) t1.From)⟩, ⟨some 12, ov (S rB v3)⟩, ⟨some 13, ov (S rB v3)⟩, ⟨some 14, bif (!v3) then ov (PTR gb2 (0 + 1)) else .one .und⟩, ⟨some 15, bif (!v3) then ov (S (rI .i64) t1.From) else .one .und⟩, ⟨some 16, bif (!v3) then ov (S rB v4) else .one .und⟩, ⟨some 17, ov (S rB v5)⟩, ⟨some 18, ov (S rB v5)⟩, ⟨some 19, bif (!v5) then ov (PTR gb2 (0 + 2)) else .one .und⟩, ⟨some 20, bif (!v5) then ov (S (rI .i64) t1.To) else .one .und⟩, ⟨some 21, bif (!v5) then ov (S rB v6) else .one .und⟩, ⟨some 22, ov (S rB v7)⟩, ⟨some 23, ov (S rB v7)⟩, ⟨some 24, bif (!v7) then ov (PTR gb2 (0 + 2)) else .one .und⟩, ⟨some 25, bif (!v7) then ov (S (rI .i64) t1.To) else .one .und⟩, ⟨some 26, bif (!v7) then ov (S rB v8) else .one .und⟩, ⟨some 27, ov (S rB v9)⟩, ⟨some 28, ov (S rB v9)⟩, ⟨some 29, bif (!v9) then ov (PTR gb2 (0 + 1)) else .one .und⟩, ⟨some 30, bif (!v9) then ov (S (rI .i64) t1.From) else .one .und⟩, ⟨some 31, bif (!v9) then ov (PTR gb2 (0 + 2)) else .one .und⟩, ⟨some 32, bif (!v9) then ov (S (rI .i64) t1.To) else .one .und⟩, ⟨some 33, bif (!v9) then ov (S rB v10) else .one .und⟩, ⟨some 34, ov (S rB v11)⟩, ⟨some 35, ov (S rB v11)⟩, ⟨some 36, bif (!v11) then ov (A Zad t1) else .one .und⟩, ⟨some 37, bif (!v11) then ov (A Zad t1) else .one .und⟩, ⟨some 38, bif (!v11) then ov (A Zad v12) else .one .und⟩, ⟨some 39, bif (!v11) then ov (S rB v13) else .one .und⟩, ⟨some 40, bif (!v11) then ov (S rB v14) else .one .und⟩, ⟨some 41, ov (S rB v15)⟩])
     (rs := fun γ => [⟨cvar gb2 Zad t1, none, none, [1, 5, 10, 15, 20, 22, 26, 27]⟩])
     (afts := nn 32) (js := [0]) Zcj (.cons rfl .nil) (fun _ => rfl)
     (by
      refine dS 1 (fun γ ρ B hb hd => Zaa (off := 1) lb ZgR (.tmp (hb 1 _ rfl))) <| dR 2 (fun γ ρ B hb hd => Zao.lk ⟨ρ, (cvar gb2 Zad t1) :: B, _⟩ (Zam (j := 0) lb tS3 (tl hd 0 10) rfl (cT (Zba t1) rfl) rfl rfl)) <| dS 3 (fun γ ρ B hb hd => Zar lb (tl hd 1 11) .cI (cs hv3)) <| dm 4 2 12 ?_
      refine dF 5 3 13 v3 (fun γ => ov (PTR gb2 (0 + 1))) (fun γ ρ B hb hd hq_2 => Zaa (off := 1) lb ZgR (.tmp (hb 1 _ rfl))) ?_
      refine eF 6 3 13 v3 (fun γ => ov (S (rI .i64) t1.From)) (fun γ ρ B hb hd hq3 => Zao.lk ⟨ρ, (cvar gb2 Zad t1) :: B, _⟩ (Zam (j := 0) lb tS3 (HasO.cnd (tl hd 4 14) (notT (notF hq3))) rfl (cT (Zba t1) rfl) rfl rfl)) ?_
      refine dF 7 3 13 v3 (fun γ => ov (S rB v4)) (fun γ ρ B hb hd hq4 => Zar lb (HasO.cnd (tl hd 5 15) (notT (notF hq4))) .cI (cs hv4)) ?_
      refine dS 8 (fun γ ρ B hb hd => Zas lb (tl hd 3 13) (fun hb5 => .cB) (fun hb5 => (HasO.cnd (tl hd 6 16) (notT hb5))) hv5) <| dm 9 7 17 ?_
      refine dF 10 8 18 v5 (fun γ => ov (PTR gb2 (0 + 2))) (fun γ ρ B hb hd hq_6 => Zaa (off := 2) lb ZgC (.tmp (hb 1 _ rfl))) ?_
      refine eF 11 8 18 v5 (fun γ => ov (S (rI .i64) t1.To)) (fun γ ρ B hb hd hq7 => Zao.lk ⟨ρ, (cvar gb2 Zad t1) :: B, _⟩ (Zam (j := 0) lb tS3 (HasO.cnd (tl hd 9 19) (notT (notF hq7))) rfl (cT (Zbt t1) rfl) rfl rfl)) ?_
      refine dF 12 8 18 v5 (fun γ => ov (S rB v6)) (fun γ ρ B hb hd hq_8 => Zar lb (HasO.cnd (tl hd 10 20) (notT (notF hq_8))) .cI (cs hv6)) ?_
      refine dS 13 (fun γ ρ B hb hd => Zas lb (tl hd 8 18) (fun hb9 => .cB) (fun hb9 => (HasO.cnd (tl hd 11 21) (notT hb9))) hv7) <| dm 14 12 22 ?_
      refine dF 15 13 23 v7 (fun γ => ov (PTR gb2 (0 + 2))) (fun γ ρ B hb hd hq10 => Zaa (off := 2) lb ZgC (.tmp (hb 1 _ rfl))) ?_
      refine eF 16 13 23 v7 (fun γ => ov (S (rI .i64) t1.To)) (fun γ ρ B hb hd hq11 => Zao.lk ⟨ρ, (cvar gb2 Zad t1) :: B, _⟩ (Zam (j := 0) lb tS3 (HasO.cnd (tl hd 14 24) (notT (notF hq11))) rfl (cT (Zbt t1) rfl) rfl rfl)) ?_
      refine dF 17 13 23 v7 (fun γ => ov (S rB v8)) (fun γ ρ B hb hd hq12 => Zar lb (HasO.cnd (tl hd 15 25) (notT (notF hq12))) .cI (cs hv8)) ?_
      refine dS 18 (fun γ ρ B hb hd => Zas lb (tl hd 13 23) (fun hb13 => .cB) (fun hb13 => (HasO.cnd (tl hd 16 26) (notT hb13))) hv9) <| dm 19 17 27 ?_
      refine dF 20 18 28 v9 (fun γ => ov (PTR gb2 (0 + 1))) (fun γ ρ B hb hd hq14 => Zaa (off := 1) lb ZgR (.tmp (hb 1 _ rfl))) ?_
      refine eF 21 18 28 v9 (fun γ => ov (S (rI .i64) t1.From)) (fun γ ρ B hb hd hq15 => Zao.lk ⟨ρ, (cvar gb2 Zad t1) :: B, _⟩ (Zam (j := 0) lb tS3 (HasO.cnd (tl hd 19 29) (notT (notF hq15))) rfl (cT (Zba t1) rfl) rfl rfl)) ?_
      refine dF 22 18 28 v9 (fun γ => ov (PTR gb2 (0 + 2))) (fun γ ρ B hb hd hq16 => Zaa (off := 2) lb ZgC (.tmp (hb 1 _ rfl))) ?_
      refine eF 23 18 28 v9 (fun γ => ov (S (rI .i64) t1.To)) (fun γ ρ B hb hd hq17 => Zao.lk ⟨ρ, (cvar gb2 Zad t1) :: B, _⟩ (Zam (j := 0) lb tS3 (HasO.cnd (tl hd 21 31) (notT (notF hq17))) rfl (cT (Zbt t1) rfl) rfl rfl)) ?_
      refine dF 24 18 28 v9 (fun γ => ov (S rB v10)) (fun γ ρ B hb hd hq18 => Zar lb (HasO.cnd (tl hd 20 30) (notT (notF hq18))) (HasO.cnd (tl hd 22 32) (notT (notF hq18))) (cs hv10)) ?_
      refine dS 25 (fun γ ρ B hb hd => Zas lb (tl hd 18 28) (fun hb19 => .cB) (fun hb19 => (HasO.cnd (tl hd 23 33) (notT hb19))) hv11) <| dm 26 24 34 ?_
      refine eF 27 25 35 v11 (fun γ => ov (A Zad t1)) (fun γ ρ B hb hd hq20 => Zao.lk ⟨ρ, (cvar gb2 Zad t1) :: B, _⟩ (ZaB (j := 0) lb tA39 (.tmp (hb 1 _ rfl)) rfl (Comp.self Zad t1) rfl)) ?_
      refine eF 28 25 35 v11 (fun γ => ov (A Zad t1)) (fun γ ρ B hb hd hq21 => Zao.lk ⟨ρ, (cvar gb2 Zad t1) :: B, _⟩ (ZaB (j := 0) lb tA39 (.tmp (hb 1 _ rfl)) rfl (Comp.self Zad t1) rfl)) ?_
      refine dF 29 25 35 v11 (fun γ => ov (A Zad v12)) (fun γ ρ B hb hd hq22 => (Zak (js := []) ld cl28 (Zih k t1 v12 (ifT hv12 hq22)) .func (.cons (HasO.cnd (tl hd 27 37) (notT (notF hq22))) .nil) rfl).post (fun _ => Imp.refl)) ?_
      refine dF 30 25 35 v11 (fun γ => ov (S rB v13)) (fun γ ρ B hb hd hq23 => (Zak (js := []) ld cl18 (Zge k t1 v12 v13 (ifT hv13 hq23)) .func (.cons (HasO.cnd (tl hd 26 36) (notT (notF hq23))) (.cons (HasO.cnd (tl hd 28 38) (notT (notF hq23))) .nil)) rfl).post (fun _ => Imp.refl)) ?_
      refine dF 31 25 35 v11 (fun γ => ov (S rB v14)) (fun γ ρ B hb hd hq24 => ZbU lb (HasO.cnd (tl hd 29 39) (notT (notF hq24))) hv14) ?_
      refine dS 32 (fun γ ρ B hb hd => Zas lb (tl hd 25 35) (fun hb25 => .cB) (fun hb25 => (HasO.cnd (tl hd 30 40) (notT hb25))) hv15) ?_
      exact ZaF.nil)
     (by decide +kernel) (fun _ => rfl) (fun _ => rfl) (fun _ => rfl) rfl
     (ρ' := fun γ => [(1, ov (PTR gb2 0)), (41, ov (S rB v15))])
     (X' := fun γ => [cvar gb2 Zad t1])
     (fun γ ρ hb hd => (.cons (hb 1 _ rfl) (.cons (hdq hd 31 41 rfl) .nil))) (fun _ => rfl) (fun γ => ?_)
 refine JQ.at ⟨[(1, ov (PTR gb2 0)), (41, ov (S rB v15))], [cvar gb2 Zad t1], []⟩ ?_
 try obtain rfl := so hx1
 exact JQ.join () (Imp.norm (js := [0]) rfl (.cons rfl (.cons rfl .nil)))

theorem ZfV (k : Nat) (r : (List (Int × Zaf))) (hm : Zet k = some r) : Sim Tryz.prog 54 [] [] (γ := Option Nat) (fun q => [cmap q (S (rI .i64)) (A ZaG) (some r)]) (fun q => .one (.val (MPV q))) := by
 unfold Zet at hm
 refine Sim.of Tryz.func54 rfl rfl (lE rfl) (fun e0 w0 => ?_)
 refine JC.at ⟨[], [], []⟩ <| jr <| jc (Zac lb (HasO.const (p := MPV none) fun _ => rfl)) <| jn <| jr <| jx (ZkO lb (S (rI .i64)) (A ZaG)) fun gb1 => jc (Zbl lb tZ95 zs95 tp95 (.S (off := 0) (s := rW (CLO 92 [])) (u := ()) rfl (HasO.wk (q := S (rW (CLO 92 [])) ()) .func wkV) rfl ((UpdR.fst (UpdR.self (by rfl))).at (by rfl)) (.S (off := 1) (s := rW (CLO 93 [])) (u := ()) rfl (HasO.wk (q := S (rW (CLO 93 [])) ()) .func wkV) rfl ((UpdR.snd (UpdR.fst (UpdR.self (by rfl)))).at (by rfl)) .nil)) rfl) <| lI hm fun x2 hv_x_2 hm => jc (Zep (j := 0) tu97 ky22 rfl tR .cI (HasO.wk (q := A ZaG (Zaf.mk (some 92 : Option Nat) (some 93 : Option Nat))) tR (wkAK (Wk.st (Wk.pair Wk.clo (Wk.pair Wk.clo Wk.refl))))) (congrArg (fun z => some (some z)) hv_x_2)) <| jc (Zbl lb tZ95 zs95 tp95 (.S (off := 0) (s := rW (CLO 94 [])) (u := ()) rfl (HasO.wk (q := S (rW (CLO 94 [])) ()) .func wkV) rfl ((UpdR.fst (UpdR.self (by rfl))).at (by rfl)) (.S (off := 1) (s := rW (CLO 95 [])) (u := ()) rfl (HasO.wk (q := S (rW (CLO 95 [])) ()) .func wkV) rfl ((UpdR.snd (UpdR.fst (UpdR.self (by rfl)))).at (by rfl)) .nil)) rfl) <| lI hm fun x3 hv_x_3 hm => jc (Zep (j := 0) tu97 ky22 rfl tR .cI (HasO.wk (q := A ZaG (Zaf.mk (some 94 : Option Nat) (some 95 : Option Nat))) tR (wkAK (Wk.st (Wk.pair Wk.clo (Wk.pair Wk.clo Wk.refl))))) (congrArg (fun z => some (some z)) hv_x_3)) <| JL.sub ⟨[(0, ov (MPV none)), (1, ov (MPV (some gb1)))], [cmap (some gb1) (S (rI .i64)) (A ZaG) (some x3)], []⟩ (.cons rfl (.cons rfl .nil)) rfl rfl ?_
 refine jc (Zbl lb tZ95 zs95 tp95 (.S (off := 0) (s := rW (CLO 96 [])) (u := ()) rfl (HasO.wk (q := S (rW (CLO 96 [])) ()) .func wkV) rfl ((UpdR.fst (UpdR.self (by rfl))).at (by rfl)) (.S (off := 1) (s := rW (CLO 97 [])) (u := ()) rfl (HasO.wk (q := S (rW (CLO 97 [])) ()) .func wkV) rfl ((UpdR.snd (UpdR.fst (UpdR.self (by rfl)))).at (by rfl)) .nil)) rfl) <| lI hm fun x4 hv_x_4 hm => jc (Zep (j := 0) tu97 ky22 rfl tR .cI (HasO.wk (q := A ZaG (Zaf.mk (some 96 : Option Nat) (some 97 : Option Nat))) tR (wkAK (Wk.st (Wk.pair Wk.clo (Wk.pair Wk.clo Wk.refl))))) (congrArg (fun z => some (some z)) hv_x_4)) <| jc (Zbl lb tZ95 zs95 tp95 (.S (off := 0) (s := rW (CLO 98 [])) (u := ()) rfl (HasO.wk (q := S (rW (CLO 98 [])) ()) .func wkV) rfl ((UpdR.fst (UpdR.self (by rfl))).at (by rfl)) (.S (off := 1) (s := rW (CLO 99 [])) (u := ()) rfl (HasO.wk (q := S (rW (CLO 99 [])) ()) .func wkV) rfl ((UpdR.snd (UpdR.fst (UpdR.self (by rfl)))).at (by rfl)) .nil)) rfl) <| lI hm fun x5 hv_x_5 hm => jc (Zep (j := 0) tu97 ky22 rfl tR .cI (HasO.wk (q := A ZaG (Zaf.mk (some 98 : Option Nat) (some 99 : Option Nat))) tR (wkAK (Wk.st (Wk.pair Wk.clo (Wk.pair Wk.clo Wk.refl))))) (congrArg (fun z => some (some z)) hv_x_5)) <| jc (Zbl lb tZ95 zs95 tp95 (.S (off := 0) (s := rW (CLO 100 [])) (u := ()) rfl (HasO.wk (q := S (rW (CLO 100 [])) ()) .func wkV) rfl ((UpdR.fst (UpdR.self (by rfl))).at (by rfl)) (.S (off := 1) (s := rW (CLO 101 [])) (u := ()) rfl (HasO.wk (q := S (rW (CLO 101 [])) ()) .func wkV) rfl ((UpdR.snd (UpdR.fst (UpdR.self (by rfl)))).at (by rfl)) .nil)) rfl) ?_
 obtain ⟨x6, hv_x_6, hm⟩ := ZaT hm
 refine jc (Zep (j := 0) tu97 ky22 rfl tR .cI (HasO.wk (q := A ZaG (Zaf.mk (some 100 : Option Nat) (some 101 : Option Nat))) tR (wkAK (Wk.st (Wk.pair Wk.clo (Wk.pair Wk.clo Wk.refl))))) (congrArg (fun z => some (some z)) hv_x_6)) <| JL.sub ⟨[(0, ov (MPV none)), (1, ov (MPV (some gb1)))], [cmap (some gb1) (S (rI .i64)) (A ZaG) (some x6)], []⟩ (.cons rfl (.cons rfl .nil)) rfl rfl <| jc (Zbl lb tZ95 zs95 tp95 (.S (off := 0) (s := rW (CLO 102 [])) (u := ()) rfl (HasO.wk (q := S (rW (CLO 102 [])) ()) .func wkV) rfl ((UpdR.fst (UpdR.self (by rfl))).at (by rfl)) (.S (off := 1) (s := rW (CLO 103 [])) (u := ()) rfl (HasO.wk (q := S (rW (CLO 103 [])) ()) .func wkV) rfl ((UpdR.snd (UpdR.fst (UpdR.self (by rfl)))).at (by rfl)) .nil)) rfl) <| lI hm fun x7 hv_x_7 hm => jc (Zep (j := 0) tu97 ky22 rfl tR .cI (HasO.wk (q := A ZaG (Zaf.mk (some 102 : Option Nat) (some 103 : Option Nat))) tR (wkAK (Wk.st (Wk.pair Wk.clo (Wk.pair Wk.clo Wk.refl))))) (congrArg (fun z => some (some z)) hv_x_7)) <| jc (Zbl lb tZ95 zs95 tp95 (.S (off := 0) (s := rW (CLO 104 [])) (u := ()) rfl (HasO.wk (q := S (rW (CLO 104 [])) ()) .func wkV) rfl ((UpdR.fst (UpdR.self (by rfl))).at (by rfl)) (.S (off := 1) (s := rW (CLO 105 [])) (u := ()) rfl (HasO.wk (q := S (rW (CLO 105 [])) ()) .func wkV) rfl ((UpdR.snd (UpdR.fst (UpdR.self (by rfl)))).at (by rfl)) .nil)) rfl) <| lI hm fun x8 hv_x_8 hm => jc (Zep (j := 0) tu97 ky22 rfl tR .cI (HasO.wk (q := A ZaG (Zaf.mk (some 104 : Option Nat) (some 105 : Option Nat))) tR (wkAK (Wk.st (Wk.pair Wk.clo (Wk.pair Wk.clo Wk.refl))))) (congrArg (fun z => some (some z)) hv_x_8)) <| jmv rfl rfl <| jc (Zac lb tR) <| jn <| JC.ret ?_
 obtain rfl := so hm
 exact JQ.done (js := [0]) (ss := [.val (MPV (some gb1))]) (some gb1) (.inl rfl) (.nil rfl) rfl (.cons (.tmp rfl) .nil) rfl rfl rfl

end Go.Proofs.YtklnihlchhhhlaaGreat
