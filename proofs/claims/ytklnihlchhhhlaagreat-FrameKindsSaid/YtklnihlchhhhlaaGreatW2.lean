/- Walks. -/
import Derived.Test.YtklnihlchhhhlaaGreatT
import Derived.Test.YtklnihlchhhhlaaGreatW0
import Derived.Test.YtklnihlchhhhlaaGreatW1
namespace Go.Proofs.YtklnihlchhhhlaaGreat
open Go Fw
set_option linter.unusedVariables false
set_option maxRecDepth 100000
set_option maxHeartbeats 4000000

theorem Zfk (k : Nat) (t_1 : Zah) (r : Bool) (hm : ref11_May k t_1 = some r) : Sim Tryz.prog 12 [A Zae t_1] [] (γ := Unit) (fun q => []) (fun q => .one (.val (S rB r))) := by
 unfold ref11_May at hm
 refine Sim.of Tryz.func12 rfl rfl (lE rfl) (fun e0 w0 => ?_)
 refine JC.at ⟨[(0, ov (A Zae t_1))], [], []⟩ <| jr <| jx (ZaX lb tR) fun gb_2 => jc (Zab lb .cB) <| jn <| JC.seq <| bI hm fun x_15 hx1 hq1 => JC.seqJ (γ := Unit) (stj := fun _ => ⟨[(1, ov (PTR gb_2 0)), (33, ov (S rB x_15))], [cvar gb_2 Zae t_1], []⟩) (fun _ => ?_) ?_
 · refine jif tR hq1 (fun hc24 hq1 => ?_) (fun hc24 hq1 => ?_)
   · refine jr <| jc (Zab lb .cB) <| jn <| JC.ret <| JQ.outR ?_
     obtain rfl := so hq1
     exact jd (.val (S rB false)) rfl rfl rfl rfl rfl rfl
   refine JC.skip <| JQ.then <| bI hq1 fun tv25 hx25 hq25 => JC.seqK (α := Unit) (γ := Unit) (stj := fun v q => ⟨[], [], []⟩) (p := fun v => tv25 = (.inl v)) (fun v q hv => ?_) ?_
   · subst hv
     skip
     obtain _ := q
     dsimp only at hq25
     refine JC.at ⟨[], [], []⟩ <| jr <| jc (Zab lb .cB) <| jn <| JC.ret ?_
     obtain rfl := so hq25
     exact jd (.val (S rB false)) rfl rfl rfl rfl rfl rfl
   refine jr <| jc (Zaa (off := 0) lb Zeu tR) <| jc (Zai (j := 0) lb tS22 tR rfl (cT (ZaS t_1) rfl) rfl rfl) <| jn <| JC.block <| jr <| lI hx25 fun v16 hv_16 hx25 => jc (Zaq lb tR .cI (cs hv_16)) <| jc (Zab lb tR) <| jn <| jif tR hx25 (fun hc26 hx25 => ?_) (fun hc26 hx25 => ?_)
   · refine bI hx25 fun x_20 hx27 hq27 => JC.seqJ (γ := Unit) (stj := fun _ => ⟨[(2, ov (S rB x_20))], [], []⟩) (fun _ => ?_) ?_
     · refine JC.ret <| JQ.outRB ?_
       try obtain rfl := so hq27
       dsimp only at hq25
       refine JQ.outR ?_
       obtain rfl := so hq25
       exact jd (.val (S rB x_20)) rfl rfl rfl rfl rfl rfl
     refine JC.region <| jc (Zaa (off := 3) lb ZcK tR) <| jc (Zai (j := 0) lb tS23 tR rfl (cT (ZaH t_1) rfl) rfl rfl) <| jc (ZaE lb tu23 tR) <| lI hx27 fun v17 hv_17 hx27 => jc (Zaq lb tR .cI (cs hv_17)) <| jmv rfl rfl <| jT (ov (PTR gb_2 (0 + 3))) rfl rfl rfl rfl (fun hq_28 => Zaa (off := 3) lb ZcK tR) <| jT (ov (S (rL Zaj) t_1.Items)) rfl rfl rfl rfl (fun hq_29 => Zai (j := 0) lb tS23 (HasO.cnd tR hq_29) rfl (cT (ZaH t_1) rfl) rfl rfl) <| bI hx27 fun v18 hv_18 hx27 => jT (ov (S rB v18)) rfl rfl rfl rfl (fun hq_30 => (Zak (js := []) ld cl38 (ZeF k t_1.Items v18 (ifT hv_18 hq_30)) .func (.cons (HasO.cnd tR hq_30) .nil) rfl).post (fun _ => Imp.refl)) <| JL.nrm ⟨[(42, ov (S rB v17)), (45, bif v17 then ov (S rB v18) else .one .und)], [], []⟩ [] rfl (.cons rfl (.cons rfl .nil)) rfl ?_
     obtain ⟨v19, hv_19, hx27⟩ := ZaQ hx27
     refine jc (Zao lb tR (fun hb31 => (HasO.cnd tR hb31)) (fun hb31 => .cB) hv_19) <| jc (Zab lb tR) <| JL.nil ?_
     try obtain rfl := so hx27
     exact jo rfl rfl rfl
   refine jr <| lI hx25 fun v21 hv_21 hx25 => jc (Zaq lb tR .cI (cs hv_21)) <| jc (Zab lb tR) <| jn <| jif tR hx25 (fun hc32 hx25 => ?_) (fun hc32 hx25 => ?_)
   · refine jr <| jc (Zaa (off := 4) lb Zgi tR) <| jc (Zaw (j := 0) lb tA32 tR rfl (cT (Zbl t_1) rfl) rfl) <| bI hx25 fun v22 hv_22 hx25 => jx (Zak (js := []) ld cl39 (ZiP k t_1.Event v22 hv_22) .func (.cons tR .nil) rfl) fun _ => jc (Zab lb tR) <| jn <| JC.ret <| JQ.outRB ?_
     try obtain rfl := so hx25
     dsimp only at hq25
     refine JQ.outR ?_
     obtain rfl := so hq25
     exact jd (.val (S rB v22)) rfl rfl rfl rfl rfl rfl
   refine jr <| lI hx25 fun v23 hv_23 hx25 => jc (Zaq lb tR .cI (cs hv_23)) <| jc (Zab lb tR) <| jn <| jif tR hx25 (fun hc33 hx25 => ?_) (fun hc33 hx25 => ?_)
   · refine jr <| jc (Zaa (off := 25) lb Zgy tR) <| jc (Zaw (j := 0) lb tA29 tR rfl (cT (Zby t_1) rfl) rfl) <| bI hx25 fun v24 hv_24 hx25 => jx (Zak (js := []) ld cl40 (Zcs k t_1.Past v24 hv_24) .func (.cons tR .nil) rfl) fun _ => jc (Zab lb tR) <| JL.nrm ⟨[(2, ov (S rB v24))], [], []⟩ [] rfl (.cons rfl .nil) rfl <| jn <| JC.ret <| JQ.outRB ?_
     try obtain rfl := so hx25
     dsimp only at hq25
     refine JQ.outR ?_
     obtain rfl := so hq25
     exact jd (.val (S rB v24)) rfl rfl rfl rfl rfl rfl
   refine jr <| lI hx25 fun v25 hv_25 hx25 => jc (Zaq lb tR .cI (cs hv_25)) <| jc (Zab lb tR) <| jn <| jif tR hx25 (fun hc34 hx25 => ?_) (fun hc34 hx25 => ?_)
   · refine bI hx25 fun tv35 hx35 hq35 => JC.seqK (α := Unit) (γ := Unit) (stj := fun v q => ⟨[(1, ov (PTR gb_2 0))], [cvar gb_2 Zae t_1], []⟩) (p := fun v => tv35 = (.inl v)) (fun v q hv => ?_) ?_
     · subst hv
       skip
       obtain _ := q
       dsimp only at hq35
       refine JC.at ⟨[(1, ov (PTR gb_2 0))], [cvar gb_2 Zae t_1], []⟩ <| bI hq35 fun x_44 hx59 hq59 => JC.seqJ (γ := Unit) (stj := fun _ => ⟨[(2, ov (S rB x_44))], [], []⟩) (fun _ => ?_) ?_
       · refine JC.ret <| JQ.outRB ?_
         try obtain rfl := so hq59
         dsimp only at hq25
         refine JQ.outR ?_
         obtain rfl := so hq25
         exact jd (.val (S rB x_44)) rfl rfl rfl rfl rfl rfl
       refine JC.region <| jc (Zaa (off := 58) lb Zd6 tR) <| jc (Zai (j := 0) lb tS33 tR rfl (cT (ZaT t_1) rfl) rfl rfl) <| jc (ZaE lb tu33 tR) <| lI hx59 fun v41 hv_41 hx59 => jc (Zaq lb tR .cI (cs hv_41)) <| jmv rfl rfl <| jT (ov (PTR gb_2 (0 + 41))) rfl rfl rfl rfl (fun hq_60 => Zaa (off := 41) lb Ze8 tR) <| jT (ov (A (rV 16 (rU UInt64)) t_1.Seen)) rfl rfl rfl rfl (fun hq_61 => Zaw (j := 0) lb tA29 (HasO.cnd tR hq_61) rfl (cT (Zbf t_1) rfl) rfl) <| jT (ov (PTR gb_2 (0 + 57))) rfl rfl rfl rfl (fun hq_62 => Zaa (off := 57) lb ZeH tR) <| jT (ov (S (rL Zad) t_1.Extra)) rfl rfl rfl rfl (fun hq_63 => Zai (j := 0) lb tS33 (HasO.cnd tR hq_63) rfl (cT (Za3 t_1) rfl) rfl rfl) <| bI hx59 fun v42 hv_42 hx59 => jT (ov (S rB v42)) rfl rfl rfl rfl (fun hq_64 => (Zak (js := []) ld cl43 (Zge k t_1.Seen t_1.Extra v42 (ifT hv_42 hq_64)) .func (.cons (HasO.cnd tR hq_64) (.cons (HasO.cnd tR hq_64) .nil)) rfl).post (fun _ => Imp.refl)) ?_
       refine lI hx59 fun v43 hv_43 hx59 => jc (Zao lb tR (fun hb65 => (HasO.cnd tR hb65)) (fun hb65 => .cB) hv_43) <| jc (Zab lb tR) <| JL.nrm ⟨[(2, ov (S rB v43))], [], []⟩ [] rfl (.cons rfl .nil) rfl <| JL.nil ?_
       try obtain rfl := so hx59
       exact jo rfl rfl rfl
     refine jr <| jc (Zab lb .cI) <| jn <| JC.block <| bI hx35 fun tv36 hL36 hq36 => JC.pre ?_ (JC.loop (γ := Unit) (stf := fun s q => ⟨[(1, ov (PTR gb_2 0)), (3, ov (S (rI .i64) s))], [cvar gb_2 Zae t_1], []⟩) (q := ()) hL36 ?_)
     · exact (Imp.norm (js := [0]) rfl (.cons rfl (.cons rfl .nil)))
     intro x_26 q x hx hr
     obtain _ := q
     change ref11_May.b1 k t_1 x_26 = some x at hx
     unfold ref11_May.b1 at hx
     refine JC.at ⟨[(1, ov (PTR gb_2 0)), (3, ov (S (rI .i64) x_26))], [cvar gb_2 Zae t_1], []⟩ <| JC.seq <| jr <| jmv rfl rfl <| jc (Zaa (off := 58) lb Zd6 tR) <| jc (Zai (j := 0) lb tS33 tR rfl (cT (ZaT t_1) rfl) rfl rfl) <| jc (ZaE lb tu33 tR) <| lI hx fun v27 hv_27 hx => jc (Zaq lb tR tR (cs hv_27)) <| jn <| jif tR hx (fun hc37 hx => ?_) (fun hc37 hx => ?_)
     · refine JC.skip <| JQ.then <| JC.seq <| JC.block <| bI hx fun x_39 hx38 hq38 => JC.seqJ (γ := Unit) (stj := fun _ => ⟨[(1, ov (PTR gb_2 0)), (3, ov (S (rI .i64) x_26)), (91, ov (S rB x_39))], [cvar gb_2 Zae t_1], []⟩) (fun _ => ?_) ?_
       · refine jif tR hq38 (fun hc58 hq38 => ?_) (fun hc58 hq38 => ?_)
         · refine jr <| jc (Zab lb .cB) <| jn <| JC.ret <| JQ.outRB <| JQ.outR ?_
           try obtain rfl := so hq38
           try obtain rfl := hr _ rfl
           dsimp only at hq36
           refine JQ.outR <| JQ.outRB ?_
           try obtain rfl := so hq36
           dsimp only at hq35
           refine JQ.outR <| JQ.outRB ?_
           try obtain rfl := so hq35
           dsimp only at hq25
           refine JQ.outR ?_
           obtain rfl := so hq25
           exact jd (.val (S rB false)) rfl rfl rfl rfl rfl rfl
         refine JC.skip <| JQ.outNB <| JQ.then <| JC.region <| jmv rfl rfl <| lI hq38 fun v40 hv_40 hq38 => jc (ZaY lb tR .cI (cs hv_40)) <| jc (Zab lb tR) <| JL.nil ?_
         try obtain rfl := so hq38
         exact JQ.next () rfl (Imp.norm (js := [0]) rfl (.cons rfl (.cons rfl .nil)))
       refine bI hx38 fun v28 hv_28 hx38 => bI hx38 fun v29 hv_29 hx38 => lI hx38 fun v30 hv_30 hx38 => lI hx38 fun v31 hv_31 hx38 => lI hx38 fun v32 hv_32 hx38 => bI hx38 fun v33 hv_33 hx38 => bI hx38 fun v34 hv_34 hx38 => bI hx38 fun v35 hv_35 hx38 => ?_
       obtain ⟨v36, hv_36, hx38⟩ := ZaQ hx38
       refine lI hx38 fun v37 hv_37 hx38 => ?_
       obtain ⟨v38, hv_38, hx38⟩ := ZaQ hx38
       refine JC.anyF (base := [(1, ov (PTR gb_2 0)), (3, ov (S (rI .i64) x_26))])
           (fs := fun γ => [⟨some 66, ov (PTR gb_2 (0 + 58))⟩, ⟨some 67, ov (S (rL Zad) t_1.Live)⟩, ⟨some 68, ov (S (rI .i64) x_26)⟩, ⟨some 69, ov (PT Zad v28)⟩, ⟨some 70, ov (A Zad v28)⟩, ⟨some 71, ov (S rB v29)⟩, ⟨some 72, ov (S rB v30)⟩, ⟨some 73, ov (S rB v30)⟩, ⟨some 74, bif (!v30) then ov (S (rI .i64) x_26) else .one .und⟩, ⟨some 75, bif (!v30) then ov (S rB v31) else .one .und⟩, ⟨some 76, bif (!v30) then ov (S rB v31) else .one .und⟩, ⟨some 77, bif ((!v30) && v31) then ov (PTR gb_2 (0 + 58)) else .one .und⟩, ⟨some 78, bif ((!v30) && v31) then ov (S (rL Zad) t_1.Live) else .one .und⟩, ⟨some 79, bif ((!v30) && v31) then ov (S (rI .i64) x_26) else .one .und⟩, ⟨some 80, bif ((!v30) && v31) then ov (S (rI .i64) v32) else .one .und⟩, ⟨some 81, bif ((!v30) && v31) then ov (PT Zad v33) else .one .und⟩, ⟨some 82, bif ((!v30) && v31) then ov (A Zad v33) else .one .und⟩, ⟨some 83, bif ((!v30) && v31) then ov (PTR gb_2 (0 + 58)) else .one .und⟩, ⟨some 84, bif ((!v30) && v31) then ov (S (rL Zad) t_1.Live) else .one .und⟩, ⟨some 85, bif ((!v30) && v31) then ov (S (rI .i64) x_26) else .one .und⟩, ⟨some 86, bif ((!v30) && v31) then ov (PT Zad v34) else .one .und⟩, ⟨some 87, bif ((!v30) && v31) then ov (A Zad v34) else .one .und⟩, ⟨some 88, bif ((!v30) && v31) then ov (S rB v35) else .one .und⟩, ⟨some 89, bif ((!v30) && v31) then ov (S rB v36) else .one .und⟩, ⟨some 90, bif (!v30) then ov (S rB v37) else .one .und⟩, ⟨some 91, ov (S rB v38)⟩])
           (rs := fun γ => [⟨cvar gb_2 Zae t_1, none, none, [1, 12, 18]⟩])
           (afts := nn 26) (js := [0]) ZbT (.cons rfl (.cons rfl .nil)) (fun _ => rfl)
           (by
      refine dS 1 (fun γ ρ B hb hd => Zaa (off := 58) lb Zd6 (.tmp (hb 1 _ rfl))) <| dR 2 (fun γ ρ B hb hd => Zan.lk ⟨ρ, (cvar gb_2 Zae t_1) :: B, _⟩ (Zai (j := 0) lb tS33 (tl hd 0 66) rfl (cT (ZaT t_1) rfl) rfl rfl)) <| db 3 3 <| dS 4 (fun γ ρ B hb hd => Zau lb tu33 tz26 (tl hd 1 67) (tl hd 2 68) hv_28) <| dS 5 (fun γ ρ B hb hd => ZaR lb tA26 (tl hd 3 69) rfl) ?_
      refine dS 6 (fun γ ρ B hb hd => (Zak (js := []) ld cl41 (ZbQ k v28 v29 hv_29) .func (.cons (tl hd 4 70) .nil) rfl).post (fun _ => Imp.refl)) <| dS 7 (fun γ ρ B hb hd => Zbc lb (tl hd 5 71) hv_30) <| dm 8 6 72 ?_
      refine dF 9 7 73 v30 (fun γ => ov (S (rI .i64) x_26)) (fun γ ρ B hb hd hq_39 => Zax lb (.tmp (hb 3 _ rfl))) ?_
      refine dF 10 7 73 v30 (fun γ => ov (S rB v31)) (fun γ ρ B hb hd hq_40 => Zaq lb (HasO.cnd (tl hd 8 74) (notT (notF hq_40))) .cI (cs hv_31)) ?_
      refine dF 11 7 73 v30 (fun γ => ov (S rB v31)) (fun γ ρ B hb hd hq_41 => Zax lb (HasO.cnd (tl hd 9 75) (notT (notF hq_41)))) ?_
      refine dA 12 10 76 (!v30) v31 (fun γ => ov (PTR gb_2 (0 + 58))) (fun γ ρ B hb hd hq_42 => Zaa (off := 58) lb Zd6 (.tmp (hb 1 _ rfl))) ?_
      refine eA 13 10 76 (!v30) v31 (fun γ => ov (S (rL Zad) t_1.Live)) (fun γ ρ B hb hd hq_43 => Zan.lk ⟨ρ, (cvar gb_2 Zae t_1) :: B, _⟩ (Zai (j := 0) lb tS33 (HasO.cnd (tl hd 11 77) (andI (notT (notF (andL hq_43))) (andR hq_43))) rfl (cT (ZaT t_1) rfl) rfl rfl)) ?_
      refine dA 14 10 76 (!v30) v31 (fun γ => ov (S (rI .i64) x_26)) (fun γ ρ B hb hd hq_44 => Zax lb (.tmp (hb 3 _ rfl))) ?_
      refine dA 15 10 76 (!v30) v31 (fun γ => ov (S (rI .i64) v32)) (fun γ ρ B hb hd hq_45 => ZaY lb (HasO.cnd (tl hd 13 79) (andI (notT (notF (andL hq_45))) (andR hq_45))) .cI (cs hv_32)) ?_
      refine dA 16 10 76 (!v30) v31 (fun γ => ov (PT Zad v33)) (fun γ ρ B hb hd hq_46 => Zau lb tu33 tz26 (HasO.cnd (tl hd 12 78) (andI (notT (notF (andL hq_46))) (andR hq_46))) (HasO.cnd (tl hd 14 80) (andI (notT (notF (andL hq_46))) (andR hq_46))) (ifT hv_33 hq_46)) ?_
      refine dA 17 10 76 (!v30) v31 (fun γ => ov (A Zad v33)) (fun γ ρ B hb hd hq_47 => ZaR lb tA26 (HasO.cnd (tl hd 15 81) (andI (notT (notF (andL hq_47))) (andR hq_47))) rfl) ?_
      refine dA 18 10 76 (!v30) v31 (fun γ => ov (PTR gb_2 (0 + 58))) (fun γ ρ B hb hd hq_48 => Zaa (off := 58) lb Zd6 (.tmp (hb 1 _ rfl))) ?_
      refine eA 19 10 76 (!v30) v31 (fun γ => ov (S (rL Zad) t_1.Live)) (fun γ ρ B hb hd hq_49 => Zan.lk ⟨ρ, (cvar gb_2 Zae t_1) :: B, _⟩ (Zai (j := 0) lb tS33 (HasO.cnd (tl hd 17 83) (andI (notT (notF (andL hq_49))) (andR hq_49))) rfl (cT (ZaT t_1) rfl) rfl rfl)) ?_
      refine dA 20 10 76 (!v30) v31 (fun γ => ov (S (rI .i64) x_26)) (fun γ ρ B hb hd hq_50 => Zax lb (.tmp (hb 3 _ rfl))) ?_
      refine dA 21 10 76 (!v30) v31 (fun γ => ov (PT Zad v34)) (fun γ ρ B hb hd hq_51 => Zau lb tu33 tz26 (HasO.cnd (tl hd 18 84) (andI (notT (notF (andL hq_51))) (andR hq_51))) (HasO.cnd (tl hd 19 85) (andI (notT (notF (andL hq_51))) (andR hq_51))) (ifT hv_34 hq_51)) ?_
      refine dA 22 10 76 (!v30) v31 (fun γ => ov (A Zad v34)) (fun γ ρ B hb hd hq_52 => ZaR lb tA26 (HasO.cnd (tl hd 20 86) (andI (notT (notF (andL hq_52))) (andR hq_52))) rfl) ?_
      refine dA 23 10 76 (!v30) v31 (fun γ => ov (S rB v35)) (fun γ ρ B hb hd hq_53 => (Zak (js := []) ld cl42 (Zdb k v33 v34 v35 (ifT hv_35 hq_53)) .func (.cons (HasO.cnd (tl hd 16 82) (andI (notT (notF (andL hq_53))) (andR hq_53))) (.cons (HasO.cnd (tl hd 21 87) (andI (notT (notF (andL hq_53))) (andR hq_53))) .nil)) rfl).post (fun _ => Imp.refl)) ?_
      refine dA 24 10 76 (!v30) v31 (fun γ => ov (S rB v36)) (fun γ ρ B hb hd hq_54 => Zbc lb (HasO.cnd (tl hd 22 88) (andI (notT (notF (andL hq_54))) (andR hq_54))) hv_36) ?_
      refine dF 25 7 73 v30 (fun γ => ov (S rB v37)) (fun γ ρ B hb hd hq_55 => Zao lb (HasO.cnd (tl hd 10 76) (notT (notF hq_55))) (fun hb56 => (HasO.cnd (tl hd 23 89) (andI (notT (notF hq_55)) hb56))) (fun hb56 => .cB) hv_37) ?_
      refine dS 26 (fun γ ρ B hb hd => Zao lb (tl hd 7 73) (fun hb57 => .cB) (fun hb57 => (HasO.cnd (tl hd 24 90) (notT hb57))) hv_38) ?_
      exact ZaG.nil)
           (by decide +kernel) (fun _ => rfl) (fun _ => rfl) (fun _ => rfl) rfl
           (ρ' := fun γ => [(1, ov (PTR gb_2 0)), (3, ov (S (rI .i64) x_26)), (91, ov (S rB v38))])
           (X' := fun γ => [cvar gb_2 Zae t_1])
           (fun γ ρ hb hd => (.cons (hb 1 _ rfl) (.cons (hb 3 _ rfl) (.cons (hdq hd 25 91 rfl) .nil)))) (fun _ => rfl) (fun γ => ?_)
       refine JQ.at ⟨[(1, ov (PTR gb_2 0)), (3, ov (S (rI .i64) x_26)), (91, ov (S rB v38))], [cvar gb_2 Zae t_1], []⟩ ?_
       try obtain rfl := so hx38
       exact JQ.join () (Imp.norm (js := [0]) rfl (.cons rfl (.cons rfl (.cons rfl .nil))))
     refine JC.exit <| JQ.outX ?_
     try obtain rfl := so hx
     try obtain rfl := hr _ rfl
     dsimp only at hq36
     refine JQ.outX <| JQ.here ?_
     try obtain rfl := so hq36
     exact JQ.joinK () () rfl (Imp.norm (js := [0]) rfl (.cons rfl .nil))
   refine jr <| lI hx25 fun v45 hv_45 hx25 => jc (Zaq lb tR .cI (cs hv_45)) <| jc (Zab lb tR) <| JL.sub ⟨[(1, ov (PTR gb_2 0)), (35, ov (S (rI .i64) t_1.Kind)), (103, ov (S rB v45))], [cvar gb_2 Zae t_1], []⟩ (.cons rfl (.cons rfl (.cons rfl .nil))) rfl rfl <| jn <| jif tR hx25 (fun hc66 hx25 => ?_) (fun hc66 hx25 => ?_)
   · refine jr <| jc (Zab lb .cB) <| jn <| JC.ret <| JQ.outRB ?_
     try obtain rfl := so hx25
     dsimp only at hq25
     refine JQ.outR ?_
     obtain rfl := so hq25
     exact jd (.val (S rB true)) rfl rfl rfl rfl rfl rfl
   refine jr <| lI hx25 fun v46 hv_46 hx25 => jc (Zaq lb tR .cI (cs hv_46)) <| jc (Zab lb tR) <| jn <| jif tR hx25 (fun hc67 hx25 => ?_) (fun hc67 hx25 => ?_)
   · refine jr <| jc (Zaa (off := 91) lb ZeT tR) <| jc (Zai (j := 0) lb tS36 tR rfl (cT (Zbd t_1) rfl) rfl rfl) <| jc (ZaE lb tu36 tR) <| lI hx25 fun v47 hv_47 hx25 => jc (Zaq lb tR .cI (cs hv_47)) <| jc (Zab lb tR) <| jn <| JC.ret <| JQ.outRB ?_
     try obtain rfl := so hx25
     dsimp only at hq25
     refine JQ.outR ?_
     obtain rfl := so hq25
     exact jd (.val (S rB v47)) rfl rfl rfl rfl rfl rfl
   refine jr <| lI hx25 fun v48 hv_48 hx25 => jc (Zaq lb tR .cI (cs hv_48)) <| jc (Zab lb tR) <| jn <| jif tR hx25 (fun hc68 hx25 => ?_) (fun hc68 hx25 => ?_)
   · refine jr <| jc (Zaw (j := 0) lb tA39 tR rfl (Comp.self Zae t_1) rfl) <| bI hx25 fun v49 hv_49 hx25 => jx (Zak (js := []) ld cl44 (Zf4 k t_1 v49 hv_49) .func (.cons tR .nil) rfl) fun _ => jc (Zab lb tR) <| jn <| JC.ret <| JQ.outRB ?_
     try obtain rfl := so hx25
     dsimp only at hq25
     refine JQ.outR ?_
     obtain rfl := so hq25
     exact jd (.val (S rB v49)) rfl rfl rfl rfl rfl rfl
   refine JC.skip <| JQ.outNB ?_
   try obtain rfl := so hx25
   exact JQ.joinK () () rfl (Imp.norm (js := []) rfl .nil)
 refine JC.region <| jc (Zaa (off := 1) lb Zgb tR) <| jc (Zai (j := 0) lb tS3 tR rfl (cT (Za5 t_1) rfl) rfl rfl) <| lI hx1 fun v3 hv_3 hx1 => jc (Zaq lb tR .cI (cs hv_3)) <| jmv rfl rfl <| jF (ov (PTR gb_2 (0 + 1))) rfl rfl rfl rfl (fun hq_2 => Zaa (off := 1) lb Zgb tR) <| jF (ov (S (rI .i64) t_1.From)) rfl rfl rfl rfl (fun hq_3 => Zai (j := 0) lb tS3 (HasO.cnd tR (notT (notF hq_3))) rfl (cT (Za5 t_1) rfl) rfl rfl) <| lI hx1 fun v4 hv_4 hx1 => jF (ov (S rB v4)) rfl rfl rfl rfl (fun hq_4 => Zaq lb (HasO.cnd tR (notT (notF hq_4))) .cI (cs hv_4)) <| lI hx1 fun v5 hv_5 hx1 => jc (Zao lb tR (fun hb5 => .cB) (fun hb5 => (HasO.cnd tR (notT hb5))) hv_5) ?_
 refine JL.sub ⟨[(1, ov (PTR gb_2 0)), (11, ov (S rB v5))], [cvar gb_2 Zae t_1], []⟩ (.cons rfl (.cons rfl .nil)) rfl rfl <| jmv rfl rfl <| jF (ov (PTR gb_2 (0 + 2))) rfl rfl rfl rfl (fun hq_6 => Zaa (off := 2) lb Zf9 tR) <| jF (ov (S (rI .i64) t_1.To)) rfl rfl rfl rfl (fun hq_7 => Zai (j := 0) lb tS3 (HasO.cnd tR (notT (notF hq_7))) rfl (cT (Zbj t_1) rfl) rfl rfl) <| lI hx1 fun v6 hv_6 hx1 => jF (ov (S rB v6)) rfl rfl rfl rfl (fun hq_8 => Zaq lb (HasO.cnd tR (notT (notF hq_8))) .cI (cs hv_6)) <| lI hx1 fun v7 hv_7 hx1 => jc (Zao lb tR (fun hb9 => .cB) (fun hb9 => (HasO.cnd tR (notT hb9))) hv_7) <| jmv rfl rfl <| jF (ov (PTR gb_2 (0 + 2))) rfl rfl rfl rfl (fun hq_10 => Zaa (off := 2) lb Zf9 tR) ?_
 refine jF (ov (S (rI .i64) t_1.To)) rfl rfl rfl rfl (fun hq_11 => Zai (j := 0) lb tS3 (HasO.cnd tR (notT (notF hq_11))) rfl (cT (Zbj t_1) rfl) rfl rfl) <| lI hx1 fun v8 hv_8 hx1 => jF (ov (S rB v8)) rfl rfl rfl rfl (fun hq_12 => Zaq lb (HasO.cnd tR (notT (notF hq_12))) .cI (cs hv_8)) <| lI hx1 fun v9 hv_9 hx1 => jc (Zao lb tR (fun hb13 => .cB) (fun hb13 => (HasO.cnd tR (notT hb13))) hv_9) <| jmv rfl rfl <| jF (ov (PTR gb_2 (0 + 1))) rfl rfl rfl rfl (fun hq_14 => Zaa (off := 1) lb Zgb tR) <| JL.sub ⟨[(1, ov (PTR gb_2 0)), (22, ov (S rB v9)), (23, bif (!v9) then ov (PTR gb_2 (0 + 1)) else .one .und)], [cvar gb_2 Zae t_1], []⟩ (.cons rfl (.cons rfl (.cons rfl .nil))) rfl rfl <| jF (ov (S (rI .i64) t_1.From)) rfl rfl rfl rfl (fun hq_15 => Zai (j := 0) lb tS3 (HasO.cnd tR (notT (notF hq_15))) rfl (cT (Za5 t_1) rfl) rfl rfl) <| jF (ov (PTR gb_2 (0 + 2))) rfl rfl rfl rfl (fun hq_16 => Zaa (off := 2) lb Zf9 tR) ?_
 refine jF (ov (S (rI .i64) t_1.To)) rfl rfl rfl rfl (fun hq_17 => Zai (j := 0) lb tS3 (HasO.cnd tR (notT (notF hq_17))) rfl (cT (Zbj t_1) rfl) rfl rfl) <| lI hx1 fun v10 hv_10 hx1 => jF (ov (S rB v10)) rfl rfl rfl rfl (fun hq_18 => Zaq lb (HasO.cnd tR (notT (notF hq_18))) (HasO.cnd tR (notT (notF hq_18))) (cs hv_10)) <| lI hx1 fun v11 hv_11 hx1 => jc (Zao lb tR (fun hb19 => .cB) (fun hb19 => (HasO.cnd tR (notT hb19))) hv_11) <| jmv rfl rfl <| jF (ov (A Zae t_1)) rfl rfl rfl rfl (fun hq_20 => Zaw (j := 0) lb tA39 tR rfl (Comp.self Zae t_1) rfl) <| bI hx1 fun v12 hv_12 hx1 => jF (ov (S rB v12)) rfl rfl rfl rfl (fun hq_21 => (Zak (js := []) ld cl37 (Zif k t_1 v12 (ifT hv_12 hq_21)) .func (.cons (HasO.cnd tR (notT (notF hq_21))) .nil) rfl).post (fun _ => Imp.refl)) ?_
 obtain ⟨v13, hv_13, hx1⟩ := ZaQ hx1
 refine jF (ov (S rB v13)) rfl rfl rfl rfl (fun hq_22 => Zbc lb (HasO.cnd tR (notT (notF hq_22))) hv_13) <| lI hx1 fun v14 hv_14 hx1 => jc (Zao lb tR (fun hb23 => .cB) (fun hb23 => (HasO.cnd tR (notT hb23))) hv_14) <| JL.nil ?_
 try obtain rfl := so hx1
 exact JQ.join () (Imp.norm (js := [0]) rfl (.cons rfl (.cons rfl .nil)))

theorem Zid (k : Nat) (t_1 : Zah) (r : Zah) (hm : Ze5 k t_1 = some r) : Sim Tryz.prog 28 [A Zae t_1] [] (γ := Unit) (fun q => []) (fun q => .one (.val (A Zae r))) := by
 unfold Ze5 at hm
 refine Sim.of Tryz.func28 rfl rfl (lE rfl) (fun e0 w0 => ?_)
 refine JC.at ⟨[(0, ov (A Zae t_1))], [], []⟩ <| jr <| jx (ZaX lb tR) fun gb_2 => jx (Zbh lb tZ39 zr39) fun gb_3 => jn <| jr <| jc (Zaa (off := 0) lb Zeu tR) <| jc (Zai (j := 0) lb tS22 tR rfl (cT (ZaS t_1) rfl) rfl rfl) <| jc (Zaa (off := 1) lb Zgb tR) <| jc (Zai (j := 0) lb tS3 tR rfl (cT (Za5 t_1) rfl) rfl rfl) <| jc (Zaa (off := 2) lb Zf9 tR) <| jc (Zai (j := 0) lb tS3 tR rfl (cT (Zbj t_1) rfl) rfl rfl) <| JL.sub ⟨[(1, ov (PTR gb_2 0)), (2, ov (PTR gb_3 0)), (5, ov (S (rI .i64) t_1.Kind)), (7, ov (S (rI .i64) t_1.From)), (9, ov (S (rI .i64) t_1.To))], [cvar gb_2 Zae t_1, cvar gb_3 zq2 zq3], []⟩ (.cons rfl (.cons rfl (.cons rfl (.cons rfl (.cons rfl .nil))))) rfl rfl <| jc (Za9 lb tZ39 zr39 tp39 (.S (off := 0) rfl tR rfl ((UpdR.fst (UpdR.self (by rfl))).at (by rfl)) (.S (off := 1) rfl tR rfl ((UpdR.snd (UpdR.fst (UpdR.self (by rfl)))).at (by rfl)) (.S (off := 2) rfl tR rfl ((UpdR.snd (UpdR.snd (UpdR.fst (UpdR.self (by rfl))))).at (by rfl)) .nil))) rfl) <| jx (Zbh lb tZ39 zr39) (fun gb_4 => ?_)
 refine jc (ZaP (j := 2) tA39 tR tR rfl (UpdR.self (by rfl)) rfl) <| jn <| bI hm fun x_12 hx1 hq1 => JC.seqJ (γ := Unit) (stj := fun _ => ⟨[(2, ov (PTR gb_3 0)), (3, ov (PTR gb_4 0))], [cvar gb_3 zq2 zq3, cvar gb_4 Zae x_12], []⟩) (fun _ => ?_) ?_
 · refine jr <| jc (Zaw (j := 1) lb tA39 tR rfl (Comp.self Zae x_12) rfl) <| jc (ZaP (j := 0) tA39 tR tR rfl (UpdR.self (by rfl)) rfl) <| jn <| JC.ret ?_
   obtain rfl := so hq1
   exact JQ.done (js := []) (ss := [.val (A Zae x_12)]) () (.inl rfl) (.nil rfl) rfl (.cons (.cellA (j := 0) tA39 rfl rfl) .nil) rfl rfl rfl
 refine jr <| jc (Zaa (off := 0) lb Zeu tR) <| jc (Zai (j := 0) lb tS22 tR rfl (cT (ZaS t_1) rfl) rfl rfl) <| jn <| JC.block <| jr <| lI hx1 fun v5 hv_5 hx1 => jc (Zaq lb tR .cI (cs hv_5)) <| jc (Zab lb tR) <| jn <| jif tR hx1 (fun hc2 hx1 => ?_) (fun hc2 hx1 => ?_)
 · refine JC.region <| jc (Zaa (off := 3) lb ZcK tR) <| JL.sub ⟨[(2, ov (PTR gb_3 0)), (3, ov (PTR gb_4 0)), (15, ov (PTR gb_2 (0 + 3)))], [cvar gb_2 Zae t_1, cvar gb_3 zq2 zq3, cvar gb_4 zq2 (zq4 t_1)], []⟩ (.cons rfl (.cons rfl (.cons rfl .nil))) rfl rfl <| jc (Zai (j := 0) lb tS23 tR rfl (cT (ZaH t_1) rfl) rfl rfl) <| jc (Zaa (off := 3) lb ZcK tR) <| jc (ZbX (j := 2) tS23 tR tR rfl rfl ((UpdR.snd (UpdR.snd (UpdR.snd (UpdR.fst (UpdR.self (by rfl)))))).at (by change (1 + (1 + (1 + 0))) = (0 + 3); omega)) rfl) <| JL.nil <| JQ.outNB ?_
   try obtain rfl := so hx1
   refine JQ.pre (Imp.var (j := 2) (q := Zae) (y := (Zah.mk t_1.Kind t_1.From t_1.To t_1.Items (Zar.mk (Zaf.mk (0 : Int) (0 : UInt64)) ([] : (List UInt8)) ([] : (List UInt8)) (Vector.replicate 16 (0 : UInt64)) ([] : (List ZaA))) (Vector.replicate 16 (0 : UInt64)) (Vector.replicate 16 (0 : UInt64)) ([] : (List Zaf)) ([] : (List Zaf)) (Vector.replicate 32 (0 : UInt8)) ([] : (List (Vector UInt8 32))) ([] : (List Int)) false)) rfl (Wk.st (Wk.pair Wk.refl (Wk.pair Wk.refl (Wk.pair Wk.refl (Wk.pair Wk.refl (Wk.pair (Wk.st (Wk.pair Wk.refl (Wk.pair Wk.refl (Wk.pair Wk.nil (Wk.pair Wk.refl (Wk.pair Wk.nil Wk.refl)))))) (Wk.pair Wk.refl (Wk.pair Wk.refl (Wk.pair Wk.nil (Wk.pair Wk.nil (Wk.pair Wk.refl (Wk.pair Wk.nil (Wk.pair Wk.nil (Wk.pair Wk.refl Wk.refl))))))))))))))) ?_
   exact JQ.join () (Imp.norm (js := [1, 1]) rfl (.cons rfl (.cons rfl .nil)))
 refine jr <| lI hx1 fun v6 hv_6 hx1 => jc (Zaq lb tR .cI (cs hv_6)) <| JL.sub ⟨[(1, ov (PTR gb_2 0)), (2, ov (PTR gb_3 0)), (3, ov (PTR gb_4 0)), (12, ov (S (rI .i64) t_1.Kind)), (19, ov (S rB v6))], [cvar gb_2 Zae t_1, cvar gb_3 zq2 zq3, cvar gb_4 zq2 (zq4 t_1)], []⟩ (.cons rfl (.cons rfl (.cons rfl (.cons rfl (.cons rfl .nil))))) rfl rfl <| jc (Zab lb tR) <| jn <| jif tR hx1 (fun hc3 hx1 => ?_) (fun hc3 hx1 => ?_)
 · refine JC.region <| jc (Zaa (off := 4) lb Zgi tR) <| jc (Zaw (j := 0) lb tA32 tR rfl (cT (Zbl t_1) rfl) rfl) <| jc (Zaa (off := 4) lb Zgi tR) <| jc (ZaP (j := 2) tA32 tR tR rfl ((UpdR.snd (UpdR.snd (UpdR.snd (UpdR.snd (UpdR.fst (UpdR.self (by rfl))))))).at (by change (1 + (1 + (1 + (1 + 0)))) = (0 + 4); omega)) rfl) <| JL.nil <| JQ.outNB ?_
   try obtain rfl := so hx1
   refine JQ.pre (Imp.var (j := 2) (q := Zae) (y := (Zah.mk t_1.Kind t_1.From t_1.To ([] : (List Zap)) t_1.Event (Vector.replicate 16 (0 : UInt64)) (Vector.replicate 16 (0 : UInt64)) ([] : (List Zaf)) ([] : (List Zaf)) (Vector.replicate 32 (0 : UInt8)) ([] : (List (Vector UInt8 32))) ([] : (List Int)) false)) rfl (Wk.st (Wk.pair Wk.refl (Wk.pair Wk.refl (Wk.pair Wk.refl (Wk.pair Wk.nil (Wk.pair Wk.refl (Wk.pair Wk.refl (Wk.pair Wk.refl (Wk.pair Wk.nil (Wk.pair Wk.nil (Wk.pair Wk.refl (Wk.pair Wk.nil (Wk.pair Wk.nil (Wk.pair Wk.refl Wk.refl))))))))))))))) ?_
   exact JQ.join () (Imp.norm (js := [1, 1]) rfl (.cons rfl (.cons rfl .nil)))
 refine jr <| lI hx1 fun v7 hv_7 hx1 => jc (Zaq lb tR .cI (cs hv_7)) <| jc (Zab lb tR) <| jn <| jif tR hx1 (fun hc4 hx1 => ?_) (fun hc4 hx1 => ?_)
 · refine JC.region <| jc (Zaa (off := 25) lb Zgy tR) <| jc (Zaw (j := 0) lb tA29 tR rfl (cT (Zby t_1) rfl) rfl) <| jc (Zaa (off := 25) lb Zgy tR) <| jc (ZaP (j := 2) tA29 tR tR rfl ((UpdR.snd (UpdR.snd (UpdR.snd (UpdR.snd (UpdR.snd (UpdR.fst (UpdR.self (by rfl)))))))).at (by change (1 + (1 + (1 + (1 + (21 + 0))))) = (0 + 25); omega)) rfl) <| JL.nil <| JQ.outNB ?_
   try obtain rfl := so hx1
   refine JQ.pre (Imp.var (j := 2) (q := Zae) (y := (Zah.mk t_1.Kind t_1.From t_1.To ([] : (List Zap)) (Zar.mk (Zaf.mk (0 : Int) (0 : UInt64)) ([] : (List UInt8)) ([] : (List UInt8)) (Vector.replicate 16 (0 : UInt64)) ([] : (List ZaA))) t_1.Past (Vector.replicate 16 (0 : UInt64)) ([] : (List Zaf)) ([] : (List Zaf)) (Vector.replicate 32 (0 : UInt8)) ([] : (List (Vector UInt8 32))) ([] : (List Int)) false)) rfl (Wk.st (Wk.pair Wk.refl (Wk.pair Wk.refl (Wk.pair Wk.refl (Wk.pair Wk.nil (Wk.pair (Wk.st (Wk.pair Wk.refl (Wk.pair Wk.refl (Wk.pair Wk.nil (Wk.pair Wk.refl (Wk.pair Wk.nil Wk.refl)))))) (Wk.pair Wk.refl (Wk.pair Wk.refl (Wk.pair Wk.nil (Wk.pair Wk.nil (Wk.pair Wk.refl (Wk.pair Wk.nil (Wk.pair Wk.nil (Wk.pair Wk.refl Wk.refl))))))))))))))) ?_
   exact JQ.join () (Imp.norm (js := [1, 1]) rfl (.cons rfl (.cons rfl .nil)))
 refine jr <| lI hx1 fun v8 hv_8 hx1 => jc (Zaq lb tR .cI (cs hv_8)) <| jc (Zab lb tR) <| jn <| jif tR hx1 (fun hc5 hx1 => ?_) (fun hc5 hx1 => ?_)
 · refine JC.anyF (base := [(1, ov (PTR gb_2 0)), (2, ov (PTR gb_3 0)), (3, ov (PTR gb_4 0))])
       (fs := fun γ => [⟨some 30, ov (PTR gb_2 (0 + 41))⟩, ⟨some 31, ov (A (rV 16 (rU UInt64)) t_1.Seen)⟩, ⟨some 32, ov (PTR gb_2 (0 + 57))⟩, ⟨some 33, ov (S (rL Zad) t_1.Extra)⟩, ⟨some 34, ov (PTR gb_2 (0 + 58))⟩, ⟨some 35, ov (S (rL Zad) t_1.Live)⟩, ⟨some 36, ov (PTR gb_4 (0 + 41))⟩, ⟨none, .one .any⟩, ⟨some 37, ov (PTR gb_4 (0 + 57))⟩, ⟨none, .one .any⟩, ⟨some 38, ov (PTR gb_4 (0 + 58))⟩, ⟨none, .one .any⟩])
       (rs := fun γ => [⟨cvar gb_2 Zae t_1, none, none, [1, 3, 5]⟩, ⟨cvar gb_3 zq2 zq3, none, none, []⟩, ⟨cvar gb_4 zq2 (zq4 t_1), none, (some 7), []⟩, ⟨cvar gb_4 zq2 (zq5 t_1), (some 7), (some 9), []⟩, ⟨cvar gb_4 zq6 (zq7 t_1), (some 9), (some 11), []⟩, ⟨cvar gb_4 zq8 (zq9 t_1), (some 11), none, []⟩])
       (afts := nn 12) (js := [0, 0, 0]) ZbT (.cons rfl (.cons rfl (.cons rfl .nil))) (fun _ => rfl)
       (by
      refine dS 1 (fun γ ρ B hb hd => Zaa (off := 41) lb Ze8 (.tmp (hb 1 _ rfl))) <| dR 2 (fun γ ρ B hb hd => Zan.lk ⟨ρ, (cvar gb_2 Zae t_1) :: B, _⟩ (Zaw (j := 0) lb tA29 (tl hd 0 30) rfl (cT (Zbf t_1) rfl) rfl)) <| dS 3 (fun γ ρ B hb hd => Zaa (off := 57) lb ZeH (.tmp (hb 1 _ rfl))) <| dR 4 (fun γ ρ B hb hd => Zan.lk ⟨ρ, (cvar gb_2 Zae t_1) :: B, _⟩ (Zai (j := 0) lb tS33 (tl hd 2 32) rfl (cT (Za3 t_1) rfl) rfl rfl)) <| dS 5 (fun γ ρ B hb hd => Zaa (off := 58) lb Zd6 (.tmp (hb 1 _ rfl))) ?_
      refine dR 6 (fun γ ρ B hb hd => Zan.lk ⟨ρ, (cvar gb_2 Zae t_1) :: B, _⟩ (Zai (j := 0) lb tS33 (tl hd 4 34) rfl (cT (ZaT t_1) rfl) rfl rfl)) <| dS 7 (fun γ ρ B hb hd => Zaa (off := 41) lb Ze8 (.tmp (hb 3 _ rfl))) <| dR 8 (fun γ ρ B hb hd => Zan.at ⟨ρ, (cvar gb_4 zq2 (zq4 t_1)) :: B, _⟩ (setO ⟨ρ, (cvar gb_4 zq2 (zq5 t_1)) :: B, _⟩ _ _) (ZaP (j := 0) tA29 (tl hd 6 36) (tl hd 1 31) rfl ((UpdR.snd (UpdR.snd (UpdR.snd (UpdR.snd (UpdR.snd (UpdR.snd (UpdR.fst (UpdR.self (by rfl))))))))).at (by change (1 + (1 + (1 + (1 + (21 + (16 + 0)))))) = (0 + 41); omega)) rfl)) <| dS 9 (fun γ ρ B hb hd => Zaa (off := 57) lb ZeH (.tmp (hb 3 _ rfl))) <| dR 10 (fun γ ρ B hb hd => Zan.at ⟨ρ, (cvar gb_4 zq2 (zq5 t_1)) :: B, _⟩ (setO ⟨ρ, (cvar gb_4 zq6 (zq7 t_1)) :: B, _⟩ _ _) (ZbX (j := 0) tS33 (tl hd 8 37) (tl hd 3 33) rfl rfl ((UpdR.snd (UpdR.snd (UpdR.snd (UpdR.snd (UpdR.snd (UpdR.snd (UpdR.snd (UpdR.fst (UpdR.self (by rfl)))))))))).at (by change (1 + (1 + (1 + (1 + (21 + (16 + (16 + 0))))))) = (0 + 57); omega)) rfl)) ?_
      refine dS 11 (fun γ ρ B hb hd => Zaa (off := 58) lb Zd6 (.tmp (hb 3 _ rfl))) <| dR 12 (fun γ ρ B hb hd => Zan.at ⟨ρ, (cvar gb_4 zq6 (zq7 t_1)) :: B, _⟩ (setO ⟨ρ, (cvar gb_4 zq8 (zq9 t_1)) :: B, _⟩ _ _) (ZbX (j := 0) tS33 (tl hd 10 38) (tl hd 5 35) rfl rfl ((UpdR.snd (UpdR.snd (UpdR.snd (UpdR.snd (UpdR.snd (UpdR.snd (UpdR.snd (UpdR.snd (UpdR.fst (UpdR.self (by rfl))))))))))).at (by change (1 + (1 + (1 + (1 + (21 + (16 + (16 + (1 + 0)))))))) = (0 + 58); omega)) rfl)) ?_
      exact ZaG.nil)
       (by decide +kernel) (fun _ => rfl) (fun _ => rfl) (fun _ => rfl) rfl
       (ρ' := fun γ => [(2, ov (PTR gb_3 0)), (3, ov (PTR gb_4 0))])
       (X' := fun γ => [cvar gb_2 Zae t_1, cvar gb_3 zq2 zq3, cvar gb_4 zq8 (zq9 t_1)])
       (fun γ ρ hb hd => (.cons (hb 2 _ rfl) (.cons (hb 3 _ rfl) .nil))) (fun _ => rfl) (fun γ => ?_)
   refine JQ.at ⟨[(2, ov (PTR gb_3 0)), (3, ov (PTR gb_4 0))], [cvar gb_2 Zae t_1, cvar gb_3 zq2 zq3, cvar gb_4 zq8 (zq9 t_1)], []⟩ <| JQ.outNB ?_
   try obtain rfl := so hx1
   refine JQ.pre (Imp.var (j := 2) (q := Zae) (y := (Zah.mk t_1.Kind t_1.From t_1.To ([] : (List Zap)) (Zar.mk (Zaf.mk (0 : Int) (0 : UInt64)) ([] : (List UInt8)) ([] : (List UInt8)) (Vector.replicate 16 (0 : UInt64)) ([] : (List ZaA))) (Vector.replicate 16 (0 : UInt64)) t_1.Seen t_1.Extra t_1.Live (Vector.replicate 32 (0 : UInt8)) ([] : (List (Vector UInt8 32))) ([] : (List Int)) false)) rfl (Wk.st (Wk.pair Wk.refl (Wk.pair Wk.refl (Wk.pair Wk.refl (Wk.pair Wk.nil (Wk.pair (Wk.st (Wk.pair Wk.refl (Wk.pair Wk.refl (Wk.pair Wk.nil (Wk.pair Wk.refl (Wk.pair Wk.nil Wk.refl)))))) (Wk.pair Wk.refl (Wk.pair Wk.refl (Wk.pair Wk.refl (Wk.pair Wk.refl (Wk.pair Wk.refl (Wk.pair Wk.nil (Wk.pair Wk.nil (Wk.pair Wk.refl Wk.refl))))))))))))))) ?_
   exact JQ.join () (Imp.norm (js := [1, 1]) rfl (.cons rfl (.cons rfl .nil)))
 refine jr <| lI hx1 fun v9 hv_9 hx1 => jc (Zaq lb tR .cI (cs hv_9)) <| jc (Zab lb tR) <| jn <| jif tR hx1 (fun hc6 hx1 => ?_) (fun hc6 hx1 => ?_)
 · refine JC.region <| jc (Zaa (off := 59) lb ZhM tR) <| jc (Zaw (j := 0) lb tA35 tR rfl (cT (ZbZ t_1) rfl) rfl) <| jc (Zaa (off := 59) lb ZhM tR) <| jc (ZaP (j := 2) tA35 tR tR rfl ((UpdR.snd (UpdR.snd (UpdR.snd (UpdR.snd (UpdR.snd (UpdR.snd (UpdR.snd (UpdR.snd (UpdR.snd (UpdR.fst (UpdR.self (by rfl)))))))))))).at (by change (1 + (1 + (1 + (1 + (21 + (16 + (16 + (1 + (1 + 0))))))))) = (0 + 59); omega)) rfl) <| JL.nrm ⟨[(2, ov (PTR gb_3 0)), (3, ov (PTR gb_4 0))], [cvar gb_3 zq2 zq3, cvar gb_4 zq2 (zq10 t_1)], []⟩ [1, 1] rfl (.cons rfl (.cons rfl .nil)) rfl <| JL.nil <| JQ.outNB ?_
   try obtain rfl := so hx1
   refine JQ.pre (Imp.var (j := 1) (q := Zae) (y := (Zah.mk t_1.Kind t_1.From t_1.To ([] : (List Zap)) (Zar.mk (Zaf.mk (0 : Int) (0 : UInt64)) ([] : (List UInt8)) ([] : (List UInt8)) (Vector.replicate 16 (0 : UInt64)) ([] : (List ZaA))) (Vector.replicate 16 (0 : UInt64)) (Vector.replicate 16 (0 : UInt64)) ([] : (List Zaf)) ([] : (List Zaf)) t_1.Hash ([] : (List (Vector UInt8 32))) ([] : (List Int)) false)) rfl (Wk.st (Wk.pair Wk.refl (Wk.pair Wk.refl (Wk.pair Wk.refl (Wk.pair Wk.nil (Wk.pair (Wk.st (Wk.pair Wk.refl (Wk.pair Wk.refl (Wk.pair Wk.nil (Wk.pair Wk.refl (Wk.pair Wk.nil Wk.refl)))))) (Wk.pair Wk.refl (Wk.pair Wk.refl (Wk.pair Wk.nil (Wk.pair Wk.nil (Wk.pair Wk.refl (Wk.pair Wk.nil (Wk.pair Wk.nil (Wk.pair Wk.refl Wk.refl))))))))))))))) ?_
   exact JQ.join () (Imp.norm (js := [0, 0]) rfl (.cons rfl (.cons rfl .nil)))
 refine jr <| lI hx1 fun v10 hv_10 hx1 => jc (Zaq lb tR .cI (cs hv_10)) <| jc (Zab lb tR) <| jn <| jif tR hx1 (fun hc7 hx1 => ?_) (fun hc7 hx1 => ?_)
 · refine JC.region <| jc (Zaa (off := 91) lb ZeT tR) <| jc (Zai (j := 0) lb tS36 tR rfl (cT (Zbd t_1) rfl) rfl rfl) <| jc (Zaa (off := 91) lb ZeT tR) <| JL.nrm ⟨[(2, ov (PTR gb_3 0)), (3, ov (PTR gb_4 0)), (47, ov (S (rL (rV 32 (rU UInt8))) t_1.Leaves)), (48, ov (PTR gb_4 (0 + 91)))], [cvar gb_3 zq2 zq3, cvar gb_4 zq2 (zq4 t_1)], []⟩ [1, 1] rfl (.cons rfl (.cons rfl (.cons rfl (.cons rfl .nil)))) rfl <| jc (ZbX (j := 1) tS36 tR tR rfl rfl ((UpdR.snd (UpdR.snd (UpdR.snd (UpdR.snd (UpdR.snd (UpdR.snd (UpdR.snd (UpdR.snd (UpdR.snd (UpdR.snd (UpdR.fst (UpdR.self (by rfl))))))))))))).at (by change (1 + (1 + (1 + (1 + (21 + (16 + (16 + (1 + (1 + (32 + 0)))))))))) = (0 + 91); omega)) rfl) <| JL.nil <| JQ.outNB ?_
   try obtain rfl := so hx1
   refine JQ.pre (Imp.var (j := 1) (q := Zae) (y := (Zah.mk t_1.Kind t_1.From t_1.To ([] : (List Zap)) (Zar.mk (Zaf.mk (0 : Int) (0 : UInt64)) ([] : (List UInt8)) ([] : (List UInt8)) (Vector.replicate 16 (0 : UInt64)) ([] : (List ZaA))) (Vector.replicate 16 (0 : UInt64)) (Vector.replicate 16 (0 : UInt64)) ([] : (List Zaf)) ([] : (List Zaf)) (Vector.replicate 32 (0 : UInt8)) t_1.Leaves ([] : (List Int)) false)) rfl (Wk.st (Wk.pair Wk.refl (Wk.pair Wk.refl (Wk.pair Wk.refl (Wk.pair Wk.nil (Wk.pair (Wk.st (Wk.pair Wk.refl (Wk.pair Wk.refl (Wk.pair Wk.nil (Wk.pair Wk.refl (Wk.pair Wk.nil Wk.refl)))))) (Wk.pair Wk.refl (Wk.pair Wk.refl (Wk.pair Wk.nil (Wk.pair Wk.nil (Wk.pair Wk.refl (Wk.pair Wk.refl (Wk.pair Wk.nil (Wk.pair Wk.refl Wk.refl))))))))))))))) ?_
   exact JQ.join () (Imp.norm (js := [0, 0]) rfl (.cons rfl (.cons rfl .nil)))
 refine jr <| lI hx1 fun v11 hv_11 hx1 => jc (Zaq lb tR .cI (cs hv_11)) <| jc (Zab lb tR) <| jn <| jif tR hx1 (fun hc8 hx1 => ?_) (fun hc8 hx1 => ?_)
 · refine JC.anyF (base := [(1, ov (PTR gb_2 0)), (2, ov (PTR gb_3 0)), (3, ov (PTR gb_4 0))])
       (fs := fun γ => [⟨some 51, ov (PTR gb_2 (0 + 92))⟩, ⟨some 52, ov (S (rL (rI .i64)) t_1.Buckets)⟩, ⟨some 53, ov (PTR gb_2 (0 + 3))⟩, ⟨some 54, ov (S (rL Zaj) t_1.Items)⟩, ⟨some 55, ov (PTR gb_2 (0 + 41))⟩, ⟨some 56, ov (A (rV 16 (rU UInt64)) t_1.Seen)⟩, ⟨some 57, ov (PTR gb_2 (0 + 57))⟩, ⟨some 58, ov (S (rL Zad) t_1.Extra)⟩, ⟨some 59, ov (PTR gb_2 (0 + 93))⟩, ⟨some 60, ov (S rB t_1.Reply)⟩, ⟨some 61, ov (PTR gb_4 (0 + 92))⟩, ⟨none, .one .any⟩, ⟨some 62, ov (PTR gb_4 (0 + 3))⟩, ⟨none, .one .any⟩, ⟨some 63, ov (PTR gb_4 (0 + 41))⟩, ⟨none, .one .any⟩, ⟨some 64, ov (PTR gb_4 (0 + 57))⟩, ⟨none, .one .any⟩, ⟨some 65, ov (PTR gb_4 (0 + 93))⟩, ⟨none, .one .any⟩])
       (rs := fun γ => [⟨cvar gb_2 Zae t_1, none, none, [1, 3, 5, 7, 9]⟩, ⟨cvar gb_3 zq2 zq3, none, none, []⟩, ⟨cvar gb_4 zq2 (zq4 t_1), none, (some 11), []⟩, ⟨cvar gb_4 zq11 (zq12 t_1), (some 11), (some 13), []⟩, ⟨cvar gb_4 zq13 (zq14 t_1), (some 13), (some 15), []⟩, ⟨cvar gb_4 zq13 (zq15 t_1), (some 15), (some 17), []⟩, ⟨cvar gb_4 zq16 (zq17 t_1), (some 17), (some 19), []⟩, ⟨cvar gb_4 zq16 (zq18 t_1), (some 19), none, []⟩])
       (afts := nn 20) (js := [0, 0, 0]) ZbT (.cons rfl (.cons rfl (.cons rfl .nil))) (fun _ => rfl)
       (by
      refine dS 1 (fun γ ρ B hb hd => Zaa (off := 92) lb ZcE (.tmp (hb 1 _ rfl))) <| dR 2 (fun γ ρ B hb hd => Zan.lk ⟨ρ, (cvar gb_2 Zae t_1) :: B, _⟩ (Zai (j := 0) lb tS37 (tl hd 0 51) rfl (cT (ZaJ t_1) rfl) rfl rfl)) <| dS 3 (fun γ ρ B hb hd => Zaa (off := 3) lb ZcK (.tmp (hb 1 _ rfl))) <| dR 4 (fun γ ρ B hb hd => Zan.lk ⟨ρ, (cvar gb_2 Zae t_1) :: B, _⟩ (Zai (j := 0) lb tS23 (tl hd 2 53) rfl (cT (ZaH t_1) rfl) rfl rfl)) <| dS 5 (fun γ ρ B hb hd => Zaa (off := 41) lb Ze8 (.tmp (hb 1 _ rfl))) ?_
      refine dR 6 (fun γ ρ B hb hd => Zan.lk ⟨ρ, (cvar gb_2 Zae t_1) :: B, _⟩ (Zaw (j := 0) lb tA29 (tl hd 4 55) rfl (cT (Zbf t_1) rfl) rfl)) <| dS 7 (fun γ ρ B hb hd => Zaa (off := 57) lb ZeH (.tmp (hb 1 _ rfl))) <| dR 8 (fun γ ρ B hb hd => Zan.lk ⟨ρ, (cvar gb_2 Zae t_1) :: B, _⟩ (Zai (j := 0) lb tS33 (tl hd 6 57) rfl (cT (Za3 t_1) rfl) rfl rfl)) <| dS 9 (fun γ ρ B hb hd => Zaa (off := 93) lb Zgn (.tmp (hb 1 _ rfl))) <| dR 10 (fun γ ρ B hb hd => Zan.lk ⟨ρ, (cvar gb_2 Zae t_1) :: B, _⟩ (Zai (j := 0) lb tS4 (tl hd 8 59) rfl (cT (ZbR t_1) rfl) rfl rfl)) ?_
      refine dS 11 (fun γ ρ B hb hd => Zaa (off := 92) lb ZcE (.tmp (hb 3 _ rfl))) <| dR 12 (fun γ ρ B hb hd => Zan.at ⟨ρ, (cvar gb_4 zq2 (zq4 t_1)) :: B, _⟩ (setO ⟨ρ, (cvar gb_4 zq11 (zq12 t_1)) :: B, _⟩ _ _) (ZbX (j := 0) tS37 (tl hd 10 61) (tl hd 1 52) rfl rfl ((UpdR.snd (UpdR.snd (UpdR.snd (UpdR.snd (UpdR.snd (UpdR.snd (UpdR.snd (UpdR.snd (UpdR.snd (UpdR.snd (UpdR.snd (UpdR.fst (UpdR.self (by rfl)))))))))))))).at (by change (1 + (1 + (1 + (1 + (21 + (16 + (16 + (1 + (1 + (32 + (1 + 0))))))))))) = (0 + 92); omega)) rfl)) <| dS 13 (fun γ ρ B hb hd => Zaa (off := 3) lb ZcK (.tmp (hb 3 _ rfl))) <| dR 14 (fun γ ρ B hb hd => Zan.at ⟨ρ, (cvar gb_4 zq11 (zq12 t_1)) :: B, _⟩ (setO ⟨ρ, (cvar gb_4 zq13 (zq14 t_1)) :: B, _⟩ _ _) (ZbX (j := 0) tS23 (tl hd 12 62) (tl hd 3 54) rfl rfl ((UpdR.snd (UpdR.snd (UpdR.snd (UpdR.fst (UpdR.self (by rfl)))))).at (by change (1 + (1 + (1 + 0))) = (0 + 3); omega)) rfl)) <| dS 15 (fun γ ρ B hb hd => Zaa (off := 41) lb Ze8 (.tmp (hb 3 _ rfl))) ?_
      refine dR 16 (fun γ ρ B hb hd => Zan.at ⟨ρ, (cvar gb_4 zq13 (zq14 t_1)) :: B, _⟩ (setO ⟨ρ, (cvar gb_4 zq13 (zq15 t_1)) :: B, _⟩ _ _) (ZaP (j := 0) tA29 (tl hd 14 63) (tl hd 5 56) rfl ((UpdR.snd (UpdR.snd (UpdR.snd (UpdR.snd (UpdR.snd (UpdR.snd (UpdR.fst (UpdR.self (by rfl))))))))).at (by change (1 + (1 + (1 + (1 + (21 + (16 + 0)))))) = (0 + 41); omega)) rfl)) <| dS 17 (fun γ ρ B hb hd => Zaa (off := 57) lb ZeH (.tmp (hb 3 _ rfl))) <| dR 18 (fun γ ρ B hb hd => Zan.at ⟨ρ, (cvar gb_4 zq13 (zq15 t_1)) :: B, _⟩ (setO ⟨ρ, (cvar gb_4 zq16 (zq17 t_1)) :: B, _⟩ _ _) (ZbX (j := 0) tS33 (tl hd 16 64) (tl hd 7 58) rfl rfl ((UpdR.snd (UpdR.snd (UpdR.snd (UpdR.snd (UpdR.snd (UpdR.snd (UpdR.snd (UpdR.fst (UpdR.self (by rfl)))))))))).at (by change (1 + (1 + (1 + (1 + (21 + (16 + (16 + 0))))))) = (0 + 57); omega)) rfl)) <| dS 19 (fun γ ρ B hb hd => Zaa (off := 93) lb Zgn (.tmp (hb 3 _ rfl))) <| dR 20 (fun γ ρ B hb hd => Zan.at ⟨ρ, (cvar gb_4 zq16 (zq17 t_1)) :: B, _⟩ (setO ⟨ρ, (cvar gb_4 zq16 (zq18 t_1)) :: B, _⟩ _ _) (ZbX (j := 0) tS4 (tl hd 18 65) (tl hd 9 60) rfl rfl ((UpdR.snd (UpdR.snd (UpdR.snd (UpdR.snd (UpdR.snd (UpdR.snd (UpdR.snd (UpdR.snd (UpdR.snd (UpdR.snd (UpdR.snd (UpdR.snd (UpdR.fst (UpdR.self (by rfl))))))))))))))).at (by change (1 + (1 + (1 + (1 + (21 + (16 + (16 + (1 + (1 + (32 + (1 + (1 + 0)))))))))))) = (0 + 93); omega)) rfl)) ?_
      exact ZaG.nil)
       (by decide +kernel) (fun _ => rfl) (fun _ => rfl) (fun _ => rfl) rfl
       (ρ' := fun γ => [(2, ov (PTR gb_3 0)), (3, ov (PTR gb_4 0))])
       (X' := fun γ => [cvar gb_2 Zae t_1, cvar gb_3 zq2 zq3, cvar gb_4 zq16 (zq18 t_1)])
       (fun γ ρ hb hd => (.cons (hb 2 _ rfl) (.cons (hb 3 _ rfl) .nil))) (fun _ => rfl) (fun γ => ?_)
   refine JQ.at ⟨[(2, ov (PTR gb_3 0)), (3, ov (PTR gb_4 0))], [cvar gb_2 Zae t_1, cvar gb_3 zq2 zq3, cvar gb_4 zq16 (zq18 t_1)], []⟩ <| JQ.outNB ?_
   try obtain rfl := so hx1
   refine JQ.pre (Imp.var (j := 2) (q := Zae) (y := (Zah.mk t_1.Kind t_1.From t_1.To t_1.Items (Zar.mk (Zaf.mk (0 : Int) (0 : UInt64)) ([] : (List UInt8)) ([] : (List UInt8)) (Vector.replicate 16 (0 : UInt64)) ([] : (List ZaA))) (Vector.replicate 16 (0 : UInt64)) t_1.Seen t_1.Extra ([] : (List Zaf)) (Vector.replicate 32 (0 : UInt8)) ([] : (List (Vector UInt8 32))) t_1.Buckets t_1.Reply)) rfl (Wk.st (Wk.pair Wk.refl (Wk.pair Wk.refl (Wk.pair Wk.refl (Wk.pair Wk.refl (Wk.pair (Wk.st (Wk.pair Wk.refl (Wk.pair Wk.refl (Wk.pair Wk.nil (Wk.pair Wk.refl (Wk.pair Wk.nil Wk.refl)))))) (Wk.pair Wk.refl (Wk.pair Wk.refl (Wk.pair Wk.refl (Wk.pair Wk.nil (Wk.pair Wk.refl (Wk.pair Wk.nil (Wk.pair Wk.refl (Wk.pair Wk.refl Wk.refl))))))))))))))) ?_
   exact JQ.join () (Imp.norm (js := [1, 1]) rfl (.cons rfl (.cons rfl .nil)))
 refine JC.skip <| JQ.outNB ?_
 try obtain rfl := so hx1
 refine JQ.pre (Imp.var (j := 2) (q := Zae) (y := (Zah.mk t_1.Kind t_1.From t_1.To ([] : (List Zap)) (Zar.mk (Zaf.mk (0 : Int) (0 : UInt64)) ([] : (List UInt8)) ([] : (List UInt8)) (Vector.replicate 16 (0 : UInt64)) ([] : (List ZaA))) (Vector.replicate 16 (0 : UInt64)) (Vector.replicate 16 (0 : UInt64)) ([] : (List Zaf)) ([] : (List Zaf)) (Vector.replicate 32 (0 : UInt8)) ([] : (List (Vector UInt8 32))) ([] : (List Int)) false)) rfl (Wk.st (Wk.pair Wk.refl (Wk.pair Wk.refl (Wk.pair Wk.refl (Wk.pair Wk.nil (Wk.pair (Wk.st (Wk.pair Wk.refl (Wk.pair Wk.refl (Wk.pair Wk.nil (Wk.pair Wk.refl (Wk.pair Wk.nil Wk.refl)))))) (Wk.pair Wk.refl (Wk.pair Wk.refl (Wk.pair Wk.nil (Wk.pair Wk.nil (Wk.pair Wk.refl (Wk.pair Wk.nil (Wk.pair Wk.nil (Wk.pair Wk.refl Wk.refl))))))))))))))) ?_
 exact JQ.join () (Imp.norm (js := [1, 1]) rfl (.cons rfl (.cons rfl .nil)))

theorem Zdx (k : Nat) (s1_1 : (List Zap)) (s2_2 : (List Zap)) (r : Bool) (hm : slices_Equalapi_Item_api_Item k s1_1 s2_2 = some r) : Sim Tryz.prog 66 [S (rL Zaj) s1_1, S (rL Zaj) s2_2] [] (γ := Unit) (fun q => []) (fun q => .one (.val (S rB r))) := by
 unfold slices_Equalapi_Item_api_Item at hm
 refine Sim.of Tryz.func66 rfl rfl (lE rfl) (fun e0 w0 => ?_)
 refine JC.at ⟨[(0, ov (S (rL Zaj) s1_1)), (1, ov (S (rL Zaj) s2_2))], [], []⟩ <| jr <| jc (Zab lb .cB) <| jn <| JC.seq <| jr <| jmv rfl rfl <| jc (ZaE lb tu23 tR) <| jmv rfl rfl <| jc (ZaE lb tu23 tR) <| lI hm fun v3 hv_3 hm => jc (Zaq lb tR tR (cs hv_3)) <| jn <| jif tR hm (fun hc1 hm => ?_) (fun hc1 hm => ?_)
 · refine jr <| jc (Zab lb .cB) <| jn <| JC.ret <| JQ.outR ?_
   obtain rfl := so hm
   exact jd (.val (S rB false)) rfl rfl rfl rfl rfl rfl
 refine JC.skip <| JQ.then <| bI hm fun tv2 hx2 hq2 => JC.seqK (α := Unit) (γ := Unit) (stj := fun v q => ⟨[], [], []⟩) (p := fun v => tv2 = (.inl v)) (fun v q hv => ?_) ?_
 · subst hv
   skip
   obtain _ := q
   dsimp only at hq2
   refine JC.at ⟨[], [], []⟩ <| jr <| jc (Zab lb .cB) <| jn <| JC.ret ?_
   obtain rfl := so hq2
   exact jd (.val (S rB true)) rfl rfl rfl rfl rfl rfl
 refine jr <| jmv rfl rfl <| jc (ZaE lb tu23 tR) <| jc (Zax lb .cI) <| jn <| JC.block <| bI hx2 fun tv3 hL3 hq3 => JC.pre ?_ (JC.loop (γ := Unit) (stf := fun s q => ⟨[(0, ov (S (rL Zaj) s1_1)), (1, ov (S (rL Zaj) s2_2)), (12, ov (S (rI .i64) (List.length s1_1 : Int))), (13, ov (S (rI .i64) s))], [], []⟩) (q := ()) hL3 ?_)
 · exact (Imp.norm (js := []) rfl (.cons rfl (.cons rfl (.cons rfl (.cons rfl .nil)))))
 intro x_4 q x hx hr
 obtain _ := q
 change slices_Equalapi_Item_api_Item.b1 k s1_1 s2_2 x_4 = some x at hx
 unfold slices_Equalapi_Item_api_Item.b1 at hx
 refine JC.at ⟨[(0, ov (S (rL Zaj) s1_1)), (1, ov (S (rL Zaj) s2_2)), (12, ov (S (rI .i64) (List.length s1_1 : Int))), (13, ov (S (rI .i64) x_4))], [], []⟩ <| jr <| lI hx fun v5 hv_5 hx => jc (Zaq lb tR tR (cs hv_5)) <| jn <| JC.seq <| jif tR hx (fun hc4 hx => ?_) (fun hc4 hx => ?_)
 · refine JC.skip <| JQ.then <| JC.seq <| JC.block <| jr <| jmv rfl rfl <| jc (Zab lb tR) <| jn <| JC.seq <| bI hx fun v6 hv_6 hx => bI hx fun v7 hv_7 hx => ?_
   obtain ⟨v8, hv_8, hx⟩ := ZaQ hx
   refine JC.anyF (base := [(0, ov (S (rL Zaj) s1_1)), (1, ov (S (rL Zaj) s2_2)), (5, ov (S (rI .i64) x_4)), (12, ov (S (rI .i64) (List.length s1_1 : Int))), (13, ov (S (rI .i64) x_4))])
       (fs := fun γ => [⟨some 16, ov (S (rL Zaj) s1_1)⟩, ⟨some 17, ov (S (rI .i64) x_4)⟩, ⟨some 18, ov (PT Zaj v6)⟩, ⟨some 19, ov (A Zaj v6)⟩, ⟨some 20, ov (S (rL Zaj) s2_2)⟩, ⟨some 21, ov (S (rI .i64) x_4)⟩, ⟨some 22, ov (PT Zaj v7)⟩, ⟨some 23, ov (A Zaj v7)⟩, ⟨some 24, ov (S rB v8)⟩])
       (rs := fun γ => [])
       (afts := nn 9) (js := []) ZbT (.cons rfl (.cons rfl (.cons rfl (.cons rfl (.cons rfl .nil))))) (fun _ => rfl)
       (by
      refine db 1 0 <| db 2 5 <| dS 3 (fun γ ρ B hb hd => Zau lb tu23 tz62 (tl hd 0 16) (tl hd 1 17) hv_6) <| dS 4 (fun γ ρ B hb hd => ZaR lb tA62 (tl hd 2 18) rfl) <| db 5 1 ?_
      refine db 6 5 <| dS 7 (fun γ ρ B hb hd => Zau lb tu23 tz62 (tl hd 4 20) (tl hd 5 21) hv_7) <| dS 8 (fun γ ρ B hb hd => ZaR lb tA62 (tl hd 6 22) rfl) <| dS 9 (fun γ ρ B hb hd => Zf8 lb qa62 (by decide) ng62 (tl hd 3 19) (tl hd 7 23) hv_8) ?_
      exact ZaG.nil)
       (by decide +kernel) (fun _ => rfl) (fun _ => rfl) (fun _ => rfl) rfl
       (ρ' := fun γ => [(0, ov (S (rL Zaj) s1_1)), (1, ov (S (rL Zaj) s2_2)), (12, ov (S (rI .i64) (List.length s1_1 : Int))), (13, ov (S (rI .i64) x_4)), (24, ov (S rB v8))])
       (X' := fun γ => [])
       (fun γ ρ hb hd => (.cons (hb 0 _ rfl) (.cons (hb 1 _ rfl) (.cons (hb 12 _ rfl) (.cons (hb 13 _ rfl) (.cons (hdq hd 8 24 rfl) .nil)))))) (fun _ => rfl) (fun γ => ?_)
   refine JQ.at ⟨[(0, ov (S (rL Zaj) s1_1)), (1, ov (S (rL Zaj) s2_2)), (12, ov (S (rI .i64) (List.length s1_1 : Int))), (13, ov (S (rI .i64) x_4)), (24, ov (S rB v8))], [], []⟩ <| JQ.then <| jif tR hx (fun hc5 hx => ?_) (fun hc5 hx => ?_)
   · refine jr <| jc (Zab lb .cB) <| jn <| JC.ret <| JQ.outRB <| JQ.outR ?_
     try obtain rfl := so hx
     try obtain rfl := hr _ rfl
     dsimp only at hq3
     refine JQ.outR <| JQ.outRB ?_
     try obtain rfl := so hq3
     dsimp only at hq2
     refine JQ.outR ?_
     obtain rfl := so hq2
     exact jd (.val (S rB false)) rfl rfl rfl rfl rfl rfl
   refine JC.skip <| JQ.outNB <| JQ.then <| JC.region <| lI hx fun v9 hv_9 hx => jc (ZaY lb tR .cI (cs hv_9)) <| jmv rfl rfl <| JL.nil ?_
   try obtain rfl := so hx
   exact JQ.next () rfl (Imp.norm (js := []) rfl (.cons rfl (.cons rfl (.cons rfl (.cons rfl .nil)))))
 refine JC.exit <| JQ.outX ?_
 try obtain rfl := so hx
 try obtain rfl := hr _ rfl
 dsimp only at hq3
 refine JQ.outX <| JQ.here ?_
 try obtain rfl := so hq3
 exact JQ.joinK () () rfl (Imp.norm (js := []) rfl .nil)

theorem Zco (k : Nat) (s1_1 : (List Zaf)) (s2_2 : (List Zaf)) (r : Bool) (hm : slices_Equalapi_Dot_api_Dot k s1_1 s2_2 = some r) : Sim Tryz.prog 67 [S (rL Zad) s1_1, S (rL Zad) s2_2] [] (γ := Unit) (fun q => []) (fun q => .one (.val (S rB r))) := by
 unfold slices_Equalapi_Dot_api_Dot at hm
 refine Sim.of Tryz.func67 rfl rfl (lE rfl) (fun e0 w0 => ?_)
 refine JC.at ⟨[(0, ov (S (rL Zad) s1_1)), (1, ov (S (rL Zad) s2_2))], [], []⟩ <| jr <| jc (Zab lb .cB) <| jn <| JC.seq <| jr <| jmv rfl rfl <| jc (ZaE lb tu33 tR) <| jmv rfl rfl <| jc (ZaE lb tu33 tR) <| lI hm fun v3 hv_3 hm => jc (Zaq lb tR tR (cs hv_3)) <| jn <| jif tR hm (fun hc1 hm => ?_) (fun hc1 hm => ?_)
 · refine jr <| jc (Zab lb .cB) <| jn <| JC.ret <| JQ.outR ?_
   obtain rfl := so hm
   exact jd (.val (S rB false)) rfl rfl rfl rfl rfl rfl
 refine JC.skip <| JQ.then <| bI hm fun tv2 hx2 hq2 => JC.seqK (α := Unit) (γ := Unit) (stj := fun v q => ⟨[], [], []⟩) (p := fun v => tv2 = (.inl v)) (fun v q hv => ?_) ?_
 · subst hv
   skip
   obtain _ := q
   dsimp only at hq2
   refine JC.at ⟨[], [], []⟩ <| jr <| jc (Zab lb .cB) <| jn <| JC.ret ?_
   obtain rfl := so hq2
   exact jd (.val (S rB true)) rfl rfl rfl rfl rfl rfl
 refine jr <| jmv rfl rfl <| jc (ZaE lb tu33 tR) <| jc (Zax lb .cI) <| jn <| JC.block <| bI hx2 fun tv3 hL3 hq3 => JC.pre ?_ (JC.loop (γ := Unit) (stf := fun s q => ⟨[(0, ov (S (rL Zad) s1_1)), (1, ov (S (rL Zad) s2_2)), (12, ov (S (rI .i64) (List.length s1_1 : Int))), (13, ov (S (rI .i64) s))], [], []⟩) (q := ()) hL3 ?_)
 · exact (Imp.norm (js := []) rfl (.cons rfl (.cons rfl (.cons rfl (.cons rfl .nil)))))
 intro x_4 q x hx hr
 obtain _ := q
 change slices_Equalapi_Dot_api_Dot.b1 k s1_1 s2_2 x_4 = some x at hx
 unfold slices_Equalapi_Dot_api_Dot.b1 at hx
 refine JC.at ⟨[(0, ov (S (rL Zad) s1_1)), (1, ov (S (rL Zad) s2_2)), (12, ov (S (rI .i64) (List.length s1_1 : Int))), (13, ov (S (rI .i64) x_4))], [], []⟩ <| jr <| lI hx fun v5 hv_5 hx => jc (Zaq lb tR tR (cs hv_5)) <| jn <| JC.seq <| jif tR hx (fun hc4 hx => ?_) (fun hc4 hx => ?_)
 · refine JC.skip <| JQ.then <| JC.seq <| JC.block <| jr <| jmv rfl rfl <| jc (Zab lb tR) <| jn <| JC.seq <| bI hx fun v6 hv_6 hx => bI hx fun v7 hv_7 hx => ?_
   obtain ⟨v8, hv_8, hx⟩ := ZaQ hx
   refine JC.anyF (base := [(0, ov (S (rL Zad) s1_1)), (1, ov (S (rL Zad) s2_2)), (5, ov (S (rI .i64) x_4)), (12, ov (S (rI .i64) (List.length s1_1 : Int))), (13, ov (S (rI .i64) x_4))])
       (fs := fun γ => [⟨some 16, ov (S (rL Zad) s1_1)⟩, ⟨some 17, ov (S (rI .i64) x_4)⟩, ⟨some 18, ov (PT Zad v6)⟩, ⟨some 19, ov (A Zad v6)⟩, ⟨some 20, ov (S (rL Zad) s2_2)⟩, ⟨some 21, ov (S (rI .i64) x_4)⟩, ⟨some 22, ov (PT Zad v7)⟩, ⟨some 23, ov (A Zad v7)⟩, ⟨some 24, ov (S rB v8)⟩])
       (rs := fun γ => [])
       (afts := nn 9) (js := []) ZbT (.cons rfl (.cons rfl (.cons rfl (.cons rfl (.cons rfl .nil))))) (fun _ => rfl)
       (by
      refine db 1 0 <| db 2 5 <| dS 3 (fun γ ρ B hb hd => Zau lb tu33 tz26 (tl hd 0 16) (tl hd 1 17) hv_6) <| dS 4 (fun γ ρ B hb hd => ZaR lb tA26 (tl hd 2 18) rfl) <| db 5 1 ?_
      refine db 6 5 <| dS 7 (fun γ ρ B hb hd => Zau lb tu33 tz26 (tl hd 4 20) (tl hd 5 21) hv_7) <| dS 8 (fun γ ρ B hb hd => ZaR lb tA26 (tl hd 6 22) rfl) <| dS 9 (fun γ ρ B hb hd => Zf8 lb qa26 (by decide) ng26 (tl hd 3 19) (tl hd 7 23) hv_8) ?_
      exact ZaG.nil)
       (by decide +kernel) (fun _ => rfl) (fun _ => rfl) (fun _ => rfl) rfl
       (ρ' := fun γ => [(0, ov (S (rL Zad) s1_1)), (1, ov (S (rL Zad) s2_2)), (12, ov (S (rI .i64) (List.length s1_1 : Int))), (13, ov (S (rI .i64) x_4)), (24, ov (S rB v8))])
       (X' := fun γ => [])
       (fun γ ρ hb hd => (.cons (hb 0 _ rfl) (.cons (hb 1 _ rfl) (.cons (hb 12 _ rfl) (.cons (hb 13 _ rfl) (.cons (hdq hd 8 24 rfl) .nil)))))) (fun _ => rfl) (fun γ => ?_)
   refine JQ.at ⟨[(0, ov (S (rL Zad) s1_1)), (1, ov (S (rL Zad) s2_2)), (12, ov (S (rI .i64) (List.length s1_1 : Int))), (13, ov (S (rI .i64) x_4)), (24, ov (S rB v8))], [], []⟩ <| JQ.then <| jif tR hx (fun hc5 hx => ?_) (fun hc5 hx => ?_)
   · refine jr <| jc (Zab lb .cB) <| jn <| JC.ret <| JQ.outRB <| JQ.outR ?_
     try obtain rfl := so hx
     try obtain rfl := hr _ rfl
     dsimp only at hq3
     refine JQ.outR <| JQ.outRB ?_
     try obtain rfl := so hq3
     dsimp only at hq2
     refine JQ.outR ?_
     obtain rfl := so hq2
     exact jd (.val (S rB false)) rfl rfl rfl rfl rfl rfl
   refine JC.skip <| JQ.outNB <| JQ.then <| JC.region <| lI hx fun v9 hv_9 hx => jc (ZaY lb tR .cI (cs hv_9)) <| jmv rfl rfl <| JL.nil ?_
   try obtain rfl := so hx
   exact JQ.next () rfl (Imp.norm (js := []) rfl (.cons rfl (.cons rfl (.cons rfl (.cons rfl .nil)))))
 refine JC.exit <| JQ.outX ?_
 try obtain rfl := so hx
 try obtain rfl := hr _ rfl
 dsimp only at hq3
 refine JQ.outX <| JQ.here ?_
 try obtain rfl := so hq3
 exact JQ.joinK () () rfl (Imp.norm (js := []) rfl .nil)

theorem Zdw (k : Nat) (s1_1 : (List (Vector UInt8 32))) (s2_2 : (List (Vector UInt8 32))) (r : Bool) (hm : slices_Equalapi_Hash_api_Hash k s1_1 s2_2 = some r) : Sim Tryz.prog 68 [S (rL (rV 32 (rU UInt8))) s1_1, S (rL (rV 32 (rU UInt8))) s2_2] [] (γ := Unit) (fun q => []) (fun q => .one (.val (S rB r))) := by
 unfold slices_Equalapi_Hash_api_Hash at hm
 refine Sim.of Tryz.func68 rfl rfl (lE rfl) (fun e0 w0 => ?_)
 refine JC.at ⟨[(0, ov (S (rL (rV 32 (rU UInt8))) s1_1)), (1, ov (S (rL (rV 32 (rU UInt8))) s2_2))], [], []⟩ <| jr <| jc (Zab lb .cB) <| jn <| JC.seq <| jr <| jmv rfl rfl <| jc (ZaE lb tu36 tR) <| jmv rfl rfl <| jc (ZaE lb tu36 tR) <| lI hm fun v3 hv_3 hm => jc (Zaq lb tR tR (cs hv_3)) <| jn <| jif tR hm (fun hc1 hm => ?_) (fun hc1 hm => ?_)
 · refine jr <| jc (Zab lb .cB) <| jn <| JC.ret <| JQ.outR ?_
   obtain rfl := so hm
   exact jd (.val (S rB false)) rfl rfl rfl rfl rfl rfl
 refine JC.skip <| JQ.then <| bI hm fun tv2 hx2 hq2 => JC.seqK (α := Unit) (γ := Unit) (stj := fun v q => ⟨[], [], []⟩) (p := fun v => tv2 = (.inl v)) (fun v q hv => ?_) ?_
 · subst hv
   skip
   obtain _ := q
   dsimp only at hq2
   refine JC.at ⟨[], [], []⟩ <| jr <| jc (Zab lb .cB) <| jn <| JC.ret ?_
   obtain rfl := so hq2
   exact jd (.val (S rB true)) rfl rfl rfl rfl rfl rfl
 refine jr <| jmv rfl rfl <| jc (ZaE lb tu36 tR) <| jc (Zax lb .cI) <| jn <| JC.block <| bI hx2 fun tv3 hL3 hq3 => JC.pre ?_ (JC.loop (γ := Unit) (stf := fun s q => ⟨[(0, ov (S (rL (rV 32 (rU UInt8))) s1_1)), (1, ov (S (rL (rV 32 (rU UInt8))) s2_2)), (12, ov (S (rI .i64) (List.length s1_1 : Int))), (13, ov (S (rI .i64) s))], [], []⟩) (q := ()) hL3 ?_)
 · exact (Imp.norm (js := []) rfl (.cons rfl (.cons rfl (.cons rfl (.cons rfl .nil)))))
 intro x_4 q x hx hr
 obtain _ := q
 change slices_Equalapi_Hash_api_Hash.b1 k s1_1 s2_2 x_4 = some x at hx
 unfold slices_Equalapi_Hash_api_Hash.b1 at hx
 refine JC.at ⟨[(0, ov (S (rL (rV 32 (rU UInt8))) s1_1)), (1, ov (S (rL (rV 32 (rU UInt8))) s2_2)), (12, ov (S (rI .i64) (List.length s1_1 : Int))), (13, ov (S (rI .i64) x_4))], [], []⟩ <| jr <| lI hx fun v5 hv_5 hx => jc (Zaq lb tR tR (cs hv_5)) <| jn <| JC.seq <| jif tR hx (fun hc4 hx => ?_) (fun hc4 hx => ?_)
 · refine JC.skip <| JQ.then <| JC.seq <| JC.block <| jr <| jmv rfl rfl <| jc (Zab lb tR) <| jn <| JC.seq <| bI hx fun v6 hv_6 hx => bI hx fun v7 hv_7 hx => ?_
   obtain ⟨v8, hv_8, hx⟩ := ZaQ hx
   refine JC.anyF (base := [(0, ov (S (rL (rV 32 (rU UInt8))) s1_1)), (1, ov (S (rL (rV 32 (rU UInt8))) s2_2)), (5, ov (S (rI .i64) x_4)), (12, ov (S (rI .i64) (List.length s1_1 : Int))), (13, ov (S (rI .i64) x_4))])
       (fs := fun γ => [⟨some 16, ov (S (rL (rV 32 (rU UInt8))) s1_1)⟩, ⟨some 17, ov (S (rI .i64) x_4)⟩, ⟨some 18, ov (PT (rV 32 (rU UInt8)) v6)⟩, ⟨some 19, ov (A (rV 32 (rU UInt8)) v6)⟩, ⟨some 20, ov (S (rL (rV 32 (rU UInt8))) s2_2)⟩, ⟨some 21, ov (S (rI .i64) x_4)⟩, ⟨some 22, ov (PT (rV 32 (rU UInt8)) v7)⟩, ⟨some 23, ov (A (rV 32 (rU UInt8)) v7)⟩, ⟨some 24, ov (S rB v8)⟩])
       (rs := fun γ => [])
       (afts := nn 9) (js := []) ZbT (.cons rfl (.cons rfl (.cons rfl (.cons rfl (.cons rfl .nil))))) (fun _ => rfl)
       (by
      refine db 1 0 <| db 2 5 <| dS 3 (fun γ ρ B hb hd => Zau lb tu36 tz35 (tl hd 0 16) (tl hd 1 17) hv_6) <| dS 4 (fun γ ρ B hb hd => ZaR lb tA35 (tl hd 2 18) rfl) <| db 5 1 ?_
      refine db 6 5 <| dS 7 (fun γ ρ B hb hd => Zau lb tu36 tz35 (tl hd 4 20) (tl hd 5 21) hv_7) <| dS 8 (fun γ ρ B hb hd => ZaR lb tA35 (tl hd 6 22) rfl) <| dS 9 (fun γ ρ B hb hd => Zf8 lb qa35 (by decide) ng35 (tl hd 3 19) (tl hd 7 23) hv_8) ?_
      exact ZaG.nil)
       (by decide +kernel) (fun _ => rfl) (fun _ => rfl) (fun _ => rfl) rfl
       (ρ' := fun γ => [(0, ov (S (rL (rV 32 (rU UInt8))) s1_1)), (1, ov (S (rL (rV 32 (rU UInt8))) s2_2)), (12, ov (S (rI .i64) (List.length s1_1 : Int))), (13, ov (S (rI .i64) x_4)), (24, ov (S rB v8))])
       (X' := fun γ => [])
       (fun γ ρ hb hd => (.cons (hb 0 _ rfl) (.cons (hb 1 _ rfl) (.cons (hb 12 _ rfl) (.cons (hb 13 _ rfl) (.cons (hdq hd 8 24 rfl) .nil)))))) (fun _ => rfl) (fun γ => ?_)
   refine JQ.at ⟨[(0, ov (S (rL (rV 32 (rU UInt8))) s1_1)), (1, ov (S (rL (rV 32 (rU UInt8))) s2_2)), (12, ov (S (rI .i64) (List.length s1_1 : Int))), (13, ov (S (rI .i64) x_4)), (24, ov (S rB v8))], [], []⟩ <| JQ.then <| jif tR hx (fun hc5 hx => ?_) (fun hc5 hx => ?_)
   · refine jr <| jc (Zab lb .cB) <| jn <| JC.ret <| JQ.outRB <| JQ.outR ?_
     try obtain rfl := so hx
     try obtain rfl := hr _ rfl
     dsimp only at hq3
     refine JQ.outR <| JQ.outRB ?_
     try obtain rfl := so hq3
     dsimp only at hq2
     refine JQ.outR ?_
     obtain rfl := so hq2
     exact jd (.val (S rB false)) rfl rfl rfl rfl rfl rfl
   refine JC.skip <| JQ.outNB <| JQ.then <| JC.region <| lI hx fun v9 hv_9 hx => jc (ZaY lb tR .cI (cs hv_9)) <| jmv rfl rfl <| JL.nil ?_
   try obtain rfl := so hx
   exact JQ.next () rfl (Imp.norm (js := []) rfl (.cons rfl (.cons rfl (.cons rfl (.cons rfl .nil)))))
 refine JC.exit <| JQ.outX ?_
 try obtain rfl := so hx
 try obtain rfl := hr _ rfl
 dsimp only at hq3
 refine JQ.outX <| JQ.here ?_
 try obtain rfl := so hq3
 exact JQ.joinK () () rfl (Imp.norm (js := []) rfl .nil)

theorem Zfr (k : Nat) (s1_1 : (List Int)) (s2_2 : (List Int)) (r : Bool) (hm : slices_Equalint_int k s1_1 s2_2 = some r) : Sim Tryz.prog 69 [S (rL (rI .i64)) s1_1, S (rL (rI .i64)) s2_2] [] (γ := Unit) (fun q => []) (fun q => .one (.val (S rB r))) := by
 unfold slices_Equalint_int at hm
 refine Sim.of Tryz.func69 rfl rfl (lE rfl) (fun e0 w0 => ?_)
 refine JC.at ⟨[(0, ov (S (rL (rI .i64)) s1_1)), (1, ov (S (rL (rI .i64)) s2_2))], [], []⟩ <| jr <| jc (Zab lb .cB) <| jn <| JC.seq <| jr <| jmv rfl rfl <| jc (ZaE lb tu37 tR) <| jmv rfl rfl <| jc (ZaE lb tu37 tR) <| lI hm fun v3 hv_3 hm => jc (Zaq lb tR tR (cs hv_3)) <| jn <| jif tR hm (fun hc1 hm => ?_) (fun hc1 hm => ?_)
 · refine jr <| jc (Zab lb .cB) <| jn <| JC.ret <| JQ.outR ?_
   obtain rfl := so hm
   exact jd (.val (S rB false)) rfl rfl rfl rfl rfl rfl
 refine JC.skip <| JQ.then <| bI hm fun tv2 hx2 hq2 => JC.seqK (α := Unit) (γ := Unit) (stj := fun v q => ⟨[], [], []⟩) (p := fun v => tv2 = (.inl v)) (fun v q hv => ?_) ?_
 · subst hv
   skip
   obtain _ := q
   dsimp only at hq2
   refine JC.at ⟨[], [], []⟩ <| jr <| jc (Zab lb .cB) <| jn <| JC.ret ?_
   obtain rfl := so hq2
   exact jd (.val (S rB true)) rfl rfl rfl rfl rfl rfl
 refine jr <| jmv rfl rfl <| jc (ZaE lb tu37 tR) <| jc (Zax lb .cI) <| jn <| JC.block <| bI hx2 fun tv3 hL3 hq3 => JC.pre ?_ (JC.loop (γ := Unit) (stf := fun s q => ⟨[(0, ov (S (rL (rI .i64)) s1_1)), (1, ov (S (rL (rI .i64)) s2_2)), (12, ov (S (rI .i64) (List.length s1_1 : Int))), (13, ov (S (rI .i64) s))], [], []⟩) (q := ()) hL3 ?_)
 · exact (Imp.norm (js := []) rfl (.cons rfl (.cons rfl (.cons rfl (.cons rfl .nil)))))
 intro x_4 q x hx hr
 obtain _ := q
 change slices_Equalint_int.b1 k s1_1 s2_2 x_4 = some x at hx
 unfold slices_Equalint_int.b1 at hx
 refine JC.at ⟨[(0, ov (S (rL (rI .i64)) s1_1)), (1, ov (S (rL (rI .i64)) s2_2)), (12, ov (S (rI .i64) (List.length s1_1 : Int))), (13, ov (S (rI .i64) x_4))], [], []⟩ <| jr <| lI hx fun v5 hv_5 hx => jc (Zaq lb tR tR (cs hv_5)) <| jn <| JC.seq <| jif tR hx (fun hc4 hx => ?_) (fun hc4 hx => ?_)
 · refine JC.skip <| JQ.then <| JC.seq <| JC.block <| jr <| jmv rfl rfl <| jc (Zab lb tR) <| jn <| JC.seq <| bI hx fun v6 hv_6 hx => bI hx fun v7 hv_7 hx => ?_
   obtain ⟨v8, hv_8, hx⟩ := ZaQ hx
   refine JC.anyF (base := [(0, ov (S (rL (rI .i64)) s1_1)), (1, ov (S (rL (rI .i64)) s2_2)), (5, ov (S (rI .i64) x_4)), (12, ov (S (rI .i64) (List.length s1_1 : Int))), (13, ov (S (rI .i64) x_4))])
       (fs := fun γ => [⟨some 16, ov (S (rL (rI .i64)) s1_1)⟩, ⟨some 17, ov (S (rI .i64) x_4)⟩, ⟨some 18, ov (PT (rI .i64) v6)⟩, ⟨some 19, ov (S (rI .i64) v6)⟩, ⟨some 20, ov (S (rL (rI .i64)) s2_2)⟩, ⟨some 21, ov (S (rI .i64) x_4)⟩, ⟨some 22, ov (PT (rI .i64) v7)⟩, ⟨some 23, ov (S (rI .i64) v7)⟩, ⟨some 24, ov (S rB v8)⟩])
       (rs := fun γ => [])
       (afts := nn 9) (js := []) ZbT (.cons rfl (.cons rfl (.cons rfl (.cons rfl (.cons rfl .nil))))) (fun _ => rfl)
       (by
      refine db 1 0 <| db 2 5 <| dS 3 (fun γ ρ B hb hd => Zau lb tu37 tz3 (tl hd 0 16) (tl hd 1 17) hv_6) <| dS 4 (fun γ ρ B hb hd => Zbe lb tS3 rfl (tl hd 2 18) rfl) <| db 5 1 ?_
      refine db 6 5 <| dS 7 (fun γ ρ B hb hd => Zau lb tu37 tz3 (tl hd 4 20) (tl hd 5 21) hv_7) <| dS 8 (fun γ ρ B hb hd => Zbe lb tS3 rfl (tl hd 6 22) rfl) <| dS 9 (fun γ ρ B hb hd => Zaq lb (tl hd 3 19) (tl hd 7 23) (cs hv_8)) ?_
      exact ZaG.nil)
       (by decide +kernel) (fun _ => rfl) (fun _ => rfl) (fun _ => rfl) rfl
       (ρ' := fun γ => [(0, ov (S (rL (rI .i64)) s1_1)), (1, ov (S (rL (rI .i64)) s2_2)), (12, ov (S (rI .i64) (List.length s1_1 : Int))), (13, ov (S (rI .i64) x_4)), (24, ov (S rB v8))])
       (X' := fun γ => [])
       (fun γ ρ hb hd => (.cons (hb 0 _ rfl) (.cons (hb 1 _ rfl) (.cons (hb 12 _ rfl) (.cons (hb 13 _ rfl) (.cons (hdq hd 8 24 rfl) .nil)))))) (fun _ => rfl) (fun γ => ?_)
   refine JQ.at ⟨[(0, ov (S (rL (rI .i64)) s1_1)), (1, ov (S (rL (rI .i64)) s2_2)), (12, ov (S (rI .i64) (List.length s1_1 : Int))), (13, ov (S (rI .i64) x_4)), (24, ov (S rB v8))], [], []⟩ <| JQ.then <| jif tR hx (fun hc5 hx => ?_) (fun hc5 hx => ?_)
   · refine jr <| jc (Zab lb .cB) <| jn <| JC.ret <| JQ.outRB <| JQ.outR ?_
     try obtain rfl := so hx
     try obtain rfl := hr _ rfl
     dsimp only at hq3
     refine JQ.outR <| JQ.outRB ?_
     try obtain rfl := so hq3
     dsimp only at hq2
     refine JQ.outR ?_
     obtain rfl := so hq2
     exact jd (.val (S rB false)) rfl rfl rfl rfl rfl rfl
   refine JC.skip <| JQ.outNB <| JQ.then <| JC.region <| lI hx fun v9 hv_9 hx => jc (ZaY lb tR .cI (cs hv_9)) <| jmv rfl rfl <| JL.nil ?_
   try obtain rfl := so hx
   exact JQ.next () rfl (Imp.norm (js := []) rfl (.cons rfl (.cons rfl (.cons rfl (.cons rfl .nil)))))
 refine JC.exit <| JQ.outX ?_
 try obtain rfl := so hx
 try obtain rfl := hr _ rfl
 dsimp only at hq3
 refine JQ.outX <| JQ.here ?_
 try obtain rfl := so hq3
 exact JQ.joinK () () rfl (Imp.norm (js := []) rfl .nil)

theorem Zcg (k : Nat) (s1_1 : (List UInt8)) (s2_2 : (List UInt8)) (r : Bool) (hm : slices_Equalbyte_byte k s1_1 s2_2 = some r) : Sim Tryz.prog 55 [S (rL (rU UInt8)) s1_1, S (rL (rU UInt8)) s2_2] [] (γ := Unit) (fun q => []) (fun q => .one (.val (S rB r))) := by
 unfold slices_Equalbyte_byte at hm
 refine Sim.of Tryz.func55 rfl rfl (lE rfl) (fun e0 w0 => ?_)
 refine JC.at ⟨[(0, ov (S (rL (rU UInt8)) s1_1)), (1, ov (S (rL (rU UInt8)) s2_2))], [], []⟩ <| jr <| jc (Zab lb .cB) <| jn <| JC.seq <| jr <| jmv rfl rfl <| jc (ZaE lb tu27 tR) <| jmv rfl rfl <| jc (ZaE lb tu27 tR) <| lI hm fun v3 hv_3 hm => jc (Zaq lb tR tR (cs hv_3)) <| jn <| jif tR hm (fun hc1 hm => ?_) (fun hc1 hm => ?_)
 · refine jr <| jc (Zab lb .cB) <| jn <| JC.ret <| JQ.outR ?_
   obtain rfl := so hm
   exact jd (.val (S rB false)) rfl rfl rfl rfl rfl rfl
 refine JC.skip <| JQ.then <| bI hm fun tv2 hx2 hq2 => JC.seqK (α := Unit) (γ := Unit) (stj := fun v q => ⟨[], [], []⟩) (p := fun v => tv2 = (.inl v)) (fun v q hv => ?_) ?_
 · subst hv
   skip
   obtain _ := q
   dsimp only at hq2
   refine JC.at ⟨[], [], []⟩ <| jr <| jc (Zab lb .cB) <| jn <| JC.ret ?_
   obtain rfl := so hq2
   exact jd (.val (S rB true)) rfl rfl rfl rfl rfl rfl
 refine jr <| jmv rfl rfl <| jc (ZaE lb tu27 tR) <| jc (Zax lb .cI) <| jn <| JC.block <| bI hx2 fun tv3 hL3 hq3 => JC.pre ?_ (JC.loop (γ := Unit) (stf := fun s q => ⟨[(0, ov (S (rL (rU UInt8)) s1_1)), (1, ov (S (rL (rU UInt8)) s2_2)), (12, ov (S (rI .i64) (List.length s1_1 : Int))), (13, ov (S (rI .i64) s))], [], []⟩) (q := ()) hL3 ?_)
 · exact (Imp.norm (js := []) rfl (.cons rfl (.cons rfl (.cons rfl (.cons rfl .nil)))))
 intro x_4 q x hx hr
 obtain _ := q
 change slices_Equalbyte_byte.b1 k s1_1 s2_2 x_4 = some x at hx
 unfold slices_Equalbyte_byte.b1 at hx
 refine JC.at ⟨[(0, ov (S (rL (rU UInt8)) s1_1)), (1, ov (S (rL (rU UInt8)) s2_2)), (12, ov (S (rI .i64) (List.length s1_1 : Int))), (13, ov (S (rI .i64) x_4))], [], []⟩ <| jr <| lI hx fun v5 hv_5 hx => jc (Zaq lb tR tR (cs hv_5)) <| jn <| JC.seq <| jif tR hx (fun hc4 hx => ?_) (fun hc4 hx => ?_)
 · refine JC.skip <| JQ.then <| JC.seq <| JC.block <| jr <| jmv rfl rfl <| jc (Zab lb tR) <| jn <| JC.seq <| bI hx fun v6 hv_6 hx => bI hx fun v7 hv_7 hx => ?_
   obtain ⟨v8, hv_8, hx⟩ := ZaQ hx
   refine JC.anyF (base := [(0, ov (S (rL (rU UInt8)) s1_1)), (1, ov (S (rL (rU UInt8)) s2_2)), (5, ov (S (rI .i64) x_4)), (12, ov (S (rI .i64) (List.length s1_1 : Int))), (13, ov (S (rI .i64) x_4))])
       (fs := fun γ => [⟨some 16, ov (S (rL (rU UInt8)) s1_1)⟩, ⟨some 17, ov (S (rI .i64) x_4)⟩, ⟨some 18, ov (PT (rU UInt8) v6)⟩, ⟨some 19, ov (S (rU UInt8) v6)⟩, ⟨some 20, ov (S (rL (rU UInt8)) s2_2)⟩, ⟨some 21, ov (S (rI .i64) x_4)⟩, ⟨some 22, ov (PT (rU UInt8) v7)⟩, ⟨some 23, ov (S (rU UInt8) v7)⟩, ⟨some 24, ov (S rB v8)⟩])
       (rs := fun γ => [])
       (afts := nn 9) (js := []) ZbT (.cons rfl (.cons rfl (.cons rfl (.cons rfl (.cons rfl .nil))))) (fun _ => rfl)
       (by
      refine db 1 0 <| db 2 5 <| dS 3 (fun γ ρ B hb hd => Zau lb tu27 tz5 (tl hd 0 16) (tl hd 1 17) hv_6) <| dS 4 (fun γ ρ B hb hd => Zbe lb tS5 rfl (tl hd 2 18) rfl) <| db 5 1 ?_
      refine db 6 5 <| dS 7 (fun γ ρ B hb hd => Zau lb tu27 tz5 (tl hd 4 20) (tl hd 5 21) hv_7) <| dS 8 (fun γ ρ B hb hd => Zbe lb tS5 rfl (tl hd 6 22) rfl) <| dS 9 (fun γ ρ B hb hd => ZbH lb (tl hd 3 19) (tl hd 7 23) (cs hv_8)) ?_
      exact ZaG.nil)
       (by decide +kernel) (fun _ => rfl) (fun _ => rfl) (fun _ => rfl) rfl
       (ρ' := fun γ => [(0, ov (S (rL (rU UInt8)) s1_1)), (1, ov (S (rL (rU UInt8)) s2_2)), (12, ov (S (rI .i64) (List.length s1_1 : Int))), (13, ov (S (rI .i64) x_4)), (24, ov (S rB v8))])
       (X' := fun γ => [])
       (fun γ ρ hb hd => (.cons (hb 0 _ rfl) (.cons (hb 1 _ rfl) (.cons (hb 12 _ rfl) (.cons (hb 13 _ rfl) (.cons (hdq hd 8 24 rfl) .nil)))))) (fun _ => rfl) (fun γ => ?_)
   refine JQ.at ⟨[(0, ov (S (rL (rU UInt8)) s1_1)), (1, ov (S (rL (rU UInt8)) s2_2)), (12, ov (S (rI .i64) (List.length s1_1 : Int))), (13, ov (S (rI .i64) x_4)), (24, ov (S rB v8))], [], []⟩ <| JQ.then <| jif tR hx (fun hc5 hx => ?_) (fun hc5 hx => ?_)
   · refine jr <| jc (Zab lb .cB) <| jn <| JC.ret <| JQ.outRB <| JQ.outR ?_
     try obtain rfl := so hx
     try obtain rfl := hr _ rfl
     dsimp only at hq3
     refine JQ.outR <| JQ.outRB ?_
     try obtain rfl := so hq3
     dsimp only at hq2
     refine JQ.outR ?_
     obtain rfl := so hq2
     exact jd (.val (S rB false)) rfl rfl rfl rfl rfl rfl
   refine JC.skip <| JQ.outNB <| JQ.then <| JC.region <| lI hx fun v9 hv_9 hx => jc (ZaY lb tR .cI (cs hv_9)) <| jmv rfl rfl <| JL.nil ?_
   try obtain rfl := so hx
   exact JQ.next () rfl (Imp.norm (js := []) rfl (.cons rfl (.cons rfl (.cons rfl (.cons rfl .nil)))))
 refine JC.exit <| JQ.outX ?_
 try obtain rfl := so hx
 try obtain rfl := hr _ rfl
 dsimp only at hq3
 refine JQ.outX <| JQ.here ?_
 try obtain rfl := so hq3
 exact JQ.joinK () () rfl (Imp.norm (js := []) rfl .nil)

theorem Zdt (k : Nat) (s1_1 : (List ZaA)) (s2_2 : (List ZaA)) (r : Bool) (hm : slices_Equalapi_Dest_api_Dest k s1_1 s2_2 = some r) : Sim Tryz.prog 110 [S (rL Zat) s1_1, S (rL Zat) s2_2] [] (γ := Unit) (fun q => []) (fun q => .one (.val (S rB r))) := by
 unfold slices_Equalapi_Dest_api_Dest at hm
 refine Sim.of Tryz.func110 rfl rfl (lE rfl) (fun e0 w0 => ?_)
 refine JC.at ⟨[(0, ov (S (rL Zat) s1_1)), (1, ov (S (rL Zat) s2_2))], [], []⟩ <| jr <| jc (Zab lb .cB) <| jn <| JC.seq <| jr <| jmv rfl rfl <| jc (ZaE lb tu30 tR) <| jmv rfl rfl <| jc (ZaE lb tu30 tR) <| lI hm fun v3 hv_3 hm => jc (Zaq lb tR tR (cs hv_3)) <| jn <| jif tR hm (fun hc1 hm => ?_) (fun hc1 hm => ?_)
 · refine jr <| jc (Zab lb .cB) <| jn <| JC.ret <| JQ.outR ?_
   obtain rfl := so hm
   exact jd (.val (S rB false)) rfl rfl rfl rfl rfl rfl
 refine JC.skip <| JQ.then <| bI hm fun tv2 hx2 hq2 => JC.seqK (α := Unit) (γ := Unit) (stj := fun v q => ⟨[], [], []⟩) (p := fun v => tv2 = (.inl v)) (fun v q hv => ?_) ?_
 · subst hv
   skip
   obtain _ := q
   dsimp only at hq2
   refine JC.at ⟨[], [], []⟩ <| jr <| jc (Zab lb .cB) <| jn <| JC.ret ?_
   obtain rfl := so hq2
   exact jd (.val (S rB true)) rfl rfl rfl rfl rfl rfl
 refine jr <| jmv rfl rfl <| jc (ZaE lb tu30 tR) <| jc (Zax lb .cI) <| jn <| JC.block <| bI hx2 fun tv3 hL3 hq3 => JC.pre ?_ (JC.loop (γ := Unit) (stf := fun s q => ⟨[(0, ov (S (rL Zat) s1_1)), (1, ov (S (rL Zat) s2_2)), (12, ov (S (rI .i64) (List.length s1_1 : Int))), (13, ov (S (rI .i64) s))], [], []⟩) (q := ()) hL3 ?_)
 · exact (Imp.norm (js := []) rfl (.cons rfl (.cons rfl (.cons rfl (.cons rfl .nil)))))
 intro x_4 q x hx hr
 obtain _ := q
 change slices_Equalapi_Dest_api_Dest.b1 k s1_1 s2_2 x_4 = some x at hx
 unfold slices_Equalapi_Dest_api_Dest.b1 at hx
 refine JC.at ⟨[(0, ov (S (rL Zat) s1_1)), (1, ov (S (rL Zat) s2_2)), (12, ov (S (rI .i64) (List.length s1_1 : Int))), (13, ov (S (rI .i64) x_4))], [], []⟩ <| jr <| lI hx fun v5 hv_5 hx => jc (Zaq lb tR tR (cs hv_5)) <| jn <| JC.seq <| jif tR hx (fun hc4 hx => ?_) (fun hc4 hx => ?_)
 · refine JC.skip <| JQ.then <| JC.seq <| JC.block <| jr <| jmv rfl rfl <| jc (Zab lb tR) <| jn <| JC.seq <| bI hx fun v6 hv_6 hx => bI hx fun v7 hv_7 hx => ?_
   obtain ⟨v8, hv_8, hx⟩ := ZaQ hx
   refine JC.anyF (base := [(0, ov (S (rL Zat) s1_1)), (1, ov (S (rL Zat) s2_2)), (5, ov (S (rI .i64) x_4)), (12, ov (S (rI .i64) (List.length s1_1 : Int))), (13, ov (S (rI .i64) x_4))])
       (fs := fun γ => [⟨some 16, ov (S (rL Zat) s1_1)⟩, ⟨some 17, ov (S (rI .i64) x_4)⟩, ⟨some 18, ov (PT Zat v6)⟩, ⟨some 19, ov (A Zat v6)⟩, ⟨some 20, ov (S (rL Zat) s2_2)⟩, ⟨some 21, ov (S (rI .i64) x_4)⟩, ⟨some 22, ov (PT Zat v7)⟩, ⟨some 23, ov (A Zat v7)⟩, ⟨some 24, ov (S rB v8)⟩])
       (rs := fun γ => [])
       (afts := nn 9) (js := []) ZbT (.cons rfl (.cons rfl (.cons rfl (.cons rfl (.cons rfl .nil))))) (fun _ => rfl)
       (by
      refine db 1 0 <| db 2 5 <| dS 3 (fun γ ρ B hb hd => Zau lb tu30 Zhc (tl hd 0 16) (tl hd 1 17) hv_6) <| dS 4 (fun γ ρ B hb hd => ZaR lb Zi5 (tl hd 2 18) rfl) <| db 5 1 ?_
      refine db 6 5 <| dS 7 (fun γ ρ B hb hd => Zau lb tu30 Zhc (tl hd 4 20) (tl hd 5 21) hv_7) <| dS 8 (fun γ ρ B hb hd => ZaR lb Zi5 (tl hd 6 22) rfl) <| dS 9 (fun γ ρ B hb hd => Zf8 lb ZnF (by decide) ZnH (tl hd 3 19) (tl hd 7 23) hv_8) ?_
      exact ZaG.nil)
       (by decide +kernel) (fun _ => rfl) (fun _ => rfl) (fun _ => rfl) rfl
       (ρ' := fun γ => [(0, ov (S (rL Zat) s1_1)), (1, ov (S (rL Zat) s2_2)), (12, ov (S (rI .i64) (List.length s1_1 : Int))), (13, ov (S (rI .i64) x_4)), (24, ov (S rB v8))])
       (X' := fun γ => [])
       (fun γ ρ hb hd => (.cons (hb 0 _ rfl) (.cons (hb 1 _ rfl) (.cons (hb 12 _ rfl) (.cons (hb 13 _ rfl) (.cons (hdq hd 8 24 rfl) .nil)))))) (fun _ => rfl) (fun γ => ?_)
   refine JQ.at ⟨[(0, ov (S (rL Zat) s1_1)), (1, ov (S (rL Zat) s2_2)), (12, ov (S (rI .i64) (List.length s1_1 : Int))), (13, ov (S (rI .i64) x_4)), (24, ov (S rB v8))], [], []⟩ <| JQ.then <| jif tR hx (fun hc5 hx => ?_) (fun hc5 hx => ?_)
   · refine jr <| jc (Zab lb .cB) <| jn <| JC.ret <| JQ.outRB <| JQ.outR ?_
     try obtain rfl := so hx
     try obtain rfl := hr _ rfl
     dsimp only at hq3
     refine JQ.outR <| JQ.outRB ?_
     try obtain rfl := so hq3
     dsimp only at hq2
     refine JQ.outR ?_
     obtain rfl := so hq2
     exact jd (.val (S rB false)) rfl rfl rfl rfl rfl rfl
   refine JC.skip <| JQ.outNB <| JQ.then <| JC.region <| lI hx fun v9 hv_9 hx => jc (ZaY lb tR .cI (cs hv_9)) <| jmv rfl rfl <| JL.nil ?_
   try obtain rfl := so hx
   exact JQ.next () rfl (Imp.norm (js := []) rfl (.cons rfl (.cons rfl (.cons rfl (.cons rfl .nil)))))
 refine JC.exit <| JQ.outX ?_
 try obtain rfl := so hx
 try obtain rfl := hr _ rfl
 dsimp only at hq3
 refine JQ.outX <| JQ.here ?_
 try obtain rfl := so hq3
 exact JQ.joinK () () rfl (Imp.norm (js := []) rfl .nil)

theorem Zh6 (k : Nat) (a_1 : Zar) (b_2 : Zar) (r : Bool) (hm : Zfe k a_1 b_2 = some r) : Sim Tryz.prog 70 [A Zam a_1, A Zam b_2] [] (γ := Unit) (fun q => []) (fun q => .one (.val (S rB r))) := by
 unfold Zfe at hm
 refine Sim.of Tryz.func70 rfl rfl (lE rfl) (fun e0 w0 => ?_)
 refine JC.at ⟨[(0, ov (A Zam a_1)), (1, ov (A Zam b_2))], [], []⟩ <| jr <| jx (ZaX lb tR) fun gb_3 => jx (ZaX lb tR) fun gb_4 => jc (Zab lb .cB) <| jn <| bI hm fun x_14 hx1 hq1 => JC.seqJ (γ := Unit) (stj := fun _ => ⟨[(4, ov (S rB x_14))], [], []⟩) (fun _ => ?_) ?_
 · refine JC.ret ?_
   obtain rfl := so hq1
   exact jd (.val (S rB x_14)) rfl rfl rfl rfl rfl rfl
 refine JC.region <| jc (Zaa (off := 0) lb Zel tR) <| jc (Zaw (j := 0) lb tA26 tR rfl (cT (ZaW a_1) rfl) rfl) <| jc (Zaa (off := 0) lb Zel tR) <| jc (Zaw (j := 1) lb tA26 tR rfl (cT (ZaW b_2) rfl) rfl) <| lI hx1 fun v5 hv_5 hx1 => jc (Zit lb qa26 (by decide) ng26 tR tR hv_5) <| JL.sub ⟨[(2, ov (PTR gb_3 0)), (3, ov (PTR gb_4 0)), (4, ov (S rB false)), (9, ov (S rB v5))], [cvar gb_3 Zam a_1, cvar gb_4 Zam b_2], []⟩ (.cons rfl (.cons rfl (.cons rfl (.cons rfl .nil)))) rfl rfl <| jmv rfl rfl <| jT (ov (PTR gb_3 (0 + 2))) rfl rfl rfl rfl (fun hq_2 => Zaa (off := 2) lb Zhl tR) <| jT (ov (S rS a_1.Topic)) rfl rfl rfl rfl (fun hq_3 => Zai (j := 0) lb tS9 (HasO.cnd tR hq_3) rfl (cT (Zbk a_1) rfl) rfl rfl) <| jT (ov (PTR gb_4 (0 + 2))) rfl rfl rfl rfl (fun hq_4 => Zaa (off := 2) lb Zhl tR) <| jT (ov (S rS b_2.Topic)) rfl rfl rfl rfl (fun hq_5 => Zai (j := 1) lb tS9 (HasO.cnd tR hq_5) rfl (cT (Zbk b_2) rfl) rfl rfl) ?_
 refine lI hx1 fun v6 hv_6 hx1 => jT (ov (S rB v6)) rfl rfl rfl rfl (fun hq_6 => Zhe lb (HasO.cnd tR hq_6) (HasO.cnd tR hq_6) (cs hv_6)) <| lI hx1 fun v7 hv_7 hx1 => jc (Zao lb tR (fun hb7 => (HasO.cnd tR hb7)) (fun hb7 => .cB) hv_7) <| jmv rfl rfl <| jT (ov (PTR gb_3 (0 + 3))) rfl rfl rfl rfl (fun hq_8 => Zaa (off := 3) lb Zhg tR) <| jT (ov (S (rL (rU UInt8)) a_1.Payload)) rfl rfl rfl rfl (fun hq_9 => Zai (j := 0) lb tS27 (HasO.cnd tR hq_9) rfl (cT (Za7 a_1) rfl) rfl rfl) <| jT (ov (PTR gb_4 (0 + 3))) rfl rfl rfl rfl (fun hq_10 => Zaa (off := 3) lb Zhg tR) <| jT (ov (S (rL (rU UInt8)) b_2.Payload)) rfl rfl rfl rfl (fun hq_11 => Zai (j := 1) lb tS27 (HasO.cnd tR hq_11) rfl (cT (Za7 b_2) rfl) rfl rfl) <| JL.sub ⟨[(2, ov (PTR gb_3 0)), (3, ov (PTR gb_4 0)), (4, ov (S rB false)), (17, ov (S rB v7)), (19, bif v7 then ov (S (rL (rU UInt8)) a_1.Payload) else .one .und), (21, bif v7 then ov (S (rL (rU UInt8)) b_2.Payload) else .one .und)], [cvar gb_3 Zam a_1, cvar gb_4 Zam b_2], []⟩ (.cons rfl (.cons rfl (.cons rfl (.cons rfl (.cons rfl (.cons rfl .nil)))))) rfl rfl ?_
 refine bI hx1 fun v8 hv_8 hx1 => jT (ov (S rB v8)) rfl rfl rfl rfl (fun hq_12 => (Zak (js := []) ld cl55 (Zcg k a_1.Payload b_2.Payload v8 (ifT hv_8 hq_12)) .func (.cons (HasO.cnd tR hq_12) (.cons (HasO.cnd tR hq_12) .nil)) rfl).post (fun _ => Imp.refl)) <| lI hx1 fun v9 hv_9 hx1 => jc (Zao lb tR (fun hb13 => (HasO.cnd tR hb13)) (fun hb13 => .cB) hv_9) <| jmv rfl rfl <| jT (ov (PTR gb_3 (0 + 4))) rfl rfl rfl rfl (fun hq_14 => Zaa (off := 4) lb Zfh tR) <| jT (ov (A (rV 16 (rU UInt64)) a_1.Past)) rfl rfl rfl rfl (fun hq_15 => Zaw (j := 0) lb tA29 (HasO.cnd tR hq_15) rfl (cT (ZaZ a_1) rfl) rfl) <| jT (ov (PTR gb_4 (0 + 4))) rfl rfl rfl rfl (fun hq_16 => Zaa (off := 4) lb Zfh tR) <| jT (ov (A (rV 16 (rU UInt64)) b_2.Past)) rfl rfl rfl rfl (fun hq_17 => Zaw (j := 1) lb tA29 (HasO.cnd tR hq_17) rfl (cT (ZaZ b_2) rfl) rfl) ?_
 obtain ⟨v10, hv_10, hx1⟩ := ZaQ hx1
 refine jT (ov (S rB v10)) rfl rfl rfl rfl (fun hq_18 => Zit lb qa29 (by decide) ng29 (HasO.cnd tR hq_18) (HasO.cnd tR hq_18) hv_10) <| lI hx1 fun v11 hv_11 hx1 => jc (Zao lb tR (fun hb19 => (HasO.cnd tR hb19)) (fun hb19 => .cB) hv_11) <| jmv rfl rfl <| jT (ov (PTR gb_3 (0 + 20))) rfl rfl rfl rfl (fun hq_20 => Zaa (off := 20) lb ZcR tR) <| jT (ov (S (rL Zat) a_1.To)) rfl rfl rfl rfl (fun hq_21 => Zai (j := 0) lb tS30 (HasO.cnd tR hq_21) rfl (cT (ZaL a_1) rfl) rfl rfl) <| JL.nrm ⟨[(3, ov (PTR gb_4 0)), (4, ov (S rB false)), (31, ov (S rB v11)), (33, bif v11 then ov (S (rL Zat) a_1.To) else .one .und)], [cvar gb_4 Zam b_2], []⟩ [1] rfl (.cons rfl (.cons rfl (.cons rfl (.cons rfl .nil)))) rfl <| jT (ov (PTR gb_4 (0 + 20))) rfl rfl rfl rfl (fun hq_22 => Zaa (off := 20) lb ZcR tR) <| jT (ov (S (rL Zat) b_2.To)) rfl rfl rfl rfl (fun hq_23 => Zai (j := 0) lb tS30 (HasO.cnd tR hq_23) rfl (cT (ZaL b_2) rfl) rfl rfl) ?_
 obtain ⟨v12, hv_12, hx1⟩ := Zay hx1
 refine jT (ov (S rB v12)) rfl rfl rfl rfl (fun hq_24 => (Zak (js := []) ld Zop (Zdt k a_1.To b_2.To v12 (ifT hv_12 hq_24)) .func (.cons (HasO.cnd tR hq_24) (.cons (HasO.cnd tR hq_24) .nil)) rfl).post (fun _ => Imp.refl)) <| lI hx1 fun v13 hv_13 hx1 => jc (Zao lb tR (fun hb25 => (HasO.cnd tR hb25)) (fun hb25 => .cB) hv_13) <| jc (Zab lb tR) <| JL.nil ?_
 try obtain rfl := so hx1
 exact jo rfl rfl rfl

end Go.Proofs.YtklnihlchhhhlaaGreat
