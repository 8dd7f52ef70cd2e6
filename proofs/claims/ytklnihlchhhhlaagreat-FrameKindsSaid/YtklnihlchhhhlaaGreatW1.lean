/- Walks. -/
import Derived.Test.YtklnihlchhhhlaaGreatT
import Derived.Test.YtklnihlchhhhlaaGreatW0
namespace Go.Proofs.YtklnihlchhhhlaaGreat
open Go Fw
set_option linter.unusedVariables false
set_option maxRecDepth 100000
set_option maxHeartbeats 4000000

theorem ZiP (k : Nat) (t_1 : Zar) (r : Bool) (hm : ref09_May k t_1 = some r) : Sim Tryz.prog 39 [A Zam t_1] [] (γ := Unit) (fun q => []) (fun q => .one (.val (S rB r))) := by
 unfold ref09_May at hm
 refine Sim.of Tryz.func39 rfl rfl (lE rfl) (fun e0 w0 => ?_)
 refine JC.at ⟨[(0, ov (A Zam t_1))], [], []⟩ <| jr <| jx (ZaX lb tR) fun gb_2 => jc (Zab lb .cB) <| jn <| JC.seq <| bI hm fun x_20 hx1 hq1 => JC.seqJ (γ := Unit) (stj := fun _ => ⟨[(1, ov (PTR gb_2 0)), (45, ov (S rB x_20))], [cvar gb_2 Zam t_1], []⟩) (fun _ => ?_) ?_
 · refine jif tR hq1 (fun hc29 hq1 => ?_) (fun hc29 hq1 => ?_)
   · refine jr <| jc (Zab lb .cB) <| jn <| JC.ret <| JQ.outR ?_
     obtain rfl := so hq1
     exact jd (.val (S rB false)) rfl rfl rfl rfl rfl rfl
   refine JC.skip <| JQ.then <| bI hq1 fun tv30 hx30 hq30 => JC.seqK (α := Unit) (γ := Unit) (stj := fun v q => ⟨[], [], []⟩) (p := fun v => tv30 = (.inl v)) (fun v q hv => ?_) ?_
   · subst hv
     skip
     obtain _ := q
     dsimp only at hq30
     refine JC.at ⟨[], [], []⟩ <| jr <| jc (Zab lb .cB) <| jn <| JC.ret ?_
     obtain rfl := so hq30
     exact jd (.val (S rB true)) rfl rfl rfl rfl rfl rfl
   refine jr <| jc (Zab lb .cI) <| jn <| JC.block <| bI hx30 fun tv31 hL31 hq31 => JC.pre ?_ (JC.loop (γ := Unit) (stf := fun s q => ⟨[(1, ov (PTR gb_2 0)), (3, ov (S (rI .i64) s))], [cvar gb_2 Zam t_1], []⟩) (q := ()) hL31 ?_)
   · exact (Imp.norm (js := [0]) rfl (.cons rfl (.cons rfl .nil)))
   intro x_21 q x hx hr
   obtain _ := q
   change ref09_May.b1 k t_1 x_21 = some x at hx
   unfold ref09_May.b1 at hx
   refine JC.at ⟨[(1, ov (PTR gb_2 0)), (3, ov (S (rI .i64) x_21))], [cvar gb_2 Zam t_1], []⟩ <| JC.seq <| jr <| jmv rfl rfl <| jc (Zaa (off := 20) lb ZcR tR) <| jc (Zai (j := 0) lb tS30 tR rfl (cT (ZaL t_1) rfl) rfl rfl) <| jc (ZaE lb tu30 tR) <| lI hx fun v22 hv_22 hx => jc (Zaq lb tR tR (cs hv_22)) <| jn <| jif tR hx (fun hc32 hx => ?_) (fun hc32 hx => ?_)
   · refine JC.skip <| JQ.then <| JC.seq <| JC.block <| bI hx fun x_38 hx33 hq33 => JC.seqJ (γ := Unit) (stj := fun _ => ⟨[(1, ov (PTR gb_2 0)), (3, ov (S (rI .i64) x_21)), (91, ov (S rB x_38))], [cvar gb_2 Zam t_1], []⟩) (fun _ => ?_) ?_
     · refine jif tR hq33 (fun hc64 hq33 => ?_) (fun hc64 hq33 => ?_)
       · refine jr <| jc (Zab lb .cB) <| jn <| JC.ret <| JQ.outRB <| JQ.outR ?_
         try obtain rfl := so hq33
         try obtain rfl := hr _ rfl
         dsimp only at hq31
         refine JQ.outR <| JQ.outRB ?_
         try obtain rfl := so hq31
         dsimp only at hq30
         refine JQ.outR ?_
         obtain rfl := so hq30
         exact jd (.val (S rB false)) rfl rfl rfl rfl rfl rfl
       refine JC.skip <| JQ.outNB <| JQ.then <| JC.region <| jmv rfl rfl <| lI hq33 fun v39 hv_39 hq33 => jc (ZaY lb tR .cI (cs hv_39)) <| jc (Zab lb tR) <| JL.nil ?_
       try obtain rfl := so hq33
       exact JQ.next () rfl (Imp.norm (js := [0]) rfl (.cons rfl (.cons rfl .nil)))
     refine bI hx33 fun v23 hv_23 hx33 => bI hx33 fun v24 hv_24 hx33 => lI hx33 fun v25 hv_25 hx33 => bI hx33 fun v26 hv_26 hx33 => bI hx33 fun v27 hv_27 hx33 => lI hx33 fun v28 hv_28 hx33 => lI hx33 fun v29 hv_29 hx33 => lI hx33 fun v30 hv_30 hx33 => ?_
     obtain ⟨v31, hv_31, hx33⟩ := ZaQ hx33
     refine bI hx33 fun v32 hv_32 hx33 => bI hx33 fun v33 hv_33 hx33 => bI hx33 fun v34 hv_34 hx33 => lI hx33 fun v35 hv_35 hx33 => lI hx33 fun v36 hv_36 hx33 => ?_
     obtain ⟨v37, hv_37, hx33⟩ := ZaQ hx33
     refine JC.anyF (base := [(1, ov (PTR gb_2 0)), (3, ov (S (rI .i64) x_21))])
         (fs := fun γ => [⟨some 53, ov (PTR gb_2 (0 + 20))⟩, ⟨some 54, ov (S (rL Zat) t_1.To)⟩, ⟨some 55, ov (S (rI .i64) x_21)⟩, ⟨some 56, ov (PT Zat v23)⟩, ⟨some 57, ov (PT Zad v23.Dot)⟩, ⟨some 58, ov (A Zad v23.Dot)⟩, ⟨some 59, ov (S rB v24)⟩, ⟨some 60, ov (S rB v25)⟩, ⟨some 61, ov (S rB v25)⟩, ⟨some 62, bif (!v25) then ov (PTR gb_2 (0 + 20)) else .one .und⟩, ⟨some 63, bif (!v25) then ov (S (rL Zat) t_1.To) else .one .und⟩, ⟨some 64, bif (!v25) then ov (S (rI .i64) x_21) else .one .und⟩, ⟨some 65, bif (!v25) then ov (PT Zat v26) else .one .und⟩, ⟨some 66, bif (!v25) then ov (PT rS v26.Device) else .one .und⟩, ⟨some 67, bif (!v25) then ov (S rS v26.Device) else .one .und⟩, ⟨some 68, bif (!v25) then ov (S rB v27) else .one .und⟩, ⟨some 69, bif (!v25) then ov (S rB v28) else .one .und⟩, ⟨some 70, ov (S rB v29)⟩, ⟨some 71, ov (S rB v29)⟩, ⟨some 72, bif (!v29) then ov (S (rI .i64) x_21) else .one .und⟩, ⟨some 73, bif (!v29) then ov (S rB v30) else .one .und⟩, ⟨some 74, bif (!v29) then ov (S rB v30) else .one .und⟩, ⟨some 75, bif ((!v29) && v30) then ov (PTR gb_2 (0 + 20)) else .one .und⟩, ⟨some 76, bif ((!v29) && v30) then ov (S (rL Zat) t_1.To) else .one .und⟩, ⟨some 77, bif ((!v29) && v30) then ov (S (rI .i64) x_21) else .one .und⟩, ⟨some 78, bif ((!v29) && v30) then ov (S (rI .i64) v31) else .one .und⟩, ⟨some 79, bif ((!v29) && v30) then ov (PT Zat v32) else .one .und⟩, ⟨some 80, bif ((!v29) && v30) then ov (PT Zad v32.Dot) else .one .und⟩, ⟨some 81, bif ((!v29) && v30) then ov (A Zad v32.Dot) else .one .und⟩, ⟨some 82, bif ((!v29) && v30) then ov (PTR gb_2 (0 + 20)) else .one .und⟩, ⟨some 83, bif ((!v29) && v30) then ov (S (rL Zat) t_1.To) else .one .und⟩, ⟨some 84, bif ((!v29) && v30) then ov (S (rI .i64) x_21) else .one .und⟩, ⟨some 85, bif ((!v29) && v30) then ov (PT Zat v33) else .one .und⟩, ⟨some 86, bif ((!v29) && v30) then ov (PT Zad v33.Dot) else .one .und⟩, ⟨some 87, bif ((!v29) && v30) then ov (A Zad v33.Dot) else .one .und⟩, ⟨some 88, bif ((!v29) && v30) then ov (S rB v34) else .one .und⟩, ⟨some 89, bif ((!v29) && v30) then ov (S rB v35) else .one .und⟩, ⟨some 90, bif (!v29) then ov (S rB v36) else .one .und⟩, ⟨some 91, ov (S rB v37)⟩])
         (rs := fun γ => [⟨cvar gb_2 Zam t_1, none, none, [1, 10, 23, 30]⟩])
         (afts := nn 39) (js := [0]) ZbT (.cons rfl (.cons rfl .nil)) (fun _ => rfl)
         (by
      refine dS 1 (fun γ ρ B hb hd => Zaa (off := 20) lb ZcR (.tmp (hb 1 _ rfl))) <| dR 2 (fun γ ρ B hb hd => Zan.lk ⟨ρ, (cvar gb_2 Zam t_1) :: B, _⟩ (Zai (j := 0) lb tS30 (tl hd 0 53) rfl (cT (ZaL t_1) rfl) rfl rfl)) <| db 3 3 <| dS 4 (fun γ ρ B hb hd => Zau lb tu30 Zhc (tl hd 1 54) (tl hd 2 55) hv_23) <| dS 5 (fun γ ρ B hb hd => Zbm lb Zgp (tl hd 3 56) (ZbK v23)) ?_
      refine dS 6 (fun γ ρ B hb hd => ZaR lb tA26 (tl hd 4 57) rfl) <| dS 7 (fun γ ρ B hb hd => (Zak (js := []) ld cl41 (ZbQ k v23.Dot v24 hv_24) .func (.cons (tl hd 5 58) .nil) rfl).post (fun _ => Imp.refl)) <| dS 8 (fun γ ρ B hb hd => Zbc lb (tl hd 6 59) hv_25) <| dm 9 7 60 ?_
      refine dF 10 8 61 v25 (fun γ => ov (PTR gb_2 (0 + 20))) (fun γ ρ B hb hd hq_34 => Zaa (off := 20) lb ZcR (.tmp (hb 1 _ rfl))) ?_
      refine eF 11 8 61 v25 (fun γ => ov (S (rL Zat) t_1.To)) (fun γ ρ B hb hd hq_35 => Zan.lk ⟨ρ, (cvar gb_2 Zam t_1) :: B, _⟩ (Zai (j := 0) lb tS30 (HasO.cnd (tl hd 9 62) (notT (notF hq_35))) rfl (cT (ZaL t_1) rfl) rfl rfl)) ?_
      refine dF 12 8 61 v25 (fun γ => ov (S (rI .i64) x_21)) (fun γ ρ B hb hd hq_36 => Zax lb (.tmp (hb 3 _ rfl))) ?_
      refine dF 13 8 61 v25 (fun γ => ov (PT Zat v26)) (fun γ ρ B hb hd hq_37 => Zau lb tu30 Zhc (HasO.cnd (tl hd 10 63) (notT (notF hq_37))) (HasO.cnd (tl hd 11 64) (notT (notF hq_37))) (ifT hv_26 hq_37)) ?_
      refine dF 14 8 61 v25 (fun γ => ov (PT rS v26.Device)) (fun γ ρ B hb hd hq_38 => Zbm lb ZiX (HasO.cnd (tl hd 12 65) (notT (notF hq_38))) (Zcj v26)) ?_
      refine dF 15 8 61 v25 (fun γ => ov (S rS v26.Device)) (fun γ ρ B hb hd hq_39 => Zbe lb tS9 rfl (HasO.cnd (tl hd 13 66) (notT (notF hq_39))) rfl) ?_
      refine dF 16 8 61 v25 (fun γ => ov (S rB v27)) (fun γ ρ B hb hd hq_40 => (Zak (js := []) ld cl72 (ZcS k v26.Device v27 (ifT hv_27 hq_40)) .func (.cons (HasO.cnd (tl hd 14 67) (notT (notF hq_40))) .nil) rfl).post (fun _ => Imp.refl)) ?_
      refine dF 17 8 61 v25 (fun γ => ov (S rB v28)) (fun γ ρ B hb hd hq_41 => Zbc lb (HasO.cnd (tl hd 15 68) (notT (notF hq_41))) hv_28) ?_
      refine dS 18 (fun γ ρ B hb hd => Zao lb (tl hd 8 61) (fun hb42 => .cB) (fun hb42 => (HasO.cnd (tl hd 16 69) (notT hb42))) hv_29) <| dm 19 17 70 ?_
      refine dF 20 18 71 v29 (fun γ => ov (S (rI .i64) x_21)) (fun γ ρ B hb hd hq_43 => Zax lb (.tmp (hb 3 _ rfl))) ?_
      refine dF 21 18 71 v29 (fun γ => ov (S rB v30)) (fun γ ρ B hb hd hq_44 => Zaq lb (HasO.cnd (tl hd 19 72) (notT (notF hq_44))) .cI (cs hv_30)) ?_
      refine dF 22 18 71 v29 (fun γ => ov (S rB v30)) (fun γ ρ B hb hd hq_45 => Zax lb (HasO.cnd (tl hd 20 73) (notT (notF hq_45)))) ?_
      refine dA 23 21 74 (!v29) v30 (fun γ => ov (PTR gb_2 (0 + 20))) (fun γ ρ B hb hd hq_46 => Zaa (off := 20) lb ZcR (.tmp (hb 1 _ rfl))) ?_
      refine eA 24 21 74 (!v29) v30 (fun γ => ov (S (rL Zat) t_1.To)) (fun γ ρ B hb hd hq_47 => Zan.lk ⟨ρ, (cvar gb_2 Zam t_1) :: B, _⟩ (Zai (j := 0) lb tS30 (HasO.cnd (tl hd 22 75) (andI (notT (notF (andL hq_47))) (andR hq_47))) rfl (cT (ZaL t_1) rfl) rfl rfl)) ?_
      refine dA 25 21 74 (!v29) v30 (fun γ => ov (S (rI .i64) x_21)) (fun γ ρ B hb hd hq_48 => Zax lb (.tmp (hb 3 _ rfl))) ?_
      refine dA 26 21 74 (!v29) v30 (fun γ => ov (S (rI .i64) v31)) (fun γ ρ B hb hd hq_49 => ZaY lb (HasO.cnd (tl hd 24 77) (andI (notT (notF (andL hq_49))) (andR hq_49))) .cI (cs hv_31)) ?_
      refine dA 27 21 74 (!v29) v30 (fun γ => ov (PT Zat v32)) (fun γ ρ B hb hd hq_50 => Zau lb tu30 Zhc (HasO.cnd (tl hd 23 76) (andI (notT (notF (andL hq_50))) (andR hq_50))) (HasO.cnd (tl hd 25 78) (andI (notT (notF (andL hq_50))) (andR hq_50))) (ifT hv_32 hq_50)) ?_
      refine dA 28 21 74 (!v29) v30 (fun γ => ov (PT Zad v32.Dot)) (fun γ ρ B hb hd hq_51 => Zbm lb Zgp (HasO.cnd (tl hd 26 79) (andI (notT (notF (andL hq_51))) (andR hq_51))) (ZbK v32)) ?_
      refine dA 29 21 74 (!v29) v30 (fun γ => ov (A Zad v32.Dot)) (fun γ ρ B hb hd hq_52 => ZaR lb tA26 (HasO.cnd (tl hd 27 80) (andI (notT (notF (andL hq_52))) (andR hq_52))) rfl) ?_
      refine dA 30 21 74 (!v29) v30 (fun γ => ov (PTR gb_2 (0 + 20))) (fun γ ρ B hb hd hq_53 => Zaa (off := 20) lb ZcR (.tmp (hb 1 _ rfl))) ?_
      refine eA 31 21 74 (!v29) v30 (fun γ => ov (S (rL Zat) t_1.To)) (fun γ ρ B hb hd hq_54 => Zan.lk ⟨ρ, (cvar gb_2 Zam t_1) :: B, _⟩ (Zai (j := 0) lb tS30 (HasO.cnd (tl hd 29 82) (andI (notT (notF (andL hq_54))) (andR hq_54))) rfl (cT (ZaL t_1) rfl) rfl rfl)) ?_
      refine dA 32 21 74 (!v29) v30 (fun γ => ov (S (rI .i64) x_21)) (fun γ ρ B hb hd hq_55 => Zax lb (.tmp (hb 3 _ rfl))) ?_
      refine dA 33 21 74 (!v29) v30 (fun γ => ov (PT Zat v33)) (fun γ ρ B hb hd hq_56 => Zau lb tu30 Zhc (HasO.cnd (tl hd 30 83) (andI (notT (notF (andL hq_56))) (andR hq_56))) (HasO.cnd (tl hd 31 84) (andI (notT (notF (andL hq_56))) (andR hq_56))) (ifT hv_33 hq_56)) ?_
      refine dA 34 21 74 (!v29) v30 (fun γ => ov (PT Zad v33.Dot)) (fun γ ρ B hb hd hq_57 => Zbm lb Zgp (HasO.cnd (tl hd 32 85) (andI (notT (notF (andL hq_57))) (andR hq_57))) (ZbK v33)) ?_
      refine dA 35 21 74 (!v29) v30 (fun γ => ov (A Zad v33.Dot)) (fun γ ρ B hb hd hq_58 => ZaR lb tA26 (HasO.cnd (tl hd 33 86) (andI (notT (notF (andL hq_58))) (andR hq_58))) rfl) ?_
      refine dA 36 21 74 (!v29) v30 (fun γ => ov (S rB v34)) (fun γ ρ B hb hd hq_59 => (Zak (js := []) ld cl42 (Zdb k v32.Dot v33.Dot v34 (ifT hv_34 hq_59)) .func (.cons (HasO.cnd (tl hd 28 81) (andI (notT (notF (andL hq_59))) (andR hq_59))) (.cons (HasO.cnd (tl hd 34 87) (andI (notT (notF (andL hq_59))) (andR hq_59))) .nil)) rfl).post (fun _ => Imp.refl)) ?_
      refine dA 37 21 74 (!v29) v30 (fun γ => ov (S rB v35)) (fun γ ρ B hb hd hq_60 => Zbc lb (HasO.cnd (tl hd 35 88) (andI (notT (notF (andL hq_60))) (andR hq_60))) hv_35) ?_
      refine dF 38 18 71 v29 (fun γ => ov (S rB v36)) (fun γ ρ B hb hd hq_61 => Zao lb (HasO.cnd (tl hd 21 74) (notT (notF hq_61))) (fun hb62 => (HasO.cnd (tl hd 36 89) (andI (notT (notF hq_61)) hb62))) (fun hb62 => .cB) hv_36) ?_
      refine dS 39 (fun γ ρ B hb hd => Zao lb (tl hd 18 71) (fun hb63 => .cB) (fun hb63 => (HasO.cnd (tl hd 37 90) (notT hb63))) hv_37) ?_
      exact ZaG.nil)
         (by decide +kernel) (fun _ => rfl) (fun _ => rfl) (fun _ => rfl) rfl
         (ρ' := fun γ => [(1, ov (PTR gb_2 0)), (3, ov (S (rI .i64) x_21)), (91, ov (S rB v37))])
         (X' := fun γ => [cvar gb_2 Zam t_1])
         (fun γ ρ hb hd => (.cons (hb 1 _ rfl) (.cons (hb 3 _ rfl) (.cons (hdq hd 38 91 rfl) .nil)))) (fun _ => rfl) (fun γ => ?_)
     refine JQ.at ⟨[(1, ov (PTR gb_2 0)), (3, ov (S (rI .i64) x_21)), (91, ov (S rB v37))], [cvar gb_2 Zam t_1], []⟩ ?_
     try obtain rfl := so hx33
     exact JQ.join () (Imp.norm (js := [0]) rfl (.cons rfl (.cons rfl (.cons rfl .nil))))
   refine JC.exit <| JQ.outX ?_
   try obtain rfl := so hx
   try obtain rfl := hr _ rfl
   dsimp only at hq31
   refine JQ.outX <| JQ.here ?_
   try obtain rfl := so hq31
   exact JQ.joinK () () rfl (Imp.norm (js := []) rfl .nil)
 refine bI hx1 fun v3 hv_3 hx1 => lI hx1 fun v4 hv_4 hx1 => bI hx1 fun v5 hv_5 hx1 => lI hx1 fun v6 hv_6 hx1 => lI hx1 fun v7 hv_7 hx1 => ?_
 obtain ⟨v8, hv_8, hx1⟩ := ZaQ hx1
 rcases ZcG hx1 with ⟨hc13, hx1⟩ | ⟨hc13, hx1⟩
 · refine JC.anyF (base := [(1, ov (PTR gb_2 0))])
       (fs := fun γ => [⟨some 4, ov (PTR gb_2 (0 + 0))⟩, ⟨some 5, ov (A Zad t_1.ID)⟩, ⟨some 6, ov (S rB v3)⟩, ⟨some 7, ov (S rB v4)⟩, ⟨some 8, ov (S rB v4)⟩, ⟨some 9, bif (!v4) then ov (PTR gb_2 (0 + 4)) else .one .und⟩, ⟨some 10, bif (!v4) then ov (A (rV 16 (rU UInt64)) t_1.Past) else .one .und⟩, ⟨some 11, bif (!v4) then ov (S rB v5) else .one .und⟩, ⟨some 12, bif (!v4) then ov (S rB v6) else .one .und⟩, ⟨some 13, ov (S rB v7)⟩, ⟨some 14, ov (S rB v7)⟩, ⟨some 15, bif (!v7) then ov (PTR gb_2 (0 + 0)) else .one .und⟩, ⟨some 16, bif (!v7) then ov (PTR gb_2 ((0 + 0) + 0)) else .one .und⟩, ⟨some 17, bif (!v7) then ov (S (rI .i64) t_1.ID.Region) else .one .und⟩, ⟨some 18, bif (!v7) then ov (S (rI .i64) v8) else .one .und⟩, ⟨some 19, bif (!v7) then ov (PTR gb_2 (0 + 4)) else .one .und⟩, ⟨some 20, .one .und⟩, ⟨some 21, .one .und⟩, ⟨some 22, .one .und⟩, ⟨some 23, .one .und⟩, ⟨some 24, .one .und⟩, ⟨some 25, .one .und⟩, ⟨some 26, .one .und⟩, ⟨some 27, ov (S rB true)⟩, ⟨some 28, ov (S rB true)⟩, ⟨some 29, .one .und⟩, ⟨some 30, .one .und⟩, ⟨some 31, .one .und⟩, ⟨some 32, .one .und⟩, ⟨some 33, ov (S rB true)⟩, ⟨some 34, ov (S rB true)⟩, ⟨some 35, .one .und⟩, ⟨some 36, .one .und⟩, ⟨some 37, .one .und⟩, ⟨some 38, .one .und⟩, ⟨some 39, ov (S rB true)⟩, ⟨some 40, ov (S rB true)⟩, ⟨some 41, .one .und⟩, ⟨some 42, .one .und⟩, ⟨some 43, .one .und⟩, ⟨some 44, .one .und⟩, ⟨some 45, ov (S rB true)⟩])
       (rs := fun γ => [⟨cvar gb_2 Zam t_1, none, none, [1, 6, 13]⟩])
       (afts := nn 42) (js := [0]) ZbT (.cons rfl .nil) (fun _ => rfl)
       (by
      refine dS 1 (fun γ ρ B hb hd => Zaa (off := 0) lb Zel (.tmp (hb 1 _ rfl))) <| dR 2 (fun γ ρ B hb hd => Zan.lk ⟨ρ, (cvar gb_2 Zam t_1) :: B, _⟩ (Zaw (j := 0) lb tA26 (tl hd 0 4) rfl (cT (ZaW t_1) rfl) rfl)) <| dS 3 (fun γ ρ B hb hd => (Zak (js := []) ld cl41 (ZbQ k t_1.ID v3 hv_3) .func (.cons (tl hd 1 5) .nil) rfl).post (fun _ => Imp.refl)) <| dS 4 (fun γ ρ B hb hd => Zbc lb (tl hd 2 6) hv_4) <| dm 5 3 7 ?_
      refine dF 6 4 8 v4 (fun γ => ov (PTR gb_2 (0 + 4))) (fun γ ρ B hb hd hq_2 => Zaa (off := 4) lb Zfh (.tmp (hb 1 _ rfl))) ?_
      refine eF 7 4 8 v4 (fun γ => ov (A (rV 16 (rU UInt64)) t_1.Past)) (fun γ ρ B hb hd hq_3 => Zan.lk ⟨ρ, (cvar gb_2 Zam t_1) :: B, _⟩ (Zaw (j := 0) lb tA29 (HasO.cnd (tl hd 5 9) (notT (notF hq_3))) rfl (cT (ZaZ t_1) rfl) rfl)) ?_
      refine dF 8 4 8 v4 (fun γ => ov (S rB v5)) (fun γ ρ B hb hd hq_4 => (Zak (js := []) ld cl40 (Zcs k t_1.Past v5 (ifT hv_5 hq_4)) .func (.cons (HasO.cnd (tl hd 6 10) (notT (notF hq_4))) .nil) rfl).post (fun _ => Imp.refl)) ?_
      refine dF 9 4 8 v4 (fun γ => ov (S rB v6)) (fun γ ρ B hb hd hq_5 => Zbc lb (HasO.cnd (tl hd 7 11) (notT (notF hq_5))) hv_6) ?_
      refine dS 10 (fun γ ρ B hb hd => Zao lb (tl hd 4 8) (fun hb6 => .cB) (fun hb6 => (HasO.cnd (tl hd 8 12) (notT hb6))) hv_7) <| dm 11 9 13 ?_
      refine dF 12 10 14 v7 (fun γ => ov (PTR gb_2 (0 + 0))) (fun γ ρ B hb hd hq_7 => Zaa (off := 0) lb Zel (.tmp (hb 1 _ rfl))) ?_
      refine dF 13 10 14 v7 (fun γ => ov (PTR gb_2 ((0 + 0) + 0))) (fun γ ρ B hb hd hq_8 => Zaa (off := 0) lb Zcx (HasO.cnd (tl hd 11 15) (notT (notF hq_8)))) ?_
      refine eF 14 10 14 v7 (fun γ => ov (S (rI .i64) t_1.ID.Region)) (fun γ ρ B hb hd hq_9 => Zan.lk ⟨ρ, (cvar gb_2 Zam t_1) :: B, _⟩ (Zai (j := 0) lb tS3 (HasO.cnd (tl hd 12 16) (notT (notF hq_9))) rfl (Comp.trans (cT (ZaW t_1) rfl) (ZaC t_1.ID) (lE rfl)) rfl rfl)) ?_
      refine dF 15 10 14 v7 (fun γ => ov (S (rI .i64) v8)) (fun γ ρ B hb hd hq_10 => ZaY lb (HasO.cnd (tl hd 13 17) (notT (notF hq_10))) .cI (cs hv_8)) ?_
      refine dF 16 10 14 v7 (fun γ => ov (PTR gb_2 (0 + 4))) (fun γ ρ B hb hd hq_11 => Zaa (off := 4) lb Zfh (.tmp (hb 1 _ rfl))) ?_
      refine kn 17 10 14 rfl hc13 <| kn 18 10 14 rfl hc13 <| kn 19 10 14 rfl hc13 <| kn 20 10 14 rfl hc13 <| kn 21 10 14 rfl hc13 ?_
      refine kn 22 10 14 rfl hc13 <| kn 23 10 14 rfl hc13 <| dS 24 (fun γ ρ B hb hd => Zb7 lb (tl hd 10 14) hc13 .cB) <| dm 25 23 27 <| kn 26 24 28 rfl rfl ?_
      refine kn 27 24 28 rfl rfl <| kn 28 24 28 rfl rfl <| kn 29 24 28 rfl rfl <| dS 30 (fun γ ρ B hb hd => Zb7 lb (tl hd 24 28) rfl .cB) <| dm 31 29 33 ?_
      refine kn 32 30 34 rfl rfl <| kn 33 30 34 rfl rfl <| kn 34 30 34 rfl rfl <| kn 35 30 34 rfl rfl <| dS 36 (fun γ ρ B hb hd => Zb7 lb (tl hd 30 34) rfl .cB) ?_
      refine dm 37 35 39 <| kn 38 36 40 rfl rfl <| kn 39 36 40 rfl rfl <| kn 40 36 40 rfl rfl <| kn 41 36 40 rfl rfl ?_
      refine dS 42 (fun γ ρ B hb hd => Zb7 lb (tl hd 36 40) rfl .cB) ?_
      exact ZaG.nil)
       (by decide +kernel) (fun _ => rfl) (fun _ => rfl) (fun _ => rfl) rfl
       (ρ' := fun γ => [(1, ov (PTR gb_2 0)), (45, ov (S rB true))])
       (X' := fun γ => [cvar gb_2 Zam t_1])
       (fun γ ρ hb hd => (.cons (hb 1 _ rfl) (.cons (hdq hd 41 45 rfl) .nil))) (fun _ => rfl) (fun γ => ?_)
   refine JQ.at ⟨[(1, ov (PTR gb_2 0)), (45, ov (S rB true))], [cvar gb_2 Zam t_1], []⟩ ?_
   try obtain rfl := so hx1
   exact JQ.join () (Imp.norm (js := [0]) rfl (.cons rfl (.cons rfl .nil)))
 refine bI hx1 fun i_9 hv_i_9 hx1 => lI hx1 fun v10 hv_10 hx1 => lI hx1 fun v11 hv_11 hx1 => lI hx1 fun v12 hv_12 hx1 => bI hx1 fun v13 hv_13 hx1 => lI hx1 fun v14 hv_14 hx1 => lI hx1 fun v15 hv_15 hx1 => lI hx1 fun v16 hv_16 hx1 => ?_
 obtain ⟨v17, hv_17, hx1⟩ := ZaQ hx1
 refine lI hx1 fun v18 hv_18 hx1 => ?_
 obtain ⟨v19, hv_19, hx1⟩ := ZaQ hx1
 refine JC.anyF (base := [(1, ov (PTR gb_2 0))])
     (fs := fun γ => [⟨some 4, ov (PTR gb_2 (0 + 0))⟩, ⟨some 5, ov (A Zad t_1.ID)⟩, ⟨some 6, ov (S rB v3)⟩, ⟨some 7, ov (S rB v4)⟩, ⟨some 8, ov (S rB v4)⟩, ⟨some 9, bif (!v4) then ov (PTR gb_2 (0 + 4)) else .one .und⟩, ⟨some 10, bif (!v4) then ov (A (rV 16 (rU UInt64)) t_1.Past) else .one .und⟩, ⟨some 11, bif (!v4) then ov (S rB v5) else .one .und⟩, ⟨some 12, bif (!v4) then ov (S rB v6) else .one .und⟩, ⟨some 13, ov (S rB v7)⟩, ⟨some 14, ov (S rB v7)⟩, ⟨some 15, bif (!v7) then ov (PTR gb_2 (0 + 0)) else .one .und⟩, ⟨some 16, bif (!v7) then ov (PTR gb_2 ((0 + 0) + 0)) else .one .und⟩, ⟨some 17, bif (!v7) then ov (S (rI .i64) t_1.ID.Region) else .one .und⟩, ⟨some 18, bif (!v7) then ov (S (rI .i64) v8) else .one .und⟩, ⟨some 19, bif (!v7) then ov (PTR gb_2 (0 + 4)) else .one .und⟩, ⟨some 20, ov (PTR gb_2 ((0 + 4) + i_9.1 * 1))⟩, ⟨some 21, ov (S (rU UInt64) v10)⟩, ⟨some 22, ov (S (rU UInt64) v11)⟩, ⟨some 23, ov (PTR gb_2 (0 + 0))⟩, ⟨some 24, ov (PTR gb_2 ((0 + 0) + 1))⟩, ⟨some 25, ov (S (rU UInt64) t_1.ID.Count)⟩, ⟨some 26, ov (S rB v12)⟩, ⟨some 27, ov (S rB v12)⟩, ⟨some 28, ov (S rB v12)⟩, ⟨some 29, bif (!v12) then ov (PTR gb_2 (0 + 2)) else .one .und⟩, ⟨some 30, bif (!v12) then ov (S rS t_1.Topic) else .one .und⟩, ⟨some 31, bif (!v12) then ov (S rB v13) else .one .und⟩, ⟨some 32, bif (!v12) then ov (S rB v14) else .one .und⟩, ⟨some 33, ov (S rB v15)⟩, ⟨some 34, ov (S rB v15)⟩, ⟨some 35, bif (!v15) then ov (PTR gb_2 (0 + 3)) else .one .und⟩, ⟨some 36, bif (!v15) then ov (S (rL (rU UInt8)) t_1.Payload) else .one .und⟩, ⟨some 37, bif (!v15) then ov (S (rI .i64) (List.length t_1.Payload : Int)) else .one .und⟩, ⟨some 38, bif (!v15) then ov (S rB v16) else .one .und⟩, ⟨some 39, ov (S rB v17)⟩, ⟨some 40, ov (S rB v17)⟩, ⟨some 41, bif (!v17) then ov (PTR gb_2 (0 + 20)) else .one .und⟩, ⟨some 42, bif (!v17) then ov (S (rL Zat) t_1.To) else .one .und⟩, ⟨some 43, bif (!v17) then ov (S (rI .i64) (List.length t_1.To : Int)) else .one .und⟩, ⟨some 44, bif (!v17) then ov (S rB v18) else .one .und⟩, ⟨some 45, ov (S rB v19)⟩])
     (rs := fun γ => [⟨cvar gb_2 Zam t_1, none, none, [1, 6, 13, 17, 21, 26, 32, 38]⟩])
     (afts := nn 42) (js := [0]) ZbT (.cons rfl .nil) (fun _ => rfl)
     (by
      refine dS 1 (fun γ ρ B hb hd => Zaa (off := 0) lb Zel (.tmp (hb 1 _ rfl))) <| dR 2 (fun γ ρ B hb hd => Zan.lk ⟨ρ, (cvar gb_2 Zam t_1) :: B, _⟩ (Zaw (j := 0) lb tA26 (tl hd 0 4) rfl (cT (ZaW t_1) rfl) rfl)) <| dS 3 (fun γ ρ B hb hd => (Zak (js := []) ld cl41 (ZbQ k t_1.ID v3 hv_3) .func (.cons (tl hd 1 5) .nil) rfl).post (fun _ => Imp.refl)) <| dS 4 (fun γ ρ B hb hd => Zbc lb (tl hd 2 6) hv_4) <| dm 5 3 7 ?_
      refine dF 6 4 8 v4 (fun γ => ov (PTR gb_2 (0 + 4))) (fun γ ρ B hb hd hq_2 => Zaa (off := 4) lb Zfh (.tmp (hb 1 _ rfl))) ?_
      refine eF 7 4 8 v4 (fun γ => ov (A (rV 16 (rU UInt64)) t_1.Past)) (fun γ ρ B hb hd hq_3 => Zan.lk ⟨ρ, (cvar gb_2 Zam t_1) :: B, _⟩ (Zaw (j := 0) lb tA29 (HasO.cnd (tl hd 5 9) (notT (notF hq_3))) rfl (cT (ZaZ t_1) rfl) rfl)) ?_
      refine dF 8 4 8 v4 (fun γ => ov (S rB v5)) (fun γ ρ B hb hd hq_4 => (Zak (js := []) ld cl40 (Zcs k t_1.Past v5 (ifT hv_5 hq_4)) .func (.cons (HasO.cnd (tl hd 6 10) (notT (notF hq_4))) .nil) rfl).post (fun _ => Imp.refl)) ?_
      refine dF 9 4 8 v4 (fun γ => ov (S rB v6)) (fun γ ρ B hb hd hq_5 => Zbc lb (HasO.cnd (tl hd 7 11) (notT (notF hq_5))) hv_6) ?_
      refine dS 10 (fun γ ρ B hb hd => Zao lb (tl hd 4 8) (fun hb6 => .cB) (fun hb6 => (HasO.cnd (tl hd 8 12) (notT hb6))) hv_7) <| dm 11 9 13 ?_
      refine dF 12 10 14 v7 (fun γ => ov (PTR gb_2 (0 + 0))) (fun γ ρ B hb hd hq_7 => Zaa (off := 0) lb Zel (.tmp (hb 1 _ rfl))) ?_
      refine dF 13 10 14 v7 (fun γ => ov (PTR gb_2 ((0 + 0) + 0))) (fun γ ρ B hb hd hq_8 => Zaa (off := 0) lb Zcx (HasO.cnd (tl hd 11 15) (notT (notF hq_8)))) ?_
      refine eF 14 10 14 v7 (fun γ => ov (S (rI .i64) t_1.ID.Region)) (fun γ ρ B hb hd hq_9 => Zan.lk ⟨ρ, (cvar gb_2 Zam t_1) :: B, _⟩ (Zai (j := 0) lb tS3 (HasO.cnd (tl hd 12 16) (notT (notF hq_9))) rfl (Comp.trans (cT (ZaW t_1) rfl) (ZaC t_1.ID) (lE rfl)) rfl rfl)) ?_
      refine dF 15 10 14 v7 (fun γ => ov (S (rI .i64) v8)) (fun γ ρ B hb hd hq_10 => ZaY lb (HasO.cnd (tl hd 13 17) (notT (notF hq_10))) .cI (cs hv_8)) ?_
      refine dF 16 10 14 v7 (fun γ => ov (PTR gb_2 (0 + 4))) (fun γ ρ B hb hd hq_11 => Zaa (off := 4) lb Zfh (.tmp (hb 1 _ rfl))) ?_
      refine dY 17 (fun γ ρ B hb hd => ⟨.yes rfl (ltB rfl) (hl hd 10 14 rfl) hc13, lkB (Zcy lb tr29 (HasO.cnd (tl hd 15 19) (notT hc13)) (HasO.cnd (tl hd 14 18) (notT hc13)) hv_i_9)⟩) <| dY 18 (fun γ ρ B hb hd => ⟨.yes rfl (ltB rfl) (hl hd 10 14 rfl) hc13, Zan.lk ⟨ρ, (cvar gb_2 Zam t_1) :: B, _⟩ (Zai (j := 0) lb tS24 (tl hd 16 20) rfl (Comp.at (cT (ZaZ t_1) rfl) i_9.2 rfl) rfl hv_10)⟩) <| dY 19 (fun γ ρ B hb hd => ⟨.yes rfl (ltB rfl) (hl hd 10 14 rfl) hc13, lkB (Zfb lb (tl hd 17 21) (HasO.cU (x := (1 : UInt64)) rfl (by decide)) (cs hv_11))⟩) <| dY 20 (fun γ ρ B hb hd => ⟨.yes rfl (ltB rfl) (hl hd 10 14 rfl) hc13, lkB (Zaa (off := 0) lb Zel (.tmp (hb 1 _ rfl)))⟩) <| dY 21 (fun γ ρ B hb hd => ⟨.yes rfl (ltB rfl) (hl hd 10 14 rfl) hc13, lkB (Zaa (off := 1) lb ZdA (tl hd 19 23))⟩) ?_
      refine dY 22 (fun γ ρ B hb hd => ⟨.yes rfl (ltB rfl) (hl hd 10 14 rfl) hc13, Zan.lk ⟨ρ, (cvar gb_2 Zam t_1) :: B, _⟩ (Zai (j := 0) lb tS24 (tl hd 20 24) rfl (Comp.trans (cT (ZaW t_1) rfl) (ZaN t_1.ID) (lE rfl)) rfl rfl)⟩) <| dY 23 (fun γ ρ B hb hd => ⟨.yes rfl (ltB rfl) (hl hd 10 14 rfl) hc13, lkB (ZbH lb (tl hd 18 22) (tl hd 21 25) (cs hv_12))⟩) <| dS 24 (fun γ ρ B hb hd => Za6 lb (tl hd 10 14) hc13 (tl hd 22 26)) <| dm 25 23 27 ?_
      refine dF 26 24 28 v12 (fun γ => ov (PTR gb_2 (0 + 2))) (fun γ ρ B hb hd hq_14 => Zaa (off := 2) lb Zhl (.tmp (hb 1 _ rfl))) ?_
      refine eF 27 24 28 v12 (fun γ => ov (S rS t_1.Topic)) (fun γ ρ B hb hd hq_15 => Zan.lk ⟨ρ, (cvar gb_2 Zam t_1) :: B, _⟩ (Zai (j := 0) lb tS9 (HasO.cnd (tl hd 25 29) (notT (notF hq_15))) rfl (cT (Zbk t_1) rfl) rfl rfl)) ?_
      refine dF 28 24 28 v12 (fun γ => ov (S rB v13)) (fun γ ρ B hb hd hq_16 => (Zak (js := []) ld cl72 (ZcS k t_1.Topic v13 (ifT hv_13 hq_16)) .func (.cons (HasO.cnd (tl hd 26 30) (notT (notF hq_16))) .nil) rfl).post (fun _ => Imp.refl)) ?_
      refine dF 29 24 28 v12 (fun γ => ov (S rB v14)) (fun γ ρ B hb hd hq_17 => Zbc lb (HasO.cnd (tl hd 27 31) (notT (notF hq_17))) hv_14) ?_
      refine dS 30 (fun γ ρ B hb hd => Zao lb (tl hd 24 28) (fun hb18 => .cB) (fun hb18 => (HasO.cnd (tl hd 28 32) (notT hb18))) hv_15) <| dm 31 29 33 ?_
      refine dF 32 30 34 v15 (fun γ => ov (PTR gb_2 (0 + 3))) (fun γ ρ B hb hd hq_19 => Zaa (off := 3) lb Zhg (.tmp (hb 1 _ rfl))) ?_
      refine eF 33 30 34 v15 (fun γ => ov (S (rL (rU UInt8)) t_1.Payload)) (fun γ ρ B hb hd hq_20 => Zan.lk ⟨ρ, (cvar gb_2 Zam t_1) :: B, _⟩ (Zai (j := 0) lb tS27 (HasO.cnd (tl hd 31 35) (notT (notF hq_20))) rfl (cT (Za7 t_1) rfl) rfl rfl)) ?_
      refine dF 34 30 34 v15 (fun γ => ov (S (rI .i64) (List.length t_1.Payload : Int))) (fun γ ρ B hb hd hq_21 => ZaE lb tu27 (HasO.cnd (tl hd 32 36) (notT (notF hq_21)))) ?_
      refine dF 35 30 34 v15 (fun γ => ov (S rB v16)) (fun γ ρ B hb hd hq_22 => Zaq lb (HasO.cnd (tl hd 33 37) (notT (notF hq_22))) .cI (cs hv_16)) ?_
      refine dS 36 (fun γ ρ B hb hd => Zao lb (tl hd 30 34) (fun hb23 => .cB) (fun hb23 => (HasO.cnd (tl hd 34 38) (notT hb23))) hv_17) <| dm 37 35 39 ?_
      refine dF 38 36 40 v17 (fun γ => ov (PTR gb_2 (0 + 20))) (fun γ ρ B hb hd hq_24 => Zaa (off := 20) lb ZcR (.tmp (hb 1 _ rfl))) ?_
      refine eF 39 36 40 v17 (fun γ => ov (S (rL Zat) t_1.To)) (fun γ ρ B hb hd hq_25 => Zan.lk ⟨ρ, (cvar gb_2 Zam t_1) :: B, _⟩ (Zai (j := 0) lb tS30 (HasO.cnd (tl hd 37 41) (notT (notF hq_25))) rfl (cT (ZaL t_1) rfl) rfl rfl)) ?_
      refine dF 40 36 40 v17 (fun γ => ov (S (rI .i64) (List.length t_1.To : Int))) (fun γ ρ B hb hd hq_26 => ZaE lb tu30 (HasO.cnd (tl hd 38 42) (notT (notF hq_26)))) ?_
      refine dF 41 36 40 v17 (fun γ => ov (S rB v18)) (fun γ ρ B hb hd hq_27 => Zaq lb (HasO.cnd (tl hd 39 43) (notT (notF hq_27))) .cI (cs hv_18)) ?_
      refine dS 42 (fun γ ρ B hb hd => Zao lb (tl hd 36 40) (fun hb28 => .cB) (fun hb28 => (HasO.cnd (tl hd 40 44) (notT hb28))) hv_19) ?_
      exact ZaG.nil)
     (by decide +kernel) (fun _ => rfl) (fun _ => rfl) (fun _ => rfl) rfl
     (ρ' := fun γ => [(1, ov (PTR gb_2 0)), (45, ov (S rB v19))])
     (X' := fun γ => [cvar gb_2 Zam t_1])
     (fun γ ρ hb hd => (.cons (hb 1 _ rfl) (.cons (hdq hd 41 45 rfl) .nil))) (fun _ => rfl) (fun γ => ?_)
 refine JQ.at ⟨[(1, ov (PTR gb_2 0)), (45, ov (S rB v19))], [cvar gb_2 Zam t_1], []⟩ ?_
 try obtain rfl := so hx1
 exact JQ.join () (Imp.norm (js := [0]) rfl (.cons rfl (.cons rfl .nil)))

theorem Zge (k : Nat) (v1 : (Vector UInt64 16)) (extra_2 : (List Zaf)) (r : Bool) (hm : ref11_Seen k v1 extra_2 = some r) : Sim Tryz.prog 43 [A (rV 16 (rU UInt64)) v1, S (rL Zad) extra_2] [] (γ := Unit) (fun q => []) (fun q => .one (.val (S rB r))) := by
 unfold ref11_Seen at hm
 refine Sim.of Tryz.func43 rfl rfl (lE rfl) (fun e0 w0 => ?_)
 refine JC.at ⟨[(0, ov (A (rV 16 (rU UInt64)) v1)), (1, ov (S (rL Zad) extra_2))], [], []⟩ <| jr <| jx (ZaX lb tR) fun gb_3 => jc (Zab lb .cB) <| jn <| JC.seq <| bI hm fun x_8 hx1 hq1 => JC.seqJ (γ := Unit) (stj := fun _ => ⟨[(1, ov (S (rL Zad) extra_2)), (2, ov (PTR gb_3 0)), (14, ov (S rB x_8))], [cvar gb_3 (rV 16 (rU UInt64)) v1], []⟩) (fun _ => ?_) ?_
 · refine jif tR hq1 (fun hc6 hq1 => ?_) (fun hc6 hq1 => ?_)
   · refine jr <| jc (Zab lb .cB) <| jn <| JC.ret <| JQ.outR ?_
     obtain rfl := so hq1
     exact jd (.val (S rB false)) rfl rfl rfl rfl rfl rfl
   refine JC.skip <| JQ.then <| bI hq1 fun tv7 hx7 hq7 => JC.seqK (α := Unit) (γ := Unit) (stj := fun v q => ⟨[], [], []⟩) (p := fun v => tv7 = (.inl v)) (fun v q hv => ?_) ?_
   · subst hv
     skip
     obtain _ := q
     dsimp only at hq7
     refine JC.at ⟨[], [], []⟩ <| jr <| jc (Zab lb .cB) <| jn <| JC.ret ?_
     obtain rfl := so hq7
     exact jd (.val (S rB true)) rfl rfl rfl rfl rfl rfl
   refine jr <| jc (Zab lb .cI) <| jn <| JC.block <| bI hx7 fun tv8 hL8 hq8 => JC.pre ?_ (JC.loop (γ := Unit) (stf := fun s q => ⟨[(1, ov (S (rL Zad) extra_2)), (2, ov (PTR gb_3 0)), (5, ov (S (rI .i64) s))], [cvar gb_3 (rV 16 (rU UInt64)) v1], []⟩) (q := ()) hL8 ?_)
   · exact (Imp.norm (js := [0]) rfl (.cons rfl (.cons rfl (.cons rfl .nil))))
   intro i_9 q x hx hr
   obtain _ := q
   change ref11_Seen.b1 k extra_2 v1 i_9 = some x at hx
   unfold ref11_Seen.b1 at hx
   refine JC.at ⟨[(1, ov (S (rL Zad) extra_2)), (2, ov (PTR gb_3 0)), (5, ov (S (rI .i64) i_9))], [cvar gb_3 (rV 16 (rU UInt64)) v1], []⟩ <| JC.seq <| jr <| jmv rfl rfl <| jmv rfl rfl <| jc (ZaE lb tu33 tR) <| lI hx fun v10 hv_10 hx => jc (Zaq lb tR tR (cs hv_10)) <| jn <| jif tR hx (fun hc9 hx => ?_) (fun hc9 hx => ?_)
   · refine JC.skip <| JQ.then <| JC.seq <| JC.block <| jr <| jmv rfl rfl <| jmv rfl rfl <| bI hx fun v11 hv_11 hx => jc (Zau lb tu33 tz26 tR tR hv_11) <| jc (ZaR lb tA26 tR rfl) <| jx (Zbh lb tZ26 zr26) fun gb_12 => jc (ZaP (j := 1) tA26 tR tR rfl (UpdR.self (by rfl)) rfl) <| JL.sub ⟨[(1, ov (S (rL Zad) extra_2)), (2, ov (PTR gb_3 0)), (5, ov (S (rI .i64) i_9)), (6, ov (PTR gb_12 0))], [cvar gb_3 (rV 16 (rU UInt64)) v1, cvar gb_12 Zad v11], []⟩ (.cons rfl (.cons rfl (.cons rfl (.cons rfl .nil)))) rfl rfl <| jn ?_
     refine bI hx fun x_27 hx10 hq10 => JC.seqJ (γ := Unit) (stj := fun _ => ⟨[(1, ov (S (rL Zad) extra_2)), (2, ov (PTR gb_3 0)), (5, ov (S (rI .i64) i_9)), (52, ov (S rB x_27))], [cvar gb_3 (rV 16 (rU UInt64)) v1], []⟩) (fun _ => ?_) ?_
     · refine jif tR hq10 (fun hc32 hq10 => ?_) (fun hc32 hq10 => ?_)
       · refine jr <| jc (Zab lb .cB) <| jn <| JC.ret <| JQ.outRB <| JQ.outR ?_
         try obtain rfl := so hq10
         try obtain rfl := hr _ rfl
         dsimp only at hq8
         refine JQ.outR <| JQ.outRB ?_
         try obtain rfl := so hq8
         dsimp only at hq7
         refine JQ.outR ?_
         obtain rfl := so hq7
         exact jd (.val (S rB false)) rfl rfl rfl rfl rfl rfl
       refine JC.skip <| JQ.outNB <| JQ.then <| JC.region <| jmv rfl rfl <| lI hq10 fun v28 hv_28 hq10 => jc (ZaY lb tR .cI (cs hv_28)) <| jc (Zab lb tR) <| JL.nil ?_
       try obtain rfl := so hq10
       exact JQ.next () rfl (Imp.norm (js := [0]) rfl (.cons rfl (.cons rfl (.cons rfl .nil))))
     refine bI hx10 fun v13 hv_13 hx10 => lI hx10 fun v14 hv_14 hx10 => lI hx10 fun v15 hv_15 hx10 => lI hx10 fun v16 hv_16 hx10 => bI hx10 fun v17 hv_17 hx10 => bI hx10 fun v18 hv_18 hx10 => lI hx10 fun v19 hv_19 hx10 => lI hx10 fun v20 hv_20 hx10 => ?_
     obtain ⟨v21, hv_21, hx10⟩ := ZaQ hx10
     obtain ⟨v22, hv_22, hx10⟩ := ZaQ hx10
     rcases ZcG hx10 with ⟨hc31, hx10⟩ | ⟨hc31, hx10⟩
     · refine JC.anyF (base := [(1, ov (S (rL Zad) extra_2)), (2, ov (PTR gb_3 0)), (5, ov (S (rI .i64) i_9)), (6, ov (PTR gb_12 0))])
           (fs := fun γ => [⟨some 25, ov (A Zad v11)⟩, ⟨some 26, ov (S rB v13)⟩, ⟨some 27, ov (S rB v14)⟩, ⟨some 28, ov (S rB v14)⟩, ⟨some 29, bif (!v14) then ov (S (rI .i64) i_9) else .one .und⟩, ⟨some 30, bif (!v14) then ov (S rB v15) else .one .und⟩, ⟨some 31, bif (!v14) then ov (S rB v15) else .one .und⟩, ⟨some 32, bif ((!v14) && v15) then ov (S (rL Zad) extra_2) else .one .und⟩, ⟨some 33, bif ((!v14) && v15) then ov (S (rI .i64) i_9) else .one .und⟩, ⟨some 34, bif ((!v14) && v15) then ov (S (rI .i64) v16) else .one .und⟩, ⟨some 35, bif ((!v14) && v15) then ov (PT Zad v17) else .one .und⟩, ⟨some 36, bif ((!v14) && v15) then ov (A Zad v17) else .one .und⟩, ⟨some 37, bif ((!v14) && v15) then ov (A Zad v11) else .one .und⟩, ⟨some 38, bif ((!v14) && v15) then ov (S rB v18) else .one .und⟩, ⟨some 39, bif ((!v14) && v15) then ov (S rB v19) else .one .und⟩, ⟨some 40, bif (!v14) then ov (S rB v20) else .one .und⟩, ⟨some 41, ov (S rB v21)⟩, ⟨some 42, ov (S rB v21)⟩, ⟨some 43, bif (!v21) then ov (PTR gb_12 (0 + 1)) else .one .und⟩, ⟨some 44, bif (!v21) then ov (S (rU UInt64) v11.Count) else .one .und⟩, ⟨some 45, bif (!v21) then ov (PTR gb_12 (0 + 0)) else .one .und⟩, ⟨some 46, bif (!v21) then ov (S (rI .i64) v11.Region) else .one .und⟩, ⟨some 47, bif (!v21) then ov (S (rI .i64) v22) else .one .und⟩, ⟨some 48, .one .und⟩, ⟨some 49, .one .und⟩, ⟨some 50, .one .und⟩, ⟨some 51, .one .und⟩, ⟨some 52, ov (S rB true)⟩])
           (rs := fun γ => [⟨cvar gb_3 (rV 16 (rU UInt64)) v1, none, none, []⟩, ⟨cvar gb_12 Zad v11, none, none, [0, 12, 19, 21]⟩])
           (afts := nn 28) (js := [0, 0]) ZbT (.cons rfl (.cons rfl (.cons rfl (.cons rfl .nil)))) (fun _ => rfl)
           (by
      refine dR 1 (fun γ ρ B hb hd => Zan.lk ⟨ρ, (cvar gb_12 Zad v11) :: B, _⟩ (Zaw (j := 0) lb tA26 (.tmp (hb 6 _ rfl)) rfl (Comp.self Zad v11) rfl)) <| dS 2 (fun γ ρ B hb hd => (Zak (js := []) ld cl41 (ZbQ k v11 v13 hv_13) .func (.cons (tl hd 0 25) .nil) rfl).post (fun _ => Imp.refl)) <| dS 3 (fun γ ρ B hb hd => Zbc lb (tl hd 1 26) hv_14) <| dm 4 2 27 ?_
      refine dF 5 3 28 v14 (fun γ => ov (S (rI .i64) i_9)) (fun γ ρ B hb hd hq_11 => Zax lb (.tmp (hb 5 _ rfl))) ?_
      refine dF 6 3 28 v14 (fun γ => ov (S rB v15)) (fun γ ρ B hb hd hq_12 => Zaq lb (HasO.cnd (tl hd 4 29) (notT (notF hq_12))) .cI (cs hv_15)) ?_
      refine dF 7 3 28 v14 (fun γ => ov (S rB v15)) (fun γ ρ B hb hd hq_13 => Zax lb (HasO.cnd (tl hd 5 30) (notT (notF hq_13)))) ?_
      refine dA 8 6 31 (!v14) v15 (fun γ => ov (S (rL Zad) extra_2)) (fun γ ρ B hb hd hq_14 => Zax lb (.tmp (hb 1 _ rfl))) ?_
      refine dA 9 6 31 (!v14) v15 (fun γ => ov (S (rI .i64) i_9)) (fun γ ρ B hb hd hq_15 => Zax lb (.tmp (hb 5 _ rfl))) ?_
      refine dA 10 6 31 (!v14) v15 (fun γ => ov (S (rI .i64) v16)) (fun γ ρ B hb hd hq_16 => ZaY lb (HasO.cnd (tl hd 8 33) (andI (notT (notF (andL hq_16))) (andR hq_16))) .cI (cs hv_16)) ?_
      refine dA 11 6 31 (!v14) v15 (fun γ => ov (PT Zad v17)) (fun γ ρ B hb hd hq_17 => Zau lb tu33 tz26 (HasO.cnd (tl hd 7 32) (andI (notT (notF (andL hq_17))) (andR hq_17))) (HasO.cnd (tl hd 9 34) (andI (notT (notF (andL hq_17))) (andR hq_17))) (ifT hv_17 hq_17)) ?_
      refine dA 12 6 31 (!v14) v15 (fun γ => ov (A Zad v17)) (fun γ ρ B hb hd hq_18 => ZaR lb tA26 (HasO.cnd (tl hd 10 35) (andI (notT (notF (andL hq_18))) (andR hq_18))) rfl) ?_
      refine eA 13 6 31 (!v14) v15 (fun γ => ov (A Zad v11)) (fun γ ρ B hb hd hq_19 => Zan.lk ⟨ρ, (cvar gb_12 Zad v11) :: B, _⟩ (Zaw (j := 0) lb tA26 (.tmp (hb 6 _ rfl)) rfl (Comp.self Zad v11) rfl)) ?_
      refine dA 14 6 31 (!v14) v15 (fun γ => ov (S rB v18)) (fun γ ρ B hb hd hq_20 => (Zak (js := []) ld cl42 (Zdb k v17 v11 v18 (ifT hv_18 hq_20)) .func (.cons (HasO.cnd (tl hd 11 36) (andI (notT (notF (andL hq_20))) (andR hq_20))) (.cons (HasO.cnd (tl hd 12 37) (andI (notT (notF (andL hq_20))) (andR hq_20))) .nil)) rfl).post (fun _ => Imp.refl)) ?_
      refine dA 15 6 31 (!v14) v15 (fun γ => ov (S rB v19)) (fun γ ρ B hb hd hq_21 => Zbc lb (HasO.cnd (tl hd 13 38) (andI (notT (notF (andL hq_21))) (andR hq_21))) hv_19) ?_
      refine dF 16 3 28 v14 (fun γ => ov (S rB v20)) (fun γ ρ B hb hd hq_22 => Zao lb (HasO.cnd (tl hd 6 31) (notT (notF hq_22))) (fun hb23 => (HasO.cnd (tl hd 14 39) (andI (notT (notF hq_22)) hb23))) (fun hb23 => .cB) hv_20) ?_
      refine dS 17 (fun γ ρ B hb hd => Zao lb (tl hd 3 28) (fun hb24 => .cB) (fun hb24 => (HasO.cnd (tl hd 15 40) (notT hb24))) hv_21) <| dm 18 16 41 ?_
      refine dF 19 17 42 v21 (fun γ => ov (PTR gb_12 (0 + 1))) (fun γ ρ B hb hd hq_25 => Zaa (off := 1) lb ZdA (.tmp (hb 6 _ rfl))) ?_
      refine eF 20 17 42 v21 (fun γ => ov (S (rU UInt64) v11.Count)) (fun γ ρ B hb hd hq_26 => Zan.lk ⟨ρ, (cvar gb_12 Zad v11) :: B, _⟩ (Zai (j := 0) lb tS24 (HasO.cnd (tl hd 18 43) (notT (notF hq_26))) rfl (cT (ZaN v11) rfl) rfl rfl)) ?_
      refine dF 21 17 42 v21 (fun γ => ov (PTR gb_12 (0 + 0))) (fun γ ρ B hb hd hq_27 => Zaa (off := 0) lb Zcx (.tmp (hb 6 _ rfl))) ?_
      refine eF 22 17 42 v21 (fun γ => ov (S (rI .i64) v11.Region)) (fun γ ρ B hb hd hq_28 => Zan.lk ⟨ρ, (cvar gb_12 Zad v11) :: B, _⟩ (Zai (j := 0) lb tS3 (HasO.cnd (tl hd 20 45) (notT (notF hq_28))) rfl (cT (ZaC v11) rfl) rfl rfl)) ?_
      refine dF 23 17 42 v21 (fun γ => ov (S (rI .i64) v22)) (fun γ ρ B hb hd hq_29 => ZaY lb (HasO.cnd (tl hd 21 46) (notT (notF hq_29))) .cI (cs hv_22)) ?_
      refine kn 24 17 42 rfl hc31 <| kn 25 17 42 rfl hc31 <| kn 26 17 42 rfl hc31 <| kn 27 17 42 rfl hc31 <| dS 28 (fun γ ρ B hb hd => Zb7 lb (tl hd 17 42) hc31 .cB) ?_
      exact ZaG.nil)
           (by decide +kernel) (fun _ => rfl) (fun _ => rfl) (fun _ => rfl) rfl
           (ρ' := fun γ => [(1, ov (S (rL Zad) extra_2)), (2, ov (PTR gb_3 0)), (5, ov (S (rI .i64) i_9)), (52, ov (S rB true))])
           (X' := fun γ => [cvar gb_3 (rV 16 (rU UInt64)) v1, cvar gb_12 Zad v11])
           (fun γ ρ hb hd => (.cons (hb 1 _ rfl) (.cons (hb 2 _ rfl) (.cons (hb 5 _ rfl) (.cons (hdq hd 27 52 rfl) .nil))))) (fun _ => rfl) (fun γ => ?_)
       refine JQ.at ⟨[(1, ov (S (rL Zad) extra_2)), (2, ov (PTR gb_3 0)), (5, ov (S (rI .i64) i_9)), (52, ov (S rB true))], [cvar gb_3 (rV 16 (rU UInt64)) v1, cvar gb_12 Zad v11], []⟩ ?_
       try obtain rfl := so hx10
       exact JQ.join () (Imp.norm (js := [0]) rfl (.cons rfl (.cons rfl (.cons rfl (.cons rfl .nil)))))
     refine bI hx10 fun i_23 hv_i_23 hx10 => lI hx10 fun v24 hv_24 hx10 => lI hx10 fun v25 hv_25 hx10 => ?_
     obtain ⟨v26, hv_26, hx10⟩ := ZaQ hx10
     refine JC.anyF (base := [(1, ov (S (rL Zad) extra_2)), (2, ov (PTR gb_3 0)), (5, ov (S (rI .i64) i_9)), (6, ov (PTR gb_12 0))])
         (fs := fun γ => [⟨some 25, ov (A Zad v11)⟩, ⟨some 26, ov (S rB v13)⟩, ⟨some 27, ov (S rB v14)⟩, ⟨some 28, ov (S rB v14)⟩, ⟨some 29, bif (!v14) then ov (S (rI .i64) i_9) else .one .und⟩, ⟨some 30, bif (!v14) then ov (S rB v15) else .one .und⟩, ⟨some 31, bif (!v14) then ov (S rB v15) else .one .und⟩, ⟨some 32, bif ((!v14) && v15) then ov (S (rL Zad) extra_2) else .one .und⟩, ⟨some 33, bif ((!v14) && v15) then ov (S (rI .i64) i_9) else .one .und⟩, ⟨some 34, bif ((!v14) && v15) then ov (S (rI .i64) v16) else .one .und⟩, ⟨some 35, bif ((!v14) && v15) then ov (PT Zad v17) else .one .und⟩, ⟨some 36, bif ((!v14) && v15) then ov (A Zad v17) else .one .und⟩, ⟨some 37, bif ((!v14) && v15) then ov (A Zad v11) else .one .und⟩, ⟨some 38, bif ((!v14) && v15) then ov (S rB v18) else .one .und⟩, ⟨some 39, bif ((!v14) && v15) then ov (S rB v19) else .one .und⟩, ⟨some 40, bif (!v14) then ov (S rB v20) else .one .und⟩, ⟨some 41, ov (S rB v21)⟩, ⟨some 42, ov (S rB v21)⟩, ⟨some 43, bif (!v21) then ov (PTR gb_12 (0 + 1)) else .one .und⟩, ⟨some 44, bif (!v21) then ov (S (rU UInt64) v11.Count) else .one .und⟩, ⟨some 45, bif (!v21) then ov (PTR gb_12 (0 + 0)) else .one .und⟩, ⟨some 46, bif (!v21) then ov (S (rI .i64) v11.Region) else .one .und⟩, ⟨some 47, bif (!v21) then ov (S (rI .i64) v22) else .one .und⟩, ⟨some 48, ov (PTR gb_3 (0 + i_23.1 * 1))⟩, ⟨some 49, ov (S (rU UInt64) v24)⟩, ⟨some 50, ov (S (rU UInt64) v25)⟩, ⟨some 51, ov (S rB v26)⟩, ⟨some 52, ov (S rB v26)⟩])
         (rs := fun γ => [⟨cvar gb_3 (rV 16 (rU UInt64)) v1, none, none, [24]⟩, ⟨cvar gb_12 Zad v11, none, none, [0, 12, 19, 21]⟩])
         (afts := nn 28) (js := [0, 0]) ZbT (.cons rfl (.cons rfl (.cons rfl (.cons rfl .nil)))) (fun _ => rfl)
         (by
      refine dR 1 (fun γ ρ B hb hd => Zan.lk ⟨ρ, (cvar gb_12 Zad v11) :: B, _⟩ (Zaw (j := 0) lb tA26 (.tmp (hb 6 _ rfl)) rfl (Comp.self Zad v11) rfl)) <| dS 2 (fun γ ρ B hb hd => (Zak (js := []) ld cl41 (ZbQ k v11 v13 hv_13) .func (.cons (tl hd 0 25) .nil) rfl).post (fun _ => Imp.refl)) <| dS 3 (fun γ ρ B hb hd => Zbc lb (tl hd 1 26) hv_14) <| dm 4 2 27 ?_
      refine dF 5 3 28 v14 (fun γ => ov (S (rI .i64) i_9)) (fun γ ρ B hb hd hq_11 => Zax lb (.tmp (hb 5 _ rfl))) ?_
      refine dF 6 3 28 v14 (fun γ => ov (S rB v15)) (fun γ ρ B hb hd hq_12 => Zaq lb (HasO.cnd (tl hd 4 29) (notT (notF hq_12))) .cI (cs hv_15)) ?_
      refine dF 7 3 28 v14 (fun γ => ov (S rB v15)) (fun γ ρ B hb hd hq_13 => Zax lb (HasO.cnd (tl hd 5 30) (notT (notF hq_13)))) ?_
      refine dA 8 6 31 (!v14) v15 (fun γ => ov (S (rL Zad) extra_2)) (fun γ ρ B hb hd hq_14 => Zax lb (.tmp (hb 1 _ rfl))) ?_
      refine dA 9 6 31 (!v14) v15 (fun γ => ov (S (rI .i64) i_9)) (fun γ ρ B hb hd hq_15 => Zax lb (.tmp (hb 5 _ rfl))) ?_
      refine dA 10 6 31 (!v14) v15 (fun γ => ov (S (rI .i64) v16)) (fun γ ρ B hb hd hq_16 => ZaY lb (HasO.cnd (tl hd 8 33) (andI (notT (notF (andL hq_16))) (andR hq_16))) .cI (cs hv_16)) ?_
      refine dA 11 6 31 (!v14) v15 (fun γ => ov (PT Zad v17)) (fun γ ρ B hb hd hq_17 => Zau lb tu33 tz26 (HasO.cnd (tl hd 7 32) (andI (notT (notF (andL hq_17))) (andR hq_17))) (HasO.cnd (tl hd 9 34) (andI (notT (notF (andL hq_17))) (andR hq_17))) (ifT hv_17 hq_17)) ?_
      refine dA 12 6 31 (!v14) v15 (fun γ => ov (A Zad v17)) (fun γ ρ B hb hd hq_18 => ZaR lb tA26 (HasO.cnd (tl hd 10 35) (andI (notT (notF (andL hq_18))) (andR hq_18))) rfl) ?_
      refine eA 13 6 31 (!v14) v15 (fun γ => ov (A Zad v11)) (fun γ ρ B hb hd hq_19 => Zan.lk ⟨ρ, (cvar gb_12 Zad v11) :: B, _⟩ (Zaw (j := 0) lb tA26 (.tmp (hb 6 _ rfl)) rfl (Comp.self Zad v11) rfl)) ?_
      refine dA 14 6 31 (!v14) v15 (fun γ => ov (S rB v18)) (fun γ ρ B hb hd hq_20 => (Zak (js := []) ld cl42 (Zdb k v17 v11 v18 (ifT hv_18 hq_20)) .func (.cons (HasO.cnd (tl hd 11 36) (andI (notT (notF (andL hq_20))) (andR hq_20))) (.cons (HasO.cnd (tl hd 12 37) (andI (notT (notF (andL hq_20))) (andR hq_20))) .nil)) rfl).post (fun _ => Imp.refl)) ?_
      refine dA 15 6 31 (!v14) v15 (fun γ => ov (S rB v19)) (fun γ ρ B hb hd hq_21 => Zbc lb (HasO.cnd (tl hd 13 38) (andI (notT (notF (andL hq_21))) (andR hq_21))) hv_19) ?_
      refine dF 16 3 28 v14 (fun γ => ov (S rB v20)) (fun γ ρ B hb hd hq_22 => Zao lb (HasO.cnd (tl hd 6 31) (notT (notF hq_22))) (fun hb23 => (HasO.cnd (tl hd 14 39) (andI (notT (notF hq_22)) hb23))) (fun hb23 => .cB) hv_20) ?_
      refine dS 17 (fun γ ρ B hb hd => Zao lb (tl hd 3 28) (fun hb24 => .cB) (fun hb24 => (HasO.cnd (tl hd 15 40) (notT hb24))) hv_21) <| dm 18 16 41 ?_
      refine dF 19 17 42 v21 (fun γ => ov (PTR gb_12 (0 + 1))) (fun γ ρ B hb hd hq_25 => Zaa (off := 1) lb ZdA (.tmp (hb 6 _ rfl))) ?_
      refine eF 20 17 42 v21 (fun γ => ov (S (rU UInt64) v11.Count)) (fun γ ρ B hb hd hq_26 => Zan.lk ⟨ρ, (cvar gb_12 Zad v11) :: B, _⟩ (Zai (j := 0) lb tS24 (HasO.cnd (tl hd 18 43) (notT (notF hq_26))) rfl (cT (ZaN v11) rfl) rfl rfl)) ?_
      refine dF 21 17 42 v21 (fun γ => ov (PTR gb_12 (0 + 0))) (fun γ ρ B hb hd hq_27 => Zaa (off := 0) lb Zcx (.tmp (hb 6 _ rfl))) ?_
      refine eF 22 17 42 v21 (fun γ => ov (S (rI .i64) v11.Region)) (fun γ ρ B hb hd hq_28 => Zan.lk ⟨ρ, (cvar gb_12 Zad v11) :: B, _⟩ (Zai (j := 0) lb tS3 (HasO.cnd (tl hd 20 45) (notT (notF hq_28))) rfl (cT (ZaC v11) rfl) rfl rfl)) ?_
      refine dF 23 17 42 v21 (fun γ => ov (S (rI .i64) v22)) (fun γ ρ B hb hd hq_29 => ZaY lb (HasO.cnd (tl hd 21 46) (notT (notF hq_29))) .cI (cs hv_22)) ?_
      refine dY 24 (fun γ ρ B hb hd => ⟨.yes rfl (ltB rfl) (hl hd 17 42 rfl) hc31, lkB (Zcy lb tr29 (.tmp (hb 2 _ rfl)) (HasO.cnd (tl hd 22 47) (notT hc31)) hv_i_23)⟩) <| dY 25 (fun γ ρ B hb hd => ⟨.yes rfl (ltB rfl) (hl hd 17 42 rfl) hc31, Zan.lk ⟨ρ, (cvar gb_3 (rV 16 (rU UInt64)) v1) :: B, _⟩ (Zai (j := 0) lb tS24 (tl hd 23 48) rfl (Comp.at (Comp.self (rV 16 (rU UInt64)) v1) i_23.2 rfl) rfl hv_24)⟩) <| dY 26 (fun γ ρ B hb hd => ⟨.yes rfl (ltB rfl) (hl hd 17 42 rfl) hc31, lkB (Zfb lb (tl hd 24 49) (HasO.cU (x := (1 : UInt64)) rfl (by decide)) (cs hv_25))⟩) <| dY 27 (fun γ ρ B hb hd => ⟨.yes rfl (ltB rfl) (hl hd 17 42 rfl) hc31, lkB (ZbH lb (HasO.cnd (tl hd 19 44) (notT hc31)) (tl hd 25 50) (cs hv_26))⟩) <| dS 28 (fun γ ρ B hb hd => Za6 lb (tl hd 17 42) hc31 (tl hd 26 51)) ?_
      exact ZaG.nil)
         (by decide +kernel) (fun _ => rfl) (fun _ => rfl) (fun _ => rfl) rfl
         (ρ' := fun γ => [(1, ov (S (rL Zad) extra_2)), (2, ov (PTR gb_3 0)), (5, ov (S (rI .i64) i_9)), (52, ov (S rB v26))])
         (X' := fun γ => [cvar gb_3 (rV 16 (rU UInt64)) v1, cvar gb_12 Zad v11])
         (fun γ ρ hb hd => (.cons (hb 1 _ rfl) (.cons (hb 2 _ rfl) (.cons (hb 5 _ rfl) (.cons (hdq hd 27 52 rfl) .nil))))) (fun _ => rfl) (fun γ => ?_)
     refine JQ.at ⟨[(1, ov (S (rL Zad) extra_2)), (2, ov (PTR gb_3 0)), (5, ov (S (rI .i64) i_9)), (52, ov (S rB v26))], [cvar gb_3 (rV 16 (rU UInt64)) v1, cvar gb_12 Zad v11], []⟩ ?_
     try obtain rfl := so hx10
     exact JQ.join () (Imp.norm (js := [0]) rfl (.cons rfl (.cons rfl (.cons rfl (.cons rfl .nil)))))
   refine JC.exit <| JQ.outX ?_
   try obtain rfl := so hx
   try obtain rfl := hr _ rfl
   dsimp only at hq8
   refine JQ.outX <| JQ.here ?_
   try obtain rfl := so hq8
   exact JQ.joinK () () rfl (Imp.norm (js := []) rfl .nil)
 refine JC.region <| jc (Zaw (j := 0) lb tA29 tR rfl (Comp.self (rV 16 (rU UInt64)) v1) rfl) <| bI hx1 fun v4 hv_4 hx1 => jx (Zak (js := []) ld cl40 (Zcs k v1 v4 hv_4) .func (.cons tR .nil) rfl) fun _ => lI hx1 fun v5 hv_5 hx1 => jc (Zbc lb tR hv_5) <| jmv rfl rfl <| jF (ov (S (rL Zad) extra_2)) rfl rfl rfl rfl (fun hq_2 => Zax lb tR) <| jF (ov (S (rI .i64) (List.length extra_2 : Int))) rfl rfl rfl rfl (fun hq_3 => ZaE lb tu33 (HasO.cnd tR (notT (notF hq_3)))) <| lI hx1 fun v6 hv_6 hx1 => jF (ov (S rB v6)) rfl rfl rfl rfl (fun hq_4 => Zaq lb (HasO.cnd tR (notT (notF hq_4))) .cI (cs hv_6)) ?_
 refine lI hx1 fun v7 hv_7 hx1 => jc (Zao lb tR (fun hb5 => .cB) (fun hb5 => (HasO.cnd tR (notT hb5))) hv_7) <| JL.sub ⟨[(1, ov (S (rL Zad) extra_2)), (2, ov (PTR gb_3 0)), (14, ov (S rB v7))], [cvar gb_3 (rV 16 (rU UInt64)) v1], []⟩ (.cons rfl (.cons rfl (.cons rfl .nil))) rfl rfl <| JL.nil ?_
 try obtain rfl := so hx1
 exact JQ.join () (Imp.norm (js := [0]) rfl (.cons rfl (.cons rfl (.cons rfl .nil))))

theorem Zf4 (k : Nat) (t_1 : Zah) (r : Bool) (hm : ref11_mayBuckets k t_1 = some r) : Sim Tryz.prog 44 [A Zae t_1] [] (γ := Unit) (fun q => []) (fun q => .one (.val (S rB r))) := by
 unfold ref11_mayBuckets at hm
 refine Sim.of Tryz.func44 rfl rfl (lE rfl) (fun e0 w0 => ?_)
 refine JC.at ⟨[(0, ov (A Zae t_1))], [], []⟩ <| jr <| jx (ZaX lb tR) fun gb_2 => jc (Zab lb .cB) <| jn <| bI hm fun tv1 hx1 hq1 => JC.seqK (α := Unit) (γ := Unit) (stj := fun v q => ⟨[(1, ov (PTR gb_2 0))], [cvar gb_2 Zae t_1], []⟩) (p := fun v => tv1 = (.inl v)) (fun v q hv => ?_) ?_
 · subst hv
   skip
   obtain _ := q
   dsimp only at hq1
   refine JC.at ⟨[(1, ov (PTR gb_2 0))], [cvar gb_2 Zae t_1], []⟩ <| bI hq1 fun tv31 hx31 hq31 => JC.seqK (α := Unit) (γ := Unit) (stj := fun v q => ⟨[(1, ov (PTR gb_2 0))], [cvar gb_2 Zae t_1], []⟩) (p := fun v => tv31 = (.inl v)) (fun v q hv => ?_) ?_
   · subst hv
     skip
     obtain _ := q
     dsimp only at hq31
     refine JC.at ⟨[(1, ov (PTR gb_2 0))], [cvar gb_2 Zae t_1], []⟩ <| bI hq31 fun x_32 hx35 hq35 => JC.seqJ (γ := Unit) (stj := fun _ => ⟨[(2, ov (S rB x_32))], [], []⟩) (fun _ => ?_) ?_
     · refine JC.ret ?_
       obtain rfl := so hq35
       exact jd (.val (S rB x_32)) rfl rfl rfl rfl rfl rfl
     refine JC.region <| jc (Zaa (off := 92) lb ZcE tR) <| jc (Zai (j := 0) lb tS37 tR rfl (cT (ZaJ t_1) rfl) rfl rfl) <| jc (ZaE lb tu37 tR) <| lI hx35 fun v27 hv_27 hx35 => jc (Zaq lb tR .cI (cs hv_27)) <| jmv rfl rfl <| jT (ov (PTR gb_2 (0 + 3))) rfl rfl rfl rfl (fun hq_36 => Zaa (off := 3) lb ZcK tR) <| jT (ov (S (rL Zaj) t_1.Items)) rfl rfl rfl rfl (fun hq_37 => Zai (j := 0) lb tS23 (HasO.cnd tR hq_37) rfl (cT (ZaH t_1) rfl) rfl rfl) <| bI hx35 fun v28 hv_28 hx35 => jT (ov (S rB v28)) rfl rfl rfl rfl (fun hq_38 => (Zak (js := []) ld cl38 (ZeF k t_1.Items v28 (ifT hv_28 hq_38)) .func (.cons (HasO.cnd tR hq_38) .nil) rfl).post (fun _ => Imp.refl)) <| lI hx35 fun v29 hv_29 hx35 => jc (Zao lb tR (fun hb39 => (HasO.cnd tR hb39)) (fun hb39 => .cB) hv_29) <| jmv rfl rfl ?_
     refine jT (ov (PTR gb_2 (0 + 41))) rfl rfl rfl rfl (fun hq_40 => Zaa (off := 41) lb Ze8 tR) <| jT (ov (A (rV 16 (rU UInt64)) t_1.Seen)) rfl rfl rfl rfl (fun hq_41 => Zaw (j := 0) lb tA29 (HasO.cnd tR hq_41) rfl (cT (Zbf t_1) rfl) rfl) <| JL.sub ⟨[(1, ov (PTR gb_2 0)), (75, ov (S rB v29)), (77, bif v29 then ov (A (rV 16 (rU UInt64)) t_1.Seen) else .one .und)], [cvar gb_2 Zae t_1], []⟩ (.cons rfl (.cons rfl (.cons rfl .nil))) rfl rfl <| jT (ov (PTR gb_2 (0 + 57))) rfl rfl rfl rfl (fun hq_42 => Zaa (off := 57) lb ZeH tR) <| jT (ov (S (rL Zad) t_1.Extra)) rfl rfl rfl rfl (fun hq_43 => Zai (j := 0) lb tS33 (HasO.cnd tR hq_43) rfl (cT (Za3 t_1) rfl) rfl rfl) <| bI hx35 fun v30 hv_30 hx35 => jT (ov (S rB v30)) rfl rfl rfl rfl (fun hq_44 => (Zak (js := []) ld cl43 (Zge k t_1.Seen t_1.Extra v30 (ifT hv_30 hq_44)) .func (.cons (HasO.cnd tR hq_44) (.cons (HasO.cnd tR hq_44) .nil)) rfl).post (fun _ => Imp.refl)) <| lI hx35 fun v31 hv_31 hx35 => jc (Zao lb tR (fun hb45 => (HasO.cnd tR hb45)) (fun hb45 => .cB) hv_31) <| jc (Zab lb tR) <| JL.nil ?_
     try obtain rfl := so hx35
     exact jo rfl rfl rfl
   refine jr <| jc (Zab lb .cI) <| jn <| JC.block <| bI hx31 fun tv32 hL32 hq32 => JC.pre ?_ (JC.loop (γ := Unit) (stf := fun s q => ⟨[(1, ov (PTR gb_2 0)), (4, ov (S (rI .i64) s))], [cvar gb_2 Zae t_1], []⟩) (q := ()) hL32 ?_)
   · exact (Imp.norm (js := [0]) rfl (.cons rfl (.cons rfl .nil)))
   intro x_19 q x hx hr
   obtain _ := q
   change ref11_mayBuckets.b2 k t_1 x_19 = some x at hx
   unfold ref11_mayBuckets.b2 at hx
   refine JC.at ⟨[(1, ov (PTR gb_2 0)), (4, ov (S (rI .i64) x_19))], [cvar gb_2 Zae t_1], []⟩ <| JC.seq <| jr <| jmv rfl rfl <| jc (Zaa (off := 3) lb ZcK tR) <| jc (Zai (j := 0) lb tS23 tR rfl (cT (ZaH t_1) rfl) rfl rfl) <| jc (ZaE lb tu23 tR) <| lI hx fun v20 hv_20 hx => jc (Zaq lb tR tR (cs hv_20)) <| jn <| jif tR hx (fun hc33 hx => ?_) (fun hc33 hx => ?_)
   · refine JC.skip <| JQ.then <| JC.seq <| JC.block <| JC.seq <| lI hx fun v21 hv_21 hx => bI hx fun v22 hv_22 hx => bI hx fun v23 hv_23 hx => bI hx fun v24 hv_24 hx => ?_
     obtain ⟨v25, hv_25, hx⟩ := ZaQ hx
     refine JC.anyF (base := [(1, ov (PTR gb_2 0)), (4, ov (S (rI .i64) x_19))])
         (fs := fun γ => [⟨some 51, ov (PTR gb_2 (0 + 3))⟩, ⟨some 52, ov (S (rL Zaj) t_1.Items)⟩, ⟨some 53, ov (S (rI .i64) x_19)⟩, ⟨some 54, ov (S (rI .i64) v21)⟩, ⟨some 55, ov (PT Zaj v22)⟩, ⟨some 56, ov (PT Zad v22.Dot)⟩, ⟨some 57, ov (A Zad v22.Dot)⟩, ⟨some 58, ov (PTR gb_2 (0 + 3))⟩, ⟨some 59, ov (S (rL Zaj) t_1.Items)⟩, ⟨some 60, ov (S (rI .i64) x_19)⟩, ⟨some 61, ov (PT Zaj v23)⟩, ⟨some 62, ov (PT Zad v23.Dot)⟩, ⟨some 63, ov (A Zad v23.Dot)⟩, ⟨some 64, ov (S rB v24)⟩, ⟨some 65, ov (S rB v25)⟩])
         (rs := fun γ => [⟨cvar gb_2 Zae t_1, none, none, [1, 8]⟩])
         (afts := nn 15) (js := [0]) ZbT (.cons rfl (.cons rfl .nil)) (fun _ => rfl)
         (by
      refine dS 1 (fun γ ρ B hb hd => Zaa (off := 3) lb ZcK (.tmp (hb 1 _ rfl))) <| dR 2 (fun γ ρ B hb hd => Zan.lk ⟨ρ, (cvar gb_2 Zae t_1) :: B, _⟩ (Zai (j := 0) lb tS23 (tl hd 0 51) rfl (cT (ZaH t_1) rfl) rfl rfl)) <| db 3 4 <| dS 4 (fun γ ρ B hb hd => ZaY lb (tl hd 2 53) .cI (cs hv_21)) <| dS 5 (fun γ ρ B hb hd => Zau lb tu23 tz62 (tl hd 1 52) (tl hd 3 54) hv_22) ?_
      refine dS 6 (fun γ ρ B hb hd => Zbm lb Zhi (tl hd 4 55) (ZbA v22)) <| dS 7 (fun γ ρ B hb hd => ZaR lb tA26 (tl hd 5 56) rfl) <| dS 8 (fun γ ρ B hb hd => Zaa (off := 3) lb ZcK (.tmp (hb 1 _ rfl))) <| dR 9 (fun γ ρ B hb hd => Zan.lk ⟨ρ, (cvar gb_2 Zae t_1) :: B, _⟩ (Zai (j := 0) lb tS23 (tl hd 7 58) rfl (cT (ZaH t_1) rfl) rfl rfl)) <| db 10 4 ?_
      refine dS 11 (fun γ ρ B hb hd => Zau lb tu23 tz62 (tl hd 8 59) (tl hd 9 60) hv_23) <| dS 12 (fun γ ρ B hb hd => Zbm lb Zhi (tl hd 10 61) (ZbA v23)) <| dS 13 (fun γ ρ B hb hd => ZaR lb tA26 (tl hd 11 62) rfl) <| dS 14 (fun γ ρ B hb hd => (Zak (js := []) ld cl42 (Zdb k v22.Dot v23.Dot v24 hv_24) .func (.cons (tl hd 6 57) (.cons (tl hd 12 63) .nil)) rfl).post (fun _ => Imp.refl)) <| dS 15 (fun γ ρ B hb hd => Zbc lb (tl hd 13 64) hv_25) ?_
      exact ZaG.nil)
         (by decide +kernel) (fun _ => rfl) (fun _ => rfl) (fun _ => rfl) rfl
         (ρ' := fun γ => [(1, ov (PTR gb_2 0)), (4, ov (S (rI .i64) x_19)), (65, ov (S rB v25))])
         (X' := fun γ => [cvar gb_2 Zae t_1])
         (fun γ ρ hb hd => (.cons (hb 1 _ rfl) (.cons (hb 4 _ rfl) (.cons (hdq hd 14 65 rfl) .nil)))) (fun _ => rfl) (fun γ => ?_)
     refine JQ.at ⟨[(1, ov (PTR gb_2 0)), (4, ov (S (rI .i64) x_19)), (65, ov (S rB v25))], [cvar gb_2 Zae t_1], []⟩ <| JQ.then <| jif tR hx (fun hc34 hx => ?_) (fun hc34 hx => ?_)
     · refine jr <| jc (Zab lb .cB) <| jn <| JC.ret <| JQ.outRB <| JQ.outR ?_
       try obtain rfl := so hx
       try obtain rfl := hr _ rfl
       dsimp only at hq32
       refine JQ.outR <| JQ.outRB ?_
       try obtain rfl := so hq32
       dsimp only at hq31
       refine JQ.outR ?_
       obtain rfl := so hq31
       exact jd (.val (S rB false)) rfl rfl rfl rfl rfl rfl
     refine JC.skip <| JQ.outNB <| JQ.then <| JC.region <| jmv rfl rfl <| lI hx fun v26 hv_26 hx => jc (ZaY lb tR .cI (cs hv_26)) <| jc (Zab lb tR) <| JL.nil ?_
     try obtain rfl := so hx
     exact JQ.next () rfl (Imp.norm (js := [0]) rfl (.cons rfl (.cons rfl .nil)))
   refine JC.exit <| JQ.outX ?_
   try obtain rfl := so hx
   try obtain rfl := hr _ rfl
   dsimp only at hq32
   refine JQ.outX <| JQ.here ?_
   try obtain rfl := so hq32
   exact JQ.joinK () () rfl (Imp.norm (js := [0]) rfl (.cons rfl .nil))
 refine jr <| jc (Zab lb .cI) <| jn <| JC.block <| bI hx1 fun tv2 hL2 hq2 => JC.pre ?_ (JC.loop (γ := Unit) (stf := fun s q => ⟨[(1, ov (PTR gb_2 0)), (3, ov (S (rI .i64) s))], [cvar gb_2 Zae t_1], []⟩) (q := ()) hL2 ?_)
 · exact (Imp.norm (js := [0]) rfl (.cons rfl (.cons rfl .nil)))
 intro x_3 q x hx hr
 obtain _ := q
 change ref11_mayBuckets.b1 k t_1 x_3 = some x at hx
 unfold ref11_mayBuckets.b1 at hx
 refine JC.at ⟨[(1, ov (PTR gb_2 0)), (3, ov (S (rI .i64) x_3))], [cvar gb_2 Zae t_1], []⟩ <| JC.seq <| jr <| jmv rfl rfl <| jc (Zaa (off := 92) lb ZcE tR) <| jc (Zai (j := 0) lb tS37 tR rfl (cT (ZaJ t_1) rfl) rfl rfl) <| jc (ZaE lb tu37 tR) <| lI hx fun v4 hv_4 hx => jc (Zaq lb tR tR (cs hv_4)) <| jn <| jif tR hx (fun hc3 hx => ?_) (fun hc3 hx => ?_)
 · refine JC.skip <| JQ.then <| JC.seq <| JC.block <| bI hx fun x_17 hx4 hq4 => JC.seqJ (γ := Unit) (stj := fun _ => ⟨[(1, ov (PTR gb_2 0)), (3, ov (S (rI .i64) x_3)), (43, ov (S rB x_17))], [cvar gb_2 Zae t_1], []⟩) (fun _ => ?_) ?_
   · refine jif tR hq4 (fun hc30 hq4 => ?_) (fun hc30 hq4 => ?_)
     · refine jr <| jc (Zab lb .cB) <| jn <| JC.ret <| JQ.outRB <| JQ.outR ?_
       try obtain rfl := so hq4
       try obtain rfl := hr _ rfl
       dsimp only at hq2
       refine JQ.outR <| JQ.outRB ?_
       try obtain rfl := so hq2
       dsimp only at hq1
       refine JQ.outR ?_
       obtain rfl := so hq1
       exact jd (.val (S rB false)) rfl rfl rfl rfl rfl rfl
     refine JC.skip <| JQ.outNB <| JQ.then <| JC.region <| jmv rfl rfl <| lI hq4 fun v18 hv_18 hq4 => jc (ZaY lb tR .cI (cs hv_18)) <| jc (Zab lb tR) <| JL.nil ?_
     try obtain rfl := so hq4
     exact JQ.next () rfl (Imp.norm (js := [0]) rfl (.cons rfl (.cons rfl .nil)))
   refine bI hx4 fun v5 hv_5 hx4 => lI hx4 fun v6 hv_6 hx4 => bI hx4 fun v7 hv_7 hx4 => lI hx4 fun v8 hv_8 hx4 => lI hx4 fun v9 hv_9 hx4 => lI hx4 fun v10 hv_10 hx4 => bI hx4 fun v11 hv_11 hx4 => lI hx4 fun v12 hv_12 hx4 => ?_
   obtain ⟨v13, hv_13, hx4⟩ := Zay hx4
   refine lI hx4 fun v14 hv_14 hx4 => lI hx4 fun v15 hv_15 hx4 => ?_
   obtain ⟨v16, hv_16, hx4⟩ := ZaQ hx4
   refine JC.anyF (base := [(1, ov (PTR gb_2 0)), (3, ov (S (rI .i64) x_3))])
       (fs := fun γ => [⟨some 12, ov (PTR gb_2 (0 + 92))⟩, ⟨some 13, ov (S (rL (rI .i64)) t_1.Buckets)⟩, ⟨some 14, ov (S (rI .i64) x_3)⟩, ⟨some 15, ov (PT (rI .i64) v5)⟩, ⟨some 16, ov (S (rI .i64) v5)⟩, ⟨some 17, ov (S rB v6)⟩, ⟨some 18, ov (S rB v6)⟩, ⟨some 19, bif (!v6) then ov (PTR gb_2 (0 + 92)) else .one .und⟩, ⟨some 20, bif (!v6) then ov (S (rL (rI .i64)) t_1.Buckets) else .one .und⟩, ⟨some 21, bif (!v6) then ov (S (rI .i64) x_3) else .one .und⟩, ⟨some 22, bif (!v6) then ov (PT (rI .i64) v7) else .one .und⟩, ⟨some 23, bif (!v6) then ov (S (rI .i64) v7) else .one .und⟩, ⟨some 24, bif (!v6) then ov (S rB v8) else .one .und⟩, ⟨some 25, ov (S rB v9)⟩, ⟨some 26, ov (S rB v9)⟩, ⟨some 27, bif (!v9) then ov (S (rI .i64) x_3) else .one .und⟩, ⟨some 28, bif (!v9) then ov (S rB v10) else .one .und⟩, ⟨some 29, bif (!v9) then ov (S rB v10) else .one .und⟩, ⟨some 30, bif ((!v9) && v10) then ov (PTR gb_2 (0 + 92)) else .one .und⟩, ⟨some 31, bif ((!v9) && v10) then ov (S (rL (rI .i64)) t_1.Buckets) else .one .und⟩, ⟨some 32, bif ((!v9) && v10) then ov (S (rI .i64) x_3) else .one .und⟩, ⟨some 33, bif ((!v9) && v10) then ov (PT (rI .i64) v11) else .one .und⟩, ⟨some 34, bif ((!v9) && v10) then ov (S (rI .i64) v11) else .one .und⟩, ⟨some 35, bif ((!v9) && v10) then ov (PTR gb_2 (0 + 92)) else .one .und⟩, ⟨some 36, bif ((!v9) && v10) then ov (S (rL (rI .i64)) t_1.Buckets) else .one .und⟩, ⟨some 37, bif ((!v9) && v10) then ov (S (rI .i64) x_3) else .one .und⟩, ⟨some 38, bif ((!v9) && v10) then ov (S (rI .i64) v12) else .one .und⟩, ⟨some 39, bif ((!v9) && v10) then ov (PT (rI .i64) v13) else .one .und⟩, ⟨some 40, bif ((!v9) && v10) then ov (S (rI .i64) v13) else .one .und⟩, ⟨some 41, bif ((!v9) && v10) then ov (S rB v14) else .one .und⟩, ⟨some 42, bif (!v9) then ov (S rB v15) else .one .und⟩, ⟨some 43, ov (S rB v16)⟩])
       (rs := fun γ => [⟨cvar gb_2 Zae t_1, none, none, [1, 8, 19, 24]⟩])
       (afts := nn 32) (js := [0]) ZbT (.cons rfl (.cons rfl .nil)) (fun _ => rfl)
       (by
      refine dS 1 (fun γ ρ B hb hd => Zaa (off := 92) lb ZcE (.tmp (hb 1 _ rfl))) <| dR 2 (fun γ ρ B hb hd => Zan.lk ⟨ρ, (cvar gb_2 Zae t_1) :: B, _⟩ (Zai (j := 0) lb tS37 (tl hd 0 12) rfl (cT (ZaJ t_1) rfl) rfl rfl)) <| db 3 3 <| dS 4 (fun γ ρ B hb hd => Zau lb tu37 tz3 (tl hd 1 13) (tl hd 2 14) hv_5) <| dS 5 (fun γ ρ B hb hd => Zbe lb tS3 rfl (tl hd 3 15) rfl) ?_
      refine dS 6 (fun γ ρ B hb hd => Zaq lb (tl hd 4 16) .cI (cs hv_6)) <| dm 7 5 17 ?_
      refine dF 8 6 18 v6 (fun γ => ov (PTR gb_2 (0 + 92))) (fun γ ρ B hb hd hq_5 => Zaa (off := 92) lb ZcE (.tmp (hb 1 _ rfl))) ?_
      refine eF 9 6 18 v6 (fun γ => ov (S (rL (rI .i64)) t_1.Buckets)) (fun γ ρ B hb hd hq_6 => Zan.lk ⟨ρ, (cvar gb_2 Zae t_1) :: B, _⟩ (Zai (j := 0) lb tS37 (HasO.cnd (tl hd 7 19) (notT (notF hq_6))) rfl (cT (ZaJ t_1) rfl) rfl rfl)) ?_
      refine dF 10 6 18 v6 (fun γ => ov (S (rI .i64) x_3)) (fun γ ρ B hb hd hq_7 => Zax lb (.tmp (hb 3 _ rfl))) ?_
      refine dF 11 6 18 v6 (fun γ => ov (PT (rI .i64) v7)) (fun γ ρ B hb hd hq_8 => Zau lb tu37 tz3 (HasO.cnd (tl hd 8 20) (notT (notF hq_8))) (HasO.cnd (tl hd 9 21) (notT (notF hq_8))) (ifT hv_7 hq_8)) ?_
      refine dF 12 6 18 v6 (fun γ => ov (S (rI .i64) v7)) (fun γ ρ B hb hd hq_9 => Zbe lb tS3 rfl (HasO.cnd (tl hd 10 22) (notT (notF hq_9))) rfl) ?_
      refine dF 13 6 18 v6 (fun γ => ov (S rB v8)) (fun γ ρ B hb hd hq_10 => Zaq lb (HasO.cnd (tl hd 11 23) (notT (notF hq_10))) .cI (cs hv_8)) ?_
      refine dS 14 (fun γ ρ B hb hd => Zao lb (tl hd 6 18) (fun hb11 => .cB) (fun hb11 => (HasO.cnd (tl hd 12 24) (notT hb11))) hv_9) <| dm 15 13 25 ?_
      refine dF 16 14 26 v9 (fun γ => ov (S (rI .i64) x_3)) (fun γ ρ B hb hd hq_12 => Zax lb (.tmp (hb 3 _ rfl))) ?_
      refine dF 17 14 26 v9 (fun γ => ov (S rB v10)) (fun γ ρ B hb hd hq_13 => Zaq lb (HasO.cnd (tl hd 15 27) (notT (notF hq_13))) .cI (cs hv_10)) ?_
      refine dF 18 14 26 v9 (fun γ => ov (S rB v10)) (fun γ ρ B hb hd hq_14 => Zax lb (HasO.cnd (tl hd 16 28) (notT (notF hq_14)))) ?_
      refine dA 19 17 29 (!v9) v10 (fun γ => ov (PTR gb_2 (0 + 92))) (fun γ ρ B hb hd hq_15 => Zaa (off := 92) lb ZcE (.tmp (hb 1 _ rfl))) ?_
      refine eA 20 17 29 (!v9) v10 (fun γ => ov (S (rL (rI .i64)) t_1.Buckets)) (fun γ ρ B hb hd hq_16 => Zan.lk ⟨ρ, (cvar gb_2 Zae t_1) :: B, _⟩ (Zai (j := 0) lb tS37 (HasO.cnd (tl hd 18 30) (andI (notT (notF (andL hq_16))) (andR hq_16))) rfl (cT (ZaJ t_1) rfl) rfl rfl)) ?_
      refine dA 21 17 29 (!v9) v10 (fun γ => ov (S (rI .i64) x_3)) (fun γ ρ B hb hd hq_17 => Zax lb (.tmp (hb 3 _ rfl))) ?_
      refine dA 22 17 29 (!v9) v10 (fun γ => ov (PT (rI .i64) v11)) (fun γ ρ B hb hd hq_18 => Zau lb tu37 tz3 (HasO.cnd (tl hd 19 31) (andI (notT (notF (andL hq_18))) (andR hq_18))) (HasO.cnd (tl hd 20 32) (andI (notT (notF (andL hq_18))) (andR hq_18))) (ifT hv_11 hq_18)) ?_
      refine dA 23 17 29 (!v9) v10 (fun γ => ov (S (rI .i64) v11)) (fun γ ρ B hb hd hq_19 => Zbe lb tS3 rfl (HasO.cnd (tl hd 21 33) (andI (notT (notF (andL hq_19))) (andR hq_19))) rfl) ?_
      refine dA 24 17 29 (!v9) v10 (fun γ => ov (PTR gb_2 (0 + 92))) (fun γ ρ B hb hd hq_20 => Zaa (off := 92) lb ZcE (.tmp (hb 1 _ rfl))) ?_
      refine eA 25 17 29 (!v9) v10 (fun γ => ov (S (rL (rI .i64)) t_1.Buckets)) (fun γ ρ B hb hd hq_21 => Zan.lk ⟨ρ, (cvar gb_2 Zae t_1) :: B, _⟩ (Zai (j := 0) lb tS37 (HasO.cnd (tl hd 23 35) (andI (notT (notF (andL hq_21))) (andR hq_21))) rfl (cT (ZaJ t_1) rfl) rfl rfl)) ?_
      refine dA 26 17 29 (!v9) v10 (fun γ => ov (S (rI .i64) x_3)) (fun γ ρ B hb hd hq_22 => Zax lb (.tmp (hb 3 _ rfl))) ?_
      refine dA 27 17 29 (!v9) v10 (fun γ => ov (S (rI .i64) v12)) (fun γ ρ B hb hd hq_23 => ZaY lb (HasO.cnd (tl hd 25 37) (andI (notT (notF (andL hq_23))) (andR hq_23))) .cI (cs hv_12)) ?_
      refine dA 28 17 29 (!v9) v10 (fun γ => ov (PT (rI .i64) v13)) (fun γ ρ B hb hd hq_24 => Zau lb tu37 tz3 (HasO.cnd (tl hd 24 36) (andI (notT (notF (andL hq_24))) (andR hq_24))) (HasO.cnd (tl hd 26 38) (andI (notT (notF (andL hq_24))) (andR hq_24))) (ifT hv_13 hq_24)) ?_
      refine dA 29 17 29 (!v9) v10 (fun γ => ov (S (rI .i64) v13)) (fun γ ρ B hb hd hq_25 => Zbe lb tS3 rfl (HasO.cnd (tl hd 27 39) (andI (notT (notF (andL hq_25))) (andR hq_25))) rfl) ?_
      refine dA 30 17 29 (!v9) v10 (fun γ => ov (S rB v14)) (fun γ ρ B hb hd hq_26 => Zaq lb (HasO.cnd (tl hd 22 34) (andI (notT (notF (andL hq_26))) (andR hq_26))) (HasO.cnd (tl hd 28 40) (andI (notT (notF (andL hq_26))) (andR hq_26))) (cs hv_14)) ?_
      refine dF 31 14 26 v9 (fun γ => ov (S rB v15)) (fun γ ρ B hb hd hq_27 => Zao lb (HasO.cnd (tl hd 17 29) (notT (notF hq_27))) (fun hb28 => (HasO.cnd (tl hd 29 41) (andI (notT (notF hq_27)) hb28))) (fun hb28 => .cB) hv_15) ?_
      refine dS 32 (fun γ ρ B hb hd => Zao lb (tl hd 14 26) (fun hb29 => .cB) (fun hb29 => (HasO.cnd (tl hd 30 42) (notT hb29))) hv_16) ?_
      exact ZaG.nil)
       (by decide +kernel) (fun _ => rfl) (fun _ => rfl) (fun _ => rfl) rfl
       (ρ' := fun γ => [(1, ov (PTR gb_2 0)), (3, ov (S (rI .i64) x_3)), (43, ov (S rB v16))])
       (X' := fun γ => [cvar gb_2 Zae t_1])
       (fun γ ρ hb hd => (.cons (hb 1 _ rfl) (.cons (hb 3 _ rfl) (.cons (hdq hd 31 43 rfl) .nil)))) (fun _ => rfl) (fun γ => ?_)
   refine JQ.at ⟨[(1, ov (PTR gb_2 0)), (3, ov (S (rI .i64) x_3)), (43, ov (S rB v16))], [cvar gb_2 Zae t_1], []⟩ ?_
   try obtain rfl := so hx4
   exact JQ.join () (Imp.norm (js := [0]) rfl (.cons rfl (.cons rfl (.cons rfl .nil))))
 refine JC.exit <| JQ.outX ?_
 try obtain rfl := so hx
 try obtain rfl := hr _ rfl
 dsimp only at hq2
 refine JQ.outX <| JQ.here ?_
 try obtain rfl := so hq2
 exact JQ.joinK () () rfl (Imp.norm (js := [0]) rfl (.cons rfl .nil))

end Go.Proofs.YtklnihlchhhhlaaGreat
