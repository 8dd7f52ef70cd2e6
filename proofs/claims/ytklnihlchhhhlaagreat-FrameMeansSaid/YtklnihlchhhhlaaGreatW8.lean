/- Walks. -/
import Derived.Test.YtklnihlchhhhlaaGreatT
import Derived.Test.YtklnihlchhhhlaaGreatW0
import Derived.Test.YtklnihlchhhhlaaGreatW4
import Derived.Test.YtklnihlchhhhlaaGreatW7
namespace Go.Proofs.YtklnihlchhhhlaaGreat
open Go Fw
set_option linter.unusedVariables false
set_option maxRecDepth 100000
set_option maxHeartbeats 4000000

theorem Zil (k : Nat) (t1 : Zai) (a2 : Zai) (r : Bool) (hm : ref11_Same k t1 a2 = some r) : Sim Tryz.prog 17 [A Zad t1, A Zad a2] [] (γ := Unit) (fun q => []) (fun q => .one (.val (S rB r))) := by
 unfold ref11_Same at hm
 refine Sim.of Tryz.func17 rfl rfl (lE rfl) (fun e0 w0 => ?_)
 refine JC.at ⟨[(0, ov (A Zad t1)), (1, ov (A Zad a2))], [], []⟩ <| jr <| jx (ZaZ lb tR) fun gb3 => jx (ZaZ lb tR) fun gb4 => jc (Zac lb .cB) <| jn <| JC.seq <| bI hm fun x8 hx1 hq1 => JC.seqJ (γ := Unit) (stj := fun _ => ⟨[(2, ov (PTR gb3 0)), (3, ov (PTR gb4 0)), (22, ov (S rB x8))], [cvar gb3 Zad t1, cvar gb4 Zad a2], []⟩) (fun _ => ?_) ?_
 · refine jif tR hq1 (fun hc10 hq1 => ?_) (fun hc10 hq1 => ?_)
   · refine jr <| jc (Zac lb .cB) <| jn <| JC.ret <| JQ.outR ?_
     obtain rfl := so hq1
     exact jd (.val (S rB false)) rfl rfl rfl rfl rfl rfl
   refine JC.skip <| JQ.then <| bI hq1 fun tv11 hx11 hq11 => JC.seqK (α := Unit) (γ := Unit) (stj := fun v q => ⟨[(2, ov (PTR gb3 0)), (3, ov (PTR gb4 0))], [cvar gb3 Zad t1, cvar gb4 Zad a2], []⟩) (p := fun v => tv11 = (.inl v)) (fun v q hv => ?_) ?_
   · subst hv
     skip
     obtain _ := q
     dsimp only at hq11
     refine JC.at ⟨[(2, ov (PTR gb3 0)), (3, ov (PTR gb4 0))], [cvar gb3 Zad t1, cvar gb4 Zad a2], []⟩ <| bI hq11 fun tv15 hx15 hq15 => JC.seqK (α := Unit) (γ := Unit) (stj := fun v q => ⟨[(2, ov (PTR gb3 0)), (3, ov (PTR gb4 0))], [cvar gb3 Zad t1, cvar gb4 Zad a2], []⟩) (p := fun v => tv15 = (.inl v)) (fun v q hv => ?_) ?_
     · subst hv
       skip
       obtain _ := q
       dsimp only at hq15
       refine JC.at ⟨[(2, ov (PTR gb3 0)), (3, ov (PTR gb4 0))], [cvar gb3 Zad t1, cvar gb4 Zad a2], []⟩ <| bI hq15 fun x42 hx19 hq19 => JC.seqJ (γ := Unit) (stj := fun _ => ⟨[(4, ov (S rB x42))], [], []⟩) (fun _ => ?_) ?_
       · refine JC.ret ?_
         obtain rfl := so hq19
         exact jd (.val (S rB x42)) rfl rfl rfl rfl rfl rfl
       refine JC.region ?_
       dsimp only [List.append]
       refine jc (Zaa (off := 0) lb Zgg tR) <| jc (Zam (j := 0) lb tS22 tR rfl (cT (Za4 t1) rfl) rfl rfl) <| jc (Zaa (off := 0) lb Zgg tR) <| jc (Zam (j := 1) lb tS22 tR rfl (cT (Za4 a2) rfl) rfl rfl) <| lI hx19 fun v21 hv21 hx19 => jc (Zar lb tR tR (cs hv21)) <| jmv rfl rfl <| jT (ov (PTR gb3 (0 + 1))) rfl rfl rfl rfl (fun hq20 => Zaa (off := 1) lb ZgR tR) <| jT (ov (S (rI .i64) t1.From)) rfl rfl rfl rfl (fun hq21 => Zam (j := 0) lb tS3 (HasO.cnd tR hq21) rfl (cT (Zba t1) rfl) rfl rfl) <| jT (ov (PTR gb4 (0 + 1))) rfl rfl rfl rfl (fun hq22 => Zaa (off := 1) lb ZgR tR) <| jT (ov (S (rI .i64) a2.From)) rfl rfl rfl rfl (fun hq23 => Zam (j := 1) lb tS3 (HasO.cnd tR hq23) rfl (cT (Zba a2) rfl) rfl rfl) <| lI hx19 fun v22 hv22 hx19 => jT (ov (S rB v22)) rfl rfl rfl rfl (fun hq24 => Zar lb (HasO.cnd tR hq24) (HasO.cnd tR hq24) (cs hv22)) ?_
       refine lI hx19 fun v23 hv23 hx19 => jc (Zas lb tR (fun hb25 => (HasO.cnd tR hb25)) (fun hb25 => .cB) hv23) <| JL.sub ⟨[(2, ov (PTR gb3 0)), (3, ov (PTR gb4 0)), (70, ov (S rB v23))], [cvar gb3 Zad t1, cvar gb4 Zad a2], []⟩ (.cons rfl (.cons rfl (.cons rfl .nil))) rfl rfl <| jmv rfl rfl <| jT (ov (PTR gb3 (0 + 2))) rfl rfl rfl rfl (fun hq_26 => Zaa (off := 2) lb ZgC tR) <| jT (ov (S (rI .i64) t1.To)) rfl rfl rfl rfl (fun hq27 => Zam (j := 0) lb tS3 (HasO.cnd tR hq27) rfl (cT (Zbt t1) rfl) rfl rfl) <| jT (ov (PTR gb4 (0 + 2))) rfl rfl rfl rfl (fun hq_28 => Zaa (off := 2) lb ZgC tR) <| jT (ov (S (rI .i64) a2.To)) rfl rfl rfl rfl (fun hq_29 => Zam (j := 1) lb tS3 (HasO.cnd tR hq_29) rfl (cT (Zbt a2) rfl) rfl rfl) ?_
       obtain ⟨v24, hv24, hx19⟩ := ZaT hx19
       refine jT (ov (S rB v24)) rfl rfl rfl rfl (fun hq30 => Zar lb (HasO.cnd tR hq30) (HasO.cnd tR hq30) (cs hv24)) <| lI hx19 fun v25 hv25 hx19 => jc (Zas lb tR (fun hb31 => (HasO.cnd tR hb31)) (fun hb31 => .cB) hv25) <| jmv rfl rfl <| jT (ov (PTR gb3 (0 + 25))) rfl rfl rfl rfl (fun hq32 => Zaa (off := 25) lb Zg3 tR) <| jT (ov (A (rV 16 (rU UInt64)) t1.Past)) rfl rfl rfl rfl (fun hq33 => ZaB (j := 0) lb tA29 (HasO.cnd tR hq33) rfl (cT (ZbG t1) rfl) rfl) <| jT (ov (PTR gb4 (0 + 25))) rfl rfl rfl rfl (fun hq_34 => Zaa (off := 25) lb Zg3 tR) <| jT (ov (A (rV 16 (rU UInt64)) a2.Past)) rfl rfl rfl rfl (fun hq35 => ZaB (j := 1) lb tA29 (HasO.cnd tR hq35) rfl (cT (ZbG a2) rfl) rfl) <| JL.sub ⟨[(2, ov (PTR gb3 0)), (3, ov (PTR gb4 0)), (78, ov (S rB v25)), (80, bif v25 then ov (A (rV 16 (rU UInt64)) t1.Past) else .one .und), (82, bif v25 then ov (A (rV 16 (rU UInt64)) a2.Past) else .one .und)], [cvar gb3 Zad t1, cvar gb4 Zad a2], []⟩ (.cons rfl (.cons rfl (.cons rfl (.cons rfl (.cons rfl .nil))))) rfl rfl ?_
       obtain ⟨v26, hv26, hx19⟩ := ZaT hx19
       refine jT (ov (S rB v26)) rfl rfl rfl rfl (fun hq36 => ZgE lb qa29 (by decide) ng29 (HasO.cnd tR hq36) (HasO.cnd tR hq36) hv26) <| lI hx19 fun v27 hv27 hx19 => jc (Zas lb tR (fun hb37 => (HasO.cnd tR hb37)) (fun hb37 => .cB) hv27) <| jmv rfl rfl <| jT (ov (PTR gb3 (0 + 41))) rfl rfl rfl rfl (fun hq38 => Zaa (off := 41) lb Zfw tR) <| jT (ov (A (rV 16 (rU UInt64)) t1.Seen)) rfl rfl rfl rfl (fun hq39 => ZaB (j := 0) lb tA29 (HasO.cnd tR hq39) rfl (cT (Zbn t1) rfl) rfl) <| jT (ov (PTR gb4 (0 + 41))) rfl rfl rfl rfl (fun hq40 => Zaa (off := 41) lb Zfw tR) <| jT (ov (A (rV 16 (rU UInt64)) a2.Seen)) rfl rfl rfl rfl (fun hq41 => ZaB (j := 1) lb tA29 (HasO.cnd tR hq41) rfl (cT (Zbn a2) rfl) rfl) <| lI hx19 fun v28 hv28 hx19 => jT (ov (S rB v28)) rfl rfl rfl rfl (fun hq42 => ZgE lb qa29 (by decide) ng29 (HasO.cnd tR hq42) (HasO.cnd tR hq42) hv28) ?_
       refine lI hx19 fun v29 hv29 hx19 => jc (Zas lb tR (fun hb43 => (HasO.cnd tR hb43)) (fun hb43 => .cB) hv29) <| jmv rfl rfl <| jT (ov (PTR gb3 (0 + 59))) rfl rfl rfl rfl (fun hq44 => Zaa (off := 59) lb Zhn tR) <| jT (ov (A (rV 32 (rU UInt8)) t1.Hash)) rfl rfl rfl rfl (fun hq45 => ZaB (j := 0) lb tA35 (HasO.cnd tR hq45) rfl (cT (ZbS t1) rfl) rfl) <| JL.sub ⟨[(2, ov (PTR gb3 0)), (3, ov (PTR gb4 0)), (92, ov (S rB v29)), (94, bif v29 then ov (A (rV 32 (rU UInt8)) t1.Hash) else .one .und)], [cvar gb3 Zad t1, cvar gb4 Zad a2], []⟩ (.cons rfl (.cons rfl (.cons rfl (.cons rfl .nil)))) rfl rfl <| jT (ov (PTR gb4 (0 + 59))) rfl rfl rfl rfl (fun hq46 => Zaa (off := 59) lb Zhn tR) <| jT (ov (A (rV 32 (rU UInt8)) a2.Hash)) rfl rfl rfl rfl (fun hq47 => ZaB (j := 1) lb tA35 (HasO.cnd tR hq47) rfl (cT (ZbS a2) rfl) rfl) <| lI hx19 fun v30 hv30 hx19 => jT (ov (S rB v30)) rfl rfl rfl rfl (fun hq48 => ZgE lb qa35 (by decide) ng35 (HasO.cnd tR hq48) (HasO.cnd tR hq48) hv30) ?_
       refine lI hx19 fun v31 hv31 hx19 => jc (Zas lb tR (fun hb49 => (HasO.cnd tR hb49)) (fun hb49 => .cB) hv31) <| jmv rfl rfl <| jT (ov (PTR gb3 (0 + 93))) rfl rfl rfl rfl (fun hq50 => Zaa (off := 93) lb ZfN tR) <| jT (ov (S rB t1.Reply)) rfl rfl rfl rfl (fun hq51 => Zam (j := 0) lb tS4 (HasO.cnd tR hq51) rfl (cT (ZbO t1) rfl) rfl rfl) <| jT (ov (PTR gb4 (0 + 93))) rfl rfl rfl rfl (fun hq52 => Zaa (off := 93) lb ZfN tR) <| jT (ov (S rB a2.Reply)) rfl rfl rfl rfl (fun hq53 => Zam (j := 1) lb tS4 (HasO.cnd tR hq53) rfl (cT (ZbO a2) rfl) rfl rfl) <| lI hx19 fun v32 hv32 hx19 => jT (ov (S rB v32)) rfl rfl rfl rfl (fun hq54 => ZmP lb tu4 (HasO.cnd tR hq54) (HasO.cnd tR hq54) hv32) ?_
       obtain ⟨v33, hv33, hx19⟩ := ZaT hx19
       refine jc (Zas lb tR (fun hb55 => (HasO.cnd tR hb55)) (fun hb55 => .cB) hv33) <| jmv rfl rfl <| JL.sub ⟨[(2, ov (PTR gb3 0)), (3, ov (PTR gb4 0)), (106, ov (S rB v33))], [cvar gb3 Zad t1, cvar gb4 Zad a2], []⟩ (.cons rfl (.cons rfl (.cons rfl .nil))) rfl rfl <| jT (ov (PTR gb3 (0 + 3))) rfl rfl rfl rfl (fun hq56 => Zaa (off := 3) lb ZdJ tR) <| jT (ov (S (rL Zaj) t1.Items)) rfl rfl rfl rfl (fun hq57 => Zam (j := 0) lb tS23 (HasO.cnd tR hq57) rfl (cT (ZaO t1) rfl) rfl rfl) <| jT (ov (PTR gb4 (0 + 3))) rfl rfl rfl rfl (fun hq58 => Zaa (off := 3) lb ZdJ tR) <| jT (ov (S (rL Zaj) a2.Items)) rfl rfl rfl rfl (fun hq59 => Zam (j := 1) lb tS23 (HasO.cnd tR hq59) rfl (cT (ZaO a2) rfl) rfl rfl) <| bI hx19 fun v34 hv34 hx19 => jT (ov (S rB v34)) rfl rfl rfl rfl (fun hq60 => (Zak (js := []) ld cl63 (Zgr k t1.Items a2.Items v34 (ifT hv34 hq60)) .func (.cons (HasO.cnd tR hq60) (.cons (HasO.cnd tR hq60) .nil)) rfl).post (fun _ => Imp.refl)) ?_
       obtain ⟨v35, hv35, hx19⟩ := ZaT hx19
       refine jc (Zas lb tR (fun hb61 => (HasO.cnd tR hb61)) (fun hb61 => .cB) hv35) <| jmv rfl rfl <| jT (ov (PTR gb3 (0 + 57))) rfl rfl rfl rfl (fun hq62 => Zaa (off := 57) lb Ze1 tR) <| jT (ov (S (rL Zae) t1.Extra)) rfl rfl rfl rfl (fun hq63 => Zam (j := 0) lb tS33 (HasO.cnd tR hq63) rfl (cT (Za7 t1) rfl) rfl rfl) <| jT (ov (PTR gb4 (0 + 57))) rfl rfl rfl rfl (fun hq64 => Zaa (off := 57) lb Ze1 tR) <| jT (ov (S (rL Zae) a2.Extra)) rfl rfl rfl rfl (fun hq65 => Zam (j := 1) lb tS33 (HasO.cnd tR hq65) rfl (cT (Za7 a2) rfl) rfl rfl) <| bI hx19 fun v36 hv36 hx19 => jT (ov (S rB v36)) rfl rfl rfl rfl (fun hq66 => (Zak (js := []) ld cl64 (ZeF k t1.Extra a2.Extra v36 (ifT hv36 hq66)) .func (.cons (HasO.cnd tR hq66) (.cons (HasO.cnd tR hq66) .nil)) rfl).post (fun _ => Imp.refl)) <| JL.sub ⟨[(2, ov (PTR gb3 0)), (3, ov (PTR gb4 0)), (113, ov (S rB v35)), (118, bif v35 then ov (S rB v36) else .one .und)], [cvar gb3 Zad t1, cvar gb4 Zad a2], []⟩ (.cons rfl (.cons rfl (.cons rfl (.cons rfl .nil)))) rfl rfl ?_
       obtain ⟨v37, hv37, hx19⟩ := ZaT hx19
       refine jc (Zas lb tR (fun hb67 => (HasO.cnd tR hb67)) (fun hb67 => .cB) hv37) <| jmv rfl rfl <| jT (ov (PTR gb3 (0 + 58))) rfl rfl rfl rfl (fun hq68 => Zaa (off := 58) lb Zfr tR) <| jT (ov (S (rL Zae) t1.Live)) rfl rfl rfl rfl (fun hq69 => Zam (j := 0) lb tS33 (HasO.cnd tR hq69) rfl (cT (Za5 t1) rfl) rfl rfl) <| jT (ov (PTR gb4 (0 + 58))) rfl rfl rfl rfl (fun hq70 => Zaa (off := 58) lb Zfr tR) <| jT (ov (S (rL Zae) a2.Live)) rfl rfl rfl rfl (fun hq71 => Zam (j := 1) lb tS33 (HasO.cnd tR hq71) rfl (cT (Za5 a2) rfl) rfl rfl) <| bI hx19 fun v38 hv38 hx19 => jT (ov (S rB v38)) rfl rfl rfl rfl (fun hq72 => (Zak (js := []) ld cl64 (ZeF k t1.Live a2.Live v38 (ifT hv38 hq72)) .func (.cons (HasO.cnd tR hq72) (.cons (HasO.cnd tR hq72) .nil)) rfl).post (fun _ => Imp.refl)) <| lI hx19 fun v39 hv39 hx19 => jc (Zas lb tR (fun hb73 => (HasO.cnd tR hb73)) (fun hb73 => .cB) hv39) <| jmv rfl rfl ?_
       refine jT (ov (PTR gb3 (0 + 4))) rfl rfl rfl rfl (fun hq74 => Zaa (off := 4) lb Zgi tR) <| jT (ov (A Zan t1.Event)) rfl rfl rfl rfl (fun hq75 => ZaB (j := 0) lb tA32 (HasO.cnd tR hq75) rfl (cT (Zbf t1) rfl) rfl) <| jT (ov (PTR gb4 (0 + 4))) rfl rfl rfl rfl (fun hq76 => Zaa (off := 4) lb Zgi tR) <| JL.nrm ⟨[(127, ov (S rB v39)), (129, bif v39 then ov (A Zan t1.Event) else .one .und), (130, bif v39 then ov (PTR gb4 (0 + 4)) else .one .und)], [cvar gb4 Zad a2], []⟩ [1] rfl (.cons rfl (.cons rfl (.cons rfl .nil))) rfl <| jT (ov (A Zan a2.Event)) rfl rfl rfl rfl (fun hq77 => ZaB (j := 0) lb tA32 (HasO.cnd tR hq77) rfl (cT (Zbf a2) rfl) rfl) <| bI hx19 fun v40 hv40 hx19 => jT (ov (S rB v40)) rfl rfl rfl rfl (fun hq78 => (Zak (js := []) ld cl65 (Zii k t1.Event a2.Event v40 (ifT hv40 hq78)) .func (.cons (HasO.cnd tR hq78) (.cons (HasO.cnd tR hq78) .nil)) rfl).post (fun _ => Imp.refl)) <| lI hx19 fun v41 hv41 hx19 => jc (Zas lb tR (fun hb79 => (HasO.cnd tR hb79)) (fun hb79 => .cB) hv41) <| jc (Zac lb tR) <| JL.nil ?_
       try obtain rfl := so hx19
       exact jo rfl rfl rfl
     refine jr <| jc (Zac lb .cI) <| jn <| JC.block <| bI hx15 fun tv16 hL16 hq16 => JC.pre ?_ (JC.loop (γ := Unit) (stf := fun s q => ⟨[(2, ov (PTR gb3 0)), (3, ov (PTR gb4 0)), (6, ov (S (rI .i64) s))], [cvar gb3 Zad t1, cvar gb4 Zad a2], []⟩) (q := ()) hL16 ?_)
     · exact (Imp.norm (js := [0, 0]) rfl (.cons rfl (.cons rfl (.cons rfl .nil))))
     intro x15 q x hx hr
     obtain _ := q
     change ref11_Same.b2 k t1 a2 x15 = some x at hx
     unfold ref11_Same.b2 at hx
     refine JC.at ⟨[(2, ov (PTR gb3 0)), (3, ov (PTR gb4 0)), (6, ov (S (rI .i64) x15))], [cvar gb3 Zad t1, cvar gb4 Zad a2], []⟩ <| JC.seq <| jr <| jmv rfl rfl <| jc (Zaa (off := 92) lb Zdj tR) <| jc (Zam (j := 0) lb tS37 tR rfl (cT (ZaL t1) rfl) rfl rfl) <| jc (ZaI lb tu37 tR) <| lI hx fun v16 hv16 hx => jc (Zar lb tR tR (cs hv16)) <| jn <| jif tR hx (fun hc17 hx => ?_) (fun hc17 hx => ?_)
     · refine JC.skip <| JQ.then <| JC.seq <| JC.block <| JC.seq <| bI hx fun v17 hv17 hx => bI hx fun v18 hv18 hx => ?_
       obtain ⟨v19, hv19, hx⟩ := ZaT hx
       refine JC.anyF (base := [(2, ov (PTR gb3 0)), (3, ov (PTR gb4 0)), (6, ov (S (rI .i64) x15))])
           (fs := fun γ => [⟨some 48, ov (PTR gb3 (0 + 92))⟩, ⟨some 49, ov (S (rL (rI .i64)) t1.Buckets)⟩, ⟨some 50, ov (S (rI .i64) x15)⟩, ⟨some 51, ov (PT (rI .i64) v17)⟩, ⟨some 52, ov (S (rI .i64) v17)⟩, ⟨some 53, ov (PTR gb4 (0 + 92))⟩, ⟨some 54, ov (S (rL (rI .i64)) a2.Buckets)⟩, ⟨some 55, ov (S (rI .i64) x15)⟩, ⟨some 56, ov (PT (rI .i64) v18)⟩, ⟨some 57, ov (S (rI .i64) v18)⟩, ⟨some 58, ov (S rB v19)⟩])
           (rs := fun γ => [⟨cvar gb3 Zad t1, none, none, [1]⟩, ⟨cvar gb4 Zad a2, none, none, [6]⟩])
           (afts := nn 11) (js := [0, 0]) Zcj (.cons rfl (.cons rfl (.cons rfl .nil))) (fun _ => rfl)
           (by
      refine dS 1 (fun γ ρ B hb hd => Zaa (off := 92) lb Zdj (.tmp (hb 2 _ rfl))) <| dR 2 (fun γ ρ B hb hd => Zao.lk ⟨ρ, (cvar gb3 Zad t1) :: B, _⟩ (Zam (j := 0) lb tS37 (tl hd 0 48) rfl (cT (ZaL t1) rfl) rfl rfl)) <| db 3 6 <| dS 4 (fun γ ρ B hb hd => Zau lb tu37 tz3 (tl hd 1 49) (tl hd 2 50) hv17) <| dS 5 (fun γ ρ B hb hd => Zbr lb tS3 rfl (tl hd 3 51) rfl) ?_
      refine dS 6 (fun γ ρ B hb hd => Zaa (off := 92) lb Zdj (.tmp (hb 3 _ rfl))) <| dR 7 (fun γ ρ B hb hd => Zao.lk ⟨ρ, (cvar gb4 Zad a2) :: B, _⟩ (Zam (j := 0) lb tS37 (tl hd 5 53) rfl (cT (ZaL a2) rfl) rfl rfl)) <| db 8 6 <| dS 9 (fun γ ρ B hb hd => Zau lb tu37 tz3 (tl hd 6 54) (tl hd 7 55) hv18) <| dS 10 (fun γ ρ B hb hd => Zbr lb tS3 rfl (tl hd 8 56) rfl) ?_
      refine dS 11 (fun γ ρ B hb hd => Zar lb (tl hd 4 52) (tl hd 9 57) (cs hv19)) ?_
      exact ZaF.nil)
           (by decide +kernel) (fun _ => rfl) (fun _ => rfl) (fun _ => rfl) rfl
           (ρ' := fun γ => [(2, ov (PTR gb3 0)), (3, ov (PTR gb4 0)), (6, ov (S (rI .i64) x15)), (58, ov (S rB v19))])
           (X' := fun γ => [cvar gb3 Zad t1, cvar gb4 Zad a2])
           (fun γ ρ hb hd => (.cons (hb 2 _ rfl) (.cons (hb 3 _ rfl) (.cons (hb 6 _ rfl) (.cons (hdq hd 10 58 rfl) .nil))))) (fun _ => rfl) (fun γ => ?_)
       refine JQ.at ⟨[(2, ov (PTR gb3 0)), (3, ov (PTR gb4 0)), (6, ov (S (rI .i64) x15)), (58, ov (S rB v19))], [cvar gb3 Zad t1, cvar gb4 Zad a2], []⟩ <| JQ.then <| jif tR hx (fun hc18 hx => ?_) (fun hc18 hx => ?_)
       · refine jr <| jc (Zac lb .cB) <| jn <| JC.ret <| JQ.outRB <| JQ.outR ?_
         try obtain rfl := so hx
         try obtain rfl := hr _ rfl
         dsimp only at hq16
         refine JQ.outR <| JQ.outRB ?_
         try obtain rfl := so hq16
         dsimp only at hq15
         refine JQ.outR ?_
         obtain rfl := so hq15
         exact jd (.val (S rB false)) rfl rfl rfl rfl rfl rfl
       refine JC.skip <| JQ.outNB <| JQ.then <| JC.region <| jmv rfl rfl <| lI hx fun v20 hv20 hx => jc (ZaX lb tR .cI (cs hv20)) <| jc (Zac lb tR) <| JL.nil ?_
       try obtain rfl := so hx
       exact JQ.next () rfl (Imp.norm (js := [0, 0]) rfl (.cons rfl (.cons rfl (.cons rfl .nil))))
     refine JC.exit <| JQ.outX ?_
     try obtain rfl := so hx
     try obtain rfl := hr _ rfl
     dsimp only at hq16
     refine JQ.outX <| JQ.here ?_
     try obtain rfl := so hq16
     exact JQ.joinK () () rfl (Imp.norm (js := [0, 0]) rfl (.cons rfl (.cons rfl .nil)))
   refine jr <| jc (Zac lb .cI) <| jn <| JC.block <| bI hx11 fun tv12 hL12 hq12 => JC.pre ?_ (JC.loop (γ := Unit) (stf := fun s q => ⟨[(2, ov (PTR gb3 0)), (3, ov (PTR gb4 0)), (5, ov (S (rI .i64) s))], [cvar gb3 Zad t1, cvar gb4 Zad a2], []⟩) (q := ()) hL12 ?_)
   · exact (Imp.norm (js := [0, 0]) rfl (.cons rfl (.cons rfl (.cons rfl .nil))))
   intro x9 q x hx hr
   obtain _ := q
   change ref11_Same.b1 k t1 a2 x9 = some x at hx
   unfold ref11_Same.b1 at hx
   refine JC.at ⟨[(2, ov (PTR gb3 0)), (3, ov (PTR gb4 0)), (5, ov (S (rI .i64) x9))], [cvar gb3 Zad t1, cvar gb4 Zad a2], []⟩ <| JC.seq <| jr <| jmv rfl rfl <| jc (Zaa (off := 91) lb ZdM tR) <| jc (Zam (j := 0) lb tS36 tR rfl (cT (ZaU t1) rfl) rfl rfl) <| jc (ZaI lb tu36 tR) <| lI hx fun v10 hv10 hx => jc (Zar lb tR tR (cs hv10)) <| jn <| jif tR hx (fun hc13 hx => ?_) (fun hc13 hx => ?_)
   · refine JC.skip <| JQ.then <| JC.seq <| JC.block <| JC.seq <| bI hx fun v11 hv11 hx => bI hx fun v12 hv12 hx => ?_
     obtain ⟨v13, hv13, hx⟩ := ZaT hx
     refine JC.anyF (base := [(2, ov (PTR gb3 0)), (3, ov (PTR gb4 0)), (5, ov (S (rI .i64) x9))])
         (fs := fun γ => [⟨some 30, ov (PTR gb3 (0 + 91))⟩, ⟨some 31, ov (S (rL (rV 32 (rU UInt8))) t1.Leaves)⟩, ⟨some 32, ov (S (rI .i64) x9)⟩, ⟨some 33, ov (PT (rV 32 (rU UInt8)) v11)⟩, ⟨some 34, ov (A (rV 32 (rU UInt8)) v11)⟩, ⟨some 35, ov (PTR gb4 (0 + 91))⟩, ⟨some 36, ov (S (rL (rV 32 (rU UInt8))) a2.Leaves)⟩, ⟨some 37, ov (S (rI .i64) x9)⟩, ⟨some 38, ov (PT (rV 32 (rU UInt8)) v12)⟩, ⟨some 39, ov (A (rV 32 (rU UInt8)) v12)⟩, ⟨some 40, ov (S rB v13)⟩])
         (rs := fun γ => [⟨cvar gb3 Zad t1, none, none, [1]⟩, ⟨cvar gb4 Zad a2, none, none, [6]⟩])
         (afts := nn 11) (js := [0, 0]) Zcj (.cons rfl (.cons rfl (.cons rfl .nil))) (fun _ => rfl)
         (by
      refine dS 1 (fun γ ρ B hb hd => Zaa (off := 91) lb ZdM (.tmp (hb 2 _ rfl))) <| dR 2 (fun γ ρ B hb hd => Zao.lk ⟨ρ, (cvar gb3 Zad t1) :: B, _⟩ (Zam (j := 0) lb tS36 (tl hd 0 30) rfl (cT (ZaU t1) rfl) rfl rfl)) <| db 3 5 <| dS 4 (fun γ ρ B hb hd => Zau lb tu36 tz35 (tl hd 1 31) (tl hd 2 32) hv11) <| dS 5 (fun γ ρ B hb hd => ZaS lb tA35 (tl hd 3 33) rfl) ?_
      refine dS 6 (fun γ ρ B hb hd => Zaa (off := 91) lb ZdM (.tmp (hb 3 _ rfl))) <| dR 7 (fun γ ρ B hb hd => Zao.lk ⟨ρ, (cvar gb4 Zad a2) :: B, _⟩ (Zam (j := 0) lb tS36 (tl hd 5 35) rfl (cT (ZaU a2) rfl) rfl rfl)) <| db 8 5 <| dS 9 (fun γ ρ B hb hd => Zau lb tu36 tz35 (tl hd 6 36) (tl hd 7 37) hv12) <| dS 10 (fun γ ρ B hb hd => ZaS lb tA35 (tl hd 8 38) rfl) ?_
      refine dS 11 (fun γ ρ B hb hd => Zgj lb qa35 (by decide) ng35 (tl hd 4 34) (tl hd 9 39) hv13) ?_
      exact ZaF.nil)
         (by decide +kernel) (fun _ => rfl) (fun _ => rfl) (fun _ => rfl) rfl
         (ρ' := fun γ => [(2, ov (PTR gb3 0)), (3, ov (PTR gb4 0)), (5, ov (S (rI .i64) x9)), (40, ov (S rB v13))])
         (X' := fun γ => [cvar gb3 Zad t1, cvar gb4 Zad a2])
         (fun γ ρ hb hd => (.cons (hb 2 _ rfl) (.cons (hb 3 _ rfl) (.cons (hb 5 _ rfl) (.cons (hdq hd 10 40 rfl) .nil))))) (fun _ => rfl) (fun γ => ?_)
     refine JQ.at ⟨[(2, ov (PTR gb3 0)), (3, ov (PTR gb4 0)), (5, ov (S (rI .i64) x9)), (40, ov (S rB v13))], [cvar gb3 Zad t1, cvar gb4 Zad a2], []⟩ <| JQ.then <| jif tR hx (fun hc14 hx => ?_) (fun hc14 hx => ?_)
     · refine jr <| jc (Zac lb .cB) <| jn <| JC.ret <| JQ.outRB <| JQ.outR ?_
       try obtain rfl := so hx
       try obtain rfl := hr _ rfl
       dsimp only at hq12
       refine JQ.outR <| JQ.outRB ?_
       try obtain rfl := so hq12
       dsimp only at hq11
       refine JQ.outR ?_
       obtain rfl := so hq11
       exact jd (.val (S rB false)) rfl rfl rfl rfl rfl rfl
     refine JC.skip <| JQ.outNB <| JQ.then <| JC.region <| jmv rfl rfl <| lI hx fun v14 hv14 hx => jc (ZaX lb tR .cI (cs hv14)) <| jc (Zac lb tR) <| JL.nil ?_
     try obtain rfl := so hx
     exact JQ.next () rfl (Imp.norm (js := [0, 0]) rfl (.cons rfl (.cons rfl (.cons rfl .nil))))
   refine JC.exit <| JQ.outX ?_
   try obtain rfl := so hx
   try obtain rfl := hr _ rfl
   dsimp only at hq12
   refine JQ.outX <| JQ.here ?_
   try obtain rfl := so hq12
   exact JQ.joinK () () rfl (Imp.norm (js := [0, 0]) rfl (.cons rfl (.cons rfl .nil)))
 refine JC.region <| jc (Zaa (off := 91) lb ZdM tR) <| jc (Zam (j := 0) lb tS36 tR rfl (cT (ZaU t1) rfl) rfl rfl) <| jc (ZaI lb tu36 tR) <| jc (Zaa (off := 91) lb ZdM tR) <| jc (Zam (j := 1) lb tS36 tR rfl (cT (ZaU a2) rfl) rfl rfl) <| JL.sub ⟨[(2, ov (PTR gb3 0)), (3, ov (PTR gb4 0)), (9, ov (S (rI .i64) (List.length t1.Leaves : Int))), (11, ov (S (rL (rV 32 (rU UInt8))) a2.Leaves))], [cvar gb3 Zad t1, cvar gb4 Zad a2], []⟩ (.cons rfl (.cons rfl (.cons rfl (.cons rfl .nil)))) rfl rfl <| jc (ZaI lb tu36 tR) <| lI hx1 fun v5 hv5 hx1 => jc (Zar lb tR tR (cs hv5)) <| jmv rfl rfl <| jF (ov (PTR gb3 (0 + 92))) rfl rfl rfl rfl (fun hq2 => Zaa (off := 92) lb Zdj tR) <| jF (ov (S (rL (rI .i64)) t1.Buckets)) rfl rfl rfl rfl (fun hq3 => Zam (j := 0) lb tS37 (HasO.cnd tR (notT (notF hq3))) rfl (cT (ZaL t1) rfl) rfl rfl) <| jF (ov (S (rI .i64) (List.length t1.Buckets : Int))) rfl rfl rfl rfl (fun hq_4 => ZaI lb tu37 (HasO.cnd tR (notT (notF hq_4)))) ?_
 refine jF (ov (PTR gb4 (0 + 92))) rfl rfl rfl rfl (fun hq5 => Zaa (off := 92) lb Zdj tR) <| jF (ov (S (rL (rI .i64)) a2.Buckets)) rfl rfl rfl rfl (fun hq6 => Zam (j := 1) lb tS37 (HasO.cnd tR (notT (notF hq6))) rfl (cT (ZaL a2) rfl) rfl rfl) <| jF (ov (S (rI .i64) (List.length a2.Buckets : Int))) rfl rfl rfl rfl (fun hq7 => ZaI lb tu37 (HasO.cnd tR (notT (notF hq7)))) <| lI hx1 fun v6 hv6 hx1 => jF (ov (S rB v6)) rfl rfl rfl rfl (fun hq8 => Zar lb (HasO.cnd tR (notT (notF hq8))) (HasO.cnd tR (notT (notF hq8))) (cs hv6)) <| lI hx1 fun v7 hv7 hx1 => jc (Zas lb tR (fun hb9 => .cB) (fun hb9 => (HasO.cnd tR (notT hb9))) hv7) <| JL.nil ?_
 try obtain rfl := so hx1
 exact JQ.join () (Imp.norm (js := [0, 0]) rfl (.cons rfl (.cons rfl (.cons rfl .nil))))

theorem Zfx (k : Nat) (t1 : Zai) (a2 : (Vector Int 3)) (r : Bool) (hm : law11_FrameMeans'4 k t1 a2 = some r) : Sim Tryz.prog 5 [A Zad t1, A (rV 3 (rI .i64)) a2] [] (γ := Unit) (fun q => []) (fun q => .one (.val (S rB r))) := by
 unfold law11_FrameMeans'4 at hm
 refine Sim.of Tryz.func5 rfl rfl (lE rfl) (fun e0 w0 => ?_)
 refine JC.at ⟨[(0, ov (A Zad t1)), (1, ov (A (rV 3 (rI .i64)) a2))], [], []⟩ <| jr <| jx (ZaZ lb tR) fun gb3 => jx (ZaZ lb tR) fun gb4 => jc (Zac lb .cB) <| jn <| JC.seq <| jr <| bI hm fun v5 hv5 hm => jx (Zak (js := []) ld cl9 (Zg7 k v5 hv5) .func .nil rfl) fun _ => lI hm fun v6 hv6 hm => jc (ZbU lb tR hv6) <| jn ?_
 refine jif tR hm (fun hc1 hm => ?_) (fun hc1 hm => ?_)
 · refine jr <| jc (Zac lb .cB) <| jn <| JC.ret <| JQ.outR ?_
   obtain rfl := so hm
   exact jd (.val (S rB false)) rfl rfl rfl rfl rfl rfl
 refine JC.skip <| JQ.then <| JC.seq <| jr <| jc (ZaB (j := 0) lb tA39 tR rfl (Comp.self Zad t1) rfl) <| bI hm fun v7 hv7 hm => jx (Zak (js := []) ld cl8 (Zic k t1 v7 hv7) .func (.cons tR .nil) rfl) fun _ => jn <| jif tR hm (fun hc2 hm => ?_) (fun hc2 hm => ?_)
 · refine jr <| jc (Zac lb .cB) <| JL.nrm ⟨[(4, ov (S rB true))], [], []⟩ [] rfl (.cons rfl .nil) rfl <| jn <| JC.ret <| JQ.outR ?_
   obtain rfl := so hm
   exact jd (.val (S rB true)) rfl rfl rfl rfl rfl rfl
 refine JC.skip <| JQ.then <| jr <| jc (ZaB (j := 0) lb tA39 tR rfl (Comp.self Zad t1) rfl) <| JL.sub ⟨[(2, ov (PTR gb3 0)), (3, ov (PTR gb4 0)), (22, ov (A Zad t1))], [cvar gb3 Zad t1, cvar gb4 (rV 3 (rI .i64)) a2], []⟩ (.cons rfl (.cons rfl (.cons rfl .nil))) rfl rfl ?_
 obtain ⟨⟨v8, v9⟩, hv8, hm⟩ := Zaz hm
 refine jx (Zak (js := []) ld cl10 (ZeW k t1 (v8, v9) hv8) .func (.cons tR .nil) rfl) (fun q => ?_)
 obtain ⟨go10, gc11⟩ := q
 refine jmv rfl rfl <| jc (Zaw (i := 0) lb tR rfl) <| jc (Zaw (i := 1) lb tR rfl) <| jc (Zac lb tR) <| jc (Zac lb tR) <| jn <| JC.seq <| jr <| jmv rfl rfl <| bI hm fun _ hv_u_12 hm => jx (Zak (js := []) ld cl13 (ZcN k v9 () hv_u_12) .func (.cons tR .nil) rfl) fun _ => lI hm fun v13 hv13 hm => jc (Zar lb tR .cI (cs hv13)) <| jn <| jif tR hm (fun hc3 hm => ?_) (fun hc3 hm => ?_)
 · refine jr <| jc (Zac lb .cB) <| JL.nrm ⟨[(4, ov (S rB true))], [], []⟩ [] rfl (.cons rfl .nil) rfl <| jn <| JC.ret <| JQ.outR ?_
   obtain rfl := so hm
   exact jd (.val (S rB true)) rfl rfl rfl rfl rfl rfl
 refine JC.skip <| JQ.then <| jr <| jmv rfl rfl <| JL.sub ⟨[(2, ov (PTR gb3 0)), (3, ov (PTR gb4 0)), (5, ov (HDR go10 0 (List.length v8) gc11)), (30, ov (HDR go10 0 (List.length v8) gc11))], [cown go10 (rU UInt8) v8 (List.length v8) gc11, cvar gb3 Zad t1, cvar gb4 (rV 3 (rI .i64)) a2], []⟩ (.cons rfl (.cons rfl (.cons rfl (.cons rfl .nil)))) rfl rfl ?_
 obtain ⟨⟨v14, v15⟩, hv14, hm⟩ := Zaz hm
 refine JL.pre (Imp.frz (j := 0) rfl (ImpK.slotH (s := 5) rfl (ImpK.slotH (s := 30) rfl ImpK.refl))) <| jx (Zak (js := []) ld cl15 (Zd5 k v8 (v14, v15) hv14) .func (.cons (HasO.wk tR wkHL) .nil) rfl) fun _ => jmv rfl rfl <| jc (Zaw (i := 0) lb tR rfl) <| jc (Zaw (i := 1) lb tR rfl) <| jx (Za8 lb tZ39 zr39) fun gb16 => jc (ZaM (j := 3) tA39 tR tR rfl (UpdR.self (by rfl)) rfl) <| jc (Zac lb tR) <| jn <| jr <| jmv rfl rfl <| JL.sub ⟨[(2, ov (PTR gb3 0)), (3, ov (PTR gb4 0)), (5, ov (HL go10 (rU UInt8) v8 gc11)), (7, ov (PTR gb16 0)), (8, ov (S (rI .i64) v15)), (35, ov (HL go10 (rU UInt8) v8 gc11))], [cown go10 (rU UInt8) v8 (List.length v8) gc11, cvar gb3 Zad t1, cvar gb4 (rV 3 (rI .i64)) a2, cvar gb16 Zad v14], []⟩ (.cons rfl (.cons rfl (.cons rfl (.cons rfl (.cons rfl (.cons rfl .nil)))))) rfl rfl <| jmv rfl rfl <| jc (Zhe lb tu27 (HasO.wk tR wkHH)) <| lI hm fun v17 hv17 hm => jc (ZaX lb tR .cI (cs hv17)) ?_
 refine bI hm fun v18 hv18 hm => jc (Zhh lb tu27 tz5 (HasO.wk tR wkHL) .none (.some tR) hv18) ?_
 obtain ⟨⟨v19, v20⟩, hv19, hm⟩ := Zaz hm
 refine jx (Zak (js := []) ld cl15 (Zd5 k v18 (v19, v20) hv19) .func (.cons tR .nil) rfl) fun _ => jmv rfl rfl <| jc (Zaw (i := 0) lb tR rfl) <| jc (Zaw (i := 1) lb tR rfl) <| jx (Za8 lb tZ39 zr39) fun gb21 => jc (ZaM (j := 4) tA39 tR tR rfl (UpdR.self (by rfl)) rfl) <| JL.nrm ⟨[(2, ov (PTR gb3 0)), (3, ov (PTR gb4 0)), (5, ov (HL go10 (rU UInt8) v8 gc11)), (7, ov (PTR gb16 0)), (8, ov (S (rI .i64) v15)), (42, ov (S (rI .i64) v20))], [cown go10 (rU UInt8) v8 (List.length v8) gc11, cvar gb3 Zad t1, cvar gb4 (rV 3 (rI .i64)) a2, cvar gb16 Zad v14], []⟩ [0, 0, 0, 0] rfl (.cons rfl (.cons rfl (.cons rfl (.cons rfl (.cons rfl (.cons rfl .nil)))))) rfl <| jc (Zac lb tR) <| jn <| jr <| jmv rfl rfl <| bI hm fun v22 hv22 hm => JL.pre (Imp.nilown (rU UInt8)) <| jx (Zbd (j := 4) lb tu27 tu27 rfl tB5 rfl (Nat.lt_of_lt_of_le Nat.zero_lt_one (lE rfl)) (Nat.lt_of_lt_of_le Nat.zero_lt_one (lE rfl))  rfl HasO.nilH (HasO.wk tR wkHL) hv22) (fun q => ?_)
 obtain ⟨go23, gc24⟩ := q
 refine JL.sub ⟨[(2, ov (PTR gb3 0)), (3, ov (PTR gb4 0)), (5, ov (HL go10 (rU UInt8) v8 gc11)), (7, ov (PTR gb16 0)), (8, ov (S (rI .i64) v15)), (10, ov (S (rI .i64) v20)), (45, ov (HDR go23 0 (List.length v22) gc24))], [cown go10 (rU UInt8) v8 (List.length v8) gc11, cvar gb3 Zad t1, cvar gb4 (rV 3 (rI .i64)) a2, cvar gb16 Zad v14, cown go23 (rU UInt8) v22 0 gc24], []⟩ (.cons rfl (.cons rfl (.cons rfl (.cons rfl (.cons rfl (.cons rfl (.cons rfl .nil))))))) rfl rfl <| jc (Zce (r := (rU UInt8)) lb tu27 tz5 tZ5 rfl (lE rfl) (.S rfl (HasO.cU (x := (0 : UInt8)) rfl (by decide)) .nil) rfl) <| bI hm fun x25 hv_x_25 hm => jx (Zbd (j := 4) lb tu27 tu27 rfl tB5 rfl (Nat.lt_of_lt_of_le Nat.zero_lt_one (lE rfl)) (Nat.lt_of_lt_of_le Nat.zero_lt_one (lE rfl))  rfl tR tR hv_x_25) (fun q => ?_)
 obtain ⟨go26, gc27⟩ := q
 obtain ⟨⟨v28, v29⟩, hv28, hm⟩ := Zaz hm
 refine JL.pre (Imp.frz (j := 4) rfl (ImpK.slotH (s := 47) rfl ImpK.refl)) <| jx (Zak (js := []) ld cl15 (Zd5 k x25 (v28, v29) hv28) .func (.cons (HasO.wk tR wkHL) .nil) rfl) fun _ => jmv rfl rfl <| jc (Zaw (i := 0) lb tR rfl) <| jc (Zaw (i := 1) lb tR rfl) <| jx (Za8 lb tZ39 zr39) fun gb30 => JL.nrm ⟨[(2, ov (PTR gb3 0)), (3, ov (PTR gb4 0)), (5, ov (HL go10 (rU UInt8) v8 gc11)), (7, ov (PTR gb16 0)), (8, ov (S (rI .i64) v15)), (10, ov (S (rI .i64) v20)), (11, ov (PTR gb30 0)), (49, ov (A Zad v28)), (50, ov (S (rI .i64) v29))], [cown go10 (rU UInt8) v8 (List.length v8) gc11, cvar gb3 Zad t1, cvar gb4 (rV 3 (rI .i64)) a2, cvar gb16 Zad v14, cvar gb30 zq0 zq1], []⟩ [0, 0, 0, 0, 1] rfl (.cons rfl (.cons rfl (.cons rfl (.cons rfl (.cons rfl (.cons rfl (.cons rfl (.cons rfl (.cons rfl .nil))))))))) rfl <| jc (ZaM (j := 4) tA39 tR tR rfl (UpdR.self (by rfl)) rfl) <| jc (Zac lb tR) <| jn <| JC.seq <| bI hm fun x45 hx4 hq4 => JC.seqJ (γ := Unit) (stj := fun _ => ⟨[(3, ov (PTR gb4 0)), (5, ov (HDR go10 0 (List.length v8) gc11)), (75, ov (S rB x45))], [cvar gb4 (rV 3 (rI .i64)) a2, cown go10 (rU UInt8) v8 (List.length v8) gc11], []⟩) (fun _ => ?_) ?_
 · refine jif tR hq4 (fun hc23 hq4 => ?_) (fun hc23 hq4 => ?_)
   · refine jr <| jc (Zac lb .cB) <| jn <| JC.ret <| JQ.outR ?_
     obtain rfl := so hq4
     exact jd (.val (S rB false)) rfl rfl rfl rfl rfl rfl
   refine JC.skip <| JQ.then <| JC.seq <| jr <| jmv rfl rfl <| jc (Zhe lb tu27 tR) <| lI hq4 fun v46 hv46 hq4 => jc (Zar lb tR .cI (cs hv46)) <| jn <| jif tR hq4 (fun hc24 hq4 => ?_) (fun hc24 hq4 => ?_)
   · refine jr <| jc (Zac lb .cB) <| jn <| JC.ret <| JQ.outR ?_
     obtain rfl := so hq4
     exact jd (.val (S rB true)) rfl rfl rfl rfl rfl rfl
   refine JC.skip <| JQ.then <| jr <| jmv rfl rfl <| bI hq4 fun v47 hv47 hq4 => JL.pre (Imp.nilown (rU UInt8)) <| jx (Zf6 (j := 2) (j' := 1) lb tu27 tu27 rfl tB5 rfl (Nat.lt_of_lt_of_le Nat.zero_lt_one (lE rfl)) (Nat.lt_of_lt_of_le Nat.zero_lt_one (lE rfl))  rfl HasO.nilH rfl tR hv47) (fun q => ?_)
   obtain ⟨go48, gc49⟩ := q
   refine JL.sub ⟨[(3, ov (PTR gb4 0)), (5, ov (HDR go10 0 (List.length v8) gc11)), (80, ov (HDR go48 0 (List.length v47) gc49))], [cvar gb4 (rV 3 (rI .i64)) a2, cown go10 (rU UInt8) v8 (List.length v8) gc11, cown go48 (rU UInt8) v47 0 gc49], []⟩ (.cons rfl (.cons rfl (.cons rfl .nil))) rfl rfl <| jc (Zac lb tR) <| jn <| bI hq4 fun x79 hx25 hq25 => JC.seqJ (γ := Unit) (stj := fun _ => ⟨[(5, ov (HDR go10 0 (List.length v8) gc11)), (13, ov (HDR go48 0 (List.length x79) gc49))], [cown go10 (rU UInt8) v8 (List.length v8) gc11, cown go48 (rU UInt8) x79 0 gc49], []⟩) (fun _ => ?_) ?_
   · refine jr <| jmv rfl rfl ?_
     obtain ⟨⟨v80, v81⟩, hv80, hq25⟩ := Zaz hq25
     refine JL.pre (Imp.frz (j := 1) rfl (ImpK.slotH (s := 13) rfl (ImpK.slotH (s := 119) rfl ImpK.refl))) <| jx (Zak (js := []) ld cl15 (Zd5 k x79 (v80, v81) hv80) .func (.cons (HasO.wk tR wkHL) .nil) rfl) fun _ => jmv rfl rfl <| jc (Zaw (i := 0) lb tR rfl) <| jc (Zaw (i := 1) lb tR rfl) <| jx (Za8 lb tZ39 zr39) fun gb82 => jc (ZaM (j := 2) tA39 tR tR rfl (UpdR.self (by rfl)) rfl) <| JL.nrm ⟨[(5, ov (HDR go10 0 (List.length v8) gc11)), (13, ov (HL go48 (rU UInt8) x79 gc49)), (122, ov (S (rI .i64) v81))], [cown go10 (rU UInt8) v8 (List.length v8) gc11, cown go48 (rU UInt8) x79 (List.length x79) gc49], []⟩ [0, 0] rfl (.cons rfl (.cons rfl (.cons rfl .nil))) rfl <| jc (Zac lb tR) <| jn <| bI hq25 fun x87 hx34 hq34 => JC.seqJ (γ := Unit) (stj := fun _ => ⟨[(4, ov (S rB x87))], [], []⟩) (fun _ => ?_) ?_
     · refine JC.ret ?_
       obtain rfl := so hq34
       exact jd (.val (S rB x87)) rfl rfl rfl rfl rfl rfl
     refine JC.region <| jmv rfl rfl <| jc (ZdD lb tu27 tu5 tu9 (HasO.wk tR wkHL)) <| jmv rfl rfl <| jc (Zlm (j := 0) lb tu27 tu5 tu9 rfl tR) <| lI hx34 fun v83 hv83 hx34 => jc (ZhY lb tR tR (cs hv83)) <| jmv rfl rfl <| jF (ov (S (rI .i64) v81)) rfl rfl rfl rfl (fun hq35 => ZaC lb tR) <| bI hx34 fun _ hv_u_84 hx34 => jF (ov (S (rI .i64) v81)) rfl rfl rfl rfl (fun hq36 => (Zak (js := []) ld cl13 (ZcN k v81 () (ifT hv_u_84 hq36)) .func (.cons (HasO.cnd tR (notT (notF hq36))) .nil) rfl).post (fun _ => Imp.refl)) <| lI hx34 fun v85 hv85 hx34 => jF (ov (S rB v85)) rfl rfl rfl rfl (fun hq37 => Zar lb (HasO.cnd tR (notT (notF hq37))) .cI (cs hv85)) ?_
     obtain ⟨v86, hv86, hx34⟩ := ZaT hx34
     refine jc (Zas lb tR (fun hb38 => .cB) (fun hb38 => (HasO.cnd tR (notT hb38))) hv86) <| jc (Zac lb tR) <| JL.nrm ⟨[(4, ov (S rB v86))], [], []⟩ [] rfl (.cons rfl .nil) rfl <| JL.nil ?_
     try obtain rfl := so hx34
     exact jo rfl rfl rfl
   refine jr <| jc (Zac lb .cI) <| jn <| JC.block <| JC.pre ?_ (JC.loop (γ := Unit) (stf := fun s q => ⟨[(3, ov (PTR gb4 0)), (5, ov (HDR go10 0 (List.length v8) gc11)), (13, ov (HDR go48 0 (List.length s.1) gc49)), (14, ov (S (rI .i64) s.2))], [cvar gb4 (rV 3 (rI .i64)) a2, cown go10 (rU UInt8) v8 (List.length v8) gc11, cown go48 (rU UInt8) s.1 0 gc49], []⟩) (q := ()) hx25 ?_)
   · exact (Imp.norm (js := [0, 0, 0]) rfl (.cons rfl (.cons rfl (.cons rfl (.cons rfl .nil)))))
   intro s q x hx hr
   obtain ⟨x50, x51⟩ := s
   obtain _ := q
   change law11_FrameMeans'4.b1 k a2 v8 x50 x51 = some x at hx
   unfold law11_FrameMeans'4.b1 at hx
   refine JC.at ⟨[(3, ov (PTR gb4 0)), (5, ov (HDR go10 0 (List.length v8) gc11)), (13, ov (HDR go48 0 (List.length x50) gc49)), (14, ov (S (rI .i64) x51))], [cvar gb4 (rV 3 (rI .i64)) a2, cown go10 (rU UInt8) v8 (List.length v8) gc11, cown go48 (rU UInt8) x50 0 gc49], []⟩ <| JC.seq <| jr <| jmv rfl rfl <| lI hx fun v52 hv52 hx => jc (Zar lb tR .cI (cs hv52)) <| jn <| jif tR hx (fun hc27 hx => ?_) (fun hc27 hx => ?_)
   · refine JC.skip <| JQ.then <| bI hx fun x77 hx28 hq28 => JC.seqJ (γ := Unit) (stj := fun _ => ⟨[(3, ov (PTR gb4 0)), (5, ov (HDR go10 0 (List.length v8) gc11)), (13, ov (HDR go48 0 (List.length x77) gc49)), (14, ov (S (rI .i64) x51))], [cvar gb4 (rV 3 (rI .i64)) a2, cown go10 (rU UInt8) v8 (List.length v8) gc11, cown go48 (rU UInt8) x77 0 gc49], []⟩) (fun _ => ?_) ?_
     · refine JC.region <| jmv rfl rfl <| lI hq28 fun v78 hv78 hq28 => jc (ZaX lb tR .cI (cs hv78)) <| jc (Zac lb tR) <| JL.nil ?_
       try obtain rfl := so hq28
       exact JQ.next () rfl (Imp.norm (js := [0, 0, 0]) rfl (.cons rfl (.cons rfl (.cons rfl (.cons rfl .nil)))))
     refine JC.block <| bI hx28 fun x60 hx29 hq29 => JC.seqJ (γ := Unit) (stj := fun _ => ⟨[(3, ov (PTR gb4 0)), (5, ov (HDR go10 0 (List.length v8) gc11)), (13, ov (HDR go48 0 (List.length x50) gc49)), (14, ov (S (rI .i64) x51)), (97, ov (S rB x60))], [cvar gb4 (rV 3 (rI .i64)) a2, cown go10 (rU UInt8) v8 (List.length v8) gc11, cown go48 (rU UInt8) x50 0 gc49], []⟩) (fun _ => ?_) ?_
     · rcases ZcY hq29 with ⟨hc33, hq29⟩ | ⟨hc33, hq29⟩
       · refine JC.condT tR hc33 <| bI hq29 fun i61 hv_i_61 hq29 => lI hq29 fun v62 hv62 hq29 => bI hq29 fun v63 hv63 hq29 => bI hq29 fun i_64 hv_i_64 hq29 => lI hq29 fun v65 hv65 hq29 => bI hq29 fun v66 hv66 hq29 => bI hq29 fun i67 hv_i_67 hq29 => ?_
         obtain ⟨v68, hv68, hq29⟩ := Zaz hq29
         refine bI hq29 fun i69 hv_i_69 hq29 => lI hq29 fun v70 hv70 hq29 => bI hq29 fun v71 hv71 hq29 => lI hq29 fun v72 hv72 hq29 => lI hq29 fun v73 hv73 hq29 => lI hq29 fun v74 hv74 hq29 => bI hq29 fun i75 hv_i_75 hq29 => ?_
         obtain ⟨x76, hv_x_76, hq29⟩ := Zaz hq29
         refine JC.anyF (base := [(3, ov (PTR gb4 0)), (5, ov (HDR go10 0 (List.length v8) gc11)), (13, ov (HDR go48 0 (List.length x50) gc49)), (14, ov (S (rI .i64) x51))])
             (fs := fun γ => [⟨some 98, ov (HDR go48 0 (List.length x50) gc49)⟩, ⟨some 99, ov (S (rI .i64) x51)⟩, ⟨some 100, ov (PTR gb4 (0 + i61.1 * 1))⟩, ⟨some 101, ov (S (rI .i64) v62)⟩, ⟨some 102, ov (S (rI .i64) v63)⟩, ⟨some 103, ov (HDR go48 0 (List.length x50) gc49)⟩, ⟨some 104, ov (S (rI .i64) x51)⟩, ⟨some 105, ov (PTR gb4 (0 + i_64.1 * 1))⟩, ⟨some 106, ov (S (rI .i64) v65)⟩, ⟨some 107, ov (S (rI .i64) v66)⟩, ⟨some 108, ov (EPT go48 (i67 * 1))⟩, ⟨some 109, ov (S (rU UInt8) v68)⟩, ⟨some 110, ov (S (rI .i64) x51)⟩, ⟨some 111, ov (PTR gb4 (0 + i69.1 * 1))⟩, ⟨some 112, ov (S (rI .i64) v70)⟩, ⟨some 113, ov (S (rI .i64) v71)⟩, ⟨some 114, ov (S (rU UInt64) v72)⟩, ⟨some 115, ov (S (rU UInt8) v73)⟩, ⟨some 116, ov (S (rU UInt8) v74)⟩, ⟨some 117, ov (EPT go48 (i75 * 1))⟩, ⟨none, .one .any⟩])
             (rs := fun γ => [⟨cvar gb4 (rV 3 (rI .i64)) a2, none, none, [3, 8, 14]⟩, ⟨cown go10 (rU UInt8) v8 (List.length v8) gc11, none, none, []⟩, ⟨cown go48 (rU UInt8) x50 0 gc49, none, (some 20), [10, 11, 19]⟩, ⟨cown go48 (rU UInt8) x76 0 gc49, (some 20), none, []⟩])
             (afts := nn 21) (js := [0, 0, 0]) Zcj (.cons rfl (.cons rfl (.cons rfl (.cons rfl .nil)))) (fun _ => rfl)
             (by
      refine db 1 13 <| db 2 14 <| dS 3 (fun γ ρ B hb hd => Zb6 lb tr53 (.tmp (hb 3 _ rfl)) (tl hd 1 99) hv_i_61) <| dR 4 (fun γ ρ B hb hd => Zao.lk ⟨ρ, (cvar gb4 (rV 3 (rI .i64)) a2) :: B, _⟩ (Zam (j := 0) lb tS3 (tl hd 2 100) rfl (Comp.at (Comp.self (rV 3 (rI .i64)) a2) i61.2 rfl) rfl hv62)) <| dS 5 (fun γ ρ B hb hd => ZaX lb (tl hd 3 101) .cI hv63) ?_
      refine db 6 13 <| db 7 14 <| dS 8 (fun γ ρ B hb hd => Zb6 lb tr53 (.tmp (hb 3 _ rfl)) (tl hd 6 104) hv_i_64) <| dR 9 (fun γ ρ B hb hd => Zao.lk ⟨ρ, (cvar gb4 (rV 3 (rI .i64)) a2) :: B, _⟩ (Zam (j := 0) lb tS3 (tl hd 7 105) rfl (Comp.at (Comp.self (rV 3 (rI .i64)) a2) i_64.2 rfl) rfl hv65)) <| dS 10 (fun γ ρ B hb hd => ZaX lb (tl hd 8 106) .cI hv66) ?_
      refine dR 11 (fun γ ρ B hb hd => Zao.lk ⟨ρ, (cown go48 (rU UInt8) x50 0 gc49) :: B, _⟩ (Zdl (r := (rU UInt8)) (j := 0) lb tu27 tz5 rfl (tl hd 5 103) (tl hd 9 107) hv_i_67)) <| dR 12 (fun γ ρ B hb hd => Zao.lk ⟨ρ, (cown go48 (rU UInt8) x50 0 gc49) :: B, _⟩ (ZgT (r := (rU UInt8)) (i := i67) (off := 0) (j := 0) lb tS5 rfl rfl (tl hd 10 108) hv68 (Comp.self (rU UInt8) v68) (by decide))) <| db 13 14 <| dS 14 (fun γ ρ B hb hd => Zb6 lb tr53 (.tmp (hb 3 _ rfl)) (tl hd 12 110) hv_i_69) <| dR 15 (fun γ ρ B hb hd => Zao.lk ⟨ρ, (cvar gb4 (rV 3 (rI .i64)) a2) :: B, _⟩ (Zam (j := 0) lb tS3 (tl hd 13 111) rfl (Comp.at (Comp.self (rV 3 (rI .i64)) a2) i69.2 rfl) rfl hv70)) ?_
      refine dS 16 (fun γ ρ B hb hd => ZaX lb (tl hd 14 112) .cI hv71) <| dS 17 (fun γ ρ B hb hd => ZcR lb tu3 tu54 (tl hd 15 113) hv72) <| dS 18 (fun γ ρ B hb hd => Zkn lb (HasO.cU (x := (1 : UInt8)) rfl (by decide)) (tl hd 16 114) hv73) <| dS 19 (fun γ ρ B hb hd => Zfu lb (tl hd 11 109) (tl hd 17 115) (cs hv74)) <| dR 20 (fun γ ρ B hb hd => Zao.lk ⟨ρ, (cown go48 (rU UInt8) x50 0 gc49) :: B, _⟩ (Zdl (r := (rU UInt8)) (j := 0) lb tu27 tz5 rfl (tl hd 0 98) (tl hd 4 102) hv_i_75)) ?_
      refine dR 21 (fun γ ρ B hb hd => Zao.at ⟨ρ, (cown go48 (rU UInt8) x50 0 gc49) :: B, _⟩ (setO ⟨ρ, (cown go48 (rU UInt8) x76 0 gc49) :: B, _⟩ _ _) (ZjT (r := (rU UInt8)) (j := 0) tS5 rfl rfl (tl hd 19 117) (tl hd 18 116) hv_x_76)) ?_
      exact ZaF.nil)
             (by decide +kernel) (fun _ => rfl) (fun _ => rfl) (fun _ => rfl) rfl
             (ρ' := fun γ => [(3, ov (PTR gb4 0)), (5, ov (HDR go10 0 (List.length v8) gc11)), (13, ov (HDR go48 0 (List.length x50) gc49)), (14, ov (S (rI .i64) x51))])
             (X' := fun γ => [cvar gb4 (rV 3 (rI .i64)) a2, cown go10 (rU UInt8) v8 (List.length v8) gc11, cown go48 (rU UInt8) x76 0 gc49])
             (fun γ ρ hb hd => (.cons (hb 3 _ rfl) (.cons (hb 5 _ rfl) (.cons (hb 13 _ rfl) (.cons (hb 14 _ rfl) .nil))))) (fun _ => rfl) (fun γ => ?_)
         refine JQ.at ⟨[(3, ov (PTR gb4 0)), (5, ov (HDR go10 0 (List.length v8) gc11)), (13, ov (HDR go48 0 (List.length x50) gc49)), (14, ov (S (rI .i64) x51))], [cvar gb4 (rV 3 (rI .i64)) a2, cown go10 (rU UInt8) v8 (List.length v8) gc11, cown go48 (rU UInt8) x76 0 gc49], []⟩ <| JQ.pre (Imp.slot (s := 13) rfl (Zpp (ZlX hv_x_76))) <| JQ.outNB ?_
         try obtain rfl := so hq29
         exact JQ.join () (Imp.norm (js := [0, 0, 0]) rfl (.cons rfl (.cons rfl (.cons rfl (.cons rfl .nil)))))
       refine JC.condF tR hc33 <| JC.skip <| JQ.outNB ?_
       try obtain rfl := so hq29
       exact JQ.join () (Imp.norm (js := [0, 0, 0]) rfl (.cons rfl (.cons rfl (.cons rfl (.cons rfl .nil)))))
     refine JC.region <| jmv rfl rfl <| bI hx29 fun i53 hv_i_53 hx29 => jc (Zb6 lb tr53 tR tR hv_i_53) <| lI hx29 fun v54 hv54 hx29 => jc (Zam (j := 0) lb tS3 tR rfl (Comp.at (Comp.self (rV 3 (rI .i64)) a2) i53.2 rfl) rfl hv54) <| lI hx29 fun v55 hv55 hx29 => jc (Zar lb tR .cI (cs hv55)) <| jmv rfl rfl <| jT (ov (S (rI .i64) x51)) rfl rfl rfl rfl (fun hq30 => ZaC lb tR) ?_
     rcases ZcY hx29 with ⟨hc32, hx29⟩ | ⟨hc32, hx29⟩
     · refine bI hx29 fun i56 hv_i_56 hx29 => JL.run (.yes rfl (ltB rfl) rfl hc32) (Zb6 lb tr53 tR (HasO.cnd tR hc32) hv_i_56) <| lI hx29 fun v57 hv57 hx29 => JL.run (.yes rfl (ltB rfl) rfl hc32) (Zam (j := 0) lb tS3 tR rfl (Comp.at (Comp.self (rV 3 (rI .i64)) a2) i56.2 rfl) rfl hv57) <| JL.run (.yes rfl (ltB rfl) rfl hc32) (ZaC lb tR) <| JL.run (.yes rfl (ltB rfl) rfl hc32) (Zhe lb tu27 tR) <| JL.sub ⟨[(3, ov (PTR gb4 0)), (5, ov (HDR go10 0 (List.length v8) gc11)), (13, ov (HDR go48 0 (List.length x50) gc49)), (14, ov (S (rI .i64) x51)), (89, ov (S rB v55)), (92, ov (S (rI .i64) v57)), (94, ov (S (rI .i64) (List.length v8 : Int)))], [cvar gb4 (rV 3 (rI .i64)) a2, cown go10 (rU UInt8) v8 (List.length v8) gc11, cown go48 (rU UInt8) x50 0 gc49], []⟩ (.cons rfl (.cons rfl (.cons rfl (.cons rfl (.cons rfl (.cons rfl (.cons rfl .nil))))))) rfl rfl <| lI hx29 fun v58 hv58 hx29 => JL.run (.yes rfl (ltB rfl) rfl hc32) (ZaX lb .cI tR (cs hv58)) ?_
       refine lI hx29 fun v59 hv59 hx29 => JL.run (.yes rfl (ltB rfl) rfl hc32) (Zar lb tR tR (cs hv59)) <| jc (Zdf lb tR hc32 tR) <| JL.nil ?_
       try obtain rfl := so hx29
       exact JQ.join () (Imp.norm (js := [0, 0, 0]) rfl (.cons rfl (.cons rfl (.cons rfl (.cons rfl (.cons rfl .nil))))))
     refine jk rfl hc32 <| jk rfl hc32 <| jk rfl hc32 <| jk rfl hc32 <| jk rfl hc32 <| jk rfl hc32 <| jc (Za6 lb tR hc32 .cB) <| JL.nil ?_
     try obtain rfl := so hx29
     exact JQ.join () (Imp.norm (js := [0, 0, 0]) rfl (.cons rfl (.cons rfl (.cons rfl (.cons rfl (.cons rfl .nil))))))
   refine JC.exit <| JQ.outX ?_
   try obtain rfl := so hx
   have ht := hr _ rfl
   have hq26 := cs ht
   clear hr ht
   refine JQ.outX <| JQ.here ?_
   try obtain rfl := so hq26
   exact JQ.join () (Imp.norm (js := [1, 1]) rfl (.cons rfl (.cons rfl .nil)))
 refine JC.region <| jmv rfl rfl <| bI hx4 fun _ hv_u_31 hx4 => jx (Zak (js := []) ld cl13 (ZcN k v15 () hv_u_31) .func (.cons tR .nil) rfl) fun _ => lI hx4 fun v32 hv32 hx4 => jc (Zar lb tR .cI (cs hv32)) <| jmv rfl rfl <| jF (ov (A Zad v14)) rfl rfl rfl rfl (fun hq5 => ZaB (j := 3) lb tA39 tR rfl (Comp.self Zad v14) rfl) <| jF (ov (A Zad t1)) rfl rfl rfl rfl (fun hq6 => ZaB (j := 1) lb tA39 tR rfl (Comp.self Zad t1) rfl) <| bI hx4 fun v33 hv33 hx4 => jF (ov (S rB v33)) rfl rfl rfl rfl (fun hq7 => (Zak (js := []) ld cl17 (Zil k v14 t1 v33 (ifT hv33 hq7)) .func (.cons (HasO.cnd tR (notT (notF hq7))) (.cons (HasO.cnd tR (notT (notF hq7))) .nil)) rfl).post (fun _ => Imp.refl)) ?_
 refine lI hx4 fun v34 hv34 hx4 => jF (ov (S rB v34)) rfl rfl rfl rfl (fun hq8 => ZbU lb (HasO.cnd tR (notT (notF hq8))) hv34) <| JL.nrm ⟨[(2, ov (PTR gb3 0)), (3, ov (PTR gb4 0)), (5, ov (HL go10 (rU UInt8) v8 gc11)), (7, ov (PTR gb16 0)), (10, ov (S (rI .i64) v20)), (12, ov (S (rI .i64) v29)), (54, ov (S rB v32)), (58, bif (!v32) then ov (S rB v34) else .one .und)], [cown go10 (rU UInt8) v8 (List.length v8) gc11, cvar gb3 Zad t1, cvar gb4 (rV 3 (rI .i64)) a2, cvar gb16 Zad v14], []⟩ [0, 0, 0, 0] rfl (.cons rfl (.cons rfl (.cons rfl (.cons rfl (.cons rfl (.cons rfl (.cons rfl (.cons rfl .nil)))))))) rfl <| lI hx4 fun v35 hv35 hx4 => jc (Zas lb tR (fun hb9 => .cB) (fun hb9 => (HasO.cnd tR (notT hb9))) hv35) <| jmv rfl rfl <| jF (ov (A Zad v14)) rfl rfl rfl rfl (fun hq10 => ZaB (j := 3) lb tA39 tR rfl (Comp.self Zad v14) rfl) <| jF (ov (A Zad t1)) rfl rfl rfl rfl (fun hq_11 => ZaB (j := 1) lb tA39 tR rfl (Comp.self Zad t1) rfl) <| bI hx4 fun v36 hv36 hx4 => jF (ov (S rB v36)) rfl rfl rfl rfl (fun hq_12 => (Zak (js := []) ld cl18 (Zge k v14 t1 v36 (ifT hv36 hq_12)) .func (.cons (HasO.cnd tR (notT (notF hq_12))) (.cons (HasO.cnd tR (notT (notF hq_12))) .nil)) rfl).post (fun _ => Imp.refl)) ?_
 refine lI hx4 fun v37 hv37 hx4 => jF (ov (S rB v37)) rfl rfl rfl rfl (fun hq13 => ZbU lb (HasO.cnd tR (notT (notF hq13))) hv37) <| lI hx4 fun v38 hv38 hx4 => jc (Zas lb tR (fun hb14 => .cB) (fun hb14 => (HasO.cnd tR (notT hb14))) hv38) <| jmv rfl rfl <| jF (ov (S (rI .i64) v20)) rfl rfl rfl rfl (fun hq_15 => ZaC lb tR) <| bI hx4 fun _ hv_u_39 hx4 => jF (ov (S (rI .i64) v20)) rfl rfl rfl rfl (fun hq_16 => (Zak (js := []) ld cl13 (ZcN k v20 () (ifT hv_u_39 hq_16)) .func (.cons (HasO.cnd tR (notT (notF hq_16))) .nil) rfl).post (fun _ => Imp.refl)) <| lI hx4 fun v40 hv40 hx4 => jF (ov (S rB v40)) rfl rfl rfl rfl (fun hq17 => Zar lb (HasO.cnd tR (notT (notF hq17))) .cI (cs hv40)) ?_
 refine lI hx4 fun v41 hv41 hx4 => jc (Zas lb tR (fun hb18 => .cB) (fun hb18 => (HasO.cnd tR (notT hb18))) hv41) <| JL.nrm ⟨[(3, ov (PTR gb4 0)), (5, ov (HL go10 (rU UInt8) v8 gc11)), (12, ov (S (rI .i64) v29)), (70, ov (S rB v41))], [cown go10 (rU UInt8) v8 (List.length v8) gc11, cvar gb4 (rV 3 (rI .i64)) a2], []⟩ [0, 1] rfl (.cons rfl (.cons rfl (.cons rfl (.cons rfl .nil)))) rfl <| jmv rfl rfl <| jF (ov (S (rI .i64) v29)) rfl rfl rfl rfl (fun hq_19 => ZaC lb tR) <| bI hx4 fun _ hv_u_42 hx4 => jF (ov (S (rI .i64) v29)) rfl rfl rfl rfl (fun hq20 => (Zak (js := []) ld cl13 (ZcN k v29 () (ifT hv_u_42 hq20)) .func (.cons (HasO.cnd tR (notT (notF hq20))) .nil) rfl).post (fun _ => Imp.refl)) <| lI hx4 fun v43 hv43 hx4 => jF (ov (S rB v43)) rfl rfl rfl rfl (fun hq21 => Zar lb (HasO.cnd tR (notT (notF hq21))) .cI (cs hv43)) ?_
 refine lI hx4 fun v44 hv44 hx4 => jc (Zas lb tR (fun hb22 => .cB) (fun hb22 => (HasO.cnd tR (notT hb22))) hv44) <| JL.nil ?_
 try obtain rfl := so hx4
 exact JQ.pre (Imp.slot (s := 5) rfl wkHH) <| JQ.join () (Imp.norm (js := [1, 0]) rfl (.cons rfl (.cons rfl (.cons rfl .nil))))

end Go.Proofs.YtklnihlchhhhlaaGreat
