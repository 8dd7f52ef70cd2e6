/- Walks. -/
import Derived.Test.YtklnihlchhhhlaaGreatT
import Derived.Test.YtklnihlchhhhlaaGreatW2
namespace Go.Proofs.YtklnihlchhhhlaaGreat
open Go Fw
set_option linter.unusedVariables false
set_option maxRecDepth 100000
set_option maxHeartbeats 4000000

theorem Zgf (k : Nat) (t_1 : Zah) (a_2 : Zah) (r : Bool) (hm : Zee k t_1 a_2 = some r) : Sim Tryz.prog 18 [A Zae t_1, A Zae a_2] [] (γ := Unit) (fun q => []) (fun q => .one (.val (S rB r))) := by
 unfold Zee at hm
 refine Sim.of Tryz.func18 rfl rfl (lE rfl) (fun e0 w0 => ?_)
 refine JC.at ⟨[(0, ov (A Zae t_1)), (1, ov (A Zae a_2))], [], []⟩ <| jr <| jx (ZaX lb tR) fun gb_3 => jx (ZaX lb tR) fun gb_4 => jc (Zab lb .cB) <| jn <| bI hm fun x_18 hx1 hq1 => JC.seqJ (γ := Unit) (stj := fun _ => ⟨[(2, ov (PTR gb_3 0)), (3, ov (PTR gb_4 0)), (5, ov (S rB x_18))], [cvar gb_3 Zae t_1, cvar gb_4 Zae a_2], []⟩) (fun _ => ?_) ?_
 · refine bI hq1 fun x_28 hx38 hq38 => JC.seqJ (γ := Unit) (stj := fun _ => ⟨[(2, ov (PTR gb_3 0)), (3, ov (PTR gb_4 0)), (5, ov (S rB x_18)), (6, ov (S rB x_28))], [cvar gb_3 Zae t_1, cvar gb_4 Zae a_2], []⟩) (fun _ => ?_) ?_
   · refine bI hq38 fun x_32 hx63 hq63 => JC.seqJ (γ := Unit) (stj := fun _ => ⟨[(4, ov (S rB x_32))], [], []⟩) (fun _ => ?_) ?_
     · refine JC.ret ?_
       obtain rfl := so hq63
       exact jd (.val (S rB x_32)) rfl rfl rfl rfl rfl rfl
     refine JC.region <| jmv rfl rfl <| jmv rfl rfl <| jT (ov (S rB x_28)) rfl rfl rfl rfl (fun hq_64 => Zax lb tR) <| lI hx63 fun v29 hv_29 hx63 => jc (Zao lb tR (fun hb65 => (HasO.cnd tR hb65)) (fun hb65 => .cB) hv_29) <| jmv rfl rfl <| jT (ov (PTR gb_3 (0 + 4))) rfl rfl rfl rfl (fun hq_66 => Zaa (off := 4) lb Zgi tR) <| jT (ov (A Zam t_1.Event)) rfl rfl rfl rfl (fun hq_67 => Zaw (j := 0) lb tA32 (HasO.cnd tR hq_67) rfl (cT (Zbl t_1) rfl) rfl) <| jT (ov (PTR gb_4 (0 + 4))) rfl rfl rfl rfl (fun hq_68 => Zaa (off := 4) lb Zgi tR) <| jT (ov (A Zam a_2.Event)) rfl rfl rfl rfl (fun hq_69 => Zaw (j := 1) lb tA32 (HasO.cnd tR hq_69) rfl (cT (Zbl a_2) rfl) rfl) ?_
     obtain ⟨v30, hv_30, hx63⟩ := Zay hx63
     refine jT (ov (S rB v30)) rfl rfl rfl rfl (fun hq_70 => (Zak (js := []) ld cl70 (Zh6 k t_1.Event a_2.Event v30 (ifT hv_30 hq_70)) .func (.cons (HasO.cnd tR hq_70) (.cons (HasO.cnd tR hq_70) .nil)) rfl).post (fun _ => Imp.refl)) <| lI hx63 fun v31 hv_31 hx63 => jc (Zao lb tR (fun hb71 => (HasO.cnd tR hb71)) (fun hb71 => .cB) hv_31) <| jc (Zab lb tR) <| JL.nrm ⟨[(4, ov (S rB v31))], [], []⟩ [] rfl (.cons rfl .nil) rfl <| JL.nil ?_
     try obtain rfl := so hx63
     exact jo rfl rfl rfl
   refine JC.region <| jc (Zaa (off := 3) lb ZcK tR) <| jc (Zai (j := 0) lb tS23 tR rfl (cT (ZaH t_1) rfl) rfl rfl) <| jc (Zaa (off := 3) lb ZcK tR) <| jc (Zai (j := 1) lb tS23 tR rfl (cT (ZaH a_2) rfl) rfl rfl) <| bI hx38 fun v19 hv_19 hx38 => jx (Zak (js := []) ld cl66 (Zdx k t_1.Items a_2.Items v19 hv_19) .func (.cons tR (.cons tR .nil)) rfl) fun _ => jmv rfl rfl <| jT (ov (PTR gb_3 (0 + 57))) rfl rfl rfl rfl (fun hq_39 => Zaa (off := 57) lb ZeH tR) <| jT (ov (S (rL Zad) t_1.Extra)) rfl rfl rfl rfl (fun hq_40 => Zai (j := 0) lb tS33 (HasO.cnd tR hq_40) rfl (cT (Za3 t_1) rfl) rfl rfl) <| jT (ov (PTR gb_4 (0 + 57))) rfl rfl rfl rfl (fun hq_41 => Zaa (off := 57) lb ZeH tR) <| jT (ov (S (rL Zad) a_2.Extra)) rfl rfl rfl rfl (fun hq_42 => Zai (j := 1) lb tS33 (HasO.cnd tR hq_42) rfl (cT (Za3 a_2) rfl) rfl rfl) ?_
   obtain ⟨v20, hv_20, hx38⟩ := Zay hx38
   refine jT (ov (S rB v20)) rfl rfl rfl rfl (fun hq_43 => (Zak (js := []) ld cl67 (Zco k t_1.Extra a_2.Extra v20 (ifT hv_20 hq_43)) .func (.cons (HasO.cnd tR hq_43) (.cons (HasO.cnd tR hq_43) .nil)) rfl).post (fun _ => Imp.refl)) <| lI hx38 fun v21 hv_21 hx38 => jc (Zao lb tR (fun hb44 => (HasO.cnd tR hb44)) (fun hb44 => .cB) hv_21) <| JL.sub ⟨[(2, ov (PTR gb_3 0)), (3, ov (PTR gb_4 0)), (5, ov (S rB x_18)), (65, ov (S rB v21))], [cvar gb_3 Zae t_1, cvar gb_4 Zae a_2], []⟩ (.cons rfl (.cons rfl (.cons rfl (.cons rfl .nil)))) rfl rfl <| jmv rfl rfl <| jT (ov (PTR gb_3 (0 + 58))) rfl rfl rfl rfl (fun hq_45 => Zaa (off := 58) lb Zd6 tR) <| jT (ov (S (rL Zad) t_1.Live)) rfl rfl rfl rfl (fun hq_46 => Zai (j := 0) lb tS33 (HasO.cnd tR hq_46) rfl (cT (ZaT t_1) rfl) rfl rfl) <| jT (ov (PTR gb_4 (0 + 58))) rfl rfl rfl rfl (fun hq_47 => Zaa (off := 58) lb Zd6 tR) <| jT (ov (S (rL Zad) a_2.Live)) rfl rfl rfl rfl (fun hq_48 => Zai (j := 1) lb tS33 (HasO.cnd tR hq_48) rfl (cT (ZaT a_2) rfl) rfl rfl) ?_
   refine bI hx38 fun v22 hv_22 hx38 => jT (ov (S rB v22)) rfl rfl rfl rfl (fun hq_49 => (Zak (js := []) ld cl67 (Zco k t_1.Live a_2.Live v22 (ifT hv_22 hq_49)) .func (.cons (HasO.cnd tR hq_49) (.cons (HasO.cnd tR hq_49) .nil)) rfl).post (fun _ => Imp.refl)) <| lI hx38 fun v23 hv_23 hx38 => jc (Zao lb tR (fun hb50 => (HasO.cnd tR hb50)) (fun hb50 => .cB) hv_23) <| jmv rfl rfl <| jT (ov (PTR gb_3 (0 + 91))) rfl rfl rfl rfl (fun hq_51 => Zaa (off := 91) lb ZeT tR) <| jT (ov (S (rL (rV 32 (rU UInt8))) t_1.Leaves)) rfl rfl rfl rfl (fun hq_52 => Zai (j := 0) lb tS36 (HasO.cnd tR hq_52) rfl (cT (Zbd t_1) rfl) rfl rfl) <| jT (ov (PTR gb_4 (0 + 91))) rfl rfl rfl rfl (fun hq_53 => Zaa (off := 91) lb ZeT tR) <| jT (ov (S (rL (rV 32 (rU UInt8))) a_2.Leaves)) rfl rfl rfl rfl (fun hq_54 => Zai (j := 1) lb tS36 (HasO.cnd tR hq_54) rfl (cT (Zbd a_2) rfl) rfl rfl) <| JL.sub ⟨[(2, ov (PTR gb_3 0)), (3, ov (PTR gb_4 0)), (5, ov (S rB x_18)), (73, ov (S rB v23)), (75, bif v23 then ov (S (rL (rV 32 (rU UInt8))) t_1.Leaves) else .one .und), (77, bif v23 then ov (S (rL (rV 32 (rU UInt8))) a_2.Leaves) else .one .und)], [cvar gb_3 Zae t_1, cvar gb_4 Zae a_2], []⟩ (.cons rfl (.cons rfl (.cons rfl (.cons rfl (.cons rfl (.cons rfl .nil)))))) rfl rfl ?_
   refine bI hx38 fun v24 hv_24 hx38 => jT (ov (S rB v24)) rfl rfl rfl rfl (fun hq_55 => (Zak (js := []) ld cl68 (Zdw k t_1.Leaves a_2.Leaves v24 (ifT hv_24 hq_55)) .func (.cons (HasO.cnd tR hq_55) (.cons (HasO.cnd tR hq_55) .nil)) rfl).post (fun _ => Imp.refl)) <| lI hx38 fun v25 hv_25 hx38 => jc (Zao lb tR (fun hb56 => (HasO.cnd tR hb56)) (fun hb56 => .cB) hv_25) <| jmv rfl rfl <| jT (ov (PTR gb_3 (0 + 92))) rfl rfl rfl rfl (fun hq_57 => Zaa (off := 92) lb ZcE tR) <| jT (ov (S (rL (rI .i64)) t_1.Buckets)) rfl rfl rfl rfl (fun hq_58 => Zai (j := 0) lb tS37 (HasO.cnd tR hq_58) rfl (cT (ZaJ t_1) rfl) rfl rfl) <| jT (ov (PTR gb_4 (0 + 92))) rfl rfl rfl rfl (fun hq_59 => Zaa (off := 92) lb ZcE tR) <| jT (ov (S (rL (rI .i64)) a_2.Buckets)) rfl rfl rfl rfl (fun hq_60 => Zai (j := 1) lb tS37 (HasO.cnd tR hq_60) rfl (cT (ZaJ a_2) rfl) rfl rfl) ?_
   obtain ⟨v26, hv_26, hx38⟩ := Zay hx38
   refine jT (ov (S rB v26)) rfl rfl rfl rfl (fun hq_61 => (Zak (js := []) ld cl69 (Zfr k t_1.Buckets a_2.Buckets v26 (ifT hv_26 hq_61)) .func (.cons (HasO.cnd tR hq_61) (.cons (HasO.cnd tR hq_61) .nil)) rfl).post (fun _ => Imp.refl)) <| lI hx38 fun v27 hv_27 hx38 => jc (Zao lb tR (fun hb62 => (HasO.cnd tR hb62)) (fun hb62 => .cB) hv_27) <| jc (Zab lb tR) <| JL.nil ?_
   try obtain rfl := so hx38
   exact JQ.join () (Imp.norm (js := [0, 0]) rfl (.cons rfl (.cons rfl (.cons rfl (.cons rfl .nil)))))
 refine JC.region <| jc (Zaa (off := 0) lb Zeu tR) <| jc (Zai (j := 0) lb tS22 tR rfl (cT (ZaS t_1) rfl) rfl rfl) <| jc (Zaa (off := 0) lb Zeu tR) <| jc (Zai (j := 1) lb tS22 tR rfl (cT (ZaS a_2) rfl) rfl rfl) <| lI hx1 fun v5 hv_5 hx1 => jc (Zaq lb tR tR (cs hv_5)) <| JL.sub ⟨[(2, ov (PTR gb_3 0)), (3, ov (PTR gb_4 0)), (11, ov (S rB v5))], [cvar gb_3 Zae t_1, cvar gb_4 Zae a_2], []⟩ (.cons rfl (.cons rfl (.cons rfl .nil))) rfl rfl <| jmv rfl rfl <| jT (ov (PTR gb_3 (0 + 1))) rfl rfl rfl rfl (fun hq_2 => Zaa (off := 1) lb Zgb tR) <| jT (ov (S (rI .i64) t_1.From)) rfl rfl rfl rfl (fun hq_3 => Zai (j := 0) lb tS3 (HasO.cnd tR hq_3) rfl (cT (Za5 t_1) rfl) rfl rfl) <| jT (ov (PTR gb_4 (0 + 1))) rfl rfl rfl rfl (fun hq_4 => Zaa (off := 1) lb Zgb tR) <| jT (ov (S (rI .i64) a_2.From)) rfl rfl rfl rfl (fun hq_5 => Zai (j := 1) lb tS3 (HasO.cnd tR hq_5) rfl (cT (Za5 a_2) rfl) rfl rfl) ?_
 refine lI hx1 fun v6 hv_6 hx1 => jT (ov (S rB v6)) rfl rfl rfl rfl (fun hq_6 => Zaq lb (HasO.cnd tR hq_6) (HasO.cnd tR hq_6) (cs hv_6)) <| lI hx1 fun v7 hv_7 hx1 => jc (Zao lb tR (fun hb7 => (HasO.cnd tR hb7)) (fun hb7 => .cB) hv_7) <| jmv rfl rfl <| jT (ov (PTR gb_3 (0 + 2))) rfl rfl rfl rfl (fun hq_8 => Zaa (off := 2) lb Zf9 tR) <| jT (ov (S (rI .i64) t_1.To)) rfl rfl rfl rfl (fun hq_9 => Zai (j := 0) lb tS3 (HasO.cnd tR hq_9) rfl (cT (Zbj t_1) rfl) rfl rfl) <| jT (ov (PTR gb_4 (0 + 2))) rfl rfl rfl rfl (fun hq_10 => Zaa (off := 2) lb Zf9 tR) <| jT (ov (S (rI .i64) a_2.To)) rfl rfl rfl rfl (fun hq_11 => Zai (j := 1) lb tS3 (HasO.cnd tR hq_11) rfl (cT (Zbj a_2) rfl) rfl rfl) <| JL.sub ⟨[(2, ov (PTR gb_3 0)), (3, ov (PTR gb_4 0)), (19, ov (S rB v7)), (21, bif v7 then ov (S (rI .i64) t_1.To) else .one .und), (23, bif v7 then ov (S (rI .i64) a_2.To) else .one .und)], [cvar gb_3 Zae t_1, cvar gb_4 Zae a_2], []⟩ (.cons rfl (.cons rfl (.cons rfl (.cons rfl (.cons rfl .nil))))) rfl rfl ?_
 refine lI hx1 fun v8 hv_8 hx1 => jT (ov (S rB v8)) rfl rfl rfl rfl (fun hq_12 => Zaq lb (HasO.cnd tR hq_12) (HasO.cnd tR hq_12) (cs hv_8)) <| lI hx1 fun v9 hv_9 hx1 => jc (Zao lb tR (fun hb13 => (HasO.cnd tR hb13)) (fun hb13 => .cB) hv_9) <| jmv rfl rfl <| jT (ov (PTR gb_3 (0 + 25))) rfl rfl rfl rfl (fun hq_14 => Zaa (off := 25) lb Zgy tR) <| jT (ov (A (rV 16 (rU UInt64)) t_1.Past)) rfl rfl rfl rfl (fun hq_15 => Zaw (j := 0) lb tA29 (HasO.cnd tR hq_15) rfl (cT (Zby t_1) rfl) rfl) <| jT (ov (PTR gb_4 (0 + 25))) rfl rfl rfl rfl (fun hq_16 => Zaa (off := 25) lb Zgy tR) <| jT (ov (A (rV 16 (rU UInt64)) a_2.Past)) rfl rfl rfl rfl (fun hq_17 => Zaw (j := 1) lb tA29 (HasO.cnd tR hq_17) rfl (cT (Zby a_2) rfl) rfl) ?_
 obtain ⟨v10, hv_10, hx1⟩ := ZaQ hx1
 refine jT (ov (S rB v10)) rfl rfl rfl rfl (fun hq_18 => Zit lb qa29 (by decide) ng29 (HasO.cnd tR hq_18) (HasO.cnd tR hq_18) hv_10) <| lI hx1 fun v11 hv_11 hx1 => jc (Zao lb tR (fun hb19 => (HasO.cnd tR hb19)) (fun hb19 => .cB) hv_11) <| jmv rfl rfl <| jT (ov (PTR gb_3 (0 + 41))) rfl rfl rfl rfl (fun hq_20 => Zaa (off := 41) lb Ze8 tR) <| jT (ov (A (rV 16 (rU UInt64)) t_1.Seen)) rfl rfl rfl rfl (fun hq_21 => Zaw (j := 0) lb tA29 (HasO.cnd tR hq_21) rfl (cT (Zbf t_1) rfl) rfl) <| JL.sub ⟨[(2, ov (PTR gb_3 0)), (3, ov (PTR gb_4 0)), (33, ov (S rB v11)), (35, bif v11 then ov (A (rV 16 (rU UInt64)) t_1.Seen) else .one .und)], [cvar gb_3 Zae t_1, cvar gb_4 Zae a_2], []⟩ (.cons rfl (.cons rfl (.cons rfl (.cons rfl .nil)))) rfl rfl <| jT (ov (PTR gb_4 (0 + 41))) rfl rfl rfl rfl (fun hq_22 => Zaa (off := 41) lb Ze8 tR) <| jT (ov (A (rV 16 (rU UInt64)) a_2.Seen)) rfl rfl rfl rfl (fun hq_23 => Zaw (j := 1) lb tA29 (HasO.cnd tR hq_23) rfl (cT (Zbf a_2) rfl) rfl) ?_
 obtain ⟨v12, hv_12, hx1⟩ := ZaQ hx1
 refine jT (ov (S rB v12)) rfl rfl rfl rfl (fun hq_24 => Zit lb qa29 (by decide) ng29 (HasO.cnd tR hq_24) (HasO.cnd tR hq_24) hv_12) <| lI hx1 fun v13 hv_13 hx1 => jc (Zao lb tR (fun hb25 => (HasO.cnd tR hb25)) (fun hb25 => .cB) hv_13) <| jmv rfl rfl <| jT (ov (PTR gb_3 (0 + 59))) rfl rfl rfl rfl (fun hq_26 => Zaa (off := 59) lb ZhM tR) <| jT (ov (A (rV 32 (rU UInt8)) t_1.Hash)) rfl rfl rfl rfl (fun hq_27 => Zaw (j := 0) lb tA35 (HasO.cnd tR hq_27) rfl (cT (ZbZ t_1) rfl) rfl) <| jT (ov (PTR gb_4 (0 + 59))) rfl rfl rfl rfl (fun hq_28 => Zaa (off := 59) lb ZhM tR) <| jT (ov (A (rV 32 (rU UInt8)) a_2.Hash)) rfl rfl rfl rfl (fun hq_29 => Zaw (j := 1) lb tA35 (HasO.cnd tR hq_29) rfl (cT (ZbZ a_2) rfl) rfl) <| lI hx1 fun v14 hv_14 hx1 => jT (ov (S rB v14)) rfl rfl rfl rfl (fun hq_30 => Zit lb qa35 (by decide) ng35 (HasO.cnd tR hq_30) (HasO.cnd tR hq_30) hv_14) ?_
 refine lI hx1 fun v15 hv_15 hx1 => jc (Zao lb tR (fun hb31 => (HasO.cnd tR hb31)) (fun hb31 => .cB) hv_15) <| jmv rfl rfl <| JL.sub ⟨[(2, ov (PTR gb_3 0)), (3, ov (PTR gb_4 0)), (47, ov (S rB v15))], [cvar gb_3 Zae t_1, cvar gb_4 Zae a_2], []⟩ (.cons rfl (.cons rfl (.cons rfl .nil))) rfl rfl <| jT (ov (PTR gb_3 (0 + 93))) rfl rfl rfl rfl (fun hq_32 => Zaa (off := 93) lb Zgn tR) <| jT (ov (S rB t_1.Reply)) rfl rfl rfl rfl (fun hq_33 => Zai (j := 0) lb tS4 (HasO.cnd tR hq_33) rfl (cT (ZbR t_1) rfl) rfl rfl) <| jT (ov (PTR gb_4 (0 + 93))) rfl rfl rfl rfl (fun hq_34 => Zaa (off := 93) lb Zgn tR) <| jT (ov (S rB a_2.Reply)) rfl rfl rfl rfl (fun hq_35 => Zai (j := 1) lb tS4 (HasO.cnd tR hq_35) rfl (cT (ZbR a_2) rfl) rfl rfl) <| lI hx1 fun v16 hv_16 hx1 => jT (ov (S rB v16)) rfl rfl rfl rfl (fun hq_36 => Znt lb tu4 (HasO.cnd tR hq_36) (HasO.cnd tR hq_36) hv_16) ?_
 refine lI hx1 fun v17 hv_17 hx1 => jc (Zao lb tR (fun hb37 => (HasO.cnd tR hb37)) (fun hb37 => .cB) hv_17) <| jc (Zab lb tR) <| JL.nil ?_
 try obtain rfl := so hx1
 exact JQ.join () (Imp.norm (js := [0, 0]) rfl (.cons rfl (.cons rfl (.cons rfl .nil))))

theorem Zep (k : Nat) (d_1 : Zaf) (r : Bool) (hm : ZfW k d_1 = some r) : Sim Tryz.prog 34 [A Zad d_1] [] (γ := Unit) (fun q => []) (fun q => .one (.val (S rB r))) := by
 unfold ZfW at hm
 refine Sim.of Tryz.func34 rfl rfl (lE rfl) (fun e0 w0 => ?_)
 refine JC.at ⟨[(0, ov (A Zad d_1))], [], []⟩ <| jr <| jx (ZaX lb tR) fun gb_2 => jc (Zab lb .cB) <| jn <| bI hm fun x_10 hx1 hq1 => JC.seqJ (γ := Unit) (stj := fun _ => ⟨[(2, ov (S rB x_10))], [], []⟩) (fun _ => ?_) ?_
 · refine JC.ret ?_
   obtain rfl := so hq1
   exact jd (.val (S rB x_10)) rfl rfl rfl rfl rfl rfl
 refine JC.region <| jc (Zaa (off := 0) lb Zcx tR) <| jc (Zai (j := 0) lb tS3 tR rfl (cT (ZaC d_1) rfl) rfl rfl) <| lI hx1 fun v3 hv_3 hx1 => jc (Zaq lb tR .cI (cs hv_3)) <| jmv rfl rfl <| jT (ov (PTR gb_2 (0 + 0))) rfl rfl rfl rfl (fun hq_2 => Zaa (off := 0) lb Zcx tR) <| jT (ov (S (rI .i64) d_1.Region)) rfl rfl rfl rfl (fun hq_3 => Zai (j := 0) lb tS3 (HasO.cnd tR hq_3) rfl (cT (ZaC d_1) rfl) rfl rfl) <| lI hx1 fun v4 hv_4 hx1 => jT (ov (S rB v4)) rfl rfl rfl rfl (fun hq_4 => Zaq lb (HasO.cnd tR hq_4) .cI (cs hv_4)) <| lI hx1 fun v5 hv_5 hx1 => jc (Zao lb tR (fun hb5 => (HasO.cnd tR hb5)) (fun hb5 => .cB) hv_5) ?_
 refine JL.sub ⟨[(1, ov (PTR gb_2 0)), (2, ov (S rB false)), (10, ov (S rB v5))], [cvar gb_2 Zad d_1], []⟩ (.cons rfl (.cons rfl (.cons rfl .nil))) rfl rfl <| jmv rfl rfl <| jT (ov (PTR gb_2 (0 + 1))) rfl rfl rfl rfl (fun hq_6 => Zaa (off := 1) lb ZdA tR) <| jT (ov (S (rU UInt64) d_1.Count)) rfl rfl rfl rfl (fun hq_7 => Zai (j := 0) lb tS24 (HasO.cnd tR hq_7) rfl (cT (ZaN d_1) rfl) rfl rfl) <| lI hx1 fun v6 hv_6 hx1 => jT (ov (S rB v6)) rfl rfl rfl rfl (fun hq_8 => ZbH lb (HasO.cnd tR hq_8) (HasO.cU (x := (1 : UInt64)) rfl (by decide)) (cs hv_6)) <| lI hx1 fun v7 hv_7 hx1 => jc (Zao lb tR (fun hb9 => (HasO.cnd tR hb9)) (fun hb9 => .cB) hv_7) <| jmv rfl rfl <| jT (ov (PTR gb_2 (0 + 1))) rfl rfl rfl rfl (fun hq_10 => Zaa (off := 1) lb ZdA tR) ?_
 refine jT (ov (S (rU UInt64) d_1.Count)) rfl rfl rfl rfl (fun hq_11 => Zai (j := 0) lb tS24 (HasO.cnd tR hq_11) rfl (cT (ZaN d_1) rfl) rfl rfl) <| lI hx1 fun v8 hv_8 hx1 => jT (ov (S rB v8)) rfl rfl rfl rfl (fun hq_12 => ZbH lb (HasO.cnd tR hq_12) (HasO.cU (x := (4611686018427387904 : UInt64)) rfl (by decide)) (cs hv_8)) <| lI hx1 fun v9 hv_9 hx1 => jc (Zao lb tR (fun hb13 => (HasO.cnd tR hb13)) (fun hb13 => .cB) hv_9) <| jc (Zab lb tR) <| JL.nil ?_
 try obtain rfl := so hx1
 exact jo rfl rfl rfl

theorem Zc1 (k : Nat) (s_1 : (List UInt8)) (r : Bool) (hm : Zcb k s_1 = some r) : Sim Tryz.prog 71 [S rS s_1] [] (γ := Unit) (fun q => []) (fun q => .one (.val (S rB r))) := by
 unfold Zcb at hm
 refine Sim.of Tryz.func71 rfl rfl (lE rfl) (fun e0 w0 => ?_)
 refine JC.at ⟨[(0, ov (S rS s_1))], [], []⟩ <| jr <| jc (Zab lb .cB) <| jn <| bI hm fun x_5 hx1 hq1 => JC.seqJ (γ := Unit) (stj := fun _ => ⟨[(2, ov (S rB x_5))], [], []⟩) (fun _ => ?_) ?_
 · refine JC.ret ?_
   obtain rfl := so hq1
   exact jd (.val (S rB x_5)) rfl rfl rfl rfl rfl rfl
 refine JC.region <| jmv rfl rfl <| jc (ZfR lb tu9 tR) <| lI hx1 fun v2 hv_2 hx1 => jc (Zaq lb tR .cI (cs hv_2)) <| jmv rfl rfl <| jT (ov (S rS s_1)) rfl rfl rfl rfl (fun hq_2 => Zax lb tR) <| jT (ov (S (rI .i64) (List.length s_1 : Int))) rfl rfl rfl rfl (fun hq_3 => ZfR lb tu9 (HasO.cnd tR hq_3)) <| lI hx1 fun v3 hv_3 hx1 => jT (ov (S rB v3)) rfl rfl rfl rfl (fun hq_4 => Zaq lb (HasO.cnd tR hq_4) .cI (cs hv_3)) <| lI hx1 fun v4 hv_4 hx1 => jc (Zao lb tR (fun hb5 => (HasO.cnd tR hb5)) (fun hb5 => .cB) hv_4) <| jc (Zab lb tR) <| JL.nil ?_
 try obtain rfl := so hx1
 exact jo rfl rfl rfl

theorem Zg9 (k : Nat) (i_1 : Zap) (r : Bool) (hm : Zdr k i_1 = some r) : Sim Tryz.prog 20 [A Zaj i_1] [] (γ := Unit) (fun q => []) (fun q => .one (.val (S rB r))) := by
 unfold Zdr at hm
 refine Sim.of Tryz.func20 rfl rfl (lE rfl) (fun e0 w0 => ?_)
 refine JC.at ⟨[(0, ov (A Zaj i_1))], [], []⟩ <| jr <| jx (ZaX lb tR) fun gb_2 => jc (Zab lb .cB) <| jn <| JC.seq <| jr <| jc (Zaa (off := 4) lb ZiB tR) <| jc (Zai (j := 0) lb tS4 tR rfl (cT (ZcI i_1) rfl) rfl rfl) <| jn <| jif tR hm (fun hc1 hm => ?_) (fun hc1 hm => ?_)
 · refine bI hm fun x_6 hx2 hq2 => JC.seqJ (γ := Unit) (stj := fun _ => ⟨[(2, ov (S rB x_6))], [], []⟩) (fun _ => ?_) ?_
   · refine JC.ret <| JQ.outR ?_
     obtain rfl := so hq2
     exact jd (.val (S rB x_6)) rfl rfl rfl rfl rfl rfl
   refine JC.region <| jc (Zaa (off := 0) lb Zhi tR) <| jc (Zaw (j := 0) lb tA26 tR rfl (cT (ZbA i_1) rfl) rfl) <| bI hx2 fun v3 hv_3 hx2 => jx (Zak (js := []) ld cl34 (Zep k i_1.Dot v3 hv_3) .func (.cons tR .nil) rfl) fun _ => jmv rfl rfl <| jT (ov (PTR gb_2 (0 + 2))) rfl rfl rfl rfl (fun hq_3 => Zaa (off := 2) lb Zfa tR) <| jT (ov (A Zck i_1.Key)) rfl rfl rfl rfl (fun hq_4 => Zaw (j := 0) lb tA60 (HasO.cnd tR hq_4) rfl (cT (Za8 i_1) rfl) rfl) <| JL.nrm ⟨[(2, ov (S rB false)), (8, ov (S rB v3)), (10, bif v3 then ov (A Zck i_1.Key) else .one .und)], [], []⟩ [] rfl (.cons rfl (.cons rfl (.cons rfl .nil))) rfl <| jT (ov (A Zck (Zbq.mk ([] : (List UInt8)) ([] : (List UInt8))))) rfl rfl rfl rfl (fun hq_5 => Za9 lb tZ60 zv60 tp60 .nil rfl) ?_
   obtain ⟨v4, hv_4, hx2⟩ := ZaQ hx2
   refine jT (ov (S rB v4)) rfl rfl rfl rfl (fun hq_6 => Zit lb qa60 (by decide) ng60 (HasO.cnd tR hq_6) (HasO.cnd tR hq_6) hv_4) <| lI hx2 fun v5 hv_5 hx2 => jc (Zao lb tR (fun hb7 => (HasO.cnd tR hb7)) (fun hb7 => .cB) hv_5) <| jc (Zab lb tR) <| JL.nil ?_
   try obtain rfl := so hx2
   exact jo rfl rfl rfl
 refine JC.skip <| JQ.then <| bI hm fun x_12 hx8 hq8 => JC.seqJ (γ := Unit) (stj := fun _ => ⟨[(2, ov (S rB x_12))], [], []⟩) (fun _ => ?_) ?_
 · refine JC.ret ?_
   obtain rfl := so hq8
   exact jd (.val (S rB x_12)) rfl rfl rfl rfl rfl rfl
 refine JC.region <| jc (Zaa (off := 0) lb Zhi tR) <| jc (Zaw (j := 0) lb tA26 tR rfl (cT (ZbA i_1) rfl) rfl) <| bI hx8 fun v7 hv_7 hx8 => jx (Zak (js := []) ld cl34 (Zep k i_1.Dot v7 hv_7) .func (.cons tR .nil) rfl) fun _ => jmv rfl rfl <| jT (ov (PTR gb_2 (0 + 2))) rfl rfl rfl rfl (fun hq_9 => Zaa (off := 2) lb Zfa tR) <| jT (ov (PTR gb_2 ((0 + 2) + 0))) rfl rfl rfl rfl (fun hq_10 => Zaa (off := 0) lb Zjk (HasO.cnd tR hq_10)) <| JL.sub ⟨[(1, ov (PTR gb_2 0)), (2, ov (S rB false)), (17, ov (S rB v7)), (19, bif v7 then ov (PTR gb_2 ((0 + 2) + 0)) else .one .und)], [cvar gb_2 Zaj i_1], []⟩ (.cons rfl (.cons rfl (.cons rfl (.cons rfl .nil)))) rfl rfl <| jT (ov (S rS i_1.Key.Topic)) rfl rfl rfl rfl (fun hq_11 => Zai (j := 0) lb tS9 (HasO.cnd tR hq_11) rfl (Comp.trans (cT (Za8 i_1) rfl) (Zb5 i_1.Key) (lE rfl)) rfl rfl) ?_
 obtain ⟨v8, hv_8, hx8⟩ := Zay hx8
 refine jT (ov (S rB v8)) rfl rfl rfl rfl (fun hq_12 => (Zak (js := []) ld cl71 (Zc1 k i_1.Key.Topic v8 (ifT hv_8 hq_12)) .func (.cons (HasO.cnd tR hq_12) .nil) rfl).post (fun _ => Imp.refl)) <| lI hx8 fun v9 hv_9 hx8 => jc (Zao lb tR (fun hb13 => (HasO.cnd tR hb13)) (fun hb13 => .cB) hv_9) <| jmv rfl rfl <| jT (ov (PTR gb_2 (0 + 2))) rfl rfl rfl rfl (fun hq_14 => Zaa (off := 2) lb Zfa tR) <| jT (ov (PTR gb_2 ((0 + 2) + 1))) rfl rfl rfl rfl (fun hq_15 => Zaa (off := 1) lb Zi9 (HasO.cnd tR hq_15)) <| jT (ov (S rS i_1.Key.Device)) rfl rfl rfl rfl (fun hq_16 => Zai (j := 0) lb tS9 (HasO.cnd tR hq_16) rfl (Comp.trans (cT (Za8 i_1) rfl) (ZbY i_1.Key) (lE rfl)) rfl rfl) <| bI hx8 fun v10 hv_10 hx8 => jT (ov (S rB v10)) rfl rfl rfl rfl (fun hq_17 => (Zak (js := []) ld cl71 (Zc1 k i_1.Key.Device v10 (ifT hv_10 hq_17)) .func (.cons (HasO.cnd tR hq_17) .nil) rfl).post (fun _ => Imp.refl)) ?_
 obtain ⟨v11, hv_11, hx8⟩ := ZaQ hx8
 refine jc (Zao lb tR (fun hb18 => (HasO.cnd tR hb18)) (fun hb18 => .cB) hv_11) <| jc (Zab lb tR) <| JL.nil ?_
 try obtain rfl := so hx8
 exact jo rfl rfl rfl

theorem ZgX (k : Nat) (i_1 : Zap) (r : Bool) (hm : ZdB k i_1 = some r) : Sim Tryz.prog 81 [A Zaj i_1] [] (γ := Unit) (fun q => []) (fun q => .one (.val (S rB r))) := by
 unfold ZdB at hm
 refine Sim.of Tryz.func81 rfl rfl (lE rfl) (fun e0 w0 => ?_)
 refine JC.at ⟨[(0, ov (A Zaj i_1))], [], []⟩ <| jr <| jx (ZaX lb tR) fun gb_2 => jc (Zab lb .cB) <| jn <| jr <| jc (Zaw (j := 0) lb tA62 tR rfl (Comp.self Zaj i_1) rfl) <| bI hm fun v3 hv_3 hm => jx (Zak (js := []) ld cl20 (Zg9 k i_1 v3 hv_3) .func (.cons tR .nil) rfl) fun _ => lI hm fun v4 hv_4 hm => jc (Zbc lb tR hv_4) <| jc (Zab lb tR) <| jn <| JC.ret ?_
 obtain rfl := so hm
 exact jd (.val (S rB v4)) rfl rfl rfl rfl rfl rfl

theorem Zc7 (k : Nat) (s_1 : (List Zap)) (r : Int) (hm : slices_IndexFuncapi_Item_api_Item k s_1 = some r) : Sim Tryz.prog 111 [S (rL Zaj) s_1, CLO 81 []] [] (γ := Unit) (fun q => []) (fun q => .one (.val (S (rI .i64) r))) := by
 unfold slices_IndexFuncapi_Item_api_Item at hm
 refine Sim.of Tryz.func111 rfl rfl (lE rfl) (fun e0 w0 => ?_)
 refine JC.at ⟨[(0, ov (S (rL Zaj) s_1)), (1, ov (CLO 81 []))], [], []⟩ <| jr <| jc (Zab lb .cI) <| jn <| bI hm fun tv1 hx1 hq1 => JC.seqK (α := Unit) (γ := Unit) (stj := fun v q => ⟨[], [], []⟩) (p := fun v => tv1 = (.inl v)) (fun v q hv => ?_) ?_
 · subst hv
   skip
   obtain _ := q
   dsimp only at hq1
   refine JC.at ⟨[], [], []⟩ <| jr <| jc (Zab lb .cI) <| jn <| JC.ret ?_
   obtain rfl := so hq1
   exact jd (.val (S (rI .i64) (-1 : Int))) rfl rfl rfl rfl rfl rfl
 refine jr <| jmv rfl rfl <| jc (ZaE lb tu23 tR) <| jc (Zax lb .cI) <| jn <| JC.block <| bI hx1 fun tv2 hL2 hq2 => JC.pre ?_ (JC.loop (γ := Unit) (stf := fun s q => ⟨[(0, ov (S (rL Zaj) s_1)), (1, ov (CLO 81 [])), (7, ov (S (rI .i64) (List.length s_1 : Int))), (8, ov (S (rI .i64) s))], [], []⟩) (q := ()) hL2 ?_)
 · exact (Imp.norm (js := []) rfl (.cons rfl (.cons rfl (.cons rfl (.cons rfl .nil)))))
 intro x_2 q x hx hr
 obtain _ := q
 change slices_IndexFuncapi_Item_api_Item.b1 k s_1 x_2 = some x at hx
 unfold slices_IndexFuncapi_Item_api_Item.b1 at hx
 refine JC.at ⟨[(0, ov (S (rL Zaj) s_1)), (1, ov (CLO 81 [])), (7, ov (S (rI .i64) (List.length s_1 : Int))), (8, ov (S (rI .i64) x_2))], [], []⟩ <| jr <| lI hx fun v3 hv_3 hx => jc (Zaq lb tR tR (cs hv_3)) <| jn <| JC.seq <| jif tR hx (fun hc3 hx => ?_) (fun hc3 hx => ?_)
 · refine JC.skip <| JQ.then <| JC.seq <| JC.block <| jr <| jmv rfl rfl <| jc (Zab lb tR) <| jn <| jr <| jmv rfl rfl <| jmv rfl rfl <| jmv rfl rfl <| bI hx fun v4 hv_4 hx => jc (Zau lb tu23 tz62 tR tR hv_4) <| jc (ZaR lb tA62 tR rfl) <| bI hx fun v5 hv_5 hx => jx (Zak (js := []) ld cl81 (ZgX k v4 v5 hv_5) tR (.cons tR .nil) rfl) fun _ => jn ?_
   refine jif tR hx (fun hc4 hx => ?_) (fun hc4 hx => ?_)
   · refine jr <| jmv rfl rfl <| jc (Zab lb tR) <| jn <| JC.ret <| JQ.outRB <| JQ.outR ?_
     try obtain rfl := so hx
     try obtain rfl := hr _ rfl
     dsimp only at hq2
     refine JQ.outR <| JQ.outRB ?_
     try obtain rfl := so hq2
     dsimp only at hq1
     refine JQ.outR ?_
     obtain rfl := so hq1
     exact jd (.val (S (rI .i64) x_2)) rfl rfl rfl rfl rfl rfl
   refine JC.skip <| JQ.outNB <| JQ.then <| JC.region <| lI hx fun v6 hv_6 hx => jc (ZaY lb tR .cI (cs hv_6)) <| jmv rfl rfl <| JL.nil ?_
   try obtain rfl := so hx
   exact JQ.next () rfl (Imp.norm (js := []) rfl (.cons rfl (.cons rfl (.cons rfl (.cons rfl .nil)))))
 refine JC.exit <| JQ.outX ?_
 try obtain rfl := so hx
 try obtain rfl := hr _ rfl
 dsimp only at hq2
 refine JQ.outX <| JQ.here ?_
 try obtain rfl := so hq2
 exact JQ.joinK () () rfl (Imp.norm (js := []) rfl .nil)

theorem ZcJ (k : Nat) (s_1 : (List Zap)) (r : Bool) (hm : ZaV k s_1 = some r) : Sim Tryz.prog 73 [S (rL Zaj) s_1, CLO 81 []] [] (γ := Unit) (fun q => []) (fun q => .one (.val (S rB r))) := by
 unfold ZaV at hm
 refine Sim.of Tryz.func73 rfl rfl (lE rfl) (fun e0 w0 => ?_)
 refine JC.at ⟨[(0, ov (S (rL Zaj) s_1)), (1, ov (CLO 81 []))], [], []⟩ <| jr <| jc (Zab lb .cB) <| jn <| jr <| jmv rfl rfl <| jmv rfl rfl <| bI hm fun v2 hv_2 hm => jx (Zak (js := []) ld ZnZ (Zc7 k s_1 v2 hv_2) .func (.cons tR (.cons tR .nil)) rfl) fun _ => lI hm fun v3 hv_3 hm => jc (Zaq lb tR .cI (cs hv_3)) <| jc (Zab lb tR) <| jn <| JC.ret ?_
 obtain rfl := so hm
 exact jd (.val (S rB v3)) rfl rfl rfl rfl rfl rfl

theorem ZfZ (k : Nat) (f_1 : Zah) (r : Bool) (hm : ZdL k f_1 = some r) : Sim Tryz.prog 30 [A Zae f_1] [] (γ := Unit) (fun q => []) (fun q => .one (.val (S rB r))) := by
 unfold ZdL at hm
 refine Sim.of Tryz.func30 rfl rfl (lE rfl) (fun e0 w0 => ?_)
 refine JC.at ⟨[(0, ov (A Zae f_1))], [], []⟩ <| jr <| jx (ZaX lb tR) fun gb_2 => jc (Zab lb .cB) <| jn <| bI hm fun x_7 hx1 hq1 => JC.seqJ (γ := Unit) (stj := fun _ => ⟨[(2, ov (S rB x_7))], [], []⟩) (fun _ => ?_) ?_
 · refine JC.ret ?_
   obtain rfl := so hq1
   exact jd (.val (S rB x_7)) rfl rfl rfl rfl rfl rfl
 refine JC.region <| jc (Zaa (off := 3) lb ZcK tR) <| jc (Zai (j := 0) lb tS23 tR rfl (cT (ZaH f_1) rfl) rfl rfl) <| jc (ZaE lb tu23 tR) <| lI hx1 fun v3 hv_3 hx1 => jc (Zaq lb tR .cI (cs hv_3)) <| jmv rfl rfl <| jT (ov (PTR gb_2 (0 + 3))) rfl rfl rfl rfl (fun hq_2 => Zaa (off := 3) lb ZcK tR) <| jT (ov (S (rL Zaj) f_1.Items)) rfl rfl rfl rfl (fun hq_3 => Zai (j := 0) lb tS23 (HasO.cnd tR hq_3) rfl (cT (ZaH f_1) rfl) rfl rfl) <| bI hx1 fun v4 hv_4 hx1 => jT (ov (S rB v4)) rfl rfl rfl rfl (fun hq_4 => (Zak (js := []) ld cl73 (ZcJ k f_1.Items v4 (ifT hv_4 hq_4)) .func (.cons (HasO.cnd tR hq_4) (.cons .func .nil)) rfl).post (fun _ => Imp.refl)) <| JL.nrm ⟨[(2, ov (S rB false)), (7, ov (S rB v3)), (10, bif v3 then ov (S rB v4) else .one .und)], [], []⟩ [] rfl (.cons rfl (.cons rfl (.cons rfl .nil))) rfl ?_
 obtain ⟨v5, hv_5, hx1⟩ := ZaQ hx1
 refine jT (ov (S rB v5)) rfl rfl rfl rfl (fun hq_5 => Zbc lb (HasO.cnd tR hq_5) hv_5) <| lI hx1 fun v6 hv_6 hx1 => jc (Zao lb tR (fun hb6 => (HasO.cnd tR hb6)) (fun hb6 => .cB) hv_6) <| jc (Zab lb tR) <| JL.nil ?_
 try obtain rfl := so hx1
 exact jo rfl rfl rfl

theorem Zd4 (k : Nat) (d_1 : Zaf) (r : Bool) (hm : ZdT k d_1 = some r) : Sim Tryz.prog 82 [A Zad d_1] [] (γ := Unit) (fun q => []) (fun q => .one (.val (S rB r))) := by
 unfold ZdT at hm
 refine Sim.of Tryz.func82 rfl rfl (lE rfl) (fun e0 w0 => ?_)
 refine JC.at ⟨[(0, ov (A Zad d_1))], [], []⟩ <| jr <| jx (ZaX lb tR) fun gb_2 => jc (Zab lb .cB) <| jn <| bI hm fun x_10 hx1 hq1 => JC.seqJ (γ := Unit) (stj := fun _ => ⟨[(2, ov (S rB x_10))], [], []⟩) (fun _ => ?_) ?_
 · refine JC.ret ?_
   obtain rfl := so hq1
   exact jd (.val (S rB x_10)) rfl rfl rfl rfl rfl rfl
 refine JC.region <| jc (Zaa (off := 0) lb Zcx tR) <| jc (Zai (j := 0) lb tS3 tR rfl (cT (ZaC d_1) rfl) rfl rfl) <| lI hx1 fun v3 hv_3 hx1 => jc (Zaq lb tR .cI (cs hv_3)) <| jmv rfl rfl <| jT (ov (PTR gb_2 (0 + 0))) rfl rfl rfl rfl (fun hq_2 => Zaa (off := 0) lb Zcx tR) <| jT (ov (S (rI .i64) d_1.Region)) rfl rfl rfl rfl (fun hq_3 => Zai (j := 0) lb tS3 (HasO.cnd tR hq_3) rfl (cT (ZaC d_1) rfl) rfl rfl) <| lI hx1 fun v4 hv_4 hx1 => jT (ov (S rB v4)) rfl rfl rfl rfl (fun hq_4 => Zaq lb (HasO.cnd tR hq_4) .cI (cs hv_4)) <| lI hx1 fun v5 hv_5 hx1 => jc (Zao lb tR (fun hb5 => (HasO.cnd tR hb5)) (fun hb5 => .cB) hv_5) ?_
 refine JL.sub ⟨[(1, ov (PTR gb_2 0)), (2, ov (S rB false)), (10, ov (S rB v5))], [cvar gb_2 Zad d_1], []⟩ (.cons rfl (.cons rfl (.cons rfl .nil))) rfl rfl <| jmv rfl rfl <| jT (ov (PTR gb_2 (0 + 1))) rfl rfl rfl rfl (fun hq_6 => Zaa (off := 1) lb ZdA tR) <| jT (ov (S (rU UInt64) d_1.Count)) rfl rfl rfl rfl (fun hq_7 => Zai (j := 0) lb tS24 (HasO.cnd tR hq_7) rfl (cT (ZaN d_1) rfl) rfl rfl) <| lI hx1 fun v6 hv_6 hx1 => jT (ov (S rB v6)) rfl rfl rfl rfl (fun hq_8 => ZbH lb (HasO.cnd tR hq_8) (HasO.cU (x := (1 : UInt64)) rfl (by decide)) (cs hv_6)) <| lI hx1 fun v7 hv_7 hx1 => jc (Zao lb tR (fun hb9 => (HasO.cnd tR hb9)) (fun hb9 => .cB) hv_7) <| jmv rfl rfl <| jT (ov (PTR gb_2 (0 + 1))) rfl rfl rfl rfl (fun hq_10 => Zaa (off := 1) lb ZdA tR) ?_
 refine jT (ov (S (rU UInt64) d_1.Count)) rfl rfl rfl rfl (fun hq_11 => Zai (j := 0) lb tS24 (HasO.cnd tR hq_11) rfl (cT (ZaN d_1) rfl) rfl rfl) <| lI hx1 fun v8 hv_8 hx1 => jT (ov (S rB v8)) rfl rfl rfl rfl (fun hq_12 => ZbH lb (HasO.cnd tR hq_12) (HasO.cU (x := (4611686018427387904 : UInt64)) rfl (by decide)) (cs hv_8)) <| lI hx1 fun v9 hv_9 hx1 => jc (Zao lb tR (fun hb13 => (HasO.cnd tR hb13)) (fun hb13 => .cB) hv_9) <| jc (Zab lb tR) <| JL.nil ?_
 try obtain rfl := so hx1
 exact jo rfl rfl rfl

theorem ZfY (k : Nat) (n_1 : UInt64) (r : Bool) (hm : Zcm k n_1 = some r) : Sim Tryz.prog 116 [S (rU UInt64) n_1] [] (γ := Unit) (fun q => []) (fun q => .one (.val (S rB r))) := by
 unfold Zcm at hm
 refine Sim.of Tryz.func116 rfl rfl (lE rfl) (fun e0 w0 => ?_)
 refine JC.at ⟨[(0, ov (S (rU UInt64) n_1))], [], []⟩ <| jr <| jc (Zab lb .cB) <| jn <| jr <| jmv rfl rfl <| lI hm fun v2 hv_2 hm => jc (ZbH lb tR (HasO.cU (x := (4611686018427387904 : UInt64)) rfl (by decide)) (cs hv_2)) <| jc (Zab lb tR) <| jn <| JC.ret ?_
 obtain rfl := so hm
 exact jd (.val (S rB v2)) rfl rfl rfl rfl rfl rfl

theorem Zdo (k : Nat) (s_1 : (List UInt64)) (r : Int) (hm : slices_IndexFuncuint64_uint64 k s_1 = some r) : Sim Tryz.prog 85 [S (rL (rU UInt64)) s_1, CLO 116 []] [] (γ := Unit) (fun q => []) (fun q => .one (.val (S (rI .i64) r))) := by
 unfold slices_IndexFuncuint64_uint64 at hm
 refine Sim.of Tryz.func85 rfl rfl (lE rfl) (fun e0 w0 => ?_)
 refine JC.at ⟨[(0, ov (S (rL (rU UInt64)) s_1)), (1, ov (CLO 116 []))], [], []⟩ <| jr <| jc (Zab lb .cI) <| jn <| bI hm fun tv1 hx1 hq1 => JC.seqK (α := Unit) (γ := Unit) (stj := fun v q => ⟨[], [], []⟩) (p := fun v => tv1 = (.inl v)) (fun v q hv => ?_) ?_
 · subst hv
   skip
   obtain _ := q
   dsimp only at hq1
   refine JC.at ⟨[], [], []⟩ <| jr <| jc (Zab lb .cI) <| jn <| JC.ret ?_
   obtain rfl := so hq1
   exact jd (.val (S (rI .i64) (-1 : Int))) rfl rfl rfl rfl rfl rfl
 refine jr <| jmv rfl rfl <| jc (ZaE lb tu71 tR) <| jc (Zax lb .cI) <| jn <| JC.block <| bI hx1 fun tv2 hL2 hq2 => JC.pre ?_ (JC.loop (γ := Unit) (stf := fun s q => ⟨[(0, ov (S (rL (rU UInt64)) s_1)), (1, ov (CLO 116 [])), (7, ov (S (rI .i64) (List.length s_1 : Int))), (8, ov (S (rI .i64) s))], [], []⟩) (q := ()) hL2 ?_)
 · exact (Imp.norm (js := []) rfl (.cons rfl (.cons rfl (.cons rfl (.cons rfl .nil)))))
 intro x_2 q x hx hr
 obtain _ := q
 change slices_IndexFuncuint64_uint64.b1 k s_1 x_2 = some x at hx
 unfold slices_IndexFuncuint64_uint64.b1 at hx
 refine JC.at ⟨[(0, ov (S (rL (rU UInt64)) s_1)), (1, ov (CLO 116 [])), (7, ov (S (rI .i64) (List.length s_1 : Int))), (8, ov (S (rI .i64) x_2))], [], []⟩ <| jr <| lI hx fun v3 hv_3 hx => jc (Zaq lb tR tR (cs hv_3)) <| jn <| JC.seq <| jif tR hx (fun hc3 hx => ?_) (fun hc3 hx => ?_)
 · refine JC.skip <| JQ.then <| JC.seq <| JC.block <| jr <| jmv rfl rfl <| jc (Zab lb tR) <| jn <| jr <| jmv rfl rfl <| jmv rfl rfl <| jmv rfl rfl <| bI hx fun v4 hv_4 hx => jc (Zau lb tu71 tz24 tR tR hv_4) <| jc (Zbe lb tS24 rfl tR rfl) <| bI hx fun v5 hv_5 hx => jx (Zak (js := []) ld Zon (ZfY k v4 v5 hv_5) tR (.cons tR .nil) rfl) fun _ => jn ?_
   refine jif tR hx (fun hc4 hx => ?_) (fun hc4 hx => ?_)
   · refine jr <| jmv rfl rfl <| jc (Zab lb tR) <| jn <| JC.ret <| JQ.outRB <| JQ.outR ?_
     try obtain rfl := so hx
     try obtain rfl := hr _ rfl
     dsimp only at hq2
     refine JQ.outR <| JQ.outRB ?_
     try obtain rfl := so hq2
     dsimp only at hq1
     refine JQ.outR ?_
     obtain rfl := so hq1
     exact jd (.val (S (rI .i64) x_2)) rfl rfl rfl rfl rfl rfl
   refine JC.skip <| JQ.outNB <| JQ.then <| JC.region <| lI hx fun v6 hv_6 hx => jc (ZaY lb tR .cI (cs hv_6)) <| jmv rfl rfl <| JL.nil ?_
   try obtain rfl := so hx
   exact JQ.next () rfl (Imp.norm (js := []) rfl (.cons rfl (.cons rfl (.cons rfl (.cons rfl .nil)))))
 refine JC.exit <| JQ.outX ?_
 try obtain rfl := so hx
 try obtain rfl := hr _ rfl
 dsimp only at hq2
 refine JQ.outX <| JQ.here ?_
 try obtain rfl := so hq2
 exact JQ.joinK () () rfl (Imp.norm (js := []) rfl .nil)

theorem Zc9 (k : Nat) (s_1 : (List UInt64)) (r : Bool) (hm : Zbn k s_1 = some r) : Sim Tryz.prog 32 [S (rL (rU UInt64)) s_1, CLO 116 []] [] (γ := Unit) (fun q => []) (fun q => .one (.val (S rB r))) := by
 unfold Zbn at hm
 refine Sim.of Tryz.func32 rfl rfl (lE rfl) (fun e0 w0 => ?_)
 refine JC.at ⟨[(0, ov (S (rL (rU UInt64)) s_1)), (1, ov (CLO 116 []))], [], []⟩ <| jr <| jc (Zab lb .cB) <| jn <| jr <| jmv rfl rfl <| jmv rfl rfl <| bI hm fun v2 hv_2 hm => jx (Zak (js := []) ld cl85 (Zdo k s_1 v2 hv_2) .func (.cons tR (.cons tR .nil)) rfl) fun _ => lI hm fun v3 hv_3 hm => jc (Zaq lb tR .cI (cs hv_3)) <| jc (Zab lb tR) <| jn <| JC.ret ?_
 obtain rfl := so hm
 exact jd (.val (S rB v3)) rfl rfl rfl rfl rfl rfl

theorem Zew (k : Nat) (v1 : (Vector UInt64 16)) (r : Bool) (hm : Zcn k v1 = some r) : Sim Tryz.prog 83 [A (rV 16 (rU UInt64)) v1] [] (γ := Unit) (fun q => []) (fun q => .one (.val (S rB r))) := by
 unfold Zcn at hm
 refine Sim.of Tryz.func83 rfl rfl (lE rfl) (fun e0 w0 => ?_)
 refine JC.at ⟨[(0, ov (A (rV 16 (rU UInt64)) v1))], [], []⟩ <| jr <| jx (ZaX lb tR) fun gb_2 => jc (Zab lb .cB) <| jn <| jr <| bI hm fun v3 hv_3 hm => JL.pre (Imp.frzVar (j := 0) rfl (ImpK.slotP (s := 1) rfl (Comp.self (rV 16 (rU UInt64)) v1) ImpK.refl)) <| jc (Zgw lb tu29 tz24 tR .none .none hv_3) <| bI hm fun v4 hv_4 hm => jx (Zak (js := []) ld cl32 (Zc9 k v3 v4 hv_4) .func (.cons tR (.cons .func .nil)) rfl) (fun _ => ?_)
 refine lI hm fun v5 hv_5 hm => jc (Zbc lb tR hv_5) <| jc (Zab lb tR) <| jn <| JC.ret ?_
 obtain rfl := so hm
 exact jd (.val (S rB v5)) rfl rfl rfl rfl rfl rfl

theorem Zfw (k : Nat) (x_1 : Int) (r : Bool) (hm : Zd0 k x_1 = some r) : Sim Tryz.prog 142 [S (rI .i64) x_1] [] (γ := Unit) (fun q => []) (fun q => .one (.val (S rB r))) := by
 unfold Zd0 at hm
 refine Sim.of Tryz.func142 rfl rfl (lE rfl) (fun e0 w0 => ?_)
 refine JC.at ⟨[(0, ov (S (rI .i64) x_1))], [], []⟩ <| jr <| jc (Zab lb .cB) <| jn <| jr <| jmv rfl rfl <| jmv rfl rfl <| lI hm fun v2 hv_2 hm => jc (Zaq lb tR tR (cs hv_2)) <| jc (Zab lb tR) <| jn <| JC.ret ?_
 obtain rfl := so hm
 exact jd (.val (S rB v2)) rfl rfl rfl rfl rfl rfl

theorem ZeK (k : Nat) (x_1 : Int) (y_2 : Int) (r : Int) (hm : ZcA k x_1 y_2 = some r) : Sim Tryz.prog 118 [S (rI .i64) x_1, S (rI .i64) y_2] [] (γ := Unit) (fun q => []) (fun q => .one (.val (S (rI .i64) r))) := by
 unfold ZcA at hm
 refine Sim.of Tryz.func118 rfl rfl (lE rfl) (fun e0 w0 => ?_)
 refine JC.at ⟨[(0, ov (S (rI .i64) x_1)), (1, ov (S (rI .i64) y_2))], [], []⟩ <| jr <| jc (Zab lb .cI) <| jn <| jr <| jmv rfl rfl <| bI hm fun v3 hv_3 hm => jx (Zak (js := []) ld ZnA (Zfw k x_1 v3 hv_3) .func (.cons tR .nil) rfl) fun _ => jc (Zab lb tR) <| jn <| jr <| jmv rfl rfl <| bI hm fun v4 hv_4 hm => jx (Zak (js := []) ld ZnA (Zfw k y_2 v4 hv_4) .func (.cons tR .nil) rfl) fun _ => jc (Zab lb tR) <| jn <| JC.seq <| jr <| jmv rfl rfl <| jn ?_
 refine jif tR hm (fun hc1 hm => ?_) (fun hc1 hm => ?_)
 · refine JC.seq <| jr <| jmv rfl rfl <| jn <| jif tR hm (fun hc2 hm => ?_) (fun hc2 hm => ?_)
   · refine jr <| jc (Zab lb .cI) <| jn <| JC.ret <| JQ.outR <| JQ.outR ?_
     obtain rfl := so hm
     exact jd (.val (S (rI .i64) (0 : Int))) rfl rfl rfl rfl rfl rfl
   refine JC.skip <| JQ.then <| jr <| jc (Zab lb .cI) <| jn <| JC.ret <| JQ.outR ?_
   obtain rfl := so hm
   exact jd (.val (S (rI .i64) (-1 : Int))) rfl rfl rfl rfl rfl rfl
 refine JC.skip <| JQ.then <| JC.seq <| jr <| jmv rfl rfl <| jn <| jif tR hm (fun hc3 hm => ?_) (fun hc3 hm => ?_)
 · refine jr <| jc (Zab lb .cI) <| jn <| JC.ret <| JQ.outR ?_
   obtain rfl := so hm
   exact jd (.val (S (rI .i64) (1 : Int))) rfl rfl rfl rfl rfl rfl
 refine JC.skip <| JQ.then <| JC.seq <| jr <| jmv rfl rfl <| jmv rfl rfl <| lI hm fun v5 hv_5 hm => jc (Zaq lb tR tR (cs hv_5)) <| JL.sub ⟨[(0, ov (S (rI .i64) x_1)), (1, ov (S (rI .i64) y_2)), (16, ov (S rB v5))], [], []⟩ (.cons rfl (.cons rfl (.cons rfl .nil))) rfl rfl <| jn <| jif tR hm (fun hc4 hm => ?_) (fun hc4 hm => ?_)
 · refine jr <| jc (Zab lb .cI) <| jn <| JC.ret <| JQ.outR ?_
   obtain rfl := so hm
   exact jd (.val (S (rI .i64) (-1 : Int))) rfl rfl rfl rfl rfl rfl
 refine JC.skip <| JQ.then <| JC.seq <| jr <| jmv rfl rfl <| jmv rfl rfl <| lI hm fun v6 hv_6 hm => jc (Zaq lb tR tR (cs hv_6)) <| jn <| jif tR hm (fun hc5 hm => ?_) (fun hc5 hm => ?_)
 · refine jr <| jc (Zab lb .cI) <| jn <| JC.ret <| JQ.outR ?_
   obtain rfl := so hm
   exact jd (.val (S (rI .i64) (1 : Int))) rfl rfl rfl rfl rfl rfl
 refine JC.skip <| JQ.then <| jr <| jc (Zab lb .cI) <| jn <| JC.ret ?_
 obtain rfl := so hm
 exact jd (.val (S (rI .i64) (0 : Int))) rfl rfl rfl rfl rfl rfl

theorem Zer (k : Nat) (x_1 : UInt64) (r : Bool) (hm : ZcP k x_1 = some r) : Sim Tryz.prog 143 [S (rU UInt64) x_1] [] (γ := Unit) (fun q => []) (fun q => .one (.val (S rB r))) := by
 unfold ZcP at hm
 refine Sim.of Tryz.func143 rfl rfl (lE rfl) (fun e0 w0 => ?_)
 refine JC.at ⟨[(0, ov (S (rU UInt64) x_1))], [], []⟩ <| jr <| jc (Zab lb .cB) <| jn <| jr <| jmv rfl rfl <| jmv rfl rfl <| lI hm fun v2 hv_2 hm => jc (ZbH lb tR tR (cs hv_2)) <| jc (Zab lb tR) <| jn <| JC.ret ?_
 obtain rfl := so hm
 exact jd (.val (S rB v2)) rfl rfl rfl rfl rfl rfl

theorem Zd1 (k : Nat) (x_1 : UInt64) (y_2 : UInt64) (r : Int) (hm : ZbV k x_1 y_2 = some r) : Sim Tryz.prog 119 [S (rU UInt64) x_1, S (rU UInt64) y_2] [] (γ := Unit) (fun q => []) (fun q => .one (.val (S (rI .i64) r))) := by
 unfold ZbV at hm
 refine Sim.of Tryz.func119 rfl rfl (lE rfl) (fun e0 w0 => ?_)
 refine JC.at ⟨[(0, ov (S (rU UInt64) x_1)), (1, ov (S (rU UInt64) y_2))], [], []⟩ <| jr <| jc (Zab lb .cI) <| jn <| jr <| jmv rfl rfl <| bI hm fun v3 hv_3 hm => jx (Zak (js := []) ld Zm9 (Zer k x_1 v3 hv_3) .func (.cons tR .nil) rfl) fun _ => jc (Zab lb tR) <| jn <| jr <| jmv rfl rfl <| bI hm fun v4 hv_4 hm => jx (Zak (js := []) ld Zm9 (Zer k y_2 v4 hv_4) .func (.cons tR .nil) rfl) fun _ => jc (Zab lb tR) <| jn <| JC.seq <| jr <| jmv rfl rfl <| jn ?_
 refine jif tR hm (fun hc1 hm => ?_) (fun hc1 hm => ?_)
 · refine JC.seq <| jr <| jmv rfl rfl <| jn <| jif tR hm (fun hc2 hm => ?_) (fun hc2 hm => ?_)
   · refine jr <| jc (Zab lb .cI) <| jn <| JC.ret <| JQ.outR <| JQ.outR ?_
     obtain rfl := so hm
     exact jd (.val (S (rI .i64) (0 : Int))) rfl rfl rfl rfl rfl rfl
   refine JC.skip <| JQ.then <| jr <| jc (Zab lb .cI) <| jn <| JC.ret <| JQ.outR ?_
   obtain rfl := so hm
   exact jd (.val (S (rI .i64) (-1 : Int))) rfl rfl rfl rfl rfl rfl
 refine JC.skip <| JQ.then <| JC.seq <| jr <| jmv rfl rfl <| jn <| jif tR hm (fun hc3 hm => ?_) (fun hc3 hm => ?_)
 · refine jr <| jc (Zab lb .cI) <| jn <| JC.ret <| JQ.outR ?_
   obtain rfl := so hm
   exact jd (.val (S (rI .i64) (1 : Int))) rfl rfl rfl rfl rfl rfl
 refine JC.skip <| JQ.then <| JC.seq <| jr <| jmv rfl rfl <| jmv rfl rfl <| lI hm fun v5 hv_5 hm => jc (ZbH lb tR tR (cs hv_5)) <| JL.sub ⟨[(0, ov (S (rU UInt64) x_1)), (1, ov (S (rU UInt64) y_2)), (16, ov (S rB v5))], [], []⟩ (.cons rfl (.cons rfl (.cons rfl .nil))) rfl rfl <| jn <| jif tR hm (fun hc4 hm => ?_) (fun hc4 hm => ?_)
 · refine jr <| jc (Zab lb .cI) <| jn <| JC.ret <| JQ.outR ?_
   obtain rfl := so hm
   exact jd (.val (S (rI .i64) (-1 : Int))) rfl rfl rfl rfl rfl rfl
 refine JC.skip <| JQ.then <| JC.seq <| jr <| jmv rfl rfl <| jmv rfl rfl <| lI hm fun v6 hv_6 hm => jc (ZbH lb tR tR (cs hv_6)) <| jn <| jif tR hm (fun hc5 hm => ?_) (fun hc5 hm => ?_)
 · refine jr <| jc (Zab lb .cI) <| jn <| JC.ret <| JQ.outR ?_
   obtain rfl := so hm
   exact jd (.val (S (rI .i64) (1 : Int))) rfl rfl rfl rfl rfl rfl
 refine JC.skip <| JQ.then <| jr <| jc (Zab lb .cI) <| jn <| JC.ret ?_
 obtain rfl := so hm
 exact jd (.val (S (rI .i64) (0 : Int))) rfl rfl rfl rfl rfl rfl

theorem ZgD (k : Nat) (vals_1 : (List Int)) (r : Int) (hm : cmp_Orint k vals_1 = some r) : Sim Tryz.prog 117 [S (rL (rI .i64)) vals_1] [] (γ := Unit) (fun q => []) (fun q => .one (.val (S (rI .i64) r))) := by
 unfold cmp_Orint at hm
 refine Sim.of Tryz.func117 rfl rfl (lE rfl) (fun e0 w0 => ?_)
 refine JC.at ⟨[(0, ov (S (rL (rI .i64)) vals_1))], [], []⟩ <| jr <| jc (Zab lb .cI) <| jn <| jr <| jc (Zab lb .cI) <| jn <| bI hm fun tv1 hx1 hq1 => JC.seqK (α := Unit) (γ := Unit) (stj := fun v q => ⟨[(3, ov (S (rI .i64) (0 : Int)))], [], []⟩) (p := fun v => tv1 = (.inl v)) (fun v q hv => ?_) ?_
 · subst hv
   skip
   obtain _ := q
   dsimp only at hq1
   refine JC.at ⟨[(3, ov (S (rI .i64) (0 : Int)))], [], []⟩ <| jr <| jmv rfl rfl <| jc (Zab lb tR) <| jn <| JC.ret ?_
   obtain rfl := so hq1
   exact jd (.val (S (rI .i64) (0 : Int))) rfl rfl rfl rfl rfl rfl
 refine jr <| jmv rfl rfl <| jc (ZaE lb tu37 tR) <| jc (Zax lb .cI) <| jn <| JC.block <| bI hx1 fun tv2 hL2 hq2 => JC.pre ?_ (JC.loop (γ := Unit) (stf := fun s q => ⟨[(3, ov (S (rI .i64) (0 : Int))), (6, ov (S (rL (rI .i64)) vals_1)), (7, ov (S (rI .i64) (List.length vals_1 : Int))), (8, ov (S (rI .i64) s))], [], []⟩) (q := ()) hL2 ?_)
 · exact (Imp.norm (js := []) rfl (.cons rfl (.cons rfl (.cons rfl (.cons rfl .nil)))))
 intro x_2 q x hx hr
 obtain _ := q
 change cmp_Orint.b1 k vals_1 x_2 = some x at hx
 unfold cmp_Orint.b1 at hx
 refine JC.at ⟨[(3, ov (S (rI .i64) (0 : Int))), (6, ov (S (rL (rI .i64)) vals_1)), (7, ov (S (rI .i64) (List.length vals_1 : Int))), (8, ov (S (rI .i64) x_2))], [], []⟩ <| jr <| lI hx fun v3 hv_3 hx => jc (Zaq lb tR tR (cs hv_3)) <| jn <| JC.seq <| jif tR hx (fun hc3 hx => ?_) (fun hc3 hx => ?_)
 · refine JC.skip <| JQ.then <| JC.seq <| JC.block <| jr <| bI hx fun v4 hv_4 hx => jc (Zau lb tu37 tz3 tR tR hv_4) <| jc (Zbe lb tS3 rfl tR rfl) <| jc (Zab lb tR) <| jn <| jr <| jmv rfl rfl <| jmv rfl rfl <| lI hx fun v5 hv_5 hx => jc (Zaq lb tR tR (cs hv_5)) <| jn <| jif tR hx (fun hc4 hx => ?_) (fun hc4 hx => ?_)
   · refine jr <| jmv rfl rfl <| jc (Zab lb tR) <| jn <| JC.ret <| JQ.outRB <| JQ.outR ?_
     try obtain rfl := so hx
     try obtain rfl := hr _ rfl
     dsimp only at hq2
     refine JQ.outR <| JQ.outRB ?_
     try obtain rfl := so hq2
     dsimp only at hq1
     refine JQ.outR ?_
     obtain rfl := so hq1
     exact jd (.val (S (rI .i64) v4)) rfl rfl rfl rfl rfl rfl
   refine JC.skip <| JQ.outNB <| JQ.then <| JC.region <| lI hx fun v6 hv_6 hx => jc (ZaY lb tR .cI (cs hv_6)) <| jmv rfl rfl <| JL.nil ?_
   try obtain rfl := so hx
   exact JQ.next () rfl (Imp.norm (js := []) rfl (.cons rfl (.cons rfl (.cons rfl (.cons rfl .nil)))))
 refine JC.exit <| JQ.outX ?_
 try obtain rfl := so hx
 try obtain rfl := hr _ rfl
 dsimp only at hq2
 refine JQ.outX <| JQ.here ?_
 try obtain rfl := so hq2
 exact JQ.joinK () () rfl (Imp.norm (js := []) rfl (.cons rfl .nil))

theorem Zh5 (k : Nat) (a_1 : Zaf) (b_2 : Zaf) (r : Bool) (hm : Zeh k a_1 b_2 = some r) : Sim Tryz.prog 84 [A Zad a_1, A Zad b_2] [] (γ := Unit) (fun q => []) (fun q => .one (.val (S rB r))) := by
 unfold Zeh at hm
 refine Sim.of Tryz.func84 rfl rfl (lE rfl) (fun e0 w0 => ?_)
 refine JC.at ⟨[(0, ov (A Zad a_1)), (1, ov (A Zad b_2))], [], []⟩ <| jr <| jx (ZaX lb tR) fun gb_3 => jx (ZaX lb tR) fun gb_4 => jc (Zab lb .cB) <| jn <| JC.seq <| bI hm fun v5 hv_5 hm => bI hm fun v6 hv_6 hm => bI hm fun v7 hv_7 hm => ?_
 obtain ⟨v8, hv_8, hm⟩ := ZaQ hm
 refine JC.anyF (base := [(2, ov (PTR gb_3 0)), (3, ov (PTR gb_4 0))])
     (fs := fun γ => [⟨some 5, ov (PTR gb_3 (0 + 0))⟩, ⟨some 6, ov (S (rI .i64) a_1.Region)⟩, ⟨some 7, ov (PTR gb_4 (0 + 0))⟩, ⟨some 8, ov (S (rI .i64) b_2.Region)⟩, ⟨some 9, ov (S (rI .i64) v5)⟩, ⟨some 10, ov (PTR gb_3 (0 + 1))⟩, ⟨some 11, ov (S (rU UInt64) a_1.Count)⟩, ⟨some 12, ov (PTR gb_4 (0 + 1))⟩, ⟨some 13, ov (S (rU UInt64) b_2.Count)⟩, ⟨some 14, ov (S (rI .i64) v6)⟩, ⟨some 15, ov (S (rL (rI .i64)) ([v5, v6] : (List Int)))⟩, ⟨some 16, ov (S (rI .i64) v7)⟩, ⟨some 17, ov (S rB v8)⟩, ⟨some 4, ov (S rB v8)⟩])
     (rs := fun γ => [⟨cvar gb_3 Zad a_1, none, none, [1, 6]⟩, ⟨cvar gb_4 Zad b_2, none, none, [3, 8]⟩])
     (afts := nn 14) (js := [0, 0]) ZbT (.cons rfl (.cons rfl .nil)) (fun _ => rfl)
     (by
      refine dS 1 (fun γ ρ B hb hd => Zaa (off := 0) lb Zcx (.tmp (hb 2 _ rfl))) <| dR 2 (fun γ ρ B hb hd => Zan.lk ⟨ρ, (cvar gb_3 Zad a_1) :: B, _⟩ (Zai (j := 0) lb tS3 (tl hd 0 5) rfl (cT (ZaC a_1) rfl) rfl rfl)) <| dS 3 (fun γ ρ B hb hd => Zaa (off := 0) lb Zcx (.tmp (hb 3 _ rfl))) <| dR 4 (fun γ ρ B hb hd => Zan.lk ⟨ρ, (cvar gb_4 Zad b_2) :: B, _⟩ (Zai (j := 0) lb tS3 (tl hd 2 7) rfl (cT (ZaC b_2) rfl) rfl rfl)) <| dS 5 (fun γ ρ B hb hd => (Zak (js := []) ld ZnB (ZeK k a_1.Region b_2.Region v5 hv_5) .func (.cons (tl hd 1 6) (.cons (tl hd 3 8) .nil)) rfl).post (fun _ => Imp.refl)) ?_
      refine dS 6 (fun γ ρ B hb hd => Zaa (off := 1) lb ZdA (.tmp (hb 2 _ rfl))) <| dR 7 (fun γ ρ B hb hd => Zan.lk ⟨ρ, (cvar gb_3 Zad a_1) :: B, _⟩ (Zai (j := 0) lb tS24 (tl hd 5 10) rfl (cT (ZaN a_1) rfl) rfl rfl)) <| dS 8 (fun γ ρ B hb hd => Zaa (off := 1) lb ZdA (.tmp (hb 3 _ rfl))) <| dR 9 (fun γ ρ B hb hd => Zan.lk ⟨ρ, (cvar gb_4 Zad b_2) :: B, _⟩ (Zai (j := 0) lb tS24 (tl hd 7 12) rfl (cT (ZaN b_2) rfl) rfl rfl)) <| dS 10 (fun γ ρ B hb hd => (Zak (js := []) ld Zm5 (Zd1 k a_1.Count b_2.Count v6 hv_6) .func (.cons (tl hd 6 11) (.cons (tl hd 8 13) .nil)) rfl).post (fun _ => Imp.refl)) ?_
      refine dS 11 (fun γ ρ B hb hd => Zca (r := (rI .i64)) lb tu37 tz3 tZ3 rfl (lE rfl) (.S rfl (tl hd 4 9) (.S rfl (tl hd 9 14) .nil)) rfl) <| dS 12 (fun γ ρ B hb hd => (Zak (js := []) ld Znn (ZgD k ([v5, v6] : (List Int)) v7 hv_7) .func (.cons (tl hd 10 15) .nil) rfl).post (fun _ => Imp.refl)) <| dS 13 (fun γ ρ B hb hd => Zaq lb (tl hd 11 16) .cI (cs hv_8)) <| dS 14 (fun γ ρ B hb hd => Zab lb (tl hd 12 17)) ?_
      exact ZaG.nil)
     (by decide +kernel) (fun _ => rfl) (fun _ => rfl) (fun _ => rfl) rfl
     (ρ' := fun γ => [(4, ov (S rB v8))])
     (X' := fun γ => [cvar gb_3 Zad a_1, cvar gb_4 Zad b_2])
     (fun γ ρ hb hd => (.cons (hdq hd 13 4 rfl) .nil)) (fun _ => rfl) (fun γ => ?_)
 refine JQ.at ⟨[(4, ov (S rB v8))], [cvar gb_3 Zad a_1, cvar gb_4 Zad b_2], []⟩ <| JQ.then <| JC.ret ?_
 obtain rfl := so hm
 exact jd (.val (S rB v8)) rfl rfl rfl rfl rfl rfl

theorem Zfo (k : Nat) (t_1 : Zar) (r : Bool) (hm : event_May k t_1 = some r) : Sim Tryz.prog 31 [A Zam t_1] [] (γ := Unit) (fun q => []) (fun q => .one (.val (S rB r))) := by
 unfold event_May at hm
 refine Sim.of Tryz.func31 rfl rfl (lE rfl) (fun e0 w0 => ?_)
 refine JC.at ⟨[(0, ov (A Zam t_1))], [], []⟩ <| jr <| jx (ZaX lb tR) fun gb_2 => jc (Zab lb .cB) <| jn <| JC.scope <| JC.seq <| bI hm fun x_13 hx1 hq1 => JC.seqJ (γ := Unit) (stj := fun _ => ⟨[(1, ov (PTR gb_2 0)), (29, ov (S rB x_13))], [cvar gb_2 Zam t_1], []⟩) (fun _ => ?_) ?_
 · refine jif tR hq1 (fun hc14 hq1 => ?_) (fun hc14 hq1 => ?_)
   · refine jr <| jc (Zab lb .cB) <| jn <| JC.ret <| JQ.outR <| JQ.scR ?_
     obtain rfl := so hq1
     exact jd (.val (S rB false)) rfl rfl rfl rfl rfl rfl
   refine JC.skip <| JQ.then <| JC.seq <| bI hq1 fun x_20 hx15 hq15 => JC.seqJ (γ := Unit) (stj := fun _ => ⟨[(1, ov (PTR gb_2 0)), (45, ov (S rB x_20))], [cvar gb_2 Zam t_1], []⟩) (fun _ => ?_) ?_
   · refine jif tR hq15 (fun hc26 hq15 => ?_) (fun hc26 hq15 => ?_)
     · refine jr <| jc (Zab lb .cB) <| jn <| JC.ret <| JQ.outR <| JQ.scR ?_
       obtain rfl := so hq15
       exact jd (.val (S rB false)) rfl rfl rfl rfl rfl rfl
     refine JC.skip <| JQ.then <| jr <| jc (Zab lb .cB) <| jn <| JC.seq <| JC.label <| JQ.then <| bI hq15 fun x_38 hx27 hq27 => JC.seqJ (γ := Unit) (stj := fun _ => ⟨[(3, ov (S rB x_38))], [], []⟩) (fun _ => ?_) ?_
     · refine jr <| jmv rfl rfl <| jc (Zab lb tR) <| jn <| JC.ret <| JQ.scR ?_
       obtain rfl := so hq27
       exact jd (.val (S rB x_38)) rfl rfl rfl rfl rfl rfl
     refine jr <| jc (Zaa (off := 20) lb ZcR tR) <| jc (Zai (j := 0) lb tS30 tR rfl (cT (ZaL t_1) rfl) rfl rfl) <| jc (ZaE lb tu30 tR) <| jc (Zax lb .cI) <| jn <| JC.block <| JC.pre ?_ (JC.loop (γ := Unit) (stf := fun s q => ⟨[(1, ov (PTR gb_2 0)), (3, ov (S rB s.1)), (47, ov (S (rL Zat) t_1.To)), (48, ov (S (rI .i64) (List.length t_1.To : Int))), (49, ov (S (rI .i64) s.2))], [cvar gb_2 Zam t_1], []⟩) (q := ()) hx27 ?_)
     · exact (Imp.norm (js := [0]) rfl (.cons rfl (.cons rfl (.cons rfl (.cons rfl (.cons rfl .nil))))))
     intro s q x hx hr
     obtain ⟨x_21, x_22⟩ := s
     obtain _ := q
     change event_May.b1 k t_1 x_21 x_22 = some x at hx
     unfold event_May.b1 at hx
     refine JC.at ⟨[(1, ov (PTR gb_2 0)), (3, ov (S rB x_21)), (47, ov (S (rL Zat) t_1.To)), (48, ov (S (rI .i64) (List.length t_1.To : Int))), (49, ov (S (rI .i64) x_22))], [cvar gb_2 Zam t_1], []⟩ <| jr <| lI hx fun v23 hv_23 hx => jc (Zaq lb tR tR (cs hv_23)) <| jn <| JC.seq <| jif tR hx (fun hc29 hx => ?_) (fun hc29 hx => ?_)
     · refine JC.skip <| JQ.then <| JC.seq <| JC.block <| jr <| jmv rfl rfl <| bI hx fun v24 hv_24 hx => jc (Zau lb tu30 Zhc tR tR hv_24) <| jc (ZaR lb Zi5 tR rfl) <| jx (Zbh lb ZlP Znp) fun gb_25 => jc (Zab lb tR) <| jc (ZaP (j := 1) Zi5 tR tR rfl (UpdR.self (by rfl)) rfl) <| jn <| bI hx fun x_35 hx30 hq30 => JC.seqJ (γ := Unit) (stj := fun _ => ⟨[(1, ov (PTR gb_2 0)), (3, ov (S rB x_35)), (47, ov (S (rL Zat) t_1.To)), (48, ov (S (rI .i64) (List.length t_1.To : Int))), (49, ov (S (rI .i64) x_22))], [cvar gb_2 Zam t_1], []⟩) (fun _ => ?_) ?_
       · refine jr <| jmv rfl rfl <| lI hq30 fun v36 hv_36 hq30 => jc (Zbc lb tR hv_36) <| jn <| jif tR hq30 (fun hc51 hq30 => ?_) (fun hc51 hq30 => ?_)
         · refine JC.exit <| JQ.outE (by decide) <| JQ.outX ?_
           try obtain rfl := so hq30
           have ht := hr _ rfl
           have hq28 := cs ht
           clear hr ht
           refine JQ.outX <| JQ.here ?_
           try obtain rfl := so hq28
           exact jo rfl rfl rfl
         refine JC.skip <| JQ.outNB <| JQ.then <| JC.region <| lI hq30 fun v37 hv_37 hq30 => jc (ZaY lb tR .cI (cs hv_37)) <| jmv rfl rfl <| JL.nil ?_
         try obtain rfl := so hq30
         exact JQ.next () rfl (Imp.norm (js := [0]) rfl (.cons rfl (.cons rfl (.cons rfl (.cons rfl (.cons rfl .nil))))))
       refine bI hx30 fun v26 hv_26 hx30 => bI hx30 fun v27 hv_27 hx30 => lI hx30 fun v28 hv_28 hx30 => lI hx30 fun v29 hv_29 hx30 => lI hx30 fun v30 hv_30 hx30 => bI hx30 fun v31 hv_31 hx30 => bI hx30 fun v32 hv_32 hx30 => lI hx30 fun v33 hv_33 hx30 => ?_
       obtain ⟨v34, hv_34, hx30⟩ := ZaQ hx30
       refine JC.anyF (base := [(1, ov (PTR gb_2 0)), (4, ov (S (rI .i64) x_22)), (5, ov (PTR gb_25 0)), (47, ov (S (rL Zat) t_1.To)), (48, ov (S (rI .i64) (List.length t_1.To : Int))), (49, ov (S (rI .i64) x_22))])
           (fs := fun γ => [⟨some 54, ov (PTR gb_25 (0 + 0))⟩, ⟨some 55, ov (A Zad v24.Dot)⟩, ⟨some 56, ov (S rB v26)⟩, ⟨some 57, ov (S rB v26)⟩, ⟨some 58, bif v26 then ov (PTR gb_25 (0 + 2)) else .one .und⟩, ⟨some 59, bif v26 then ov (S rS v24.Device) else .one .und⟩, ⟨some 60, bif v26 then ov (S rB v27) else .one .und⟩, ⟨some 61, ov (S rB v28)⟩, ⟨some 62, ov (S rB v28)⟩, ⟨some 63, bif v28 then ov (S (rI .i64) x_22) else .one .und⟩, ⟨some 64, bif v28 then ov (S rB v29) else .one .und⟩, ⟨some 65, bif v28 then ov (S rB v29) else .one .und⟩, ⟨some 66, bif (v28 && (!v29)) then ov (PTR gb_2 (0 + 20)) else .one .und⟩, ⟨some 67, bif (v28 && (!v29)) then ov (S (rL Zat) t_1.To) else .one .und⟩, ⟨some 68, bif (v28 && (!v29)) then ov (S (rI .i64) x_22) else .one .und⟩, ⟨some 69, bif (v28 && (!v29)) then ov (S (rI .i64) v30) else .one .und⟩, ⟨some 70, bif (v28 && (!v29)) then ov (PT Zat v31) else .one .und⟩, ⟨some 71, bif (v28 && (!v29)) then ov (PT Zad v31.Dot) else .one .und⟩, ⟨some 72, bif (v28 && (!v29)) then ov (A Zad v31.Dot) else .one .und⟩, ⟨some 73, bif (v28 && (!v29)) then ov (PTR gb_25 (0 + 0)) else .one .und⟩, ⟨some 74, bif (v28 && (!v29)) then ov (A Zad v24.Dot) else .one .und⟩, ⟨some 75, bif (v28 && (!v29)) then ov (S rB v32) else .one .und⟩, ⟨some 76, bif v28 then ov (S rB v33) else .one .und⟩, ⟨some 77, ov (S rB v34)⟩, ⟨some 3, ov (S rB v34)⟩])
           (rs := fun γ => [⟨cvar gb_2 Zam t_1, none, none, [13]⟩, ⟨cvar gb_25 Zat v24, none, none, [1, 5, 20]⟩])
           (afts := nn 25) (js := [0, 0]) ZbT (.cons rfl (.cons rfl (.cons rfl (.cons rfl (.cons rfl (.cons rfl .nil)))))) (fun _ => rfl)
           (by
      refine dS 1 (fun γ ρ B hb hd => Zaa (off := 0) lb Zgp (.tmp (hb 5 _ rfl))) <| dR 2 (fun γ ρ B hb hd => Zan.lk ⟨ρ, (cvar gb_25 Zat v24) :: B, _⟩ (Zaw (j := 0) lb tA26 (tl hd 0 54) rfl (cT (ZbK v24) rfl) rfl)) <| dS 3 (fun γ ρ B hb hd => (Zak (js := []) ld cl82 (Zd4 k v24.Dot v26 hv_26) .func (.cons (tl hd 1 55) .nil) rfl).post (fun _ => Imp.refl)) <| dm 4 2 56 ?_
      refine dT 5 3 57 v26 (fun γ => ov (PTR gb_25 (0 + 2))) (fun γ ρ B hb hd hq_31 => Zaa (off := 2) lb ZiX (.tmp (hb 5 _ rfl))) ?_
      refine eT 6 3 57 v26 (fun γ => ov (S rS v24.Device)) (fun γ ρ B hb hd hq_32 => Zan.lk ⟨ρ, (cvar gb_25 Zat v24) :: B, _⟩ (Zai (j := 0) lb tS9 (HasO.cnd (tl hd 4 58) hq_32) rfl (cT (Zcj v24) rfl) rfl rfl)) ?_
      refine dT 7 3 57 v26 (fun γ => ov (S rB v27)) (fun γ ρ B hb hd hq_33 => (Zak (js := []) ld cl71 (Zc1 k v24.Device v27 (ifT hv_27 hq_33)) .func (.cons (HasO.cnd (tl hd 5 59) hq_33) .nil) rfl).post (fun _ => Imp.refl)) ?_
      refine dS 8 (fun γ ρ B hb hd => Zao lb (tl hd 3 57) (fun hb34 => (HasO.cnd (tl hd 6 60) hb34)) (fun hb34 => .cB) hv_28) <| dm 9 7 61 ?_
      refine dT 10 8 62 v28 (fun γ => ov (S (rI .i64) x_22)) (fun γ ρ B hb hd hq_35 => Zax lb (.tmp (hb 4 _ rfl))) ?_
      refine dT 11 8 62 v28 (fun γ => ov (S rB v29)) (fun γ ρ B hb hd hq_36 => Zaq lb (HasO.cnd (tl hd 9 63) hq_36) .cI (cs hv_29)) ?_
      refine dT 12 8 62 v28 (fun γ => ov (S rB v29)) (fun γ ρ B hb hd hq_37 => Zax lb (HasO.cnd (tl hd 10 64) hq_37)) ?_
      refine dB 13 11 65 v28 v29 (fun γ => ov (PTR gb_2 (0 + 20))) (fun γ ρ B hb hd hq_38 => Zaa (off := 20) lb ZcR (.tmp (hb 1 _ rfl))) ?_
      refine eB 14 11 65 v28 v29 (fun γ => ov (S (rL Zat) t_1.To)) (fun γ ρ B hb hd hq_39 => Zan.lk ⟨ρ, (cvar gb_2 Zam t_1) :: B, _⟩ (Zai (j := 0) lb tS30 (HasO.cnd (tl hd 12 66) (andI (andL hq_39) (notT (notF (andR hq_39))))) rfl (cT (ZaL t_1) rfl) rfl rfl)) ?_
      refine dB 15 11 65 v28 v29 (fun γ => ov (S (rI .i64) x_22)) (fun γ ρ B hb hd hq_40 => Zax lb (.tmp (hb 4 _ rfl))) ?_
      refine dB 16 11 65 v28 v29 (fun γ => ov (S (rI .i64) v30)) (fun γ ρ B hb hd hq_41 => ZaY lb (HasO.cnd (tl hd 14 68) (andI (andL hq_41) (notT (notF (andR hq_41))))) .cI (cs hv_30)) ?_
      refine dB 17 11 65 v28 v29 (fun γ => ov (PT Zat v31)) (fun γ ρ B hb hd hq_42 => Zau lb tu30 Zhc (HasO.cnd (tl hd 13 67) (andI (andL hq_42) (notT (notF (andR hq_42))))) (HasO.cnd (tl hd 15 69) (andI (andL hq_42) (notT (notF (andR hq_42))))) (ifT hv_31 hq_42)) ?_
      refine dB 18 11 65 v28 v29 (fun γ => ov (PT Zad v31.Dot)) (fun γ ρ B hb hd hq_43 => Zbm lb Zgp (HasO.cnd (tl hd 16 70) (andI (andL hq_43) (notT (notF (andR hq_43))))) (ZbK v31)) ?_
      refine dB 19 11 65 v28 v29 (fun γ => ov (A Zad v31.Dot)) (fun γ ρ B hb hd hq_44 => ZaR lb tA26 (HasO.cnd (tl hd 17 71) (andI (andL hq_44) (notT (notF (andR hq_44))))) rfl) ?_
      refine dB 20 11 65 v28 v29 (fun γ => ov (PTR gb_25 (0 + 0))) (fun γ ρ B hb hd hq_45 => Zaa (off := 0) lb Zgp (.tmp (hb 5 _ rfl))) ?_
      refine eB 21 11 65 v28 v29 (fun γ => ov (A Zad v24.Dot)) (fun γ ρ B hb hd hq_46 => Zan.lk ⟨ρ, (cvar gb_25 Zat v24) :: B, _⟩ (Zaw (j := 0) lb tA26 (HasO.cnd (tl hd 19 73) (andI (andL hq_46) (notT (notF (andR hq_46))))) rfl (cT (ZbK v24) rfl) rfl)) ?_
      refine dB 22 11 65 v28 v29 (fun γ => ov (S rB v32)) (fun γ ρ B hb hd hq_47 => (Zak (js := []) ld cl84 (Zh5 k v31.Dot v24.Dot v32 (ifT hv_32 hq_47)) .func (.cons (HasO.cnd (tl hd 18 72) (andI (andL hq_47) (notT (notF (andR hq_47))))) (.cons (HasO.cnd (tl hd 20 74) (andI (andL hq_47) (notT (notF (andR hq_47))))) .nil)) rfl).post (fun _ => Imp.refl)) ?_
      refine dT 23 8 62 v28 (fun γ => ov (S rB v33)) (fun γ ρ B hb hd hq_48 => Zao lb (HasO.cnd (tl hd 11 65) hq_48) (fun hb49 => .cB) (fun hb49 => (HasO.cnd (tl hd 21 75) (andI hq_48 (notT hb49)))) hv_33) ?_
      refine dS 24 (fun γ ρ B hb hd => Zao lb (tl hd 8 62) (fun hb50 => (HasO.cnd (tl hd 22 76) hb50)) (fun hb50 => .cB) hv_34) <| dS 25 (fun γ ρ B hb hd => Zab lb (tl hd 23 77)) ?_
      exact ZaG.nil)
           (by decide +kernel) (fun _ => rfl) (fun _ => rfl) (fun _ => rfl) rfl
           (ρ' := fun γ => [(1, ov (PTR gb_2 0)), (3, ov (S rB v34)), (47, ov (S (rL Zat) t_1.To)), (48, ov (S (rI .i64) (List.length t_1.To : Int))), (49, ov (S (rI .i64) x_22))])
           (X' := fun γ => [cvar gb_2 Zam t_1, cvar gb_25 Zat v24])
           (fun γ ρ hb hd => (.cons (hb 1 _ rfl) (.cons (hdq hd 24 3 rfl) (.cons (hb 47 _ rfl) (.cons (hb 48 _ rfl) (.cons (hb 49 _ rfl) .nil)))))) (fun _ => rfl) (fun γ => ?_)
       refine JQ.at ⟨[(1, ov (PTR gb_2 0)), (3, ov (S rB v34)), (47, ov (S (rL Zat) t_1.To)), (48, ov (S (rI .i64) (List.length t_1.To : Int))), (49, ov (S (rI .i64) x_22))], [cvar gb_2 Zam t_1, cvar gb_25 Zat v24], []⟩ ?_
       try obtain rfl := so hx30
       exact JQ.join () (Imp.norm (js := [0]) rfl (.cons rfl (.cons rfl (.cons rfl (.cons rfl (.cons rfl .nil))))))
     refine JC.exit <| JQ.outX ?_
     try obtain rfl := so hx
     have ht := hr _ rfl
     have hq28 := cs ht
     clear hr ht
     refine JQ.outX <| JQ.here ?_
     try obtain rfl := so hq28
     exact jo rfl rfl rfl
   refine JC.region <| jc (Zaa (off := 2) lb Zhl tR) <| jc (Zai (j := 0) lb tS9 tR rfl (cT (Zbk t_1) rfl) rfl rfl) <| bI hx15 fun v14 hv_14 hx15 => jx (Zak (js := []) ld cl71 (Zc1 k t_1.Topic v14 hv_14) .func (.cons tR .nil) rfl) fun _ => lI hx15 fun v15 hv_15 hx15 => jc (Zbc lb tR hv_15) <| jmv rfl rfl <| jF (ov (PTR gb_2 (0 + 3))) rfl rfl rfl rfl (fun hq_16 => Zaa (off := 3) lb Zhg tR) <| jF (ov (S (rL (rU UInt8)) t_1.Payload)) rfl rfl rfl rfl (fun hq_17 => Zai (j := 0) lb tS27 (HasO.cnd tR (notT (notF hq_17))) rfl (cT (Za7 t_1) rfl) rfl rfl) <| jF (ov (S (rI .i64) (List.length t_1.Payload : Int))) rfl rfl rfl rfl (fun hq_18 => ZaE lb tu27 (HasO.cnd tR (notT (notF hq_18)))) ?_
   obtain ⟨v16, hv_16, hx15⟩ := ZaQ hx15
   refine jF (ov (S rB v16)) rfl rfl rfl rfl (fun hq_19 => Zaq lb (HasO.cnd tR (notT (notF hq_19))) .cI (cs hv_16)) <| lI hx15 fun v17 hv_17 hx15 => jc (Zao lb tR (fun hb20 => .cB) (fun hb20 => (HasO.cnd tR (notT hb20))) hv_17) <| jmv rfl rfl <| jF (ov (PTR gb_2 (0 + 20))) rfl rfl rfl rfl (fun hq_21 => Zaa (off := 20) lb ZcR tR) <| JL.sub ⟨[(1, ov (PTR gb_2 0)), (40, ov (S rB v17)), (41, bif (!v17) then ov (PTR gb_2 (0 + 20)) else .one .und)], [cvar gb_2 Zam t_1], []⟩ (.cons rfl (.cons rfl (.cons rfl .nil))) rfl rfl <| jF (ov (S (rL Zat) t_1.To)) rfl rfl rfl rfl (fun hq_22 => Zai (j := 0) lb tS30 (HasO.cnd tR (notT (notF hq_22))) rfl (cT (ZaL t_1) rfl) rfl rfl) <| jF (ov (S (rI .i64) (List.length t_1.To : Int))) rfl rfl rfl rfl (fun hq_23 => ZaE lb tu30 (HasO.cnd tR (notT (notF hq_23)))) <| lI hx15 fun v18 hv_18 hx15 => jF (ov (S rB v18)) rfl rfl rfl rfl (fun hq_24 => Zaq lb (HasO.cnd tR (notT (notF hq_24))) .cI (cs hv_18)) ?_
   refine lI hx15 fun v19 hv_19 hx15 => jc (Zao lb tR (fun hb25 => .cB) (fun hb25 => (HasO.cnd tR (notT hb25))) hv_19) <| JL.nil ?_
   try obtain rfl := so hx15
   exact JQ.join () (Imp.norm (js := [0]) rfl (.cons rfl (.cons rfl .nil)))
 refine bI hx1 fun v3 hv_3 hx1 => lI hx1 fun v4 hv_4 hx1 => bI hx1 fun v5 hv_5 hx1 => lI hx1 fun v6 hv_6 hx1 => lI hx1 fun v7 hv_7 hx1 => ?_
 obtain ⟨v8, hv_8, hx1⟩ := ZaQ hx1
 rcases ZcG hx1 with ⟨hc13, hx1⟩ | ⟨hc13, hx1⟩
 · refine JC.anyF (base := [(1, ov (PTR gb_2 0))])
       (fs := fun γ => [⟨some 6, ov (PTR gb_2 (0 + 0))⟩, ⟨some 7, ov (A Zad t_1.ID)⟩, ⟨some 8, ov (S rB v3)⟩, ⟨some 9, ov (S rB v4)⟩, ⟨some 10, ov (S rB v4)⟩, ⟨some 11, bif (!v4) then ov (PTR gb_2 (0 + 4)) else .one .und⟩, ⟨some 12, bif (!v4) then ov (A (rV 16 (rU UInt64)) t_1.Past) else .one .und⟩, ⟨some 13, bif (!v4) then ov (S rB v5) else .one .und⟩, ⟨some 14, bif (!v4) then ov (S rB v6) else .one .und⟩, ⟨some 15, ov (S rB v7)⟩, ⟨some 16, ov (S rB v7)⟩, ⟨some 17, bif (!v7) then ov (PTR gb_2 (0 + 0)) else .one .und⟩, ⟨some 18, bif (!v7) then ov (PTR gb_2 ((0 + 0) + 0)) else .one .und⟩, ⟨some 19, bif (!v7) then ov (S (rI .i64) t_1.ID.Region) else .one .und⟩, ⟨some 20, bif (!v7) then ov (S (rI .i64) v8) else .one .und⟩, ⟨some 21, bif (!v7) then ov (PTR gb_2 (0 + 4)) else .one .und⟩, ⟨some 22, .one .und⟩, ⟨some 23, .one .und⟩, ⟨some 24, .one .und⟩, ⟨some 25, .one .und⟩, ⟨some 26, .one .und⟩, ⟨some 27, .one .und⟩, ⟨some 28, .one .und⟩, ⟨some 29, ov (S rB true)⟩])
       (rs := fun γ => [⟨cvar gb_2 Zam t_1, none, none, [1, 6, 13]⟩])
       (afts := nn 24) (js := [0]) ZbT (.cons rfl .nil) (fun _ => rfl)
       (by
      refine dS 1 (fun γ ρ B hb hd => Zaa (off := 0) lb Zel (.tmp (hb 1 _ rfl))) <| dR 2 (fun γ ρ B hb hd => Zan.lk ⟨ρ, (cvar gb_2 Zam t_1) :: B, _⟩ (Zaw (j := 0) lb tA26 (tl hd 0 6) rfl (cT (ZaW t_1) rfl) rfl)) <| dS 3 (fun γ ρ B hb hd => (Zak (js := []) ld cl82 (Zd4 k t_1.ID v3 hv_3) .func (.cons (tl hd 1 7) .nil) rfl).post (fun _ => Imp.refl)) <| dS 4 (fun γ ρ B hb hd => Zbc lb (tl hd 2 8) hv_4) <| dm 5 3 9 ?_
      refine dF 6 4 10 v4 (fun γ => ov (PTR gb_2 (0 + 4))) (fun γ ρ B hb hd hq_2 => Zaa (off := 4) lb Zfh (.tmp (hb 1 _ rfl))) ?_
      refine eF 7 4 10 v4 (fun γ => ov (A (rV 16 (rU UInt64)) t_1.Past)) (fun γ ρ B hb hd hq_3 => Zan.lk ⟨ρ, (cvar gb_2 Zam t_1) :: B, _⟩ (Zaw (j := 0) lb tA29 (HasO.cnd (tl hd 5 11) (notT (notF hq_3))) rfl (cT (ZaZ t_1) rfl) rfl)) ?_
      refine dF 8 4 10 v4 (fun γ => ov (S rB v5)) (fun γ ρ B hb hd hq_4 => (Zak (js := []) ld cl83 (Zew k t_1.Past v5 (ifT hv_5 hq_4)) .func (.cons (HasO.cnd (tl hd 6 12) (notT (notF hq_4))) .nil) rfl).post (fun _ => Imp.refl)) ?_
      refine dF 9 4 10 v4 (fun γ => ov (S rB v6)) (fun γ ρ B hb hd hq_5 => Zbc lb (HasO.cnd (tl hd 7 13) (notT (notF hq_5))) hv_6) ?_
      refine dS 10 (fun γ ρ B hb hd => Zao lb (tl hd 4 10) (fun hb6 => .cB) (fun hb6 => (HasO.cnd (tl hd 8 14) (notT hb6))) hv_7) <| dm 11 9 15 ?_
      refine dF 12 10 16 v7 (fun γ => ov (PTR gb_2 (0 + 0))) (fun γ ρ B hb hd hq_7 => Zaa (off := 0) lb Zel (.tmp (hb 1 _ rfl))) ?_
      refine dF 13 10 16 v7 (fun γ => ov (PTR gb_2 ((0 + 0) + 0))) (fun γ ρ B hb hd hq_8 => Zaa (off := 0) lb Zcx (HasO.cnd (tl hd 11 17) (notT (notF hq_8)))) ?_
      refine eF 14 10 16 v7 (fun γ => ov (S (rI .i64) t_1.ID.Region)) (fun γ ρ B hb hd hq_9 => Zan.lk ⟨ρ, (cvar gb_2 Zam t_1) :: B, _⟩ (Zai (j := 0) lb tS3 (HasO.cnd (tl hd 12 18) (notT (notF hq_9))) rfl (Comp.trans (cT (ZaW t_1) rfl) (ZaC t_1.ID) (lE rfl)) rfl rfl)) ?_
      refine dF 15 10 16 v7 (fun γ => ov (S (rI .i64) v8)) (fun γ ρ B hb hd hq_10 => ZaY lb (HasO.cnd (tl hd 13 19) (notT (notF hq_10))) .cI (cs hv_8)) ?_
      refine dF 16 10 16 v7 (fun γ => ov (PTR gb_2 (0 + 4))) (fun γ ρ B hb hd hq_11 => Zaa (off := 4) lb Zfh (.tmp (hb 1 _ rfl))) ?_
      refine kn 17 10 16 rfl hc13 <| kn 18 10 16 rfl hc13 <| kn 19 10 16 rfl hc13 <| kn 20 10 16 rfl hc13 <| kn 21 10 16 rfl hc13 ?_
      refine kn 22 10 16 rfl hc13 <| kn 23 10 16 rfl hc13 <| dS 24 (fun γ ρ B hb hd => Zb7 lb (tl hd 10 16) hc13 .cB) ?_
      exact ZaG.nil)
       (by decide +kernel) (fun _ => rfl) (fun _ => rfl) (fun _ => rfl) rfl
       (ρ' := fun γ => [(1, ov (PTR gb_2 0)), (29, ov (S rB true))])
       (X' := fun γ => [cvar gb_2 Zam t_1])
       (fun γ ρ hb hd => (.cons (hb 1 _ rfl) (.cons (hdq hd 23 29 rfl) .nil))) (fun _ => rfl) (fun γ => ?_)
   refine JQ.at ⟨[(1, ov (PTR gb_2 0)), (29, ov (S rB true))], [cvar gb_2 Zam t_1], []⟩ ?_
   try obtain rfl := so hx1
   exact JQ.join () (Imp.norm (js := [0]) rfl (.cons rfl (.cons rfl .nil)))
 refine bI hx1 fun i_9 hv_i_9 hx1 => lI hx1 fun v10 hv_10 hx1 => lI hx1 fun v11 hv_11 hx1 => ?_
 obtain ⟨v12, hv_12, hx1⟩ := ZaQ hx1
 refine JC.anyF (base := [(1, ov (PTR gb_2 0))])
     (fs := fun γ => [⟨some 6, ov (PTR gb_2 (0 + 0))⟩, ⟨some 7, ov (A Zad t_1.ID)⟩, ⟨some 8, ov (S rB v3)⟩, ⟨some 9, ov (S rB v4)⟩, ⟨some 10, ov (S rB v4)⟩, ⟨some 11, bif (!v4) then ov (PTR gb_2 (0 + 4)) else .one .und⟩, ⟨some 12, bif (!v4) then ov (A (rV 16 (rU UInt64)) t_1.Past) else .one .und⟩, ⟨some 13, bif (!v4) then ov (S rB v5) else .one .und⟩, ⟨some 14, bif (!v4) then ov (S rB v6) else .one .und⟩, ⟨some 15, ov (S rB v7)⟩, ⟨some 16, ov (S rB v7)⟩, ⟨some 17, bif (!v7) then ov (PTR gb_2 (0 + 0)) else .one .und⟩, ⟨some 18, bif (!v7) then ov (PTR gb_2 ((0 + 0) + 0)) else .one .und⟩, ⟨some 19, bif (!v7) then ov (S (rI .i64) t_1.ID.Region) else .one .und⟩, ⟨some 20, bif (!v7) then ov (S (rI .i64) v8) else .one .und⟩, ⟨some 21, bif (!v7) then ov (PTR gb_2 (0 + 4)) else .one .und⟩, ⟨some 22, ov (PTR gb_2 ((0 + 4) + i_9.1 * 1))⟩, ⟨some 23, ov (S (rU UInt64) v10)⟩, ⟨some 24, ov (PTR gb_2 (0 + 0))⟩, ⟨some 25, ov (PTR gb_2 ((0 + 0) + 1))⟩, ⟨some 26, ov (S (rU UInt64) t_1.ID.Count)⟩, ⟨some 27, ov (S (rU UInt64) v11)⟩, ⟨some 28, ov (S rB v12)⟩, ⟨some 29, ov (S rB v12)⟩])
     (rs := fun γ => [⟨cvar gb_2 Zam t_1, none, none, [1, 6, 13, 17, 20]⟩])
     (afts := nn 24) (js := [0]) ZbT (.cons rfl .nil) (fun _ => rfl)
     (by
      refine dS 1 (fun γ ρ B hb hd => Zaa (off := 0) lb Zel (.tmp (hb 1 _ rfl))) <| dR 2 (fun γ ρ B hb hd => Zan.lk ⟨ρ, (cvar gb_2 Zam t_1) :: B, _⟩ (Zaw (j := 0) lb tA26 (tl hd 0 6) rfl (cT (ZaW t_1) rfl) rfl)) <| dS 3 (fun γ ρ B hb hd => (Zak (js := []) ld cl82 (Zd4 k t_1.ID v3 hv_3) .func (.cons (tl hd 1 7) .nil) rfl).post (fun _ => Imp.refl)) <| dS 4 (fun γ ρ B hb hd => Zbc lb (tl hd 2 8) hv_4) <| dm 5 3 9 ?_
      refine dF 6 4 10 v4 (fun γ => ov (PTR gb_2 (0 + 4))) (fun γ ρ B hb hd hq_2 => Zaa (off := 4) lb Zfh (.tmp (hb 1 _ rfl))) ?_
      refine eF 7 4 10 v4 (fun γ => ov (A (rV 16 (rU UInt64)) t_1.Past)) (fun γ ρ B hb hd hq_3 => Zan.lk ⟨ρ, (cvar gb_2 Zam t_1) :: B, _⟩ (Zaw (j := 0) lb tA29 (HasO.cnd (tl hd 5 11) (notT (notF hq_3))) rfl (cT (ZaZ t_1) rfl) rfl)) ?_
      refine dF 8 4 10 v4 (fun γ => ov (S rB v5)) (fun γ ρ B hb hd hq_4 => (Zak (js := []) ld cl83 (Zew k t_1.Past v5 (ifT hv_5 hq_4)) .func (.cons (HasO.cnd (tl hd 6 12) (notT (notF hq_4))) .nil) rfl).post (fun _ => Imp.refl)) ?_
      refine dF 9 4 10 v4 (fun γ => ov (S rB v6)) (fun γ ρ B hb hd hq_5 => Zbc lb (HasO.cnd (tl hd 7 13) (notT (notF hq_5))) hv_6) ?_
      refine dS 10 (fun γ ρ B hb hd => Zao lb (tl hd 4 10) (fun hb6 => .cB) (fun hb6 => (HasO.cnd (tl hd 8 14) (notT hb6))) hv_7) <| dm 11 9 15 ?_
      refine dF 12 10 16 v7 (fun γ => ov (PTR gb_2 (0 + 0))) (fun γ ρ B hb hd hq_7 => Zaa (off := 0) lb Zel (.tmp (hb 1 _ rfl))) ?_
      refine dF 13 10 16 v7 (fun γ => ov (PTR gb_2 ((0 + 0) + 0))) (fun γ ρ B hb hd hq_8 => Zaa (off := 0) lb Zcx (HasO.cnd (tl hd 11 17) (notT (notF hq_8)))) ?_
      refine eF 14 10 16 v7 (fun γ => ov (S (rI .i64) t_1.ID.Region)) (fun γ ρ B hb hd hq_9 => Zan.lk ⟨ρ, (cvar gb_2 Zam t_1) :: B, _⟩ (Zai (j := 0) lb tS3 (HasO.cnd (tl hd 12 18) (notT (notF hq_9))) rfl (Comp.trans (cT (ZaW t_1) rfl) (ZaC t_1.ID) (lE rfl)) rfl rfl)) ?_
      refine dF 15 10 16 v7 (fun γ => ov (S (rI .i64) v8)) (fun γ ρ B hb hd hq_10 => ZaY lb (HasO.cnd (tl hd 13 19) (notT (notF hq_10))) .cI (cs hv_8)) ?_
      refine dF 16 10 16 v7 (fun γ => ov (PTR gb_2 (0 + 4))) (fun γ ρ B hb hd hq_11 => Zaa (off := 4) lb Zfh (.tmp (hb 1 _ rfl))) ?_
      refine dY 17 (fun γ ρ B hb hd => ⟨.yes rfl (ltB rfl) (hl hd 10 16 rfl) hc13, lkB (Zcy lb tr29 (HasO.cnd (tl hd 15 21) (notT hc13)) (HasO.cnd (tl hd 14 20) (notT hc13)) hv_i_9)⟩) <| dY 18 (fun γ ρ B hb hd => ⟨.yes rfl (ltB rfl) (hl hd 10 16 rfl) hc13, Zan.lk ⟨ρ, (cvar gb_2 Zam t_1) :: B, _⟩ (Zai (j := 0) lb tS24 (tl hd 16 22) rfl (Comp.at (cT (ZaZ t_1) rfl) i_9.2 rfl) rfl hv_10)⟩) <| dY 19 (fun γ ρ B hb hd => ⟨.yes rfl (ltB rfl) (hl hd 10 16 rfl) hc13, lkB (Zaa (off := 0) lb Zel (.tmp (hb 1 _ rfl)))⟩) <| dY 20 (fun γ ρ B hb hd => ⟨.yes rfl (ltB rfl) (hl hd 10 16 rfl) hc13, lkB (Zaa (off := 1) lb ZdA (tl hd 18 24))⟩) <| dY 21 (fun γ ρ B hb hd => ⟨.yes rfl (ltB rfl) (hl hd 10 16 rfl) hc13, Zan.lk ⟨ρ, (cvar gb_2 Zam t_1) :: B, _⟩ (Zai (j := 0) lb tS24 (tl hd 19 25) rfl (Comp.trans (cT (ZaW t_1) rfl) (ZaN t_1.ID) (lE rfl)) rfl rfl)⟩) ?_
      refine dY 22 (fun γ ρ B hb hd => ⟨.yes rfl (ltB rfl) (hl hd 10 16 rfl) hc13, lkB (Zfb lb (tl hd 20 26) (HasO.cU (x := (1 : UInt64)) rfl (by decide)) (cs hv_11))⟩) <| dY 23 (fun γ ρ B hb hd => ⟨.yes rfl (ltB rfl) (hl hd 10 16 rfl) hc13, lkB (ZbH lb (tl hd 17 23) (tl hd 21 27) (cs hv_12))⟩) <| dS 24 (fun γ ρ B hb hd => Za6 lb (tl hd 10 16) hc13 (tl hd 22 28)) ?_
      exact ZaG.nil)
     (by decide +kernel) (fun _ => rfl) (fun _ => rfl) (fun _ => rfl) rfl
     (ρ' := fun γ => [(1, ov (PTR gb_2 0)), (29, ov (S rB v12))])
     (X' := fun γ => [cvar gb_2 Zam t_1])
     (fun γ ρ hb hd => (.cons (hb 1 _ rfl) (.cons (hdq hd 23 29 rfl) .nil))) (fun _ => rfl) (fun γ => ?_)
 refine JQ.at ⟨[(1, ov (PTR gb_2 0)), (29, ov (S rB v12))], [cvar gb_2 Zam t_1], []⟩ ?_
 try obtain rfl := so hx1
 exact JQ.join () (Imp.norm (js := [0]) rfl (.cons rfl (.cons rfl .nil)))

theorem ZhF (k : Nat) (n_1 : UInt64) (r : Bool) (hm : Zgm k n_1 = some r) : Sim Tryz.prog 33 [S (rU UInt64) n_1] [] (γ := Unit) (fun q => []) (fun q => .one (.val (S rB r))) := by
 unfold Zgm at hm
 refine Sim.of Tryz.func33 rfl rfl (lE rfl) (fun e0 w0 => ?_)
 refine JC.at ⟨[(0, ov (S (rU UInt64) n_1))], [], []⟩ <| jr <| jc (Zab lb .cB) <| jn <| jr <| jmv rfl rfl <| lI hm fun v2 hv_2 hm => jc (ZbH lb tR (HasO.cU (x := (4611686018427387904 : UInt64)) rfl (by decide)) (cs hv_2)) <| jc (Zab lb tR) <| jn <| JC.ret ?_
 obtain rfl := so hm
 exact jd (.val (S rB v2)) rfl rfl rfl rfl rfl rfl

theorem Zdh (k : Nat) (s_1 : (List UInt64)) (r : Int) (hm : slices_IndexFuncuint64_uint64'2 k s_1 = some r) : Sim Tryz.prog 85 [S (rL (rU UInt64)) s_1, CLO 33 []] [] (γ := Unit) (fun q => []) (fun q => .one (.val (S (rI .i64) r))) := by
 unfold slices_IndexFuncuint64_uint64'2 at hm
 refine Sim.of Tryz.func85 rfl rfl (lE rfl) (fun e0 w0 => ?_)
 refine JC.at ⟨[(0, ov (S (rL (rU UInt64)) s_1)), (1, ov (CLO 33 []))], [], []⟩ <| jr <| jc (Zab lb .cI) <| jn <| bI hm fun tv1 hx1 hq1 => JC.seqK (α := Unit) (γ := Unit) (stj := fun v q => ⟨[], [], []⟩) (p := fun v => tv1 = (.inl v)) (fun v q hv => ?_) ?_
 · subst hv
   skip
   obtain _ := q
   dsimp only at hq1
   refine JC.at ⟨[], [], []⟩ <| jr <| jc (Zab lb .cI) <| jn <| JC.ret ?_
   obtain rfl := so hq1
   exact jd (.val (S (rI .i64) (-1 : Int))) rfl rfl rfl rfl rfl rfl
 refine jr <| jmv rfl rfl <| jc (ZaE lb tu71 tR) <| jc (Zax lb .cI) <| jn <| JC.block <| bI hx1 fun tv2 hL2 hq2 => JC.pre ?_ (JC.loop (γ := Unit) (stf := fun s q => ⟨[(0, ov (S (rL (rU UInt64)) s_1)), (1, ov (CLO 33 [])), (7, ov (S (rI .i64) (List.length s_1 : Int))), (8, ov (S (rI .i64) s))], [], []⟩) (q := ()) hL2 ?_)
 · exact (Imp.norm (js := []) rfl (.cons rfl (.cons rfl (.cons rfl (.cons rfl .nil)))))
 intro x_2 q x hx hr
 obtain _ := q
 change slices_IndexFuncuint64_uint64'2.b1 k s_1 x_2 = some x at hx
 unfold slices_IndexFuncuint64_uint64'2.b1 at hx
 refine JC.at ⟨[(0, ov (S (rL (rU UInt64)) s_1)), (1, ov (CLO 33 [])), (7, ov (S (rI .i64) (List.length s_1 : Int))), (8, ov (S (rI .i64) x_2))], [], []⟩ <| jr <| lI hx fun v3 hv_3 hx => jc (Zaq lb tR tR (cs hv_3)) <| jn <| JC.seq <| jif tR hx (fun hc3 hx => ?_) (fun hc3 hx => ?_)
 · refine JC.skip <| JQ.then <| JC.seq <| JC.block <| jr <| jmv rfl rfl <| jc (Zab lb tR) <| jn <| jr <| jmv rfl rfl <| jmv rfl rfl <| jmv rfl rfl <| bI hx fun v4 hv_4 hx => jc (Zau lb tu71 tz24 tR tR hv_4) <| jc (Zbe lb tS24 rfl tR rfl) <| bI hx fun v5 hv_5 hx => jx (Zak (js := []) ld cl33 (ZhF k v4 v5 hv_5) tR (.cons tR .nil) rfl) fun _ => jn ?_
   refine jif tR hx (fun hc4 hx => ?_) (fun hc4 hx => ?_)
   · refine jr <| jmv rfl rfl <| jc (Zab lb tR) <| jn <| JC.ret <| JQ.outRB <| JQ.outR ?_
     try obtain rfl := so hx
     try obtain rfl := hr _ rfl
     dsimp only at hq2
     refine JQ.outR <| JQ.outRB ?_
     try obtain rfl := so hq2
     dsimp only at hq1
     refine JQ.outR ?_
     obtain rfl := so hq1
     exact jd (.val (S (rI .i64) x_2)) rfl rfl rfl rfl rfl rfl
   refine JC.skip <| JQ.outNB <| JQ.then <| JC.region <| lI hx fun v6 hv_6 hx => jc (ZaY lb tR .cI (cs hv_6)) <| jmv rfl rfl <| JL.nil ?_
   try obtain rfl := so hx
   exact JQ.next () rfl (Imp.norm (js := []) rfl (.cons rfl (.cons rfl (.cons rfl (.cons rfl .nil)))))
 refine JC.exit <| JQ.outX ?_
 try obtain rfl := so hx
 try obtain rfl := hr _ rfl
 dsimp only at hq2
 refine JQ.outX <| JQ.here ?_
 try obtain rfl := so hq2
 exact JQ.joinK () () rfl (Imp.norm (js := []) rfl .nil)

theorem ZcU (k : Nat) (s_1 : (List UInt64)) (r : Bool) (hm : Za4 k s_1 = some r) : Sim Tryz.prog 32 [S (rL (rU UInt64)) s_1, CLO 33 []] [] (γ := Unit) (fun q => []) (fun q => .one (.val (S rB r))) := by
 unfold Za4 at hm
 refine Sim.of Tryz.func32 rfl rfl (lE rfl) (fun e0 w0 => ?_)
 refine JC.at ⟨[(0, ov (S (rL (rU UInt64)) s_1)), (1, ov (CLO 33 []))], [], []⟩ <| jr <| jc (Zab lb .cB) <| jn <| jr <| jmv rfl rfl <| jmv rfl rfl <| bI hm fun v2 hv_2 hm => jx (Zak (js := []) ld cl85 (Zdh k s_1 v2 hv_2) .func (.cons tR (.cons tR .nil)) rfl) fun _ => lI hm fun v3 hv_3 hm => jc (Zaq lb tR .cI (cs hv_3)) <| jc (Zab lb tR) <| jn <| JC.ret ?_
 obtain rfl := so hm
 exact jd (.val (S rB v3)) rfl rfl rfl rfl rfl rfl

theorem Zek (k : Nat) (i_1 : Int) (less_2 : Bool) (r : Bool) (hm : ZcM k i_1 less_2 = some r) : Sim Tryz.prog 29 [S (rI .i64) i_1, S rB less_2] [] (γ := Unit) (fun q => []) (fun q => .one (.val (S rB r))) := by
 unfold ZcM at hm
 refine Sim.of Tryz.func29 rfl rfl (lE rfl) (fun e0 w0 => ?_)
 refine JC.at ⟨[(0, ov (S (rI .i64) i_1)), (1, ov (S rB less_2))], [], []⟩ <| jr <| jc (Zab lb .cB) <| jn <| bI hm fun x_5 hx1 hq1 => JC.seqJ (γ := Unit) (stj := fun _ => ⟨[(4, ov (S rB x_5))], [], []⟩) (fun _ => ?_) ?_
 · refine JC.ret ?_
   obtain rfl := so hq1
   exact jd (.val (S rB x_5)) rfl rfl rfl rfl rfl rfl
 refine JC.region <| jmv rfl rfl <| lI hx1 fun v3 hv_3 hx1 => jc (Zaq lb tR .cI (cs hv_3)) <| jmv rfl rfl <| jF (ov (S rB less_2)) rfl rfl rfl rfl (fun hq_2 => Zax lb tR) <| lI hx1 fun v4 hv_4 hx1 => jc (Zao lb tR (fun hb3 => .cB) (fun hb3 => (HasO.cnd tR (notT hb3))) hv_4) <| jc (Zab lb tR) <| JL.nil ?_
 try obtain rfl := so hx1
 exact jo rfl rfl rfl

theorem ZiI (k : Nat) (a_1 : Zaf) (b_2 : Zaf) (r : Int) (hm : ZgR k a_1 b_2 = some r) : Sim Tryz.prog 86 [A Zad a_1, A Zad b_2] [] (γ := Unit) (fun q => []) (fun q => .one (.val (S (rI .i64) r))) := by
 unfold ZgR at hm
 refine Sim.of Tryz.func86 rfl rfl (lE rfl) (fun e0 w0 => ?_)
 refine JC.at ⟨[(0, ov (A Zad a_1)), (1, ov (A Zad b_2))], [], []⟩ <| jr <| jx (ZaX lb tR) fun gb_3 => jx (ZaX lb tR) fun gb_4 => jc (Zab lb .cI) <| jn <| JC.seq <| bI hm fun v5 hv_5 hm => bI hm fun v6 hv_6 hm => ?_
 obtain ⟨v7, hv_7, hm⟩ := Zay hm
 refine JC.anyF (base := [(2, ov (PTR gb_3 0)), (3, ov (PTR gb_4 0))])
     (fs := fun γ => [⟨some 5, ov (PTR gb_3 (0 + 0))⟩, ⟨some 6, ov (S (rI .i64) a_1.Region)⟩, ⟨some 7, ov (PTR gb_4 (0 + 0))⟩, ⟨some 8, ov (S (rI .i64) b_2.Region)⟩, ⟨some 9, ov (S (rI .i64) v5)⟩, ⟨some 10, ov (PTR gb_3 (0 + 1))⟩, ⟨some 11, ov (S (rU UInt64) a_1.Count)⟩, ⟨some 12, ov (PTR gb_4 (0 + 1))⟩, ⟨some 13, ov (S (rU UInt64) b_2.Count)⟩, ⟨some 14, ov (S (rI .i64) v6)⟩, ⟨some 15, ov (S (rL (rI .i64)) ([v5, v6] : (List Int)))⟩, ⟨some 16, ov (S (rI .i64) v7)⟩, ⟨some 4, ov (S (rI .i64) v7)⟩])
     (rs := fun γ => [⟨cvar gb_3 Zad a_1, none, none, [1, 6]⟩, ⟨cvar gb_4 Zad b_2, none, none, [3, 8]⟩])
     (afts := nn 13) (js := [0, 0]) ZbT (.cons rfl (.cons rfl .nil)) (fun _ => rfl)
     (by
      refine dS 1 (fun γ ρ B hb hd => Zaa (off := 0) lb Zcx (.tmp (hb 2 _ rfl))) <| dR 2 (fun γ ρ B hb hd => Zan.lk ⟨ρ, (cvar gb_3 Zad a_1) :: B, _⟩ (Zai (j := 0) lb tS3 (tl hd 0 5) rfl (cT (ZaC a_1) rfl) rfl rfl)) <| dS 3 (fun γ ρ B hb hd => Zaa (off := 0) lb Zcx (.tmp (hb 3 _ rfl))) <| dR 4 (fun γ ρ B hb hd => Zan.lk ⟨ρ, (cvar gb_4 Zad b_2) :: B, _⟩ (Zai (j := 0) lb tS3 (tl hd 2 7) rfl (cT (ZaC b_2) rfl) rfl rfl)) <| dS 5 (fun γ ρ B hb hd => (Zak (js := []) ld ZnB (ZeK k a_1.Region b_2.Region v5 hv_5) .func (.cons (tl hd 1 6) (.cons (tl hd 3 8) .nil)) rfl).post (fun _ => Imp.refl)) ?_
      refine dS 6 (fun γ ρ B hb hd => Zaa (off := 1) lb ZdA (.tmp (hb 2 _ rfl))) <| dR 7 (fun γ ρ B hb hd => Zan.lk ⟨ρ, (cvar gb_3 Zad a_1) :: B, _⟩ (Zai (j := 0) lb tS24 (tl hd 5 10) rfl (cT (ZaN a_1) rfl) rfl rfl)) <| dS 8 (fun γ ρ B hb hd => Zaa (off := 1) lb ZdA (.tmp (hb 3 _ rfl))) <| dR 9 (fun γ ρ B hb hd => Zan.lk ⟨ρ, (cvar gb_4 Zad b_2) :: B, _⟩ (Zai (j := 0) lb tS24 (tl hd 7 12) rfl (cT (ZaN b_2) rfl) rfl rfl)) <| dS 10 (fun γ ρ B hb hd => (Zak (js := []) ld Zm5 (Zd1 k a_1.Count b_2.Count v6 hv_6) .func (.cons (tl hd 6 11) (.cons (tl hd 8 13) .nil)) rfl).post (fun _ => Imp.refl)) ?_
      refine dS 11 (fun γ ρ B hb hd => Zca (r := (rI .i64)) lb tu37 tz3 tZ3 rfl (lE rfl) (.S rfl (tl hd 4 9) (.S rfl (tl hd 9 14) .nil)) rfl) <| dS 12 (fun γ ρ B hb hd => (Zak (js := []) ld Znn (ZgD k ([v5, v6] : (List Int)) v7 hv_7) .func (.cons (tl hd 10 15) .nil) rfl).post (fun _ => Imp.refl)) <| dS 13 (fun γ ρ B hb hd => Zab lb (tl hd 11 16)) ?_
      exact ZaG.nil)
     (by decide +kernel) (fun _ => rfl) (fun _ => rfl) (fun _ => rfl) rfl
     (ρ' := fun γ => [(4, ov (S (rI .i64) v7))])
     (X' := fun γ => [cvar gb_3 Zad a_1, cvar gb_4 Zad b_2])
     (fun γ ρ hb hd => (.cons (hdq hd 12 4 rfl) .nil)) (fun _ => rfl) (fun γ => ?_)
 refine JQ.at ⟨[(4, ov (S (rI .i64) v7))], [cvar gb_3 Zad a_1, cvar gb_4 Zad b_2], []⟩ <| JQ.then <| JC.ret ?_
 obtain rfl := so hm
 exact jd (.val (S (rI .i64) v7)) rfl rfl rfl rfl rfl rfl

theorem ZeG (k : Nat) (a_1 : Zaf) (b_2 : Zaf) (r : Bool) (hm : Zfn k a_1 b_2 = some r) : Sim Tryz.prog 35 [A Zad a_1, A Zad b_2] [] (γ := Unit) (fun q => []) (fun q => .one (.val (S rB r))) := by
 unfold Zfn at hm
 refine Sim.of Tryz.func35 rfl rfl (lE rfl) (fun e0 w0 => ?_)
 refine JC.at ⟨[(0, ov (A Zad a_1)), (1, ov (A Zad b_2))], [], []⟩ <| jr <| jx (ZaX lb tR) fun gb_3 => jx (ZaX lb tR) fun gb_4 => jc (Zab lb .cB) <| jn <| jr <| jc (Zaw (j := 0) lb tA26 tR rfl (Comp.self Zad a_1) rfl) <| jc (Zaw (j := 1) lb tA26 tR rfl (Comp.self Zad b_2) rfl) <| bI hm fun v5 hv_5 hm => jx (Zak (js := []) ld cl86 (ZiI k a_1 b_2 v5 hv_5) .func (.cons tR (.cons tR .nil)) rfl) fun _ => lI hm fun v6 hv_6 hm => jc (Zaq lb tR .cI (cs hv_6)) <| jc (Zab lb tR) ?_
 refine JL.nrm ⟨[(4, ov (S rB v6))], [], []⟩ [] rfl (.cons rfl .nil) rfl <| jn <| JC.ret ?_
 obtain rfl := so hm
 exact jd (.val (S rB v6)) rfl rfl rfl rfl rfl rfl

end Go.Proofs.YtklnihlchhhhlaaGreat
