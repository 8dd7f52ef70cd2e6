/- Walks. -/
import Derived.Test.YtklnihlchhhhlaaGreatT
namespace Go.Proofs.YtklnihlchhhhlaaGreat
open Go Fw
set_option linter.unusedVariables false
set_option maxRecDepth 100000
set_option maxHeartbeats 4000000

theorem Zih (k : Nat) (t1 : Zai) (r : Zai) (hm : Ze5 k t1 = some r) : Sim Tryz.prog 28 [A Zad t1] [] (γ := Unit) (fun q => []) (fun q => .one (.val (A Zad r))) := by
 unfold Ze5 at hm
 refine Sim.of Tryz.func28 rfl rfl (lE rfl) (fun e0 w0 => ?_)
 refine JC.at ⟨[(0, ov (A Zad t1))], [], []⟩ <| jr <| jx (ZaZ lb tR) fun gb2 => jx (Za8 lb tZ39 zr39) fun gb3 => jn <| jr <| jc (Zaa (off := 0) lb Zgg tR) <| jc (Zam (j := 0) lb tS22 tR rfl (cT (Za4 t1) rfl) rfl rfl) <| jc (Zaa (off := 1) lb ZgR tR) <| jc (Zam (j := 0) lb tS3 tR rfl (cT (Zba t1) rfl) rfl rfl) <| jc (Zaa (off := 2) lb ZgC tR) <| jc (Zam (j := 0) lb tS3 tR rfl (cT (Zbt t1) rfl) rfl rfl) <| JL.sub ⟨[(1, ov (PTR gb2 0)), (2, ov (PTR gb3 0)), (5, ov (S (rI .i64) t1.Kind)), (7, ov (S (rI .i64) t1.From)), (9, ov (S (rI .i64) t1.To))], [cvar gb2 Zad t1, cvar gb3 zq0 zq1], []⟩ (.cons rfl (.cons rfl (.cons rfl (.cons rfl (.cons rfl .nil))))) rfl rfl <| jc (Zbl lb tZ39 zr39 tp39 (.S (off := 0) rfl tR rfl ((UpdR.fst (UpdR.self (by rfl))).at (by rfl)) (.S (off := 1) rfl tR rfl ((UpdR.snd (UpdR.fst (UpdR.self (by rfl)))).at (by rfl)) (.S (off := 2) rfl tR rfl ((UpdR.snd (UpdR.snd (UpdR.fst (UpdR.self (by rfl))))).at (by rfl)) .nil))) rfl) <| jx (Za8 lb tZ39 zr39) (fun gb4 => ?_)
 refine jc (ZaM (j := 2) tA39 tR tR rfl (UpdR.self (by rfl)) rfl) <| jn <| bI hm fun x12 hx1 hq1 => JC.seqJ (γ := Unit) (stj := fun _ => ⟨[(2, ov (PTR gb3 0)), (3, ov (PTR gb4 0))], [cvar gb3 zq0 zq1, cvar gb4 Zad x12], []⟩) (fun _ => ?_) ?_
 · refine jr <| jc (ZaB (j := 1) lb tA39 tR rfl (Comp.self Zad x12) rfl) <| jc (ZaM (j := 0) tA39 tR tR rfl (UpdR.self (by rfl)) rfl) <| jn <| JC.ret ?_
   obtain rfl := so hq1
   exact JQ.done (js := []) (ss := [.val (A Zad x12)]) () (.inl rfl) (.nil rfl) rfl (.cons (.cellA (j := 0) tA39 rfl rfl) .nil) rfl rfl rfl
 refine jr <| jc (Zaa (off := 0) lb Zgg tR) <| jc (Zam (j := 0) lb tS22 tR rfl (cT (Za4 t1) rfl) rfl rfl) <| jn <| JC.block <| jr <| lI hx1 fun v5 hv5 hx1 => jc (Zar lb tR .cI (cs hv5)) <| jc (Zac lb tR) <| jn <| jif tR hx1 (fun hc2 hx1 => ?_) (fun hc2 hx1 => ?_)
 · refine JC.region <| jc (Zaa (off := 3) lb ZdJ tR) <| JL.sub ⟨[(2, ov (PTR gb3 0)), (3, ov (PTR gb4 0)), (15, ov (PTR gb2 (0 + 3)))], [cvar gb2 Zad t1, cvar gb3 zq0 zq1, cvar gb4 zq0 (zq2 t1)], []⟩ (.cons rfl (.cons rfl (.cons rfl .nil))) rfl rfl <| jc (Zam (j := 0) lb tS23 tR rfl (cT (ZaO t1) rfl) rfl rfl) <| jc (Zaa (off := 3) lb ZdJ tR) <| jc (Zck (j := 2) tS23 tR tR rfl rfl ((UpdR.snd (UpdR.snd (UpdR.snd (UpdR.fst (UpdR.self (by rfl)))))).at (by change (1 + (1 + (1 + 0))) = (0 + 3); omega)) rfl) <| JL.nil <| JQ.outNB ?_
   try obtain rfl := so hx1
   refine JQ.pre (Imp.var (j := 2) (q := Zad) (y := (Zai.mk t1.Kind t1.From t1.To t1.Items (Zaq.mk (Zah.mk (0 : Int) (0 : UInt64)) ([] : (List UInt8)) ([] : (List UInt8)) (Vector.replicate 16 (0 : UInt64)) ([] : (List ZaA))) (Vector.replicate 16 (0 : UInt64)) (Vector.replicate 16 (0 : UInt64)) ([] : (List Zah)) ([] : (List Zah)) (Vector.replicate 32 (0 : UInt8)) ([] : (List (Vector UInt8 32))) ([] : (List Int)) false)) rfl (Wk.st (Wk.pair Wk.refl (Wk.pair Wk.refl (Wk.pair Wk.refl (Wk.pair Wk.refl (Wk.pair (Wk.st (Wk.pair Wk.refl (Wk.pair Wk.refl (Wk.pair Wk.nil (Wk.pair Wk.refl (Wk.pair Wk.nil Wk.refl)))))) (Wk.pair Wk.refl (Wk.pair Wk.refl (Wk.pair Wk.nil (Wk.pair Wk.nil (Wk.pair Wk.refl (Wk.pair Wk.nil (Wk.pair Wk.nil (Wk.pair Wk.refl Wk.refl))))))))))))))) ?_
   exact JQ.join () (Imp.norm (js := [1, 1]) rfl (.cons rfl (.cons rfl .nil)))
 refine jr <| lI hx1 fun v6 hv6 hx1 => jc (Zar lb tR .cI (cs hv6)) <| JL.sub ⟨[(1, ov (PTR gb2 0)), (2, ov (PTR gb3 0)), (3, ov (PTR gb4 0)), (12, ov (S (rI .i64) t1.Kind)), (19, ov (S rB v6))], [cvar gb2 Zad t1, cvar gb3 zq0 zq1, cvar gb4 zq0 (zq2 t1)], []⟩ (.cons rfl (.cons rfl (.cons rfl (.cons rfl (.cons rfl .nil))))) rfl rfl <| jc (Zac lb tR) <| jn <| jif tR hx1 (fun hc3 hx1 => ?_) (fun hc3 hx1 => ?_)
 · refine JC.region <| jc (Zaa (off := 4) lb Zgi tR) <| jc (ZaB (j := 0) lb tA32 tR rfl (cT (Zbf t1) rfl) rfl) <| jc (Zaa (off := 4) lb Zgi tR) <| jc (ZaM (j := 2) tA32 tR tR rfl ((UpdR.snd (UpdR.snd (UpdR.snd (UpdR.snd (UpdR.fst (UpdR.self (by rfl))))))).at (by change (1 + (1 + (1 + (1 + 0)))) = (0 + 4); omega)) rfl) <| JL.nil <| JQ.outNB ?_
   try obtain rfl := so hx1
   refine JQ.pre (Imp.var (j := 2) (q := Zad) (y := (Zai.mk t1.Kind t1.From t1.To ([] : (List Zal)) t1.Event (Vector.replicate 16 (0 : UInt64)) (Vector.replicate 16 (0 : UInt64)) ([] : (List Zah)) ([] : (List Zah)) (Vector.replicate 32 (0 : UInt8)) ([] : (List (Vector UInt8 32))) ([] : (List Int)) false)) rfl (Wk.st (Wk.pair Wk.refl (Wk.pair Wk.refl (Wk.pair Wk.refl (Wk.pair Wk.nil (Wk.pair Wk.refl (Wk.pair Wk.refl (Wk.pair Wk.refl (Wk.pair Wk.nil (Wk.pair Wk.nil (Wk.pair Wk.refl (Wk.pair Wk.nil (Wk.pair Wk.nil (Wk.pair Wk.refl Wk.refl))))))))))))))) ?_
   exact JQ.join () (Imp.norm (js := [1, 1]) rfl (.cons rfl (.cons rfl .nil)))
 refine jr <| lI hx1 fun v7 hv7 hx1 => jc (Zar lb tR .cI (cs hv7)) <| jc (Zac lb tR) <| jn <| jif tR hx1 (fun hc4 hx1 => ?_) (fun hc4 hx1 => ?_)
 · refine JC.region <| jc (Zaa (off := 25) lb Zg3 tR) <| jc (ZaB (j := 0) lb tA29 tR rfl (cT (ZbG t1) rfl) rfl) <| jc (Zaa (off := 25) lb Zg3 tR) <| jc (ZaM (j := 2) tA29 tR tR rfl ((UpdR.snd (UpdR.snd (UpdR.snd (UpdR.snd (UpdR.snd (UpdR.fst (UpdR.self (by rfl)))))))).at (by change (1 + (1 + (1 + (1 + (21 + 0))))) = (0 + 25); omega)) rfl) <| JL.nil <| JQ.outNB ?_
   try obtain rfl := so hx1
   refine JQ.pre (Imp.var (j := 2) (q := Zad) (y := (Zai.mk t1.Kind t1.From t1.To ([] : (List Zal)) (Zaq.mk (Zah.mk (0 : Int) (0 : UInt64)) ([] : (List UInt8)) ([] : (List UInt8)) (Vector.replicate 16 (0 : UInt64)) ([] : (List ZaA))) t1.Past (Vector.replicate 16 (0 : UInt64)) ([] : (List Zah)) ([] : (List Zah)) (Vector.replicate 32 (0 : UInt8)) ([] : (List (Vector UInt8 32))) ([] : (List Int)) false)) rfl (Wk.st (Wk.pair Wk.refl (Wk.pair Wk.refl (Wk.pair Wk.refl (Wk.pair Wk.nil (Wk.pair (Wk.st (Wk.pair Wk.refl (Wk.pair Wk.refl (Wk.pair Wk.nil (Wk.pair Wk.refl (Wk.pair Wk.nil Wk.refl)))))) (Wk.pair Wk.refl (Wk.pair Wk.refl (Wk.pair Wk.nil (Wk.pair Wk.nil (Wk.pair Wk.refl (Wk.pair Wk.nil (Wk.pair Wk.nil (Wk.pair Wk.refl Wk.refl))))))))))))))) ?_
   exact JQ.join () (Imp.norm (js := [1, 1]) rfl (.cons rfl (.cons rfl .nil)))
 refine jr <| lI hx1 fun v8 hv8 hx1 => jc (Zar lb tR .cI (cs hv8)) <| jc (Zac lb tR) <| jn <| jif tR hx1 (fun hc5 hx1 => ?_) (fun hc5 hx1 => ?_)
 · refine JC.anyF (base := [(1, ov (PTR gb2 0)), (2, ov (PTR gb3 0)), (3, ov (PTR gb4 0))])
       (fs := fun γ => [⟨some 30, ov (PTR gb2 (0 + 41))⟩, ⟨some 31, ov (A (rV 16 (rU UInt64)) t1.Seen)⟩, ⟨some 32, ov (PTR gb2 (0 + 57))⟩, ⟨some 33, ov (S (rL Zae) t1.Extra)⟩, ⟨some 34, ov (PTR gb2 (0 + 58))⟩, ⟨some 35, ov (S (rL Zae) t1.Live)⟩, ⟨some 36, ov (PTR gb4 (0 + 41))⟩, ⟨none, .one .any⟩, ⟨some 37, ov (PTR gb4 (0 + 57))⟩, ⟨none, .one .any⟩, ⟨some 38, ov (PTR gb4 (0 + 58))⟩, ⟨none, .one .any⟩])
       (rs := fun γ => [⟨cvar gb2 Zad t1, none, none, [1, 3, 5]⟩, ⟨cvar gb3 zq0 zq1, none, none, []⟩, ⟨cvar gb4 zq0 (zq2 t1), none, (some 7), []⟩, ⟨cvar gb4 zq0 (zq3 t1), (some 7), (some 9), []⟩, ⟨cvar gb4 zq4 (zq5 t1), (some 9), (some 11), []⟩, ⟨cvar gb4 zq6 (zq7 t1), (some 11), none, []⟩])
       (afts := nn 12) (js := [0, 0, 0]) Zcj (.cons rfl (.cons rfl (.cons rfl .nil))) (fun _ => rfl)
       (by
      refine dS 1 (fun γ ρ B hb hd => Zaa (off := 41) lb Zfw (.tmp (hb 1 _ rfl))) <| dR 2 (fun γ ρ B hb hd => Zao.lk ⟨ρ, (cvar gb2 Zad t1) :: B, _⟩ (ZaB (j := 0) lb tA29 (tl hd 0 30) rfl (cT (Zbn t1) rfl) rfl)) <| dS 3 (fun γ ρ B hb hd => Zaa (off := 57) lb Ze1 (.tmp (hb 1 _ rfl))) <| dR 4 (fun γ ρ B hb hd => Zao.lk ⟨ρ, (cvar gb2 Zad t1) :: B, _⟩ (Zam (j := 0) lb tS33 (tl hd 2 32) rfl (cT (Za7 t1) rfl) rfl rfl)) <| dS 5 (fun γ ρ B hb hd => Zaa (off := 58) lb Zfr (.tmp (hb 1 _ rfl))) ?_
      refine dR 6 (fun γ ρ B hb hd => Zao.lk ⟨ρ, (cvar gb2 Zad t1) :: B, _⟩ (Zam (j := 0) lb tS33 (tl hd 4 34) rfl (cT (Za5 t1) rfl) rfl rfl)) <| dS 7 (fun γ ρ B hb hd => Zaa (off := 41) lb Zfw (.tmp (hb 3 _ rfl))) <| dR 8 (fun γ ρ B hb hd => Zao.at ⟨ρ, (cvar gb4 zq0 (zq2 t1)) :: B, _⟩ (setO ⟨ρ, (cvar gb4 zq0 (zq3 t1)) :: B, _⟩ _ _) (ZaM (j := 0) tA29 (tl hd 6 36) (tl hd 1 31) rfl ((UpdR.snd (UpdR.snd (UpdR.snd (UpdR.snd (UpdR.snd (UpdR.snd (UpdR.fst (UpdR.self (by rfl))))))))).at (by change (1 + (1 + (1 + (1 + (21 + (16 + 0)))))) = (0 + 41); omega)) rfl)) <| dS 9 (fun γ ρ B hb hd => Zaa (off := 57) lb Ze1 (.tmp (hb 3 _ rfl))) <| dR 10 (fun γ ρ B hb hd => Zao.at ⟨ρ, (cvar gb4 zq0 (zq3 t1)) :: B, _⟩ (setO ⟨ρ, (cvar gb4 zq4 (zq5 t1)) :: B, _⟩ _ _) (Zck (j := 0) tS33 (tl hd 8 37) (tl hd 3 33) rfl rfl ((UpdR.snd (UpdR.snd (UpdR.snd (UpdR.snd (UpdR.snd (UpdR.snd (UpdR.snd (UpdR.fst (UpdR.self (by rfl)))))))))).at (by change (1 + (1 + (1 + (1 + (21 + (16 + (16 + 0))))))) = (0 + 57); omega)) rfl)) ?_
      refine dS 11 (fun γ ρ B hb hd => Zaa (off := 58) lb Zfr (.tmp (hb 3 _ rfl))) <| dR 12 (fun γ ρ B hb hd => Zao.at ⟨ρ, (cvar gb4 zq4 (zq5 t1)) :: B, _⟩ (setO ⟨ρ, (cvar gb4 zq6 (zq7 t1)) :: B, _⟩ _ _) (Zck (j := 0) tS33 (tl hd 10 38) (tl hd 5 35) rfl rfl ((UpdR.snd (UpdR.snd (UpdR.snd (UpdR.snd (UpdR.snd (UpdR.snd (UpdR.snd (UpdR.snd (UpdR.fst (UpdR.self (by rfl))))))))))).at (by change (1 + (1 + (1 + (1 + (21 + (16 + (16 + (1 + 0)))))))) = (0 + 58); omega)) rfl)) ?_
      exact ZaF.nil)
       (by decide +kernel) (fun _ => rfl) (fun _ => rfl) (fun _ => rfl) rfl
       (ρ' := fun γ => [(2, ov (PTR gb3 0)), (3, ov (PTR gb4 0))])
       (X' := fun γ => [cvar gb2 Zad t1, cvar gb3 zq0 zq1, cvar gb4 zq6 (zq7 t1)])
       (fun γ ρ hb hd => (.cons (hb 2 _ rfl) (.cons (hb 3 _ rfl) .nil))) (fun _ => rfl) (fun γ => ?_)
   refine JQ.at ⟨[(2, ov (PTR gb3 0)), (3, ov (PTR gb4 0))], [cvar gb2 Zad t1, cvar gb3 zq0 zq1, cvar gb4 zq6 (zq7 t1)], []⟩ <| JQ.outNB ?_
   try obtain rfl := so hx1
   refine JQ.pre (Imp.var (j := 2) (q := Zad) (y := (Zai.mk t1.Kind t1.From t1.To ([] : (List Zal)) (Zaq.mk (Zah.mk (0 : Int) (0 : UInt64)) ([] : (List UInt8)) ([] : (List UInt8)) (Vector.replicate 16 (0 : UInt64)) ([] : (List ZaA))) (Vector.replicate 16 (0 : UInt64)) t1.Seen t1.Extra t1.Live (Vector.replicate 32 (0 : UInt8)) ([] : (List (Vector UInt8 32))) ([] : (List Int)) false)) rfl (Wk.st (Wk.pair Wk.refl (Wk.pair Wk.refl (Wk.pair Wk.refl (Wk.pair Wk.nil (Wk.pair (Wk.st (Wk.pair Wk.refl (Wk.pair Wk.refl (Wk.pair Wk.nil (Wk.pair Wk.refl (Wk.pair Wk.nil Wk.refl)))))) (Wk.pair Wk.refl (Wk.pair Wk.refl (Wk.pair Wk.refl (Wk.pair Wk.refl (Wk.pair Wk.refl (Wk.pair Wk.nil (Wk.pair Wk.nil (Wk.pair Wk.refl Wk.refl))))))))))))))) ?_
   exact JQ.join () (Imp.norm (js := [1, 1]) rfl (.cons rfl (.cons rfl .nil)))
 refine jr <| lI hx1 fun v9 hv9 hx1 => jc (Zar lb tR .cI (cs hv9)) <| jc (Zac lb tR) <| jn <| jif tR hx1 (fun hc6 hx1 => ?_) (fun hc6 hx1 => ?_)
 · refine JC.region <| jc (Zaa (off := 59) lb Zhn tR) <| jc (ZaB (j := 0) lb tA35 tR rfl (cT (ZbS t1) rfl) rfl) <| jc (Zaa (off := 59) lb Zhn tR) <| jc (ZaM (j := 2) tA35 tR tR rfl ((UpdR.snd (UpdR.snd (UpdR.snd (UpdR.snd (UpdR.snd (UpdR.snd (UpdR.snd (UpdR.snd (UpdR.snd (UpdR.fst (UpdR.self (by rfl)))))))))))).at (by change (1 + (1 + (1 + (1 + (21 + (16 + (16 + (1 + (1 + 0))))))))) = (0 + 59); omega)) rfl) <| JL.nrm ⟨[(2, ov (PTR gb3 0)), (3, ov (PTR gb4 0))], [cvar gb3 zq0 zq1, cvar gb4 zq0 (zq8 t1)], []⟩ [1, 1] rfl (.cons rfl (.cons rfl .nil)) rfl <| JL.nil <| JQ.outNB ?_
   try obtain rfl := so hx1
   refine JQ.pre (Imp.var (j := 1) (q := Zad) (y := (Zai.mk t1.Kind t1.From t1.To ([] : (List Zal)) (Zaq.mk (Zah.mk (0 : Int) (0 : UInt64)) ([] : (List UInt8)) ([] : (List UInt8)) (Vector.replicate 16 (0 : UInt64)) ([] : (List ZaA))) (Vector.replicate 16 (0 : UInt64)) (Vector.replicate 16 (0 : UInt64)) ([] : (List Zah)) ([] : (List Zah)) t1.Hash ([] : (List (Vector UInt8 32))) ([] : (List Int)) false)) rfl (Wk.st (Wk.pair Wk.refl (Wk.pair Wk.refl (Wk.pair Wk.refl (Wk.pair Wk.nil (Wk.pair (Wk.st (Wk.pair Wk.refl (Wk.pair Wk.refl (Wk.pair Wk.nil (Wk.pair Wk.refl (Wk.pair Wk.nil Wk.refl)))))) (Wk.pair Wk.refl (Wk.pair Wk.refl (Wk.pair Wk.nil (Wk.pair Wk.nil (Wk.pair Wk.refl (Wk.pair Wk.nil (Wk.pair Wk.nil (Wk.pair Wk.refl Wk.refl))))))))))))))) ?_
   exact JQ.join () (Imp.norm (js := [0, 0]) rfl (.cons rfl (.cons rfl .nil)))
 refine jr <| lI hx1 fun v10 hv10 hx1 => jc (Zar lb tR .cI (cs hv10)) <| jc (Zac lb tR) <| jn <| jif tR hx1 (fun hc7 hx1 => ?_) (fun hc7 hx1 => ?_)
 · refine JC.region <| jc (Zaa (off := 91) lb ZdM tR) <| jc (Zam (j := 0) lb tS36 tR rfl (cT (ZaU t1) rfl) rfl rfl) <| jc (Zaa (off := 91) lb ZdM tR) <| JL.nrm ⟨[(2, ov (PTR gb3 0)), (3, ov (PTR gb4 0)), (47, ov (S (rL (rV 32 (rU UInt8))) t1.Leaves)), (48, ov (PTR gb4 (0 + 91)))], [cvar gb3 zq0 zq1, cvar gb4 zq0 (zq2 t1)], []⟩ [1, 1] rfl (.cons rfl (.cons rfl (.cons rfl (.cons rfl .nil)))) rfl <| jc (Zck (j := 1) tS36 tR tR rfl rfl ((UpdR.snd (UpdR.snd (UpdR.snd (UpdR.snd (UpdR.snd (UpdR.snd (UpdR.snd (UpdR.snd (UpdR.snd (UpdR.snd (UpdR.fst (UpdR.self (by rfl))))))))))))).at (by change (1 + (1 + (1 + (1 + (21 + (16 + (16 + (1 + (1 + (32 + 0)))))))))) = (0 + 91); omega)) rfl) <| JL.nil <| JQ.outNB ?_
   try obtain rfl := so hx1
   refine JQ.pre (Imp.var (j := 1) (q := Zad) (y := (Zai.mk t1.Kind t1.From t1.To ([] : (List Zal)) (Zaq.mk (Zah.mk (0 : Int) (0 : UInt64)) ([] : (List UInt8)) ([] : (List UInt8)) (Vector.replicate 16 (0 : UInt64)) ([] : (List ZaA))) (Vector.replicate 16 (0 : UInt64)) (Vector.replicate 16 (0 : UInt64)) ([] : (List Zah)) ([] : (List Zah)) (Vector.replicate 32 (0 : UInt8)) t1.Leaves ([] : (List Int)) false)) rfl (Wk.st (Wk.pair Wk.refl (Wk.pair Wk.refl (Wk.pair Wk.refl (Wk.pair Wk.nil (Wk.pair (Wk.st (Wk.pair Wk.refl (Wk.pair Wk.refl (Wk.pair Wk.nil (Wk.pair Wk.refl (Wk.pair Wk.nil Wk.refl)))))) (Wk.pair Wk.refl (Wk.pair Wk.refl (Wk.pair Wk.nil (Wk.pair Wk.nil (Wk.pair Wk.refl (Wk.pair Wk.refl (Wk.pair Wk.nil (Wk.pair Wk.refl Wk.refl))))))))))))))) ?_
   exact JQ.join () (Imp.norm (js := [0, 0]) rfl (.cons rfl (.cons rfl .nil)))
 refine jr <| lI hx1 fun v11 hv11 hx1 => jc (Zar lb tR .cI (cs hv11)) <| jc (Zac lb tR) <| jn <| jif tR hx1 (fun hc8 hx1 => ?_) (fun hc8 hx1 => ?_)
 · refine JC.anyF (base := [(1, ov (PTR gb2 0)), (2, ov (PTR gb3 0)), (3, ov (PTR gb4 0))])
       (fs := fun γ => [⟨some 51, ov (PTR gb2 (0 + 92))⟩, ⟨some 52, ov (S (rL (rI .i64)) t1.Buckets)⟩, ⟨some 53, ov (PTR gb2 (0 + 3))⟩, ⟨some 54, ov (S (rL Zaj) t1.Items)⟩, ⟨some 55, ov (PTR gb2 (0 + 41))⟩, ⟨some 56, ov (A (rV 16 (rU UInt64)) t1.Seen)⟩, ⟨some 57, ov (PTR gb2 (0 + 57))⟩, ⟨some 58, ov (S (rL Zae) t1.Extra)⟩, ⟨some 59, ov (PTR gb2 (0 + 93))⟩, ⟨some 60, ov (S rB t1.Reply)⟩, ⟨some 61, ov (PTR gb4 (0 + 92))⟩, ⟨none, .one .any⟩, ⟨some 62, ov (PTR gb4 (0 + 3))⟩, ⟨none, .one .any⟩, ⟨some 63, ov (PTR gb4 (0 + 41))⟩, ⟨none, .one .any⟩, ⟨some 64, ov (PTR gb4 (0 + 57))⟩, ⟨none, .one .any⟩, ⟨some 65, ov (PTR gb4 (0 + 93))⟩, ⟨none, .one .any⟩])
       (rs := fun γ => [⟨cvar gb2 Zad t1, none, none, [1, 3, 5, 7, 9]⟩, ⟨cvar gb3 zq0 zq1, none, none, []⟩, ⟨cvar gb4 zq0 (zq2 t1), none, (some 11), []⟩, ⟨cvar gb4 zq9 (zq10 t1), (some 11), (some 13), []⟩, ⟨cvar gb4 zq11 (zq12 t1), (some 13), (some 15), []⟩, ⟨cvar gb4 zq11 (zq13 t1), (some 15), (some 17), []⟩, ⟨cvar gb4 zq14 (zq15 t1), (some 17), (some 19), []⟩, ⟨cvar gb4 zq14 (zq16 t1), (some 19), none, []⟩])
       (afts := nn 20) (js := [0, 0, 0]) Zcj (.cons rfl (.cons rfl (.cons rfl .nil))) (fun _ => rfl)
       (by
      refine dS 1 (fun γ ρ B hb hd => Zaa (off := 92) lb Zdj (.tmp (hb 1 _ rfl))) <| dR 2 (fun γ ρ B hb hd => Zao.lk ⟨ρ, (cvar gb2 Zad t1) :: B, _⟩ (Zam (j := 0) lb tS37 (tl hd 0 51) rfl (cT (ZaL t1) rfl) rfl rfl)) <| dS 3 (fun γ ρ B hb hd => Zaa (off := 3) lb ZdJ (.tmp (hb 1 _ rfl))) <| dR 4 (fun γ ρ B hb hd => Zao.lk ⟨ρ, (cvar gb2 Zad t1) :: B, _⟩ (Zam (j := 0) lb tS23 (tl hd 2 53) rfl (cT (ZaO t1) rfl) rfl rfl)) <| dS 5 (fun γ ρ B hb hd => Zaa (off := 41) lb Zfw (.tmp (hb 1 _ rfl))) ?_
      refine dR 6 (fun γ ρ B hb hd => Zao.lk ⟨ρ, (cvar gb2 Zad t1) :: B, _⟩ (ZaB (j := 0) lb tA29 (tl hd 4 55) rfl (cT (Zbn t1) rfl) rfl)) <| dS 7 (fun γ ρ B hb hd => Zaa (off := 57) lb Ze1 (.tmp (hb 1 _ rfl))) <| dR 8 (fun γ ρ B hb hd => Zao.lk ⟨ρ, (cvar gb2 Zad t1) :: B, _⟩ (Zam (j := 0) lb tS33 (tl hd 6 57) rfl (cT (Za7 t1) rfl) rfl rfl)) <| dS 9 (fun γ ρ B hb hd => Zaa (off := 93) lb ZfN (.tmp (hb 1 _ rfl))) <| dR 10 (fun γ ρ B hb hd => Zao.lk ⟨ρ, (cvar gb2 Zad t1) :: B, _⟩ (Zam (j := 0) lb tS4 (tl hd 8 59) rfl (cT (ZbO t1) rfl) rfl rfl)) ?_
      refine dS 11 (fun γ ρ B hb hd => Zaa (off := 92) lb Zdj (.tmp (hb 3 _ rfl))) <| dR 12 (fun γ ρ B hb hd => Zao.at ⟨ρ, (cvar gb4 zq0 (zq2 t1)) :: B, _⟩ (setO ⟨ρ, (cvar gb4 zq9 (zq10 t1)) :: B, _⟩ _ _) (Zck (j := 0) tS37 (tl hd 10 61) (tl hd 1 52) rfl rfl ((UpdR.snd (UpdR.snd (UpdR.snd (UpdR.snd (UpdR.snd (UpdR.snd (UpdR.snd (UpdR.snd (UpdR.snd (UpdR.snd (UpdR.snd (UpdR.fst (UpdR.self (by rfl)))))))))))))).at (by change (1 + (1 + (1 + (1 + (21 + (16 + (16 + (1 + (1 + (32 + (1 + 0))))))))))) = (0 + 92); omega)) rfl)) <| dS 13 (fun γ ρ B hb hd => Zaa (off := 3) lb ZdJ (.tmp (hb 3 _ rfl))) <| dR 14 (fun γ ρ B hb hd => Zao.at ⟨ρ, (cvar gb4 zq9 (zq10 t1)) :: B, _⟩ (setO ⟨ρ, (cvar gb4 zq11 (zq12 t1)) :: B, _⟩ _ _) (Zck (j := 0) tS23 (tl hd 12 62) (tl hd 3 54) rfl rfl ((UpdR.snd (UpdR.snd (UpdR.snd (UpdR.fst (UpdR.self (by rfl)))))).at (by change (1 + (1 + (1 + 0))) = (0 + 3); omega)) rfl)) <| dS 15 (fun γ ρ B hb hd => Zaa (off := 41) lb Zfw (.tmp (hb 3 _ rfl))) ?_
      refine dR 16 (fun γ ρ B hb hd => Zao.at ⟨ρ, (cvar gb4 zq11 (zq12 t1)) :: B, _⟩ (setO ⟨ρ, (cvar gb4 zq11 (zq13 t1)) :: B, _⟩ _ _) (ZaM (j := 0) tA29 (tl hd 14 63) (tl hd 5 56) rfl ((UpdR.snd (UpdR.snd (UpdR.snd (UpdR.snd (UpdR.snd (UpdR.snd (UpdR.fst (UpdR.self (by rfl))))))))).at (by change (1 + (1 + (1 + (1 + (21 + (16 + 0)))))) = (0 + 41); omega)) rfl)) <| dS 17 (fun γ ρ B hb hd => Zaa (off := 57) lb Ze1 (.tmp (hb 3 _ rfl))) <| dR 18 (fun γ ρ B hb hd => Zao.at ⟨ρ, (cvar gb4 zq11 (zq13 t1)) :: B, _⟩ (setO ⟨ρ, (cvar gb4 zq14 (zq15 t1)) :: B, _⟩ _ _) (Zck (j := 0) tS33 (tl hd 16 64) (tl hd 7 58) rfl rfl ((UpdR.snd (UpdR.snd (UpdR.snd (UpdR.snd (UpdR.snd (UpdR.snd (UpdR.snd (UpdR.fst (UpdR.self (by rfl)))))))))).at (by change (1 + (1 + (1 + (1 + (21 + (16 + (16 + 0))))))) = (0 + 57); omega)) rfl)) <| dS 19 (fun γ ρ B hb hd => Zaa (off := 93) lb ZfN (.tmp (hb 3 _ rfl))) <| dR 20 (fun γ ρ B hb hd => Zao.at ⟨ρ, (cvar gb4 zq14 (zq15 t1)) :: B, _⟩ (setO ⟨ρ, (cvar gb4 zq14 (zq16 t1)) :: B, _⟩ _ _) (Zck (j := 0) tS4 (tl hd 18 65) (tl hd 9 60) rfl rfl ((UpdR.snd (UpdR.snd (UpdR.snd (UpdR.snd (UpdR.snd (UpdR.snd (UpdR.snd (UpdR.snd (UpdR.snd (UpdR.snd (UpdR.snd (UpdR.snd (UpdR.fst (UpdR.self (by rfl))))))))))))))).at (by change (1 + (1 + (1 + (1 + (21 + (16 + (16 + (1 + (1 + (32 + (1 + (1 + 0)))))))))))) = (0 + 93); omega)) rfl)) ?_
      exact ZaF.nil)
       (by decide +kernel) (fun _ => rfl) (fun _ => rfl) (fun _ => rfl) rfl
       (ρ' := fun γ => [(2, ov (PTR gb3 0)), (3, ov (PTR gb4 0))])
       (X' := fun γ => [cvar gb2 Zad t1, cvar gb3 zq0 zq1, cvar gb4 zq14 (zq16 t1)])
       (fun γ ρ hb hd => (.cons (hb 2 _ rfl) (.cons (hb 3 _ rfl) .nil))) (fun _ => rfl) (fun γ => ?_)
   refine JQ.at ⟨[(2, ov (PTR gb3 0)), (3, ov (PTR gb4 0))], [cvar gb2 Zad t1, cvar gb3 zq0 zq1, cvar gb4 zq14 (zq16 t1)], []⟩ <| JQ.outNB ?_
   try obtain rfl := so hx1
   refine JQ.pre (Imp.var (j := 2) (q := Zad) (y := (Zai.mk t1.Kind t1.From t1.To t1.Items (Zaq.mk (Zah.mk (0 : Int) (0 : UInt64)) ([] : (List UInt8)) ([] : (List UInt8)) (Vector.replicate 16 (0 : UInt64)) ([] : (List ZaA))) (Vector.replicate 16 (0 : UInt64)) t1.Seen t1.Extra ([] : (List Zah)) (Vector.replicate 32 (0 : UInt8)) ([] : (List (Vector UInt8 32))) t1.Buckets t1.Reply)) rfl (Wk.st (Wk.pair Wk.refl (Wk.pair Wk.refl (Wk.pair Wk.refl (Wk.pair Wk.refl (Wk.pair (Wk.st (Wk.pair Wk.refl (Wk.pair Wk.refl (Wk.pair Wk.nil (Wk.pair Wk.refl (Wk.pair Wk.nil Wk.refl)))))) (Wk.pair Wk.refl (Wk.pair Wk.refl (Wk.pair Wk.refl (Wk.pair Wk.nil (Wk.pair Wk.refl (Wk.pair Wk.nil (Wk.pair Wk.refl (Wk.pair Wk.refl Wk.refl))))))))))))))) ?_
   exact JQ.join () (Imp.norm (js := [1, 1]) rfl (.cons rfl (.cons rfl .nil)))
 refine JC.skip <| JQ.outNB ?_
 try obtain rfl := so hx1
 refine JQ.pre (Imp.var (j := 2) (q := Zad) (y := (Zai.mk t1.Kind t1.From t1.To ([] : (List Zal)) (Zaq.mk (Zah.mk (0 : Int) (0 : UInt64)) ([] : (List UInt8)) ([] : (List UInt8)) (Vector.replicate 16 (0 : UInt64)) ([] : (List ZaA))) (Vector.replicate 16 (0 : UInt64)) (Vector.replicate 16 (0 : UInt64)) ([] : (List Zah)) ([] : (List Zah)) (Vector.replicate 32 (0 : UInt8)) ([] : (List (Vector UInt8 32))) ([] : (List Int)) false)) rfl (Wk.st (Wk.pair Wk.refl (Wk.pair Wk.refl (Wk.pair Wk.refl (Wk.pair Wk.nil (Wk.pair (Wk.st (Wk.pair Wk.refl (Wk.pair Wk.refl (Wk.pair Wk.nil (Wk.pair Wk.refl (Wk.pair Wk.nil Wk.refl)))))) (Wk.pair Wk.refl (Wk.pair Wk.refl (Wk.pair Wk.nil (Wk.pair Wk.nil (Wk.pair Wk.refl (Wk.pair Wk.nil (Wk.pair Wk.nil (Wk.pair Wk.refl Wk.refl))))))))))))))) ?_
 exact JQ.join () (Imp.norm (js := [1, 1]) rfl (.cons rfl (.cons rfl .nil)))

theorem ZdB (k : Nat) (s1_1 : (List Zal)) (s2_2 : (List Zal)) (r : Bool) (hm : slices_Equalapi_Item_api_Item k s1_1 s2_2 = some r) : Sim Tryz.prog 66 [S (rL Zaj) s1_1, S (rL Zaj) s2_2] [] (γ := Unit) (fun q => []) (fun q => .one (.val (S rB r))) := by
 unfold slices_Equalapi_Item_api_Item at hm
 refine Sim.of Tryz.func66 rfl rfl (lE rfl) (fun e0 w0 => ?_)
 refine JC.at ⟨[(0, ov (S (rL Zaj) s1_1)), (1, ov (S (rL Zaj) s2_2))], [], []⟩ <| jr <| jc (Zac lb .cB) <| jn <| JC.seq <| jr <| jmv rfl rfl <| jc (ZaI lb tu23 tR) <| jmv rfl rfl <| jc (ZaI lb tu23 tR) <| lI hm fun v3 hv3 hm => jc (Zar lb tR tR (cs hv3)) <| jn <| jif tR hm (fun hc1 hm => ?_) (fun hc1 hm => ?_)
 · refine jr <| jc (Zac lb .cB) <| jn <| JC.ret <| JQ.outR ?_
   obtain rfl := so hm
   exact jd (.val (S rB false)) rfl rfl rfl rfl rfl rfl
 refine JC.skip <| JQ.then <| bI hm fun tv2 hx2 hq2 => JC.seqK (α := Unit) (γ := Unit) (stj := fun v q => ⟨[], [], []⟩) (p := fun v => tv2 = (.inl v)) (fun v q hv => ?_) ?_
 · subst hv
   skip
   obtain _ := q
   dsimp only at hq2
   refine JC.at ⟨[], [], []⟩ <| jr <| jc (Zac lb .cB) <| jn <| JC.ret ?_
   obtain rfl := so hq2
   exact jd (.val (S rB true)) rfl rfl rfl rfl rfl rfl
 refine jr <| jmv rfl rfl <| jc (ZaI lb tu23 tR) <| jc (ZaC lb .cI) <| jn <| JC.block <| bI hx2 fun tv3 hL3 hq3 => JC.pre ?_ (JC.loop (γ := Unit) (stf := fun s q => ⟨[(0, ov (S (rL Zaj) s1_1)), (1, ov (S (rL Zaj) s2_2)), (12, ov (S (rI .i64) (List.length s1_1 : Int))), (13, ov (S (rI .i64) s))], [], []⟩) (q := ()) hL3 ?_)
 · exact (Imp.norm (js := []) rfl (.cons rfl (.cons rfl (.cons rfl (.cons rfl .nil)))))
 intro x4 q x hx hr
 obtain _ := q
 change slices_Equalapi_Item_api_Item.b1 k s1_1 s2_2 x4 = some x at hx
 unfold slices_Equalapi_Item_api_Item.b1 at hx
 refine JC.at ⟨[(0, ov (S (rL Zaj) s1_1)), (1, ov (S (rL Zaj) s2_2)), (12, ov (S (rI .i64) (List.length s1_1 : Int))), (13, ov (S (rI .i64) x4))], [], []⟩ <| jr <| lI hx fun v5 hv5 hx => jc (Zar lb tR tR (cs hv5)) <| jn <| JC.seq <| jif tR hx (fun hc4 hx => ?_) (fun hc4 hx => ?_)
 · refine JC.skip <| JQ.then <| JC.seq <| JC.block <| jr <| jmv rfl rfl <| jc (Zac lb tR) <| jn <| JC.seq <| bI hx fun v6 hv6 hx => bI hx fun v7 hv7 hx => ?_
   obtain ⟨v8, hv8, hx⟩ := ZaT hx
   refine JC.anyF (base := [(0, ov (S (rL Zaj) s1_1)), (1, ov (S (rL Zaj) s2_2)), (5, ov (S (rI .i64) x4)), (12, ov (S (rI .i64) (List.length s1_1 : Int))), (13, ov (S (rI .i64) x4))])
       (fs := fun γ => [⟨some 16, ov (S (rL Zaj) s1_1)⟩, ⟨some 17, ov (S (rI .i64) x4)⟩, ⟨some 18, ov (PT Zaj v6)⟩, ⟨some 19, ov (A Zaj v6)⟩, ⟨some 20, ov (S (rL Zaj) s2_2)⟩, ⟨some 21, ov (S (rI .i64) x4)⟩, ⟨some 22, ov (PT Zaj v7)⟩, ⟨some 23, ov (A Zaj v7)⟩, ⟨some 24, ov (S rB v8)⟩])
       (rs := fun γ => [])
       (afts := nn 9) (js := []) Zcj (.cons rfl (.cons rfl (.cons rfl (.cons rfl (.cons rfl .nil))))) (fun _ => rfl)
       (by
      refine db 1 0 <| db 2 5 <| dS 3 (fun γ ρ B hb hd => Zau lb tu23 tz62 (tl hd 0 16) (tl hd 1 17) hv6) <| dS 4 (fun γ ρ B hb hd => ZaS lb tA62 (tl hd 2 18) rfl) <| db 5 1 ?_
      refine db 6 5 <| dS 7 (fun γ ρ B hb hd => Zau lb tu23 tz62 (tl hd 4 20) (tl hd 5 21) hv7) <| dS 8 (fun γ ρ B hb hd => ZaS lb tA62 (tl hd 6 22) rfl) <| dS 9 (fun γ ρ B hb hd => Zgj lb qa62 (by decide) ng62 (tl hd 3 19) (tl hd 7 23) hv8) ?_
      exact ZaF.nil)
       (by decide +kernel) (fun _ => rfl) (fun _ => rfl) (fun _ => rfl) rfl
       (ρ' := fun γ => [(0, ov (S (rL Zaj) s1_1)), (1, ov (S (rL Zaj) s2_2)), (12, ov (S (rI .i64) (List.length s1_1 : Int))), (13, ov (S (rI .i64) x4)), (24, ov (S rB v8))])
       (X' := fun γ => [])
       (fun γ ρ hb hd => (.cons (hb 0 _ rfl) (.cons (hb 1 _ rfl) (.cons (hb 12 _ rfl) (.cons (hb 13 _ rfl) (.cons (hdq hd 8 24 rfl) .nil)))))) (fun _ => rfl) (fun γ => ?_)
   refine JQ.at ⟨[(0, ov (S (rL Zaj) s1_1)), (1, ov (S (rL Zaj) s2_2)), (12, ov (S (rI .i64) (List.length s1_1 : Int))), (13, ov (S (rI .i64) x4)), (24, ov (S rB v8))], [], []⟩ <| JQ.then <| jif tR hx (fun hc5 hx => ?_) (fun hc5 hx => ?_)
   · refine jr <| jc (Zac lb .cB) <| jn <| JC.ret <| JQ.outRB <| JQ.outR ?_
     try obtain rfl := so hx
     try obtain rfl := hr _ rfl
     dsimp only at hq3
     refine JQ.outR <| JQ.outRB ?_
     try obtain rfl := so hq3
     dsimp only at hq2
     refine JQ.outR ?_
     obtain rfl := so hq2
     exact jd (.val (S rB false)) rfl rfl rfl rfl rfl rfl
   refine JC.skip <| JQ.outNB <| JQ.then <| JC.region <| lI hx fun v9 hv9 hx => jc (ZaX lb tR .cI (cs hv9)) <| jmv rfl rfl <| JL.nil ?_
   try obtain rfl := so hx
   exact JQ.next () rfl (Imp.norm (js := []) rfl (.cons rfl (.cons rfl (.cons rfl (.cons rfl .nil)))))
 refine JC.exit <| JQ.outX ?_
 try obtain rfl := so hx
 try obtain rfl := hr _ rfl
 dsimp only at hq3
 refine JQ.outX <| JQ.here ?_
 try obtain rfl := so hq3
 exact JQ.joinK () () rfl (Imp.norm (js := []) rfl .nil)

theorem ZcE (k : Nat) (s1_1 : (List Zah)) (s2_2 : (List Zah)) (r : Bool) (hm : slices_Equalapi_Dot_api_Dot k s1_1 s2_2 = some r) : Sim Tryz.prog 67 [S (rL Zae) s1_1, S (rL Zae) s2_2] [] (γ := Unit) (fun q => []) (fun q => .one (.val (S rB r))) := by
 unfold slices_Equalapi_Dot_api_Dot at hm
 refine Sim.of Tryz.func67 rfl rfl (lE rfl) (fun e0 w0 => ?_)
 refine JC.at ⟨[(0, ov (S (rL Zae) s1_1)), (1, ov (S (rL Zae) s2_2))], [], []⟩ <| jr <| jc (Zac lb .cB) <| jn <| JC.seq <| jr <| jmv rfl rfl <| jc (ZaI lb tu33 tR) <| jmv rfl rfl <| jc (ZaI lb tu33 tR) <| lI hm fun v3 hv3 hm => jc (Zar lb tR tR (cs hv3)) <| jn <| jif tR hm (fun hc1 hm => ?_) (fun hc1 hm => ?_)
 · refine jr <| jc (Zac lb .cB) <| jn <| JC.ret <| JQ.outR ?_
   obtain rfl := so hm
   exact jd (.val (S rB false)) rfl rfl rfl rfl rfl rfl
 refine JC.skip <| JQ.then <| bI hm fun tv2 hx2 hq2 => JC.seqK (α := Unit) (γ := Unit) (stj := fun v q => ⟨[], [], []⟩) (p := fun v => tv2 = (.inl v)) (fun v q hv => ?_) ?_
 · subst hv
   skip
   obtain _ := q
   dsimp only at hq2
   refine JC.at ⟨[], [], []⟩ <| jr <| jc (Zac lb .cB) <| jn <| JC.ret ?_
   obtain rfl := so hq2
   exact jd (.val (S rB true)) rfl rfl rfl rfl rfl rfl
 refine jr <| jmv rfl rfl <| jc (ZaI lb tu33 tR) <| jc (ZaC lb .cI) <| jn <| JC.block <| bI hx2 fun tv3 hL3 hq3 => JC.pre ?_ (JC.loop (γ := Unit) (stf := fun s q => ⟨[(0, ov (S (rL Zae) s1_1)), (1, ov (S (rL Zae) s2_2)), (12, ov (S (rI .i64) (List.length s1_1 : Int))), (13, ov (S (rI .i64) s))], [], []⟩) (q := ()) hL3 ?_)
 · exact (Imp.norm (js := []) rfl (.cons rfl (.cons rfl (.cons rfl (.cons rfl .nil)))))
 intro x4 q x hx hr
 obtain _ := q
 change slices_Equalapi_Dot_api_Dot.b1 k s1_1 s2_2 x4 = some x at hx
 unfold slices_Equalapi_Dot_api_Dot.b1 at hx
 refine JC.at ⟨[(0, ov (S (rL Zae) s1_1)), (1, ov (S (rL Zae) s2_2)), (12, ov (S (rI .i64) (List.length s1_1 : Int))), (13, ov (S (rI .i64) x4))], [], []⟩ <| jr <| lI hx fun v5 hv5 hx => jc (Zar lb tR tR (cs hv5)) <| jn <| JC.seq <| jif tR hx (fun hc4 hx => ?_) (fun hc4 hx => ?_)
 · refine JC.skip <| JQ.then <| JC.seq <| JC.block <| jr <| jmv rfl rfl <| jc (Zac lb tR) <| jn <| JC.seq <| bI hx fun v6 hv6 hx => bI hx fun v7 hv7 hx => ?_
   obtain ⟨v8, hv8, hx⟩ := ZaT hx
   refine JC.anyF (base := [(0, ov (S (rL Zae) s1_1)), (1, ov (S (rL Zae) s2_2)), (5, ov (S (rI .i64) x4)), (12, ov (S (rI .i64) (List.length s1_1 : Int))), (13, ov (S (rI .i64) x4))])
       (fs := fun γ => [⟨some 16, ov (S (rL Zae) s1_1)⟩, ⟨some 17, ov (S (rI .i64) x4)⟩, ⟨some 18, ov (PT Zae v6)⟩, ⟨some 19, ov (A Zae v6)⟩, ⟨some 20, ov (S (rL Zae) s2_2)⟩, ⟨some 21, ov (S (rI .i64) x4)⟩, ⟨some 22, ov (PT Zae v7)⟩, ⟨some 23, ov (A Zae v7)⟩, ⟨some 24, ov (S rB v8)⟩])
       (rs := fun γ => [])
       (afts := nn 9) (js := []) Zcj (.cons rfl (.cons rfl (.cons rfl (.cons rfl (.cons rfl .nil))))) (fun _ => rfl)
       (by
      refine db 1 0 <| db 2 5 <| dS 3 (fun γ ρ B hb hd => Zau lb tu33 tz26 (tl hd 0 16) (tl hd 1 17) hv6) <| dS 4 (fun γ ρ B hb hd => ZaS lb tA26 (tl hd 2 18) rfl) <| db 5 1 ?_
      refine db 6 5 <| dS 7 (fun γ ρ B hb hd => Zau lb tu33 tz26 (tl hd 4 20) (tl hd 5 21) hv7) <| dS 8 (fun γ ρ B hb hd => ZaS lb tA26 (tl hd 6 22) rfl) <| dS 9 (fun γ ρ B hb hd => Zgj lb qa26 (by decide) ng26 (tl hd 3 19) (tl hd 7 23) hv8) ?_
      exact ZaF.nil)
       (by decide +kernel) (fun _ => rfl) (fun _ => rfl) (fun _ => rfl) rfl
       (ρ' := fun γ => [(0, ov (S (rL Zae) s1_1)), (1, ov (S (rL Zae) s2_2)), (12, ov (S (rI .i64) (List.length s1_1 : Int))), (13, ov (S (rI .i64) x4)), (24, ov (S rB v8))])
       (X' := fun γ => [])
       (fun γ ρ hb hd => (.cons (hb 0 _ rfl) (.cons (hb 1 _ rfl) (.cons (hb 12 _ rfl) (.cons (hb 13 _ rfl) (.cons (hdq hd 8 24 rfl) .nil)))))) (fun _ => rfl) (fun γ => ?_)
   refine JQ.at ⟨[(0, ov (S (rL Zae) s1_1)), (1, ov (S (rL Zae) s2_2)), (12, ov (S (rI .i64) (List.length s1_1 : Int))), (13, ov (S (rI .i64) x4)), (24, ov (S rB v8))], [], []⟩ <| JQ.then <| jif tR hx (fun hc5 hx => ?_) (fun hc5 hx => ?_)
   · refine jr <| jc (Zac lb .cB) <| jn <| JC.ret <| JQ.outRB <| JQ.outR ?_
     try obtain rfl := so hx
     try obtain rfl := hr _ rfl
     dsimp only at hq3
     refine JQ.outR <| JQ.outRB ?_
     try obtain rfl := so hq3
     dsimp only at hq2
     refine JQ.outR ?_
     obtain rfl := so hq2
     exact jd (.val (S rB false)) rfl rfl rfl rfl rfl rfl
   refine JC.skip <| JQ.outNB <| JQ.then <| JC.region <| lI hx fun v9 hv9 hx => jc (ZaX lb tR .cI (cs hv9)) <| jmv rfl rfl <| JL.nil ?_
   try obtain rfl := so hx
   exact JQ.next () rfl (Imp.norm (js := []) rfl (.cons rfl (.cons rfl (.cons rfl (.cons rfl .nil)))))
 refine JC.exit <| JQ.outX ?_
 try obtain rfl := so hx
 try obtain rfl := hr _ rfl
 dsimp only at hq3
 refine JQ.outX <| JQ.here ?_
 try obtain rfl := so hq3
 exact JQ.joinK () () rfl (Imp.norm (js := []) rfl .nil)

theorem Zdx (k : Nat) (s1_1 : (List (Vector UInt8 32))) (s2_2 : (List (Vector UInt8 32))) (r : Bool) (hm : slices_Equalapi_Hash_api_Hash k s1_1 s2_2 = some r) : Sim Tryz.prog 68 [S (rL (rV 32 (rU UInt8))) s1_1, S (rL (rV 32 (rU UInt8))) s2_2] [] (γ := Unit) (fun q => []) (fun q => .one (.val (S rB r))) := by
 unfold slices_Equalapi_Hash_api_Hash at hm
 refine Sim.of Tryz.func68 rfl rfl (lE rfl) (fun e0 w0 => ?_)
 refine JC.at ⟨[(0, ov (S (rL (rV 32 (rU UInt8))) s1_1)), (1, ov (S (rL (rV 32 (rU UInt8))) s2_2))], [], []⟩ <| jr <| jc (Zac lb .cB) <| jn <| JC.seq <| jr <| jmv rfl rfl <| jc (ZaI lb tu36 tR) <| jmv rfl rfl <| jc (ZaI lb tu36 tR) <| lI hm fun v3 hv3 hm => jc (Zar lb tR tR (cs hv3)) <| jn <| jif tR hm (fun hc1 hm => ?_) (fun hc1 hm => ?_)
 · refine jr <| jc (Zac lb .cB) <| jn <| JC.ret <| JQ.outR ?_
   obtain rfl := so hm
   exact jd (.val (S rB false)) rfl rfl rfl rfl rfl rfl
 refine JC.skip <| JQ.then <| bI hm fun tv2 hx2 hq2 => JC.seqK (α := Unit) (γ := Unit) (stj := fun v q => ⟨[], [], []⟩) (p := fun v => tv2 = (.inl v)) (fun v q hv => ?_) ?_
 · subst hv
   skip
   obtain _ := q
   dsimp only at hq2
   refine JC.at ⟨[], [], []⟩ <| jr <| jc (Zac lb .cB) <| jn <| JC.ret ?_
   obtain rfl := so hq2
   exact jd (.val (S rB true)) rfl rfl rfl rfl rfl rfl
 refine jr <| jmv rfl rfl <| jc (ZaI lb tu36 tR) <| jc (ZaC lb .cI) <| jn <| JC.block <| bI hx2 fun tv3 hL3 hq3 => JC.pre ?_ (JC.loop (γ := Unit) (stf := fun s q => ⟨[(0, ov (S (rL (rV 32 (rU UInt8))) s1_1)), (1, ov (S (rL (rV 32 (rU UInt8))) s2_2)), (12, ov (S (rI .i64) (List.length s1_1 : Int))), (13, ov (S (rI .i64) s))], [], []⟩) (q := ()) hL3 ?_)
 · exact (Imp.norm (js := []) rfl (.cons rfl (.cons rfl (.cons rfl (.cons rfl .nil)))))
 intro x4 q x hx hr
 obtain _ := q
 change slices_Equalapi_Hash_api_Hash.b1 k s1_1 s2_2 x4 = some x at hx
 unfold slices_Equalapi_Hash_api_Hash.b1 at hx
 refine JC.at ⟨[(0, ov (S (rL (rV 32 (rU UInt8))) s1_1)), (1, ov (S (rL (rV 32 (rU UInt8))) s2_2)), (12, ov (S (rI .i64) (List.length s1_1 : Int))), (13, ov (S (rI .i64) x4))], [], []⟩ <| jr <| lI hx fun v5 hv5 hx => jc (Zar lb tR tR (cs hv5)) <| jn <| JC.seq <| jif tR hx (fun hc4 hx => ?_) (fun hc4 hx => ?_)
 · refine JC.skip <| JQ.then <| JC.seq <| JC.block <| jr <| jmv rfl rfl <| jc (Zac lb tR) <| jn <| JC.seq <| bI hx fun v6 hv6 hx => bI hx fun v7 hv7 hx => ?_
   obtain ⟨v8, hv8, hx⟩ := ZaT hx
   refine JC.anyF (base := [(0, ov (S (rL (rV 32 (rU UInt8))) s1_1)), (1, ov (S (rL (rV 32 (rU UInt8))) s2_2)), (5, ov (S (rI .i64) x4)), (12, ov (S (rI .i64) (List.length s1_1 : Int))), (13, ov (S (rI .i64) x4))])
       (fs := fun γ => [⟨some 16, ov (S (rL (rV 32 (rU UInt8))) s1_1)⟩, ⟨some 17, ov (S (rI .i64) x4)⟩, ⟨some 18, ov (PT (rV 32 (rU UInt8)) v6)⟩, ⟨some 19, ov (A (rV 32 (rU UInt8)) v6)⟩, ⟨some 20, ov (S (rL (rV 32 (rU UInt8))) s2_2)⟩, ⟨some 21, ov (S (rI .i64) x4)⟩, ⟨some 22, ov (PT (rV 32 (rU UInt8)) v7)⟩, ⟨some 23, ov (A (rV 32 (rU UInt8)) v7)⟩, ⟨some 24, ov (S rB v8)⟩])
       (rs := fun γ => [])
       (afts := nn 9) (js := []) Zcj (.cons rfl (.cons rfl (.cons rfl (.cons rfl (.cons rfl .nil))))) (fun _ => rfl)
       (by
      refine db 1 0 <| db 2 5 <| dS 3 (fun γ ρ B hb hd => Zau lb tu36 tz35 (tl hd 0 16) (tl hd 1 17) hv6) <| dS 4 (fun γ ρ B hb hd => ZaS lb tA35 (tl hd 2 18) rfl) <| db 5 1 ?_
      refine db 6 5 <| dS 7 (fun γ ρ B hb hd => Zau lb tu36 tz35 (tl hd 4 20) (tl hd 5 21) hv7) <| dS 8 (fun γ ρ B hb hd => ZaS lb tA35 (tl hd 6 22) rfl) <| dS 9 (fun γ ρ B hb hd => Zgj lb qa35 (by decide) ng35 (tl hd 3 19) (tl hd 7 23) hv8) ?_
      exact ZaF.nil)
       (by decide +kernel) (fun _ => rfl) (fun _ => rfl) (fun _ => rfl) rfl
       (ρ' := fun γ => [(0, ov (S (rL (rV 32 (rU UInt8))) s1_1)), (1, ov (S (rL (rV 32 (rU UInt8))) s2_2)), (12, ov (S (rI .i64) (List.length s1_1 : Int))), (13, ov (S (rI .i64) x4)), (24, ov (S rB v8))])
       (X' := fun γ => [])
       (fun γ ρ hb hd => (.cons (hb 0 _ rfl) (.cons (hb 1 _ rfl) (.cons (hb 12 _ rfl) (.cons (hb 13 _ rfl) (.cons (hdq hd 8 24 rfl) .nil)))))) (fun _ => rfl) (fun γ => ?_)
   refine JQ.at ⟨[(0, ov (S (rL (rV 32 (rU UInt8))) s1_1)), (1, ov (S (rL (rV 32 (rU UInt8))) s2_2)), (12, ov (S (rI .i64) (List.length s1_1 : Int))), (13, ov (S (rI .i64) x4)), (24, ov (S rB v8))], [], []⟩ <| JQ.then <| jif tR hx (fun hc5 hx => ?_) (fun hc5 hx => ?_)
   · refine jr <| jc (Zac lb .cB) <| jn <| JC.ret <| JQ.outRB <| JQ.outR ?_
     try obtain rfl := so hx
     try obtain rfl := hr _ rfl
     dsimp only at hq3
     refine JQ.outR <| JQ.outRB ?_
     try obtain rfl := so hq3
     dsimp only at hq2
     refine JQ.outR ?_
     obtain rfl := so hq2
     exact jd (.val (S rB false)) rfl rfl rfl rfl rfl rfl
   refine JC.skip <| JQ.outNB <| JQ.then <| JC.region <| lI hx fun v9 hv9 hx => jc (ZaX lb tR .cI (cs hv9)) <| jmv rfl rfl <| JL.nil ?_
   try obtain rfl := so hx
   exact JQ.next () rfl (Imp.norm (js := []) rfl (.cons rfl (.cons rfl (.cons rfl (.cons rfl .nil)))))
 refine JC.exit <| JQ.outX ?_
 try obtain rfl := so hx
 try obtain rfl := hr _ rfl
 dsimp only at hq3
 refine JQ.outX <| JQ.here ?_
 try obtain rfl := so hq3
 exact JQ.joinK () () rfl (Imp.norm (js := []) rfl .nil)

theorem Zfl (k : Nat) (s1_1 : (List Int)) (s2_2 : (List Int)) (r : Bool) (hm : slices_Equalint_int k s1_1 s2_2 = some r) : Sim Tryz.prog 69 [S (rL (rI .i64)) s1_1, S (rL (rI .i64)) s2_2] [] (γ := Unit) (fun q => []) (fun q => .one (.val (S rB r))) := by
 unfold slices_Equalint_int at hm
 refine Sim.of Tryz.func69 rfl rfl (lE rfl) (fun e0 w0 => ?_)
 refine JC.at ⟨[(0, ov (S (rL (rI .i64)) s1_1)), (1, ov (S (rL (rI .i64)) s2_2))], [], []⟩ <| jr <| jc (Zac lb .cB) <| jn <| JC.seq <| jr <| jmv rfl rfl <| jc (ZaI lb tu37 tR) <| jmv rfl rfl <| jc (ZaI lb tu37 tR) <| lI hm fun v3 hv3 hm => jc (Zar lb tR tR (cs hv3)) <| jn <| jif tR hm (fun hc1 hm => ?_) (fun hc1 hm => ?_)
 · refine jr <| jc (Zac lb .cB) <| jn <| JC.ret <| JQ.outR ?_
   obtain rfl := so hm
   exact jd (.val (S rB false)) rfl rfl rfl rfl rfl rfl
 refine JC.skip <| JQ.then <| bI hm fun tv2 hx2 hq2 => JC.seqK (α := Unit) (γ := Unit) (stj := fun v q => ⟨[], [], []⟩) (p := fun v => tv2 = (.inl v)) (fun v q hv => ?_) ?_
 · subst hv
   skip
   obtain _ := q
   dsimp only at hq2
   refine JC.at ⟨[], [], []⟩ <| jr <| jc (Zac lb .cB) <| jn <| JC.ret ?_
   obtain rfl := so hq2
   exact jd (.val (S rB true)) rfl rfl rfl rfl rfl rfl
 refine jr <| jmv rfl rfl <| jc (ZaI lb tu37 tR) <| jc (ZaC lb .cI) <| jn <| JC.block <| bI hx2 fun tv3 hL3 hq3 => JC.pre ?_ (JC.loop (γ := Unit) (stf := fun s q => ⟨[(0, ov (S (rL (rI .i64)) s1_1)), (1, ov (S (rL (rI .i64)) s2_2)), (12, ov (S (rI .i64) (List.length s1_1 : Int))), (13, ov (S (rI .i64) s))], [], []⟩) (q := ()) hL3 ?_)
 · exact (Imp.norm (js := []) rfl (.cons rfl (.cons rfl (.cons rfl (.cons rfl .nil)))))
 intro x4 q x hx hr
 obtain _ := q
 change slices_Equalint_int.b1 k s1_1 s2_2 x4 = some x at hx
 unfold slices_Equalint_int.b1 at hx
 refine JC.at ⟨[(0, ov (S (rL (rI .i64)) s1_1)), (1, ov (S (rL (rI .i64)) s2_2)), (12, ov (S (rI .i64) (List.length s1_1 : Int))), (13, ov (S (rI .i64) x4))], [], []⟩ <| jr <| lI hx fun v5 hv5 hx => jc (Zar lb tR tR (cs hv5)) <| jn <| JC.seq <| jif tR hx (fun hc4 hx => ?_) (fun hc4 hx => ?_)
 · refine JC.skip <| JQ.then <| JC.seq <| JC.block <| jr <| jmv rfl rfl <| jc (Zac lb tR) <| jn <| JC.seq <| bI hx fun v6 hv6 hx => bI hx fun v7 hv7 hx => ?_
   obtain ⟨v8, hv8, hx⟩ := ZaT hx
   refine JC.anyF (base := [(0, ov (S (rL (rI .i64)) s1_1)), (1, ov (S (rL (rI .i64)) s2_2)), (5, ov (S (rI .i64) x4)), (12, ov (S (rI .i64) (List.length s1_1 : Int))), (13, ov (S (rI .i64) x4))])
       (fs := fun γ => [⟨some 16, ov (S (rL (rI .i64)) s1_1)⟩, ⟨some 17, ov (S (rI .i64) x4)⟩, ⟨some 18, ov (PT (rI .i64) v6)⟩, ⟨some 19, ov (S (rI .i64) v6)⟩, ⟨some 20, ov (S (rL (rI .i64)) s2_2)⟩, ⟨some 21, ov (S (rI .i64) x4)⟩, ⟨some 22, ov (PT (rI .i64) v7)⟩, ⟨some 23, ov (S (rI .i64) v7)⟩, ⟨some 24, ov (S rB v8)⟩])
       (rs := fun γ => [])
       (afts := nn 9) (js := []) Zcj (.cons rfl (.cons rfl (.cons rfl (.cons rfl (.cons rfl .nil))))) (fun _ => rfl)
       (by
      refine db 1 0 <| db 2 5 <| dS 3 (fun γ ρ B hb hd => Zau lb tu37 tz3 (tl hd 0 16) (tl hd 1 17) hv6) <| dS 4 (fun γ ρ B hb hd => Zbr lb tS3 rfl (tl hd 2 18) rfl) <| db 5 1 ?_
      refine db 6 5 <| dS 7 (fun γ ρ B hb hd => Zau lb tu37 tz3 (tl hd 4 20) (tl hd 5 21) hv7) <| dS 8 (fun γ ρ B hb hd => Zbr lb tS3 rfl (tl hd 6 22) rfl) <| dS 9 (fun γ ρ B hb hd => Zar lb (tl hd 3 19) (tl hd 7 23) (cs hv8)) ?_
      exact ZaF.nil)
       (by decide +kernel) (fun _ => rfl) (fun _ => rfl) (fun _ => rfl) rfl
       (ρ' := fun γ => [(0, ov (S (rL (rI .i64)) s1_1)), (1, ov (S (rL (rI .i64)) s2_2)), (12, ov (S (rI .i64) (List.length s1_1 : Int))), (13, ov (S (rI .i64) x4)), (24, ov (S rB v8))])
       (X' := fun γ => [])
       (fun γ ρ hb hd => (.cons (hb 0 _ rfl) (.cons (hb 1 _ rfl) (.cons (hb 12 _ rfl) (.cons (hb 13 _ rfl) (.cons (hdq hd 8 24 rfl) .nil)))))) (fun _ => rfl) (fun γ => ?_)
   refine JQ.at ⟨[(0, ov (S (rL (rI .i64)) s1_1)), (1, ov (S (rL (rI .i64)) s2_2)), (12, ov (S (rI .i64) (List.length s1_1 : Int))), (13, ov (S (rI .i64) x4)), (24, ov (S rB v8))], [], []⟩ <| JQ.then <| jif tR hx (fun hc5 hx => ?_) (fun hc5 hx => ?_)
   · refine jr <| jc (Zac lb .cB) <| jn <| JC.ret <| JQ.outRB <| JQ.outR ?_
     try obtain rfl := so hx
     try obtain rfl := hr _ rfl
     dsimp only at hq3
     refine JQ.outR <| JQ.outRB ?_
     try obtain rfl := so hq3
     dsimp only at hq2
     refine JQ.outR ?_
     obtain rfl := so hq2
     exact jd (.val (S rB false)) rfl rfl rfl rfl rfl rfl
   refine JC.skip <| JQ.outNB <| JQ.then <| JC.region <| lI hx fun v9 hv9 hx => jc (ZaX lb tR .cI (cs hv9)) <| jmv rfl rfl <| JL.nil ?_
   try obtain rfl := so hx
   exact JQ.next () rfl (Imp.norm (js := []) rfl (.cons rfl (.cons rfl (.cons rfl (.cons rfl .nil)))))
 refine JC.exit <| JQ.outX ?_
 try obtain rfl := so hx
 try obtain rfl := hr _ rfl
 dsimp only at hq3
 refine JQ.outX <| JQ.here ?_
 try obtain rfl := so hq3
 exact JQ.joinK () () rfl (Imp.norm (js := []) rfl .nil)

theorem Zcw (k : Nat) (s1_1 : (List UInt8)) (s2_2 : (List UInt8)) (r : Bool) (hm : slices_Equalbyte_byte k s1_1 s2_2 = some r) : Sim Tryz.prog 55 [S (rL (rU UInt8)) s1_1, S (rL (rU UInt8)) s2_2] [] (γ := Unit) (fun q => []) (fun q => .one (.val (S rB r))) := by
 unfold slices_Equalbyte_byte at hm
 refine Sim.of Tryz.func55 rfl rfl (lE rfl) (fun e0 w0 => ?_)
 refine JC.at ⟨[(0, ov (S (rL (rU UInt8)) s1_1)), (1, ov (S (rL (rU UInt8)) s2_2))], [], []⟩ <| jr <| jc (Zac lb .cB) <| jn <| JC.seq <| jr <| jmv rfl rfl <| jc (ZaI lb tu27 tR) <| jmv rfl rfl <| jc (ZaI lb tu27 tR) <| lI hm fun v3 hv3 hm => jc (Zar lb tR tR (cs hv3)) <| jn <| jif tR hm (fun hc1 hm => ?_) (fun hc1 hm => ?_)
 · refine jr <| jc (Zac lb .cB) <| jn <| JC.ret <| JQ.outR ?_
   obtain rfl := so hm
   exact jd (.val (S rB false)) rfl rfl rfl rfl rfl rfl
 refine JC.skip <| JQ.then <| bI hm fun tv2 hx2 hq2 => JC.seqK (α := Unit) (γ := Unit) (stj := fun v q => ⟨[], [], []⟩) (p := fun v => tv2 = (.inl v)) (fun v q hv => ?_) ?_
 · subst hv
   skip
   obtain _ := q
   dsimp only at hq2
   refine JC.at ⟨[], [], []⟩ <| jr <| jc (Zac lb .cB) <| jn <| JC.ret ?_
   obtain rfl := so hq2
   exact jd (.val (S rB true)) rfl rfl rfl rfl rfl rfl
 refine jr <| jmv rfl rfl <| jc (ZaI lb tu27 tR) <| jc (ZaC lb .cI) <| jn <| JC.block <| bI hx2 fun tv3 hL3 hq3 => JC.pre ?_ (JC.loop (γ := Unit) (stf := fun s q => ⟨[(0, ov (S (rL (rU UInt8)) s1_1)), (1, ov (S (rL (rU UInt8)) s2_2)), (12, ov (S (rI .i64) (List.length s1_1 : Int))), (13, ov (S (rI .i64) s))], [], []⟩) (q := ()) hL3 ?_)
 · exact (Imp.norm (js := []) rfl (.cons rfl (.cons rfl (.cons rfl (.cons rfl .nil)))))
 intro x4 q x hx hr
 obtain _ := q
 change slices_Equalbyte_byte.b1 k s1_1 s2_2 x4 = some x at hx
 unfold slices_Equalbyte_byte.b1 at hx
 refine JC.at ⟨[(0, ov (S (rL (rU UInt8)) s1_1)), (1, ov (S (rL (rU UInt8)) s2_2)), (12, ov (S (rI .i64) (List.length s1_1 : Int))), (13, ov (S (rI .i64) x4))], [], []⟩ <| jr <| lI hx fun v5 hv5 hx => jc (Zar lb tR tR (cs hv5)) <| jn <| JC.seq <| jif tR hx (fun hc4 hx => ?_) (fun hc4 hx => ?_)
 · refine JC.skip <| JQ.then <| JC.seq <| JC.block <| jr <| jmv rfl rfl <| jc (Zac lb tR) <| jn <| JC.seq <| bI hx fun v6 hv6 hx => bI hx fun v7 hv7 hx => ?_
   obtain ⟨v8, hv8, hx⟩ := ZaT hx
   refine JC.anyF (base := [(0, ov (S (rL (rU UInt8)) s1_1)), (1, ov (S (rL (rU UInt8)) s2_2)), (5, ov (S (rI .i64) x4)), (12, ov (S (rI .i64) (List.length s1_1 : Int))), (13, ov (S (rI .i64) x4))])
       (fs := fun γ => [⟨some 16, ov (S (rL (rU UInt8)) s1_1)⟩, ⟨some 17, ov (S (rI .i64) x4)⟩, ⟨some 18, ov (PT (rU UInt8) v6)⟩, ⟨some 19, ov (S (rU UInt8) v6)⟩, ⟨some 20, ov (S (rL (rU UInt8)) s2_2)⟩, ⟨some 21, ov (S (rI .i64) x4)⟩, ⟨some 22, ov (PT (rU UInt8) v7)⟩, ⟨some 23, ov (S (rU UInt8) v7)⟩, ⟨some 24, ov (S rB v8)⟩])
       (rs := fun γ => [])
       (afts := nn 9) (js := []) Zcj (.cons rfl (.cons rfl (.cons rfl (.cons rfl (.cons rfl .nil))))) (fun _ => rfl)
       (by
      refine db 1 0 <| db 2 5 <| dS 3 (fun γ ρ B hb hd => Zau lb tu27 tz5 (tl hd 0 16) (tl hd 1 17) hv6) <| dS 4 (fun γ ρ B hb hd => Zbr lb tS5 rfl (tl hd 2 18) rfl) <| db 5 1 ?_
      refine db 6 5 <| dS 7 (fun γ ρ B hb hd => Zau lb tu27 tz5 (tl hd 4 20) (tl hd 5 21) hv7) <| dS 8 (fun γ ρ B hb hd => Zbr lb tS5 rfl (tl hd 6 22) rfl) <| dS 9 (fun γ ρ B hb hd => Zci lb (tl hd 3 19) (tl hd 7 23) (cs hv8)) ?_
      exact ZaF.nil)
       (by decide +kernel) (fun _ => rfl) (fun _ => rfl) (fun _ => rfl) rfl
       (ρ' := fun γ => [(0, ov (S (rL (rU UInt8)) s1_1)), (1, ov (S (rL (rU UInt8)) s2_2)), (12, ov (S (rI .i64) (List.length s1_1 : Int))), (13, ov (S (rI .i64) x4)), (24, ov (S rB v8))])
       (X' := fun γ => [])
       (fun γ ρ hb hd => (.cons (hb 0 _ rfl) (.cons (hb 1 _ rfl) (.cons (hb 12 _ rfl) (.cons (hb 13 _ rfl) (.cons (hdq hd 8 24 rfl) .nil)))))) (fun _ => rfl) (fun γ => ?_)
   refine JQ.at ⟨[(0, ov (S (rL (rU UInt8)) s1_1)), (1, ov (S (rL (rU UInt8)) s2_2)), (12, ov (S (rI .i64) (List.length s1_1 : Int))), (13, ov (S (rI .i64) x4)), (24, ov (S rB v8))], [], []⟩ <| JQ.then <| jif tR hx (fun hc5 hx => ?_) (fun hc5 hx => ?_)
   · refine jr <| jc (Zac lb .cB) <| jn <| JC.ret <| JQ.outRB <| JQ.outR ?_
     try obtain rfl := so hx
     try obtain rfl := hr _ rfl
     dsimp only at hq3
     refine JQ.outR <| JQ.outRB ?_
     try obtain rfl := so hq3
     dsimp only at hq2
     refine JQ.outR ?_
     obtain rfl := so hq2
     exact jd (.val (S rB false)) rfl rfl rfl rfl rfl rfl
   refine JC.skip <| JQ.outNB <| JQ.then <| JC.region <| lI hx fun v9 hv9 hx => jc (ZaX lb tR .cI (cs hv9)) <| jmv rfl rfl <| JL.nil ?_
   try obtain rfl := so hx
   exact JQ.next () rfl (Imp.norm (js := []) rfl (.cons rfl (.cons rfl (.cons rfl (.cons rfl .nil)))))
 refine JC.exit <| JQ.outX ?_
 try obtain rfl := so hx
 try obtain rfl := hr _ rfl
 dsimp only at hq3
 refine JQ.outX <| JQ.here ?_
 try obtain rfl := so hq3
 exact JQ.joinK () () rfl (Imp.norm (js := []) rfl .nil)

theorem Zdw (k : Nat) (s1_1 : (List ZaA)) (s2_2 : (List ZaA)) (r : Bool) (hm : slices_Equalapi_Dest_api_Dest k s1_1 s2_2 = some r) : Sim Tryz.prog 110 [S (rL Zat) s1_1, S (rL Zat) s2_2] [] (γ := Unit) (fun q => []) (fun q => .one (.val (S rB r))) := by
 unfold slices_Equalapi_Dest_api_Dest at hm
 refine Sim.of Tryz.func110 rfl rfl (lE rfl) (fun e0 w0 => ?_)
 refine JC.at ⟨[(0, ov (S (rL Zat) s1_1)), (1, ov (S (rL Zat) s2_2))], [], []⟩ <| jr <| jc (Zac lb .cB) <| jn <| JC.seq <| jr <| jmv rfl rfl <| jc (ZaI lb tu30 tR) <| jmv rfl rfl <| jc (ZaI lb tu30 tR) <| lI hm fun v3 hv3 hm => jc (Zar lb tR tR (cs hv3)) <| jn <| jif tR hm (fun hc1 hm => ?_) (fun hc1 hm => ?_)
 · refine jr <| jc (Zac lb .cB) <| jn <| JC.ret <| JQ.outR ?_
   obtain rfl := so hm
   exact jd (.val (S rB false)) rfl rfl rfl rfl rfl rfl
 refine JC.skip <| JQ.then <| bI hm fun tv2 hx2 hq2 => JC.seqK (α := Unit) (γ := Unit) (stj := fun v q => ⟨[], [], []⟩) (p := fun v => tv2 = (.inl v)) (fun v q hv => ?_) ?_
 · subst hv
   skip
   obtain _ := q
   dsimp only at hq2
   refine JC.at ⟨[], [], []⟩ <| jr <| jc (Zac lb .cB) <| jn <| JC.ret ?_
   obtain rfl := so hq2
   exact jd (.val (S rB true)) rfl rfl rfl rfl rfl rfl
 refine jr <| jmv rfl rfl <| jc (ZaI lb tu30 tR) <| jc (ZaC lb .cI) <| jn <| JC.block <| bI hx2 fun tv3 hL3 hq3 => JC.pre ?_ (JC.loop (γ := Unit) (stf := fun s q => ⟨[(0, ov (S (rL Zat) s1_1)), (1, ov (S (rL Zat) s2_2)), (12, ov (S (rI .i64) (List.length s1_1 : Int))), (13, ov (S (rI .i64) s))], [], []⟩) (q := ()) hL3 ?_)
 · exact (Imp.norm (js := []) rfl (.cons rfl (.cons rfl (.cons rfl (.cons rfl .nil)))))
 intro x4 q x hx hr
 obtain _ := q
 change slices_Equalapi_Dest_api_Dest.b1 k s1_1 s2_2 x4 = some x at hx
 unfold slices_Equalapi_Dest_api_Dest.b1 at hx
 refine JC.at ⟨[(0, ov (S (rL Zat) s1_1)), (1, ov (S (rL Zat) s2_2)), (12, ov (S (rI .i64) (List.length s1_1 : Int))), (13, ov (S (rI .i64) x4))], [], []⟩ <| jr <| lI hx fun v5 hv5 hx => jc (Zar lb tR tR (cs hv5)) <| jn <| JC.seq <| jif tR hx (fun hc4 hx => ?_) (fun hc4 hx => ?_)
 · refine JC.skip <| JQ.then <| JC.seq <| JC.block <| jr <| jmv rfl rfl <| jc (Zac lb tR) <| jn <| JC.seq <| bI hx fun v6 hv6 hx => bI hx fun v7 hv7 hx => ?_
   obtain ⟨v8, hv8, hx⟩ := ZaT hx
   refine JC.anyF (base := [(0, ov (S (rL Zat) s1_1)), (1, ov (S (rL Zat) s2_2)), (5, ov (S (rI .i64) x4)), (12, ov (S (rI .i64) (List.length s1_1 : Int))), (13, ov (S (rI .i64) x4))])
       (fs := fun γ => [⟨some 16, ov (S (rL Zat) s1_1)⟩, ⟨some 17, ov (S (rI .i64) x4)⟩, ⟨some 18, ov (PT Zat v6)⟩, ⟨some 19, ov (A Zat v6)⟩, ⟨some 20, ov (S (rL Zat) s2_2)⟩, ⟨some 21, ov (S (rI .i64) x4)⟩, ⟨some 22, ov (PT Zat v7)⟩, ⟨some 23, ov (A Zat v7)⟩, ⟨some 24, ov (S rB v8)⟩])
       (rs := fun γ => [])
       (afts := nn 9) (js := []) Zcj (.cons rfl (.cons rfl (.cons rfl (.cons rfl (.cons rfl .nil))))) (fun _ => rfl)
       (by
      refine db 1 0 <| db 2 5 <| dS 3 (fun γ ρ B hb hd => Zau lb tu30 ZiU (tl hd 0 16) (tl hd 1 17) hv6) <| dS 4 (fun γ ρ B hb hd => ZaS lb Zje (tl hd 2 18) rfl) <| db 5 1 ?_
      refine db 6 5 <| dS 7 (fun γ ρ B hb hd => Zau lb tu30 ZiU (tl hd 4 20) (tl hd 5 21) hv7) <| dS 8 (fun γ ρ B hb hd => ZaS lb Zje (tl hd 6 22) rfl) <| dS 9 (fun γ ρ B hb hd => Zgj lb ZoC (by decide) ZnW (tl hd 3 19) (tl hd 7 23) hv8) ?_
      exact ZaF.nil)
       (by decide +kernel) (fun _ => rfl) (fun _ => rfl) (fun _ => rfl) rfl
       (ρ' := fun γ => [(0, ov (S (rL Zat) s1_1)), (1, ov (S (rL Zat) s2_2)), (12, ov (S (rI .i64) (List.length s1_1 : Int))), (13, ov (S (rI .i64) x4)), (24, ov (S rB v8))])
       (X' := fun γ => [])
       (fun γ ρ hb hd => (.cons (hb 0 _ rfl) (.cons (hb 1 _ rfl) (.cons (hb 12 _ rfl) (.cons (hb 13 _ rfl) (.cons (hdq hd 8 24 rfl) .nil)))))) (fun _ => rfl) (fun γ => ?_)
   refine JQ.at ⟨[(0, ov (S (rL Zat) s1_1)), (1, ov (S (rL Zat) s2_2)), (12, ov (S (rI .i64) (List.length s1_1 : Int))), (13, ov (S (rI .i64) x4)), (24, ov (S rB v8))], [], []⟩ <| JQ.then <| jif tR hx (fun hc5 hx => ?_) (fun hc5 hx => ?_)
   · refine jr <| jc (Zac lb .cB) <| jn <| JC.ret <| JQ.outRB <| JQ.outR ?_
     try obtain rfl := so hx
     try obtain rfl := hr _ rfl
     dsimp only at hq3
     refine JQ.outR <| JQ.outRB ?_
     try obtain rfl := so hq3
     dsimp only at hq2
     refine JQ.outR ?_
     obtain rfl := so hq2
     exact jd (.val (S rB false)) rfl rfl rfl rfl rfl rfl
   refine JC.skip <| JQ.outNB <| JQ.then <| JC.region <| lI hx fun v9 hv9 hx => jc (ZaX lb tR .cI (cs hv9)) <| jmv rfl rfl <| JL.nil ?_
   try obtain rfl := so hx
   exact JQ.next () rfl (Imp.norm (js := []) rfl (.cons rfl (.cons rfl (.cons rfl (.cons rfl .nil)))))
 refine JC.exit <| JQ.outX ?_
 try obtain rfl := so hx
 try obtain rfl := hr _ rfl
 dsimp only at hq3
 refine JQ.outX <| JQ.here ?_
 try obtain rfl := so hq3
 exact JQ.joinK () () rfl (Imp.norm (js := []) rfl .nil)

theorem Zim (k : Nat) (a1 : Zaq) (b2 : Zaq) (r : Bool) (hm : Ze2 k a1 b2 = some r) : Sim Tryz.prog 70 [A Zan a1, A Zan b2] [] (γ := Unit) (fun q => []) (fun q => .one (.val (S rB r))) := by
 unfold Ze2 at hm
 refine Sim.of Tryz.func70 rfl rfl (lE rfl) (fun e0 w0 => ?_)
 refine JC.at ⟨[(0, ov (A Zan a1)), (1, ov (A Zan b2))], [], []⟩ <| jr <| jx (ZaZ lb tR) fun gb3 => jx (ZaZ lb tR) fun gb4 => jc (Zac lb .cB) <| jn <| bI hm fun x14 hx1 hq1 => JC.seqJ (γ := Unit) (stj := fun _ => ⟨[(4, ov (S rB x14))], [], []⟩) (fun _ => ?_) ?_
 · refine JC.ret ?_
   obtain rfl := so hq1
   exact jd (.val (S rB x14)) rfl rfl rfl rfl rfl rfl
 refine JC.region <| jc (Zaa (off := 0) lb Zgd tR) <| jc (ZaB (j := 0) lb tA26 tR rfl (cT (Zbe a1) rfl) rfl) <| jc (Zaa (off := 0) lb Zgd tR) <| jc (ZaB (j := 1) lb tA26 tR rfl (cT (Zbe b2) rfl) rfl) <| lI hx1 fun v5 hv5 hx1 => jc (ZgE lb qa26 (by decide) ng26 tR tR hv5) <| JL.sub ⟨[(2, ov (PTR gb3 0)), (3, ov (PTR gb4 0)), (4, ov (S rB false)), (9, ov (S rB v5))], [cvar gb3 Zan a1, cvar gb4 Zan b2], []⟩ (.cons rfl (.cons rfl (.cons rfl (.cons rfl .nil)))) rfl rfl <| jmv rfl rfl <| jT (ov (PTR gb3 (0 + 2))) rfl rfl rfl rfl (fun hq_2 => Zaa (off := 2) lb ZhV tR) <| jT (ov (S rS a1.Topic)) rfl rfl rfl rfl (fun hq_3 => Zam (j := 0) lb tS9 (HasO.cnd tR hq_3) rfl (cT (Zby a1) rfl) rfl rfl) <| jT (ov (PTR gb4 (0 + 2))) rfl rfl rfl rfl (fun hq4 => Zaa (off := 2) lb ZhV tR) <| jT (ov (S rS b2.Topic)) rfl rfl rfl rfl (fun hq5 => Zam (j := 1) lb tS9 (HasO.cnd tR hq5) rfl (cT (Zby b2) rfl) rfl rfl) ?_
 refine lI hx1 fun v6 hv6 hx1 => jT (ov (S rB v6)) rfl rfl rfl rfl (fun hq6 => ZhY lb (HasO.cnd tR hq6) (HasO.cnd tR hq6) (cs hv6)) <| lI hx1 fun v7 hv7 hx1 => jc (Zas lb tR (fun hb7 => (HasO.cnd tR hb7)) (fun hb7 => .cB) hv7) <| jmv rfl rfl <| jT (ov (PTR gb3 (0 + 3))) rfl rfl rfl rfl (fun hq_8 => Zaa (off := 3) lb ZhJ tR) <| jT (ov (S (rL (rU UInt8)) a1.Payload)) rfl rfl rfl rfl (fun hq9 => Zam (j := 0) lb tS27 (HasO.cnd tR hq9) rfl (cT (Zbh a1) rfl) rfl rfl) <| jT (ov (PTR gb4 (0 + 3))) rfl rfl rfl rfl (fun hq10 => Zaa (off := 3) lb ZhJ tR) <| jT (ov (S (rL (rU UInt8)) b2.Payload)) rfl rfl rfl rfl (fun hq11 => Zam (j := 1) lb tS27 (HasO.cnd tR hq11) rfl (cT (Zbh b2) rfl) rfl rfl) <| JL.sub ⟨[(2, ov (PTR gb3 0)), (3, ov (PTR gb4 0)), (4, ov (S rB false)), (17, ov (S rB v7)), (19, bif v7 then ov (S (rL (rU UInt8)) a1.Payload) else .one .und), (21, bif v7 then ov (S (rL (rU UInt8)) b2.Payload) else .one .und)], [cvar gb3 Zan a1, cvar gb4 Zan b2], []⟩ (.cons rfl (.cons rfl (.cons rfl (.cons rfl (.cons rfl (.cons rfl .nil)))))) rfl rfl ?_
 refine bI hx1 fun v8 hv8 hx1 => jT (ov (S rB v8)) rfl rfl rfl rfl (fun hq12 => (Zak (js := []) ld cl55 (Zcw k a1.Payload b2.Payload v8 (ifT hv8 hq12)) .func (.cons (HasO.cnd tR hq12) (.cons (HasO.cnd tR hq12) .nil)) rfl).post (fun _ => Imp.refl)) <| lI hx1 fun v9 hv9 hx1 => jc (Zas lb tR (fun hb13 => (HasO.cnd tR hb13)) (fun hb13 => .cB) hv9) <| jmv rfl rfl <| jT (ov (PTR gb3 (0 + 4))) rfl rfl rfl rfl (fun hq14 => Zaa (off := 4) lb ZgO tR) <| jT (ov (A (rV 16 (rU UInt64)) a1.Past)) rfl rfl rfl rfl (fun hq15 => ZaB (j := 0) lb tA29 (HasO.cnd tR hq15) rfl (cT (Zbm a1) rfl) rfl) <| jT (ov (PTR gb4 (0 + 4))) rfl rfl rfl rfl (fun hq16 => Zaa (off := 4) lb ZgO tR) <| jT (ov (A (rV 16 (rU UInt64)) b2.Past)) rfl rfl rfl rfl (fun hq17 => ZaB (j := 1) lb tA29 (HasO.cnd tR hq17) rfl (cT (Zbm b2) rfl) rfl) ?_
 obtain ⟨v10, hv10, hx1⟩ := ZaT hx1
 refine jT (ov (S rB v10)) rfl rfl rfl rfl (fun hq18 => ZgE lb qa29 (by decide) ng29 (HasO.cnd tR hq18) (HasO.cnd tR hq18) hv10) <| lI hx1 fun v11 hv11 hx1 => jc (Zas lb tR (fun hb19 => (HasO.cnd tR hb19)) (fun hb19 => .cB) hv11) <| jmv rfl rfl <| jT (ov (PTR gb3 (0 + 20))) rfl rfl rfl rfl (fun hq20 => Zaa (off := 20) lb ZdW tR) <| jT (ov (S (rL Zat) a1.To)) rfl rfl rfl rfl (fun hq21 => Zam (j := 0) lb tS30 (HasO.cnd tR hq21) rfl (cT (ZaR a1) rfl) rfl rfl) <| JL.nrm ⟨[(3, ov (PTR gb4 0)), (4, ov (S rB false)), (31, ov (S rB v11)), (33, bif v11 then ov (S (rL Zat) a1.To) else .one .und)], [cvar gb4 Zan b2], []⟩ [1] rfl (.cons rfl (.cons rfl (.cons rfl (.cons rfl .nil)))) rfl <| jT (ov (PTR gb4 (0 + 20))) rfl rfl rfl rfl (fun hq22 => Zaa (off := 20) lb ZdW tR) <| jT (ov (S (rL Zat) b2.To)) rfl rfl rfl rfl (fun hq23 => Zam (j := 0) lb tS30 (HasO.cnd tR hq23) rfl (cT (ZaR b2) rfl) rfl rfl) ?_
 obtain ⟨v12, hv12, hx1⟩ := Zaz hx1
 refine jT (ov (S rB v12)) rfl rfl rfl rfl (fun hq24 => (Zak (js := []) ld ZoR (Zdw k a1.To b2.To v12 (ifT hv12 hq24)) .func (.cons (HasO.cnd tR hq24) (.cons (HasO.cnd tR hq24) .nil)) rfl).post (fun _ => Imp.refl)) <| lI hx1 fun v13 hv13 hx1 => jc (Zas lb tR (fun hb25 => (HasO.cnd tR hb25)) (fun hb25 => .cB) hv13) <| jc (Zac lb tR) <| JL.nil ?_
 try obtain rfl := so hx1
 exact jo rfl rfl rfl

theorem Zge (k : Nat) (t1 : Zai) (a2 : Zai) (r : Bool) (hm : Zed k t1 a2 = some r) : Sim Tryz.prog 18 [A Zad t1, A Zad a2] [] (γ := Unit) (fun q => []) (fun q => .one (.val (S rB r))) := by
 unfold Zed at hm
 refine Sim.of Tryz.func18 rfl rfl (lE rfl) (fun e0 w0 => ?_)
 refine JC.at ⟨[(0, ov (A Zad t1)), (1, ov (A Zad a2))], [], []⟩ <| jr <| jx (ZaZ lb tR) fun gb3 => jx (ZaZ lb tR) fun gb4 => jc (Zac lb .cB) <| jn <| bI hm fun x18 hx1 hq1 => JC.seqJ (γ := Unit) (stj := fun _ => ⟨[(2, ov (PTR gb3 0)), (3, ov (PTR gb4 0)), (5, ov (S rB x18))], [cvar gb3 Zad t1, cvar gb4 Zad a2], []⟩) (fun _ => ?_) ?_
 · refine bI hq1 fun x28 hx38 hq38 => JC.seqJ (γ := Unit) (stj := fun _ => ⟨[(2, ov (PTR gb3 0)), (3, ov (PTR gb4 0)), (5, ov (S rB x18)), (6, ov (S rB x28))], [cvar gb3 Zad t1, cvar gb4 Zad a2], []⟩) (fun _ => ?_) ?_
   · refine bI hq38 fun x32 hx63 hq63 => JC.seqJ (γ := Unit) (stj := fun _ => ⟨[(4, ov (S rB x32))], [], []⟩) (fun _ => ?_) ?_
     · refine JC.ret ?_
       obtain rfl := so hq63
       exact jd (.val (S rB x32)) rfl rfl rfl rfl rfl rfl
     refine JC.region <| jmv rfl rfl <| jmv rfl rfl <| jT (ov (S rB x28)) rfl rfl rfl rfl (fun hq64 => ZaC lb tR) <| lI hx63 fun v29 hv29 hx63 => jc (Zas lb tR (fun hb65 => (HasO.cnd tR hb65)) (fun hb65 => .cB) hv29) <| jmv rfl rfl <| jT (ov (PTR gb3 (0 + 4))) rfl rfl rfl rfl (fun hq66 => Zaa (off := 4) lb Zgi tR) <| jT (ov (A Zan t1.Event)) rfl rfl rfl rfl (fun hq67 => ZaB (j := 0) lb tA32 (HasO.cnd tR hq67) rfl (cT (Zbf t1) rfl) rfl) <| jT (ov (PTR gb4 (0 + 4))) rfl rfl rfl rfl (fun hq68 => Zaa (off := 4) lb Zgi tR) <| jT (ov (A Zan a2.Event)) rfl rfl rfl rfl (fun hq69 => ZaB (j := 1) lb tA32 (HasO.cnd tR hq69) rfl (cT (Zbf a2) rfl) rfl) ?_
     obtain ⟨v30, hv30, hx63⟩ := Zaz hx63
     refine jT (ov (S rB v30)) rfl rfl rfl rfl (fun hq70 => (Zak (js := []) ld cl70 (Zim k t1.Event a2.Event v30 (ifT hv30 hq70)) .func (.cons (HasO.cnd tR hq70) (.cons (HasO.cnd tR hq70) .nil)) rfl).post (fun _ => Imp.refl)) <| lI hx63 fun v31 hv31 hx63 => jc (Zas lb tR (fun hb71 => (HasO.cnd tR hb71)) (fun hb71 => .cB) hv31) <| jc (Zac lb tR) <| JL.nrm ⟨[(4, ov (S rB v31))], [], []⟩ [] rfl (.cons rfl .nil) rfl <| JL.nil ?_
     try obtain rfl := so hx63
     exact jo rfl rfl rfl
   refine JC.region <| jc (Zaa (off := 3) lb ZdJ tR) <| jc (Zam (j := 0) lb tS23 tR rfl (cT (ZaO t1) rfl) rfl rfl) <| jc (Zaa (off := 3) lb ZdJ tR) <| jc (Zam (j := 1) lb tS23 tR rfl (cT (ZaO a2) rfl) rfl rfl) <| bI hx38 fun v19 hv19 hx38 => jx (Zak (js := []) ld cl66 (ZdB k t1.Items a2.Items v19 hv19) .func (.cons tR (.cons tR .nil)) rfl) fun _ => jmv rfl rfl <| jT (ov (PTR gb3 (0 + 57))) rfl rfl rfl rfl (fun hq39 => Zaa (off := 57) lb Ze1 tR) <| jT (ov (S (rL Zae) t1.Extra)) rfl rfl rfl rfl (fun hq40 => Zam (j := 0) lb tS33 (HasO.cnd tR hq40) rfl (cT (Za7 t1) rfl) rfl rfl) <| jT (ov (PTR gb4 (0 + 57))) rfl rfl rfl rfl (fun hq41 => Zaa (off := 57) lb Ze1 tR) <| jT (ov (S (rL Zae) a2.Extra)) rfl rfl rfl rfl (fun hq42 => Zam (j := 1) lb tS33 (HasO.cnd tR hq42) rfl (cT (Za7 a2) rfl) rfl rfl) ?_
   obtain ⟨v20, hv20, hx38⟩ := Zaz hx38
   refine jT (ov (S rB v20)) rfl rfl rfl rfl (fun hq43 => (Zak (js := []) ld cl67 (ZcE k t1.Extra a2.Extra v20 (ifT hv20 hq43)) .func (.cons (HasO.cnd tR hq43) (.cons (HasO.cnd tR hq43) .nil)) rfl).post (fun _ => Imp.refl)) <| lI hx38 fun v21 hv21 hx38 => jc (Zas lb tR (fun hb44 => (HasO.cnd tR hb44)) (fun hb44 => .cB) hv21) <| JL.sub ⟨[(2, ov (PTR gb3 0)), (3, ov (PTR gb4 0)), (5, ov (S rB x18)), (65, ov (S rB v21))], [cvar gb3 Zad t1, cvar gb4 Zad a2], []⟩ (.cons rfl (.cons rfl (.cons rfl (.cons rfl .nil)))) rfl rfl <| jmv rfl rfl <| jT (ov (PTR gb3 (0 + 58))) rfl rfl rfl rfl (fun hq45 => Zaa (off := 58) lb Zfr tR) <| jT (ov (S (rL Zae) t1.Live)) rfl rfl rfl rfl (fun hq46 => Zam (j := 0) lb tS33 (HasO.cnd tR hq46) rfl (cT (Za5 t1) rfl) rfl rfl) <| jT (ov (PTR gb4 (0 + 58))) rfl rfl rfl rfl (fun hq47 => Zaa (off := 58) lb Zfr tR) <| jT (ov (S (rL Zae) a2.Live)) rfl rfl rfl rfl (fun hq48 => Zam (j := 1) lb tS33 (HasO.cnd tR hq48) rfl (cT (Za5 a2) rfl) rfl rfl) ?_
   refine bI hx38 fun v22 hv22 hx38 => jT (ov (S rB v22)) rfl rfl rfl rfl (fun hq49 => (Zak (js := []) ld cl67 (ZcE k t1.Live a2.Live v22 (ifT hv22 hq49)) .func (.cons (HasO.cnd tR hq49) (.cons (HasO.cnd tR hq49) .nil)) rfl).post (fun _ => Imp.refl)) <| lI hx38 fun v23 hv23 hx38 => jc (Zas lb tR (fun hb50 => (HasO.cnd tR hb50)) (fun hb50 => .cB) hv23) <| jmv rfl rfl <| jT (ov (PTR gb3 (0 + 91))) rfl rfl rfl rfl (fun hq51 => Zaa (off := 91) lb ZdM tR) <| jT (ov (S (rL (rV 32 (rU UInt8))) t1.Leaves)) rfl rfl rfl rfl (fun hq52 => Zam (j := 0) lb tS36 (HasO.cnd tR hq52) rfl (cT (ZaU t1) rfl) rfl rfl) <| jT (ov (PTR gb4 (0 + 91))) rfl rfl rfl rfl (fun hq53 => Zaa (off := 91) lb ZdM tR) <| jT (ov (S (rL (rV 32 (rU UInt8))) a2.Leaves)) rfl rfl rfl rfl (fun hq54 => Zam (j := 1) lb tS36 (HasO.cnd tR hq54) rfl (cT (ZaU a2) rfl) rfl rfl) <| JL.sub ⟨[(2, ov (PTR gb3 0)), (3, ov (PTR gb4 0)), (5, ov (S rB x18)), (73, ov (S rB v23)), (75, bif v23 then ov (S (rL (rV 32 (rU UInt8))) t1.Leaves) else .one .und), (77, bif v23 then ov (S (rL (rV 32 (rU UInt8))) a2.Leaves) else .one .und)], [cvar gb3 Zad t1, cvar gb4 Zad a2], []⟩ (.cons rfl (.cons rfl (.cons rfl (.cons rfl (.cons rfl (.cons rfl .nil)))))) rfl rfl ?_
   refine bI hx38 fun v24 hv24 hx38 => jT (ov (S rB v24)) rfl rfl rfl rfl (fun hq55 => (Zak (js := []) ld cl68 (Zdx k t1.Leaves a2.Leaves v24 (ifT hv24 hq55)) .func (.cons (HasO.cnd tR hq55) (.cons (HasO.cnd tR hq55) .nil)) rfl).post (fun _ => Imp.refl)) <| lI hx38 fun v25 hv25 hx38 => jc (Zas lb tR (fun hb56 => (HasO.cnd tR hb56)) (fun hb56 => .cB) hv25) <| jmv rfl rfl <| jT (ov (PTR gb3 (0 + 92))) rfl rfl rfl rfl (fun hq57 => Zaa (off := 92) lb Zdj tR) <| jT (ov (S (rL (rI .i64)) t1.Buckets)) rfl rfl rfl rfl (fun hq58 => Zam (j := 0) lb tS37 (HasO.cnd tR hq58) rfl (cT (ZaL t1) rfl) rfl rfl) <| jT (ov (PTR gb4 (0 + 92))) rfl rfl rfl rfl (fun hq59 => Zaa (off := 92) lb Zdj tR) <| jT (ov (S (rL (rI .i64)) a2.Buckets)) rfl rfl rfl rfl (fun hq60 => Zam (j := 1) lb tS37 (HasO.cnd tR hq60) rfl (cT (ZaL a2) rfl) rfl rfl) ?_
   obtain ⟨v26, hv26, hx38⟩ := Zaz hx38
   refine jT (ov (S rB v26)) rfl rfl rfl rfl (fun hq61 => (Zak (js := []) ld cl69 (Zfl k t1.Buckets a2.Buckets v26 (ifT hv26 hq61)) .func (.cons (HasO.cnd tR hq61) (.cons (HasO.cnd tR hq61) .nil)) rfl).post (fun _ => Imp.refl)) <| lI hx38 fun v27 hv27 hx38 => jc (Zas lb tR (fun hb62 => (HasO.cnd tR hb62)) (fun hb62 => .cB) hv27) <| jc (Zac lb tR) <| JL.nil ?_
   try obtain rfl := so hx38
   exact JQ.join () (Imp.norm (js := [0, 0]) rfl (.cons rfl (.cons rfl (.cons rfl (.cons rfl .nil)))))
 refine JC.region <| jc (Zaa (off := 0) lb Zgg tR) <| jc (Zam (j := 0) lb tS22 tR rfl (cT (Za4 t1) rfl) rfl rfl) <| jc (Zaa (off := 0) lb Zgg tR) <| jc (Zam (j := 1) lb tS22 tR rfl (cT (Za4 a2) rfl) rfl rfl) <| lI hx1 fun v5 hv5 hx1 => jc (Zar lb tR tR (cs hv5)) <| JL.sub ⟨[(2, ov (PTR gb3 0)), (3, ov (PTR gb4 0)), (11, ov (S rB v5))], [cvar gb3 Zad t1, cvar gb4 Zad a2], []⟩ (.cons rfl (.cons rfl (.cons rfl .nil))) rfl rfl <| jmv rfl rfl <| jT (ov (PTR gb3 (0 + 1))) rfl rfl rfl rfl (fun hq_2 => Zaa (off := 1) lb ZgR tR) <| jT (ov (S (rI .i64) t1.From)) rfl rfl rfl rfl (fun hq_3 => Zam (j := 0) lb tS3 (HasO.cnd tR hq_3) rfl (cT (Zba t1) rfl) rfl rfl) <| jT (ov (PTR gb4 (0 + 1))) rfl rfl rfl rfl (fun hq4 => Zaa (off := 1) lb ZgR tR) <| jT (ov (S (rI .i64) a2.From)) rfl rfl rfl rfl (fun hq5 => Zam (j := 1) lb tS3 (HasO.cnd tR hq5) rfl (cT (Zba a2) rfl) rfl rfl) ?_
 refine lI hx1 fun v6 hv6 hx1 => jT (ov (S rB v6)) rfl rfl rfl rfl (fun hq6 => Zar lb (HasO.cnd tR hq6) (HasO.cnd tR hq6) (cs hv6)) <| lI hx1 fun v7 hv7 hx1 => jc (Zas lb tR (fun hb7 => (HasO.cnd tR hb7)) (fun hb7 => .cB) hv7) <| jmv rfl rfl <| jT (ov (PTR gb3 (0 + 2))) rfl rfl rfl rfl (fun hq_8 => Zaa (off := 2) lb ZgC tR) <| jT (ov (S (rI .i64) t1.To)) rfl rfl rfl rfl (fun hq9 => Zam (j := 0) lb tS3 (HasO.cnd tR hq9) rfl (cT (Zbt t1) rfl) rfl rfl) <| jT (ov (PTR gb4 (0 + 2))) rfl rfl rfl rfl (fun hq10 => Zaa (off := 2) lb ZgC tR) <| jT (ov (S (rI .i64) a2.To)) rfl rfl rfl rfl (fun hq11 => Zam (j := 1) lb tS3 (HasO.cnd tR hq11) rfl (cT (Zbt a2) rfl) rfl rfl) <| JL.sub ⟨[(2, ov (PTR gb3 0)), (3, ov (PTR gb4 0)), (19, ov (S rB v7)), (21, bif v7 then ov (S (rI .i64) t1.To) else .one .und), (23, bif v7 then ov (S (rI .i64) a2.To) else .one .und)], [cvar gb3 Zad t1, cvar gb4 Zad a2], []⟩ (.cons rfl (.cons rfl (.cons rfl (.cons rfl (.cons rfl .nil))))) rfl rfl ?_
 refine lI hx1 fun v8 hv8 hx1 => jT (ov (S rB v8)) rfl rfl rfl rfl (fun hq12 => Zar lb (HasO.cnd tR hq12) (HasO.cnd tR hq12) (cs hv8)) <| lI hx1 fun v9 hv9 hx1 => jc (Zas lb tR (fun hb13 => (HasO.cnd tR hb13)) (fun hb13 => .cB) hv9) <| jmv rfl rfl <| jT (ov (PTR gb3 (0 + 25))) rfl rfl rfl rfl (fun hq14 => Zaa (off := 25) lb Zg3 tR) <| jT (ov (A (rV 16 (rU UInt64)) t1.Past)) rfl rfl rfl rfl (fun hq15 => ZaB (j := 0) lb tA29 (HasO.cnd tR hq15) rfl (cT (ZbG t1) rfl) rfl) <| jT (ov (PTR gb4 (0 + 25))) rfl rfl rfl rfl (fun hq16 => Zaa (off := 25) lb Zg3 tR) <| jT (ov (A (rV 16 (rU UInt64)) a2.Past)) rfl rfl rfl rfl (fun hq17 => ZaB (j := 1) lb tA29 (HasO.cnd tR hq17) rfl (cT (ZbG a2) rfl) rfl) ?_
 obtain ⟨v10, hv10, hx1⟩ := ZaT hx1
 refine jT (ov (S rB v10)) rfl rfl rfl rfl (fun hq18 => ZgE lb qa29 (by decide) ng29 (HasO.cnd tR hq18) (HasO.cnd tR hq18) hv10) <| lI hx1 fun v11 hv11 hx1 => jc (Zas lb tR (fun hb19 => (HasO.cnd tR hb19)) (fun hb19 => .cB) hv11) <| jmv rfl rfl <| jT (ov (PTR gb3 (0 + 41))) rfl rfl rfl rfl (fun hq20 => Zaa (off := 41) lb Zfw tR) <| jT (ov (A (rV 16 (rU UInt64)) t1.Seen)) rfl rfl rfl rfl (fun hq21 => ZaB (j := 0) lb tA29 (HasO.cnd tR hq21) rfl (cT (Zbn t1) rfl) rfl) <| JL.sub ⟨[(2, ov (PTR gb3 0)), (3, ov (PTR gb4 0)), (33, ov (S rB v11)), (35, bif v11 then ov (A (rV 16 (rU UInt64)) t1.Seen) else .one .und)], [cvar gb3 Zad t1, cvar gb4 Zad a2], []⟩ (.cons rfl (.cons rfl (.cons rfl (.cons rfl .nil)))) rfl rfl <| jT (ov (PTR gb4 (0 + 41))) rfl rfl rfl rfl (fun hq22 => Zaa (off := 41) lb Zfw tR) <| jT (ov (A (rV 16 (rU UInt64)) a2.Seen)) rfl rfl rfl rfl (fun hq23 => ZaB (j := 1) lb tA29 (HasO.cnd tR hq23) rfl (cT (Zbn a2) rfl) rfl) ?_
 obtain ⟨v12, hv12, hx1⟩ := ZaT hx1
 refine jT (ov (S rB v12)) rfl rfl rfl rfl (fun hq24 => ZgE lb qa29 (by decide) ng29 (HasO.cnd tR hq24) (HasO.cnd tR hq24) hv12) <| lI hx1 fun v13 hv13 hx1 => jc (Zas lb tR (fun hb25 => (HasO.cnd tR hb25)) (fun hb25 => .cB) hv13) <| jmv rfl rfl <| jT (ov (PTR gb3 (0 + 59))) rfl rfl rfl rfl (fun hq26 => Zaa (off := 59) lb Zhn tR) <| jT (ov (A (rV 32 (rU UInt8)) t1.Hash)) rfl rfl rfl rfl (fun hq27 => ZaB (j := 0) lb tA35 (HasO.cnd tR hq27) rfl (cT (ZbS t1) rfl) rfl) <| jT (ov (PTR gb4 (0 + 59))) rfl rfl rfl rfl (fun hq28 => Zaa (off := 59) lb Zhn tR) <| jT (ov (A (rV 32 (rU UInt8)) a2.Hash)) rfl rfl rfl rfl (fun hq29 => ZaB (j := 1) lb tA35 (HasO.cnd tR hq29) rfl (cT (ZbS a2) rfl) rfl) <| lI hx1 fun v14 hv14 hx1 => jT (ov (S rB v14)) rfl rfl rfl rfl (fun hq30 => ZgE lb qa35 (by decide) ng35 (HasO.cnd tR hq30) (HasO.cnd tR hq30) hv14) ?_
 refine lI hx1 fun v15 hv15 hx1 => jc (Zas lb tR (fun hb31 => (HasO.cnd tR hb31)) (fun hb31 => .cB) hv15) <| jmv rfl rfl <| JL.sub ⟨[(2, ov (PTR gb3 0)), (3, ov (PTR gb4 0)), (47, ov (S rB v15))], [cvar gb3 Zad t1, cvar gb4 Zad a2], []⟩ (.cons rfl (.cons rfl (.cons rfl .nil))) rfl rfl <| jT (ov (PTR gb3 (0 + 93))) rfl rfl rfl rfl (fun hq32 => Zaa (off := 93) lb ZfN tR) <| jT (ov (S rB t1.Reply)) rfl rfl rfl rfl (fun hq33 => Zam (j := 0) lb tS4 (HasO.cnd tR hq33) rfl (cT (ZbO t1) rfl) rfl rfl) <| jT (ov (PTR gb4 (0 + 93))) rfl rfl rfl rfl (fun hq34 => Zaa (off := 93) lb ZfN tR) <| jT (ov (S rB a2.Reply)) rfl rfl rfl rfl (fun hq35 => Zam (j := 1) lb tS4 (HasO.cnd tR hq35) rfl (cT (ZbO a2) rfl) rfl rfl) <| lI hx1 fun v16 hv16 hx1 => jT (ov (S rB v16)) rfl rfl rfl rfl (fun hq36 => ZmP lb tu4 (HasO.cnd tR hq36) (HasO.cnd tR hq36) hv16) ?_
 refine lI hx1 fun v17 hv17 hx1 => jc (Zas lb tR (fun hb37 => (HasO.cnd tR hb37)) (fun hb37 => .cB) hv17) <| jc (Zac lb tR) <| JL.nil ?_
 try obtain rfl := so hx1
 exact JQ.join () (Imp.norm (js := [0, 0]) rfl (.cons rfl (.cons rfl (.cons rfl .nil))))

theorem Zex (k : Nat) (d1 : Zah) (r : Bool) (hm : ZfH k d1 = some r) : Sim Tryz.prog 34 [A Zae d1] [] (γ := Unit) (fun q => []) (fun q => .one (.val (S rB r))) := by
 unfold ZfH at hm
 refine Sim.of Tryz.func34 rfl rfl (lE rfl) (fun e0 w0 => ?_)
 refine JC.at ⟨[(0, ov (A Zae d1))], [], []⟩ <| jr <| jx (ZaZ lb tR) fun gb2 => jc (Zac lb .cB) <| jn <| bI hm fun x10 hx1 hq1 => JC.seqJ (γ := Unit) (stj := fun _ => ⟨[(2, ov (S rB x10))], [], []⟩) (fun _ => ?_) ?_
 · refine JC.ret ?_
   obtain rfl := so hq1
   exact jd (.val (S rB x10)) rfl rfl rfl rfl rfl rfl
 refine JC.region <| jc (Zaa (off := 0) lb Zeq tR) <| jc (Zam (j := 0) lb tS3 tR rfl (cT (ZaN d1) rfl) rfl rfl) <| lI hx1 fun v3 hv3 hx1 => jc (Zar lb tR .cI (cs hv3)) <| jmv rfl rfl <| jT (ov (PTR gb2 (0 + 0))) rfl rfl rfl rfl (fun hq_2 => Zaa (off := 0) lb Zeq tR) <| jT (ov (S (rI .i64) d1.Region)) rfl rfl rfl rfl (fun hq_3 => Zam (j := 0) lb tS3 (HasO.cnd tR hq_3) rfl (cT (ZaN d1) rfl) rfl rfl) <| lI hx1 fun v4 hv4 hx1 => jT (ov (S rB v4)) rfl rfl rfl rfl (fun hq4 => Zar lb (HasO.cnd tR hq4) .cI (cs hv4)) <| lI hx1 fun v5 hv5 hx1 => jc (Zas lb tR (fun hb5 => (HasO.cnd tR hb5)) (fun hb5 => .cB) hv5) ?_
 refine JL.sub ⟨[(1, ov (PTR gb2 0)), (2, ov (S rB false)), (10, ov (S rB v5))], [cvar gb2 Zae d1], []⟩ (.cons rfl (.cons rfl (.cons rfl .nil))) rfl rfl <| jmv rfl rfl <| jT (ov (PTR gb2 (0 + 1))) rfl rfl rfl rfl (fun hq6 => Zaa (off := 1) lb Zft tR) <| jT (ov (S (rU UInt64) d1.Count)) rfl rfl rfl rfl (fun hq7 => Zam (j := 0) lb tS24 (HasO.cnd tR hq7) rfl (cT (ZaY d1) rfl) rfl rfl) <| lI hx1 fun v6 hv6 hx1 => jT (ov (S rB v6)) rfl rfl rfl rfl (fun hq_8 => Zci lb (HasO.cnd tR hq_8) (HasO.cU (x := (1 : UInt64)) rfl (by decide)) (cs hv6)) <| lI hx1 fun v7 hv7 hx1 => jc (Zas lb tR (fun hb9 => (HasO.cnd tR hb9)) (fun hb9 => .cB) hv7) <| jmv rfl rfl <| jT (ov (PTR gb2 (0 + 1))) rfl rfl rfl rfl (fun hq10 => Zaa (off := 1) lb Zft tR) ?_
 refine jT (ov (S (rU UInt64) d1.Count)) rfl rfl rfl rfl (fun hq11 => Zam (j := 0) lb tS24 (HasO.cnd tR hq11) rfl (cT (ZaY d1) rfl) rfl rfl) <| lI hx1 fun v8 hv8 hx1 => jT (ov (S rB v8)) rfl rfl rfl rfl (fun hq12 => Zci lb (HasO.cnd tR hq12) (HasO.cU (x := (4611686018427387904 : UInt64)) rfl (by decide)) (cs hv8)) <| lI hx1 fun v9 hv9 hx1 => jc (Zas lb tR (fun hb13 => (HasO.cnd tR hb13)) (fun hb13 => .cB) hv9) <| jc (Zac lb tR) <| JL.nil ?_
 try obtain rfl := so hx1
 exact jo rfl rfl rfl

theorem Zdd (k : Nat) (s1 : (List UInt8)) (r : Bool) (hm : Zct k s1 = some r) : Sim Tryz.prog 71 [S rS s1] [] (γ := Unit) (fun q => []) (fun q => .one (.val (S rB r))) := by
 unfold Zct at hm
 refine Sim.of Tryz.func71 rfl rfl (lE rfl) (fun e0 w0 => ?_)
 refine JC.at ⟨[(0, ov (S rS s1))], [], []⟩ <| jr <| jc (Zac lb .cB) <| jn <| bI hm fun x5 hx1 hq1 => JC.seqJ (γ := Unit) (stj := fun _ => ⟨[(2, ov (S rB x5))], [], []⟩) (fun _ => ?_) ?_
 · refine JC.ret ?_
   obtain rfl := so hq1
   exact jd (.val (S rB x5)) rfl rfl rfl rfl rfl rfl
 refine JC.region <| jmv rfl rfl <| jc (Zhm lb tu9 tR) <| lI hx1 fun v2 hv2 hx1 => jc (Zar lb tR .cI (cs hv2)) <| jmv rfl rfl <| jT (ov (S rS s1)) rfl rfl rfl rfl (fun hq_2 => ZaC lb tR) <| jT (ov (S (rI .i64) (List.length s1 : Int))) rfl rfl rfl rfl (fun hq_3 => Zhm lb tu9 (HasO.cnd tR hq_3)) <| lI hx1 fun v3 hv3 hx1 => jT (ov (S rB v3)) rfl rfl rfl rfl (fun hq4 => Zar lb (HasO.cnd tR hq4) .cI (cs hv3)) <| lI hx1 fun v4 hv4 hx1 => jc (Zas lb tR (fun hb5 => (HasO.cnd tR hb5)) (fun hb5 => .cB) hv4) <| jc (Zac lb tR) <| JL.nil ?_
 try obtain rfl := so hx1
 exact jo rfl rfl rfl

theorem Zhc (k : Nat) (i1 : Zal) (r : Bool) (hm : Zdy k i1 = some r) : Sim Tryz.prog 20 [A Zaj i1] [] (γ := Unit) (fun q => []) (fun q => .one (.val (S rB r))) := by
 unfold Zdy at hm
 refine Sim.of Tryz.func20 rfl rfl (lE rfl) (fun e0 w0 => ?_)
 refine JC.at ⟨[(0, ov (A Zaj i1))], [], []⟩ <| jr <| jx (ZaZ lb tR) fun gb2 => jc (Zac lb .cB) <| jn <| JC.seq <| jr <| jc (Zaa (off := 4) lb Zjm tR) <| jc (Zam (j := 0) lb tS4 tR rfl (cT (ZdE i1) rfl) rfl rfl) <| jn <| jif tR hm (fun hc1 hm => ?_) (fun hc1 hm => ?_)
 · refine bI hm fun x6 hx2 hq2 => JC.seqJ (γ := Unit) (stj := fun _ => ⟨[(2, ov (S rB x6))], [], []⟩) (fun _ => ?_) ?_
   · refine JC.ret <| JQ.outR ?_
     obtain rfl := so hq2
     exact jd (.val (S rB x6)) rfl rfl rfl rfl rfl rfl
   refine JC.region <| jc (Zaa (off := 0) lb Zjr tR) <| jc (ZaB (j := 0) lb tA26 tR rfl (cT (ZcF i1) rfl) rfl) <| bI hx2 fun v3 hv3 hx2 => jx (Zak (js := []) ld cl34 (Zex k i1.Dot v3 hv3) .func (.cons tR .nil) rfl) fun _ => jmv rfl rfl <| jT (ov (PTR gb2 (0 + 2))) rfl rfl rfl rfl (fun hq_3 => Zaa (off := 2) lb ZgH tR) <| jT (ov (A ZcJ i1.Key)) rfl rfl rfl rfl (fun hq4 => ZaB (j := 0) lb tA60 (HasO.cnd tR hq4) rfl (cT (ZbR i1) rfl) rfl) <| JL.nrm ⟨[(2, ov (S rB false)), (8, ov (S rB v3)), (10, bif v3 then ov (A ZcJ i1.Key) else .one .und)], [], []⟩ [] rfl (.cons rfl (.cons rfl (.cons rfl .nil))) rfl <| jT (ov (A ZcJ (Zbs.mk ([] : (List UInt8)) ([] : (List UInt8))))) rfl rfl rfl rfl (fun hq5 => Zbl lb tZ60 zv60 tp60 .nil rfl) ?_
   obtain ⟨v4, hv4, hx2⟩ := ZaT hx2
   refine jT (ov (S rB v4)) rfl rfl rfl rfl (fun hq6 => ZgE lb qa60 (by decide) ng60 (HasO.cnd tR hq6) (HasO.cnd tR hq6) hv4) <| lI hx2 fun v5 hv5 hx2 => jc (Zas lb tR (fun hb7 => (HasO.cnd tR hb7)) (fun hb7 => .cB) hv5) <| jc (Zac lb tR) <| JL.nil ?_
   try obtain rfl := so hx2
   exact jo rfl rfl rfl
 refine JC.skip <| JQ.then <| bI hm fun x12 hx8 hq8 => JC.seqJ (γ := Unit) (stj := fun _ => ⟨[(2, ov (S rB x12))], [], []⟩) (fun _ => ?_) ?_
 · refine JC.ret ?_
   obtain rfl := so hq8
   exact jd (.val (S rB x12)) rfl rfl rfl rfl rfl rfl
 refine JC.region <| jc (Zaa (off := 0) lb Zjr tR) <| jc (ZaB (j := 0) lb tA26 tR rfl (cT (ZcF i1) rfl) rfl) <| bI hx8 fun v7 hv7 hx8 => jx (Zak (js := []) ld cl34 (Zex k i1.Dot v7 hv7) .func (.cons tR .nil) rfl) fun _ => jmv rfl rfl <| jT (ov (PTR gb2 (0 + 2))) rfl rfl rfl rfl (fun hq9 => Zaa (off := 2) lb ZgH tR) <| jT (ov (PTR gb2 ((0 + 2) + 0))) rfl rfl rfl rfl (fun hq10 => Zaa (off := 0) lb ZlY (HasO.cnd tR hq10)) <| JL.sub ⟨[(1, ov (PTR gb2 0)), (2, ov (S rB false)), (17, ov (S rB v7)), (19, bif v7 then ov (PTR gb2 ((0 + 2) + 0)) else .one .und)], [cvar gb2 Zaj i1], []⟩ (.cons rfl (.cons rfl (.cons rfl (.cons rfl .nil)))) rfl rfl <| jT (ov (S rS i1.Key.Topic)) rfl rfl rfl rfl (fun hq11 => Zam (j := 0) lb tS9 (HasO.cnd tR hq11) rfl (Comp.trans (cT (ZbR i1) rfl) (Zdz i1.Key) (lE rfl)) rfl rfl) ?_
 obtain ⟨v8, hv8, hx8⟩ := Zaz hx8
 refine jT (ov (S rB v8)) rfl rfl rfl rfl (fun hq12 => (Zak (js := []) ld cl71 (Zdd k i1.Key.Topic v8 (ifT hv8 hq12)) .func (.cons (HasO.cnd tR hq12) .nil) rfl).post (fun _ => Imp.refl)) <| lI hx8 fun v9 hv9 hx8 => jc (Zas lb tR (fun hb13 => (HasO.cnd tR hb13)) (fun hb13 => .cB) hv9) <| jmv rfl rfl <| jT (ov (PTR gb2 (0 + 2))) rfl rfl rfl rfl (fun hq14 => Zaa (off := 2) lb ZgH tR) <| jT (ov (PTR gb2 ((0 + 2) + 1))) rfl rfl rfl rfl (fun hq15 => Zaa (off := 1) lb ZlR (HasO.cnd tR hq15)) <| jT (ov (S rS i1.Key.Device)) rfl rfl rfl rfl (fun hq16 => Zam (j := 0) lb tS9 (HasO.cnd tR hq16) rfl (Comp.trans (cT (ZbR i1) rfl) (Zdq i1.Key) (lE rfl)) rfl rfl) <| bI hx8 fun v10 hv10 hx8 => jT (ov (S rB v10)) rfl rfl rfl rfl (fun hq17 => (Zak (js := []) ld cl71 (Zdd k i1.Key.Device v10 (ifT hv10 hq17)) .func (.cons (HasO.cnd tR hq17) .nil) rfl).post (fun _ => Imp.refl)) ?_
 obtain ⟨v11, hv11, hx8⟩ := ZaT hx8
 refine jc (Zas lb tR (fun hb18 => (HasO.cnd tR hb18)) (fun hb18 => .cB) hv11) <| jc (Zac lb tR) <| JL.nil ?_
 try obtain rfl := so hx8
 exact jo rfl rfl rfl

theorem Zhk (k : Nat) (i1 : Zal) (r : Bool) (hm : Zdv k i1 = some r) : Sim Tryz.prog 81 [A Zaj i1] [] (γ := Unit) (fun q => []) (fun q => .one (.val (S rB r))) := by
 unfold Zdv at hm
 refine Sim.of Tryz.func81 rfl rfl (lE rfl) (fun e0 w0 => ?_)
 refine JC.at ⟨[(0, ov (A Zaj i1))], [], []⟩ <| jr <| jx (ZaZ lb tR) fun gb2 => jc (Zac lb .cB) <| jn <| jr <| jc (ZaB (j := 0) lb tA62 tR rfl (Comp.self Zaj i1) rfl) <| bI hm fun v3 hv3 hm => jx (Zak (js := []) ld cl20 (Zhc k i1 v3 hv3) .func (.cons tR .nil) rfl) fun _ => lI hm fun v4 hv4 hm => jc (ZbU lb tR hv4) <| jc (Zac lb tR) <| jn <| JC.ret ?_
 obtain rfl := so hm
 exact jd (.val (S rB v4)) rfl rfl rfl rfl rfl rfl

theorem Zdi (k : Nat) (s1 : (List Zal)) (r : Int) (hm : slices_IndexFuncapi_Item_api_Item k s1 = some r) : Sim Tryz.prog 111 [S (rL Zaj) s1, CLO 81 []] [] (γ := Unit) (fun q => []) (fun q => .one (.val (S (rI .i64) r))) := by
 unfold slices_IndexFuncapi_Item_api_Item at hm
 refine Sim.of Tryz.func111 rfl rfl (lE rfl) (fun e0 w0 => ?_)
 refine JC.at ⟨[(0, ov (S (rL Zaj) s1)), (1, ov (CLO 81 []))], [], []⟩ <| jr <| jc (Zac lb .cI) <| jn <| bI hm fun tv1 hx1 hq1 => JC.seqK (α := Unit) (γ := Unit) (stj := fun v q => ⟨[], [], []⟩) (p := fun v => tv1 = (.inl v)) (fun v q hv => ?_) ?_
 · subst hv
   skip
   obtain _ := q
   dsimp only at hq1
   refine JC.at ⟨[], [], []⟩ <| jr <| jc (Zac lb .cI) <| jn <| JC.ret ?_
   obtain rfl := so hq1
   exact jd (.val (S (rI .i64) (-1 : Int))) rfl rfl rfl rfl rfl rfl
 refine jr <| jmv rfl rfl <| jc (ZaI lb tu23 tR) <| jc (ZaC lb .cI) <| jn <| JC.block <| bI hx1 fun tv2 hL2 hq2 => JC.pre ?_ (JC.loop (γ := Unit) (stf := fun s q => ⟨[(0, ov (S (rL Zaj) s1)), (1, ov (CLO 81 [])), (7, ov (S (rI .i64) (List.length s1 : Int))), (8, ov (S (rI .i64) s))], [], []⟩) (q := ()) hL2 ?_)
 · exact (Imp.norm (js := []) rfl (.cons rfl (.cons rfl (.cons rfl (.cons rfl .nil)))))
 intro x2 q x hx hr
 obtain _ := q
 change slices_IndexFuncapi_Item_api_Item.b1 k s1 x2 = some x at hx
 unfold slices_IndexFuncapi_Item_api_Item.b1 at hx
 refine JC.at ⟨[(0, ov (S (rL Zaj) s1)), (1, ov (CLO 81 [])), (7, ov (S (rI .i64) (List.length s1 : Int))), (8, ov (S (rI .i64) x2))], [], []⟩ <| jr <| lI hx fun v3 hv3 hx => jc (Zar lb tR tR (cs hv3)) <| jn <| JC.seq <| jif tR hx (fun hc3 hx => ?_) (fun hc3 hx => ?_)
 · refine JC.skip <| JQ.then <| JC.seq <| JC.block <| jr <| jmv rfl rfl <| jc (Zac lb tR) <| jn <| jr <| jmv rfl rfl <| jmv rfl rfl <| jmv rfl rfl <| bI hx fun v4 hv4 hx => jc (Zau lb tu23 tz62 tR tR hv4) <| jc (ZaS lb tA62 tR rfl) <| bI hx fun v5 hv5 hx => jx (Zak (js := []) ld cl81 (Zhk k v4 v5 hv5) tR (.cons tR .nil) rfl) fun _ => jn ?_
   refine jif tR hx (fun hc4 hx => ?_) (fun hc4 hx => ?_)
   · refine jr <| jmv rfl rfl <| jc (Zac lb tR) <| jn <| JC.ret <| JQ.outRB <| JQ.outR ?_
     try obtain rfl := so hx
     try obtain rfl := hr _ rfl
     dsimp only at hq2
     refine JQ.outR <| JQ.outRB ?_
     try obtain rfl := so hq2
     dsimp only at hq1
     refine JQ.outR ?_
     obtain rfl := so hq1
     exact jd (.val (S (rI .i64) x2)) rfl rfl rfl rfl rfl rfl
   refine JC.skip <| JQ.outNB <| JQ.then <| JC.region <| lI hx fun v6 hv6 hx => jc (ZaX lb tR .cI (cs hv6)) <| jmv rfl rfl <| JL.nil ?_
   try obtain rfl := so hx
   exact JQ.next () rfl (Imp.norm (js := []) rfl (.cons rfl (.cons rfl (.cons rfl (.cons rfl .nil)))))
 refine JC.exit <| JQ.outX ?_
 try obtain rfl := so hx
 try obtain rfl := hr _ rfl
 dsimp only at hq2
 refine JQ.outX <| JQ.here ?_
 try obtain rfl := so hq2
 exact JQ.joinK () () rfl (Imp.norm (js := []) rfl .nil)

end Go.Proofs.YtklnihlchhhhlaaGreat
