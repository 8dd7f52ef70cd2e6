/- Walks. -/
import Derived.Test.YtklnihlchhhhlaaGreatT
namespace Go.Proofs.YtklnihlchhhhlaaGreat
open Go Fw
set_option linter.unusedVariables false
set_option maxRecDepth 100000
set_option maxHeartbeats 4000000

theorem Zh9 (k : Nat) (l_1 : (List Zap)) (r : Bool) (hm : ref11_Long k l_1 = some r) : Sim Tryz.prog 19 [S (rL Zaj) l_1] [] (γ := Unit) (fun q => []) (fun q => .one (.val (S rB r))) := by
 unfold ref11_Long at hm
 refine Sim.of Tryz.func19 rfl rfl (lE rfl) (fun e0 w0 => ?_)
 refine JC.at ⟨[(0, ov (S (rL Zaj) l_1))], [], []⟩ <| jr <| jc (Zab lb .cB) <| jn <| jr <| jc (Zab lb .cI) <| jn <| bI hm fun tv1 hx1 hq1 => JC.seqK (α := Unit) (γ := Unit) (stj := fun v q => ⟨[(0, ov (S (rL Zaj) l_1))], [], []⟩) (p := fun v => tv1 = (.inl v)) (fun v q hv => ?_) ?_
 · subst hv
   skip
   obtain _ := q
   dsimp only at hq1
   refine JC.at ⟨[(0, ov (S (rL Zaj) l_1))], [], []⟩ <| jr <| jmv rfl rfl <| jc (ZaE lb tu23 tR) <| lI hq1 fun v16 hv_16 hq1 => jc (Zaq lb tR .cI (cs hv_16)) <| jc (Zab lb tR) <| jn <| JC.ret ?_
   obtain rfl := so hq1
   exact jd (.val (S rB v16)) rfl rfl rfl rfl rfl rfl
 refine jr <| jc (Zab lb .cI) <| jn <| JC.block <| bI hx1 fun tv2 hL2 hq2 => JC.pre ?_ (JC.loop (γ := Unit) (stf := fun s q => ⟨[(0, ov (S (rL Zaj) l_1)), (3, ov (S (rI .i64) s.1)), (4, ov (S (rI .i64) s.2))], [], []⟩) (q := ()) hL2 ?_)
 · exact (Imp.norm (js := []) rfl (.cons rfl (.cons rfl (.cons rfl .nil))))
 intro s q x hx hr
 obtain ⟨n_2, i_3⟩ := s
 obtain _ := q
 change ref11_Long.b1 k l_1 n_2 i_3 = some x at hx
 unfold ref11_Long.b1 at hx
 refine JC.at ⟨[(0, ov (S (rL Zaj) l_1)), (3, ov (S (rI .i64) n_2)), (4, ov (S (rI .i64) i_3))], [], []⟩ <| JC.seq <| bI hx fun x_7 hx3 hq3 => JC.seqJ (γ := Unit) (stj := fun _ => ⟨[(0, ov (S (rL Zaj) l_1)), (3, ov (S (rI .i64) n_2)), (4, ov (S (rI .i64) i_3)), (12, ov (S rB x_7))], [], []⟩) (fun _ => ?_) ?_
 · refine jif tR hq3 (fun hc7 hq3 => ?_) (fun hc7 hq3 => ?_)
   · refine JC.skip <| JQ.then <| JC.seq <| JC.block <| JC.seq <| bI hq3 fun v8 hv_8 hq3 => lI hq3 fun v9 hv_9 hq3 => lI hq3 fun v10 hv_10 hq3 => bI hq3 fun v11 hv_11 hq3 => lI hq3 fun v12 hv_12 hq3 => ?_
     obtain ⟨v13, hv_13, hq3⟩ := ZaQ hq3
     refine JC.anyE (kl := [3]) (kk := 19) (base := [(0, ov (S (rL Zaj) l_1)), (3, ov (S (rI .i64) n_2)), (4, ov (S (rI .i64) i_3))])
         (fs := fun γ => [⟨some 15, ov (S (rI .i64) n_2)⟩, ⟨some 16, ov (S (rL Zaj) l_1)⟩, ⟨some 17, ov (S (rI .i64) i_3)⟩, ⟨some 18, ov (PT Zaj v8)⟩, ⟨some 19, ov (PT Zck v8.Key)⟩, ⟨some 20, ov (PT rS v8.Key.Topic)⟩, ⟨some 21, ov (S rS v8.Key.Topic)⟩, ⟨some 22, ov (S (rI .i64) (List.length v8.Key.Topic : Int))⟩, ⟨some 23, ov (S (rI .i64) v9)⟩, ⟨some 24, ov (S (rI .i64) v10)⟩, ⟨some 25, ov (S (rL Zaj) l_1)⟩, ⟨some 26, ov (S (rI .i64) i_3)⟩, ⟨some 27, ov (PT Zaj v11)⟩, ⟨some 28, ov (PT Zck v11.Key)⟩, ⟨some 29, ov (PT rS v11.Key.Device)⟩, ⟨some 30, ov (S rS v11.Key.Device)⟩, ⟨some 31, ov (S (rI .i64) (List.length v11.Key.Device : Int))⟩, ⟨some 32, ov (S (rI .i64) v12)⟩, ⟨some 33, ov (S (rI .i64) v13)⟩, ⟨some 3, ov (S (rI .i64) v13)⟩])
         (rs := fun γ => [])
         (ds := [15, 16, 17, 18, 19, 20, 21, 22, 23, 24, 25, 26, 27, 28, 29, 30, 31, 32, 33, 3]) (bs := [0, 3, 4]) (afts := nn 20) (js := []) ZbT (.cons rfl (.cons rfl (.cons rfl .nil))) (fun _ => rfl)
         (by
      refine db 1 3 <| db 2 0 <| db 3 4 <| dS 4 (fun γ ρ B hb hd => Zau lb tu23 tz62 (tl hd 1 16) (tl hd 2 17) hv_8) <| dS 5 (fun γ ρ B hb hd => Zbm lb Zfa (tl hd 3 18) (Za8 v8)) ?_
      refine dS 6 (fun γ ρ B hb hd => Zbm lb Zjk (tl hd 4 19) (Zb5 v8.Key)) <| dS 7 (fun γ ρ B hb hd => Zbe lb tS9 rfl (tl hd 5 20) rfl) <| dS 8 (fun γ ρ B hb hd => ZfR lb tu9 (tl hd 6 21)) <| dS 9 (fun γ ρ B hb hd => Zi2 lb (tl hd 7 22) .cI hv_9) <| dS 10 (fun γ ρ B hb hd => ZaY lb (tl hd 0 15) (tl hd 8 23) (cs hv_10)) ?_
      refine db 11 0 <| db 12 4 <| dS 13 (fun γ ρ B hb hd => Zau lb tu23 tz62 (tl hd 10 25) (tl hd 11 26) hv_11) <| dS 14 (fun γ ρ B hb hd => Zbm lb Zfa (tl hd 12 27) (Za8 v11)) <| dS 15 (fun γ ρ B hb hd => Zbm lb Zi9 (tl hd 13 28) (ZbY v11.Key)) ?_
      refine dS 16 (fun γ ρ B hb hd => Zbe lb tS9 rfl (tl hd 14 29) rfl) <| dS 17 (fun γ ρ B hb hd => ZfR lb tu9 (tl hd 15 30)) <| dS 18 (fun γ ρ B hb hd => Zi2 lb (tl hd 16 31) .cI hv_12) <| dS 19 (fun γ ρ B hb hd => ZaY lb (tl hd 9 24) (tl hd 17 32) (cs hv_13)) <| dS 20 (fun γ ρ B hb hd => Zab lb (tl hd 18 33)) ?_
      exact ZaG.nil)
         (by decide +kernel) (fun _ => rfl) rfl (fun _ => rfl) (fun _ => rfl) rfl (by decide) (by decide) (by decide +kernel) (fun _ d h => by simp at h; subst h; exact ⟨_, rfl, rfl⟩)
         (ρ' := fun γ => [(0, ov (S (rL Zaj) l_1)), (3, ov (S (rI .i64) v13)), (4, ov (S (rI .i64) i_3))])
         (X' := fun γ => [])
         (fun γ ρ hb hd => (.cons (hb 0 _ rfl (by decide)) (.cons (hdq hd 19 3 rfl) (.cons (hb 4 _ rfl (by decide)) .nil)))) (fun _ => rfl) (fun γ => ?_)
     refine JQ.at ⟨[(0, ov (S (rL Zaj) l_1)), (3, ov (S (rI .i64) v13)), (4, ov (S (rI .i64) i_3))], [], []⟩ <| JQ.then <| jr <| jmv rfl rfl <| lI hq3 fun v14 hv_14 hq3 => jc (Zaq lb tR .cI (cs hv_14)) <| jn <| jif tR hq3 (fun hc8 hq3 => ?_) (fun hc8 hq3 => ?_)
     · refine jr <| jc (Zab lb .cB) <| jn <| JC.ret <| JQ.outRB <| JQ.outR ?_
       try obtain rfl := so hq3
       try obtain rfl := hr _ rfl
       dsimp only at hq2
       refine JQ.outR <| JQ.outRB ?_
       try obtain rfl := so hq2
       dsimp only at hq1
       refine JQ.outR ?_
       obtain rfl := so hq1
       exact jd (.val (S rB true)) rfl rfl rfl rfl rfl rfl
     refine JC.skip <| JQ.outNB <| JQ.then <| JC.region <| jmv rfl rfl <| lI hq3 fun v15 hv_15 hq3 => jc (ZaY lb tR .cI (cs hv_15)) <| jc (Zab lb tR) <| JL.nil ?_
     try obtain rfl := so hq3
     exact JQ.next () rfl (Imp.norm (js := []) rfl (.cons rfl (.cons rfl (.cons rfl .nil))))
   refine JC.exit <| JQ.outX ?_
   try obtain rfl := so hq3
   try obtain rfl := hr _ rfl
   dsimp only at hq2
   refine JQ.outX <| JQ.here ?_
   try obtain rfl := so hq2
   exact JQ.joinK () () rfl (Imp.norm (js := []) rfl (.cons rfl .nil))
 refine JC.region <| jmv rfl rfl <| jmv rfl rfl <| jc (ZaE lb tu23 tR) <| lI hx3 fun v4 hv_4 hx3 => jc (Zaq lb tR tR (cs hv_4)) <| jmv rfl rfl <| jT (ov (S (rI .i64) i_3)) rfl rfl rfl rfl (fun hq_4 => Zax lb tR) <| lI hx3 fun v5 hv_5 hx3 => jT (ov (S rB v5)) rfl rfl rfl rfl (fun hq_5 => Zaq lb (HasO.cnd tR hq_5) .cI (cs hv_5)) <| lI hx3 fun v6 hv_6 hx3 => jc (Zao lb tR (fun hb6 => (HasO.cnd tR hb6)) (fun hb6 => .cB) hv_6) <| JL.nil ?_
 try obtain rfl := so hx3
 exact JQ.join () (Imp.norm (js := []) rfl (.cons rfl (.cons rfl (.cons rfl (.cons rfl .nil)))))

theorem Zh7 (k : Nat) (e_1 : Zar) (r : Bool) (hm : ref09_Much k e_1 = some r) : Sim Tryz.prog 26 [A Zam e_1] [] (γ := Unit) (fun q => []) (fun q => .one (.val (S rB r))) := by
 unfold ref09_Much at hm
 refine Sim.of Tryz.func26 rfl rfl (lE rfl) (fun e0 w0 => ?_)
 refine JC.at ⟨[(0, ov (A Zam e_1))], [], []⟩ <| jr <| jx (ZaX lb tR) fun gb_2 => jc (Zab lb .cB) <| jn <| JC.seq <| bI hm fun x_8 hx1 hq1 => JC.seqJ (γ := Unit) (stj := fun _ => ⟨[(1, ov (PTR gb_2 0)), (20, ov (S rB x_8))], [cvar gb_2 Zam e_1], []⟩) (fun _ => ?_) ?_
 · refine jif tR hq1 (fun hc12 hq1 => ?_) (fun hc12 hq1 => ?_)
   · refine jr <| jc (Zab lb .cB) <| jn <| JC.ret <| JQ.outR ?_
     obtain rfl := so hq1
     exact jd (.val (S rB true)) rfl rfl rfl rfl rfl rfl
   refine JC.skip <| JQ.then <| jr <| jc (Zab lb .cI) <| jn <| bI hq1 fun tv13 hx13 hq13 => JC.seqK (α := Unit) (γ := Unit) (stj := fun v q => ⟨[], [], []⟩) (p := fun v => tv13 = (.inl v)) (fun v q hv => ?_) ?_
   · subst hv
     skip
     obtain _ := q
     dsimp only at hq13
     refine JC.at ⟨[], [], []⟩ <| jr <| jc (Zab lb .cB) <| jn <| JC.ret ?_
     obtain rfl := so hq13
     exact jd (.val (S rB false)) rfl rfl rfl rfl rfl rfl
   refine jr <| jc (Zab lb .cI) <| jn <| JC.block <| bI hx13 fun tv14 hL14 hq14 => JC.pre ?_ (JC.loop (γ := Unit) (stf := fun s q => ⟨[(1, ov (PTR gb_2 0)), (3, ov (S (rI .i64) s.1)), (4, ov (S (rI .i64) s.2))], [cvar gb_2 Zam e_1], []⟩) (q := ()) hL14 ?_)
   · exact (Imp.norm (js := [0]) rfl (.cons rfl (.cons rfl (.cons rfl .nil))))
   intro s q x hx hr
   obtain ⟨n_9, i_10⟩ := s
   obtain _ := q
   change ref09_Much.b1 k e_1 n_9 i_10 = some x at hx
   unfold ref09_Much.b1 at hx
   refine JC.at ⟨[(1, ov (PTR gb_2 0)), (3, ov (S (rI .i64) n_9)), (4, ov (S (rI .i64) i_10))], [cvar gb_2 Zam e_1], []⟩ <| JC.seq <| jr <| jmv rfl rfl <| jc (Zaa (off := 20) lb ZcR tR) <| jc (Zai (j := 0) lb tS30 tR rfl (cT (ZaL e_1) rfl) rfl rfl) <| jc (ZaE lb tu30 tR) <| lI hx fun v11 hv_11 hx => jc (Zaq lb tR tR (cs hv_11)) <| jn <| jif tR hx (fun hc15 hx => ?_) (fun hc15 hx => ?_)
   · refine JC.skip <| JQ.then <| JC.seq <| JC.block <| jr <| jmv rfl rfl <| jc (Zaa (off := 20) lb ZcR tR) <| jc (Zai (j := 0) lb tS30 tR rfl (cT (ZaL e_1) rfl) rfl rfl) <| jmv rfl rfl <| bI hx fun v12 hv_12 hx => jc (Zau lb tu30 Zhc tR tR hv_12) <| jc (Zbm lb ZiX tR (Zcj v12)) <| jc (Zbe lb tS9 rfl tR rfl) <| JL.sub ⟨[(1, ov (PTR gb_2 0)), (3, ov (S (rI .i64) n_9)), (4, ov (S (rI .i64) i_10)), (28, ov (S (rI .i64) n_9)), (34, ov (S rS v12.Device))], [cvar gb_2 Zam e_1], []⟩ (.cons rfl (.cons rfl (.cons rfl (.cons rfl (.cons rfl .nil))))) rfl rfl <| jc (ZfR lb tu9 tR) <| lI hx fun v13 hv_13 hx => jc (Zi2 lb tR .cI hv_13) ?_
     refine lI hx fun v14 hv_14 hx => jc (ZaY lb tR tR (cs hv_14)) <| jc (Zab lb tR) <| jn <| jr <| jmv rfl rfl <| lI hx fun v15 hv_15 hx => jc (Zaq lb tR .cI (cs hv_15)) <| jn <| jif tR hx (fun hc16 hx => ?_) (fun hc16 hx => ?_)
     · refine jr <| jc (Zab lb .cB) <| jn <| JC.ret <| JQ.outRB <| JQ.outR ?_
       try obtain rfl := so hx
       try obtain rfl := hr _ rfl
       dsimp only at hq14
       refine JQ.outR <| JQ.outRB ?_
       try obtain rfl := so hq14
       dsimp only at hq13
       refine JQ.outR ?_
       obtain rfl := so hq13
       exact jd (.val (S rB true)) rfl rfl rfl rfl rfl rfl
     refine JC.skip <| JQ.outNB <| JQ.then <| JC.region <| jmv rfl rfl <| lI hx fun v16 hv_16 hx => jc (ZaY lb tR .cI (cs hv_16)) <| jc (Zab lb tR) <| JL.nil ?_
     try obtain rfl := so hx
     exact JQ.next () rfl (Imp.norm (js := [0]) rfl (.cons rfl (.cons rfl (.cons rfl .nil))))
   refine JC.exit <| JQ.outX ?_
   try obtain rfl := so hx
   try obtain rfl := hr _ rfl
   dsimp only at hq14
   refine JQ.outX <| JQ.here ?_
   try obtain rfl := so hq14
   exact JQ.joinK () () rfl (Imp.norm (js := []) rfl .nil)
 refine JC.region <| jc (Zaa (off := 2) lb Zhl tR) <| jc (Zai (j := 0) lb tS9 tR rfl (cT (Zbk e_1) rfl) rfl rfl) <| jc (ZfR lb tu9 tR) <| lI hx1 fun v3 hv_3 hx1 => jc (Zaq lb tR .cI (cs hv_3)) <| jmv rfl rfl <| jF (ov (PTR gb_2 (0 + 3))) rfl rfl rfl rfl (fun hq_2 => Zaa (off := 3) lb Zhg tR) <| jF (ov (S (rL (rU UInt8)) e_1.Payload)) rfl rfl rfl rfl (fun hq_3 => Zai (j := 0) lb tS27 (HasO.cnd tR (notT (notF hq_3))) rfl (cT (Za7 e_1) rfl) rfl rfl) <| jF (ov (S (rI .i64) (List.length e_1.Payload : Int))) rfl rfl rfl rfl (fun hq_4 => ZaE lb tu27 (HasO.cnd tR (notT (notF hq_4)))) <| JL.sub ⟨[(1, ov (PTR gb_2 0)), (9, ov (S rB v3)), (12, bif (!v3) then ov (S (rI .i64) (List.length e_1.Payload : Int)) else .one .und)], [cvar gb_2 Zam e_1], []⟩ (.cons rfl (.cons rfl (.cons rfl .nil))) rfl rfl <| lI hx1 fun v4 hv_4 hx1 => jF (ov (S rB v4)) rfl rfl rfl rfl (fun hq_5 => Zaq lb (HasO.cnd tR (notT (notF hq_5))) .cI (cs hv_4)) ?_
 refine lI hx1 fun v5 hv_5 hx1 => jc (Zao lb tR (fun hb6 => .cB) (fun hb6 => (HasO.cnd tR (notT hb6))) hv_5) <| jmv rfl rfl <| jF (ov (PTR gb_2 (0 + 20))) rfl rfl rfl rfl (fun hq_7 => Zaa (off := 20) lb ZcR tR) <| jF (ov (S (rL Zat) e_1.To)) rfl rfl rfl rfl (fun hq_8 => Zai (j := 0) lb tS30 (HasO.cnd tR (notT (notF hq_8))) rfl (cT (ZaL e_1) rfl) rfl rfl) <| jF (ov (S (rI .i64) (List.length e_1.To : Int))) rfl rfl rfl rfl (fun hq_9 => ZaE lb tu30 (HasO.cnd tR (notT (notF hq_9)))) <| lI hx1 fun v6 hv_6 hx1 => jF (ov (S rB v6)) rfl rfl rfl rfl (fun hq_10 => Zaq lb (HasO.cnd tR (notT (notF hq_10))) .cI (cs hv_6)) <| lI hx1 fun v7 hv_7 hx1 => jc (Zao lb tR (fun hb11 => .cB) (fun hb11 => (HasO.cnd tR (notT hb11))) hv_7) <| JL.nil ?_
 try obtain rfl := so hx1
 exact JQ.join () (Imp.norm (js := [0]) rfl (.cons rfl (.cons rfl .nil)))

theorem Zik (k : Nat) (f_1 : Zah) (r : Bool) (hm : ZeY k f_1 = some r) : Sim Tryz.prog 8 [A Zae f_1] [] (γ := Unit) (fun q => []) (fun q => .one (.val (S rB r))) := by
 unfold ZeY at hm
 refine Sim.of Tryz.func8 rfl rfl (lE rfl) (fun e0 w0 => ?_)
 refine JC.at ⟨[(0, ov (A Zae f_1))], [], []⟩ <| jr <| jx (ZaX lb tR) fun gb_2 => jc (Zab lb .cB) <| jn <| bI hm fun x_14 hx1 hq1 => JC.seqJ (γ := Unit) (stj := fun _ => ⟨[(2, ov (S rB x_14))], [], []⟩) (fun _ => ?_) ?_
 · refine JC.ret ?_
   obtain rfl := so hq1
   exact jd (.val (S rB x_14)) rfl rfl rfl rfl rfl rfl
 refine JC.region <| jc (Zaa (off := 3) lb ZcK tR) <| jc (Zai (j := 0) lb tS23 tR rfl (cT (ZaH f_1) rfl) rfl rfl) <| bI hx1 fun v3 hv_3 hx1 => jx (Zak (js := []) ld cl19 (Zh9 k f_1.Items v3 hv_3) .func (.cons tR .nil) rfl) fun _ => jmv rfl rfl <| jF (ov (PTR gb_2 (0 + 4))) rfl rfl rfl rfl (fun hq_2 => Zaa (off := 4) lb Zgi tR) <| jF (ov (A Zam f_1.Event)) rfl rfl rfl rfl (fun hq_3 => Zaw (j := 0) lb tA32 (HasO.cnd tR (notT (notF hq_3))) rfl (cT (Zbl f_1) rfl) rfl) <| bI hx1 fun v4 hv_4 hx1 => jF (ov (S rB v4)) rfl rfl rfl rfl (fun hq_4 => (Zak (js := []) ld cl26 (Zh7 k f_1.Event v4 (ifT hv_4 hq_4)) .func (.cons (HasO.cnd tR (notT (notF hq_4))) .nil) rfl).post (fun _ => Imp.refl)) ?_
 obtain ⟨v5, hv_5, hx1⟩ := ZaQ hx1
 refine jc (Zao lb tR (fun hb5 => .cB) (fun hb5 => (HasO.cnd tR (notT hb5))) hv_5) <| JL.sub ⟨[(1, ov (PTR gb_2 0)), (2, ov (S rB false)), (10, ov (S rB v5))], [cvar gb_2 Zae f_1], []⟩ (.cons rfl (.cons rfl (.cons rfl .nil))) rfl rfl <| jmv rfl rfl <| jF (ov (PTR gb_2 (0 + 57))) rfl rfl rfl rfl (fun hq_6 => Zaa (off := 57) lb ZeH tR) <| jF (ov (S (rL Zad) f_1.Extra)) rfl rfl rfl rfl (fun hq_7 => Zai (j := 0) lb tS33 (HasO.cnd tR (notT (notF hq_7))) rfl (cT (Za3 f_1) rfl) rfl rfl) <| jF (ov (S (rI .i64) (List.length f_1.Extra : Int))) rfl rfl rfl rfl (fun hq_8 => ZaE lb tu33 (HasO.cnd tR (notT (notF hq_8)))) <| lI hx1 fun v6 hv_6 hx1 => jF (ov (S rB v6)) rfl rfl rfl rfl (fun hq_9 => Zaq lb (HasO.cnd tR (notT (notF hq_9))) .cI (cs hv_6)) ?_
 obtain ⟨v7, hv_7, hx1⟩ := ZaQ hx1
 refine jc (Zao lb tR (fun hb10 => .cB) (fun hb10 => (HasO.cnd tR (notT hb10))) hv_7) <| jmv rfl rfl <| jF (ov (PTR gb_2 (0 + 58))) rfl rfl rfl rfl (fun hq_11 => Zaa (off := 58) lb Zd6 tR) <| jF (ov (S (rL Zad) f_1.Live)) rfl rfl rfl rfl (fun hq_12 => Zai (j := 0) lb tS33 (HasO.cnd tR (notT (notF hq_12))) rfl (cT (ZaT f_1) rfl) rfl rfl) <| jF (ov (S (rI .i64) (List.length f_1.Live : Int))) rfl rfl rfl rfl (fun hq_13 => ZaE lb tu33 (HasO.cnd tR (notT (notF hq_13)))) <| lI hx1 fun v8 hv_8 hx1 => jF (ov (S rB v8)) rfl rfl rfl rfl (fun hq_14 => Zaq lb (HasO.cnd tR (notT (notF hq_14))) .cI (cs hv_8)) <| lI hx1 fun v9 hv_9 hx1 => jc (Zao lb tR (fun hb15 => .cB) (fun hb15 => (HasO.cnd tR (notT hb15))) hv_9) <| JL.sub ⟨[(1, ov (PTR gb_2 0)), (2, ov (S rB false)), (22, ov (S rB v9))], [cvar gb_2 Zae f_1], []⟩ (.cons rfl (.cons rfl (.cons rfl .nil))) rfl rfl ?_
 refine jmv rfl rfl <| jF (ov (PTR gb_2 (0 + 91))) rfl rfl rfl rfl (fun hq_16 => Zaa (off := 91) lb ZeT tR) <| jF (ov (S (rL (rV 32 (rU UInt8))) f_1.Leaves)) rfl rfl rfl rfl (fun hq_17 => Zai (j := 0) lb tS36 (HasO.cnd tR (notT (notF hq_17))) rfl (cT (Zbd f_1) rfl) rfl rfl) <| jF (ov (S (rI .i64) (List.length f_1.Leaves : Int))) rfl rfl rfl rfl (fun hq_18 => ZaE lb tu36 (HasO.cnd tR (notT (notF hq_18)))) <| lI hx1 fun v10 hv_10 hx1 => jF (ov (S rB v10)) rfl rfl rfl rfl (fun hq_19 => Zaq lb (HasO.cnd tR (notT (notF hq_19))) .cI (cs hv_10)) <| lI hx1 fun v11 hv_11 hx1 => jc (Zao lb tR (fun hb20 => .cB) (fun hb20 => (HasO.cnd tR (notT hb20))) hv_11) <| jmv rfl rfl <| jF (ov (PTR gb_2 (0 + 92))) rfl rfl rfl rfl (fun hq_21 => Zaa (off := 92) lb ZcE tR) ?_
 refine jF (ov (S (rL (rI .i64)) f_1.Buckets)) rfl rfl rfl rfl (fun hq_22 => Zai (j := 0) lb tS37 (HasO.cnd tR (notT (notF hq_22))) rfl (cT (ZaJ f_1) rfl) rfl rfl) <| jF (ov (S (rI .i64) (List.length f_1.Buckets : Int))) rfl rfl rfl rfl (fun hq_23 => ZaE lb tu37 (HasO.cnd tR (notT (notF hq_23)))) <| lI hx1 fun v12 hv_12 hx1 => jF (ov (S rB v12)) rfl rfl rfl rfl (fun hq_24 => Zaq lb (HasO.cnd tR (notT (notF hq_24))) .cI (cs hv_12)) <| lI hx1 fun v13 hv_13 hx1 => jc (Zao lb tR (fun hb25 => .cB) (fun hb25 => (HasO.cnd tR (notT hb25))) hv_13) <| JL.nrm ⟨[(2, ov (S rB false)), (34, ov (S rB v13))], [], []⟩ [] rfl (.cons rfl (.cons rfl .nil)) rfl <| jc (Zab lb tR) <| JL.nil ?_
 try obtain rfl := so hx1
 exact jo rfl rfl rfl

theorem Zih (k : Nat) (a_1 : Zar) (b_2 : Zar) (r : Bool) (hm : ref09_Same k a_1 b_2 = some r) : Sim Tryz.prog 65 [A Zam a_1, A Zam b_2] [] (γ := Unit) (fun q => []) (fun q => .one (.val (S rB r))) := by
 unfold ref09_Same at hm
 refine Sim.of Tryz.func65 rfl rfl (lE rfl) (fun e0 w0 => ?_)
 refine JC.at ⟨[(0, ov (A Zam a_1)), (1, ov (A Zam b_2))], [], []⟩ <| jr <| jx (ZaX lb tR) fun gb_3 => jx (ZaX lb tR) fun gb_4 => jc (Zab lb .cB) <| jn <| JC.seq <| bI hm fun x_14 hx1 hq1 => JC.seqJ (γ := Unit) (stj := fun _ => ⟨[(2, ov (PTR gb_3 0)), (3, ov (PTR gb_4 0)), (42, ov (S rB x_14))], [cvar gb_3 Zam a_1, cvar gb_4 Zam b_2], []⟩) (fun _ => ?_) ?_
 · refine jif tR hq1 (fun hc30 hq1 => ?_) (fun hc30 hq1 => ?_)
   · refine jr <| jc (Zab lb .cB) <| jn <| JC.ret <| JQ.outR ?_
     obtain rfl := so hq1
     exact jd (.val (S rB false)) rfl rfl rfl rfl rfl rfl
   refine JC.skip <| JQ.then <| bI hq1 fun tv31 hx31 hq31 => JC.seqK (α := Unit) (γ := Unit) (stj := fun v q => ⟨[], [], []⟩) (p := fun v => tv31 = (.inl v)) (fun v q hv => ?_) ?_
   · subst hv
     skip
     obtain _ := q
     dsimp only at hq31
     refine JC.at ⟨[], [], []⟩ <| jr <| jc (Zab lb .cB) <| jn <| JC.ret ?_
     obtain rfl := so hq31
     exact jd (.val (S rB true)) rfl rfl rfl rfl rfl rfl
   refine jr <| jc (Zab lb .cI) <| jn <| JC.block <| bI hx31 fun tv32 hL32 hq32 => JC.pre ?_ (JC.loop (γ := Unit) (stf := fun s q => ⟨[(2, ov (PTR gb_3 0)), (3, ov (PTR gb_4 0)), (5, ov (S (rI .i64) s))], [cvar gb_3 Zam a_1, cvar gb_4 Zam b_2], []⟩) (q := ()) hL32 ?_)
   · exact (Imp.norm (js := [0, 0]) rfl (.cons rfl (.cons rfl (.cons rfl .nil))))
   intro i_15 q x hx hr
   obtain _ := q
   change ref09_Same.b1 k a_1 b_2 i_15 = some x at hx
   unfold ref09_Same.b1 at hx
   refine JC.at ⟨[(2, ov (PTR gb_3 0)), (3, ov (PTR gb_4 0)), (5, ov (S (rI .i64) i_15))], [cvar gb_3 Zam a_1, cvar gb_4 Zam b_2], []⟩ <| JC.seq <| jr <| jmv rfl rfl <| jc (Zaa (off := 20) lb ZcR tR) <| jc (Zai (j := 0) lb tS30 tR rfl (cT (ZaL a_1) rfl) rfl rfl) <| jc (ZaE lb tu30 tR) <| lI hx fun v16 hv_16 hx => jc (Zaq lb tR tR (cs hv_16)) <| jn <| jif tR hx (fun hc33 hx => ?_) (fun hc33 hx => ?_)
   · refine JC.skip <| JQ.then <| JC.seq <| JC.block <| JC.seq <| bI hx fun v17 hv_17 hx => bI hx fun v18 hv_18 hx => ?_
     obtain ⟨v19, hv_19, hx⟩ := ZaQ hx
     refine JC.anyF (base := [(2, ov (PTR gb_3 0)), (3, ov (PTR gb_4 0)), (5, ov (S (rI .i64) i_15))])
         (fs := fun γ => [⟨some 50, ov (PTR gb_3 (0 + 20))⟩, ⟨some 51, ov (S (rL Zat) a_1.To)⟩, ⟨some 52, ov (S (rI .i64) i_15)⟩, ⟨some 53, ov (PT Zat v17)⟩, ⟨some 54, ov (A Zat v17)⟩, ⟨some 55, ov (PTR gb_4 (0 + 20))⟩, ⟨some 56, ov (S (rL Zat) b_2.To)⟩, ⟨some 57, ov (S (rI .i64) i_15)⟩, ⟨some 58, ov (PT Zat v18)⟩, ⟨some 59, ov (A Zat v18)⟩, ⟨some 60, ov (S rB v19)⟩])
         (rs := fun γ => [⟨cvar gb_3 Zam a_1, none, none, [1]⟩, ⟨cvar gb_4 Zam b_2, none, none, [6]⟩])
         (afts := nn 11) (js := [0, 0]) ZbT (.cons rfl (.cons rfl (.cons rfl .nil))) (fun _ => rfl)
         (by
      refine dS 1 (fun γ ρ B hb hd => Zaa (off := 20) lb ZcR (.tmp (hb 2 _ rfl))) <| dR 2 (fun γ ρ B hb hd => Zan.lk ⟨ρ, (cvar gb_3 Zam a_1) :: B, _⟩ (Zai (j := 0) lb tS30 (tl hd 0 50) rfl (cT (ZaL a_1) rfl) rfl rfl)) <| db 3 5 <| dS 4 (fun γ ρ B hb hd => Zau lb tu30 Zhc (tl hd 1 51) (tl hd 2 52) hv_17) <| dS 5 (fun γ ρ B hb hd => ZaR lb Zi5 (tl hd 3 53) rfl) ?_
      refine dS 6 (fun γ ρ B hb hd => Zaa (off := 20) lb ZcR (.tmp (hb 3 _ rfl))) <| dR 7 (fun γ ρ B hb hd => Zan.lk ⟨ρ, (cvar gb_4 Zam b_2) :: B, _⟩ (Zai (j := 0) lb tS30 (tl hd 5 55) rfl (cT (ZaL b_2) rfl) rfl rfl)) <| db 8 5 <| dS 9 (fun γ ρ B hb hd => Zau lb tu30 Zhc (tl hd 6 56) (tl hd 7 57) hv_18) <| dS 10 (fun γ ρ B hb hd => ZaR lb Zi5 (tl hd 8 58) rfl) ?_
      refine dS 11 (fun γ ρ B hb hd => Zf8 lb ZnF (by decide) ZnH (tl hd 4 54) (tl hd 9 59) hv_19) ?_
      exact ZaG.nil)
         (by decide +kernel) (fun _ => rfl) (fun _ => rfl) (fun _ => rfl) rfl
         (ρ' := fun γ => [(2, ov (PTR gb_3 0)), (3, ov (PTR gb_4 0)), (5, ov (S (rI .i64) i_15)), (60, ov (S rB v19))])
         (X' := fun γ => [cvar gb_3 Zam a_1, cvar gb_4 Zam b_2])
         (fun γ ρ hb hd => (.cons (hb 2 _ rfl) (.cons (hb 3 _ rfl) (.cons (hb 5 _ rfl) (.cons (hdq hd 10 60 rfl) .nil))))) (fun _ => rfl) (fun γ => ?_)
     refine JQ.at ⟨[(2, ov (PTR gb_3 0)), (3, ov (PTR gb_4 0)), (5, ov (S (rI .i64) i_15)), (60, ov (S rB v19))], [cvar gb_3 Zam a_1, cvar gb_4 Zam b_2], []⟩ <| JQ.then <| jif tR hx (fun hc34 hx => ?_) (fun hc34 hx => ?_)
     · refine jr <| jc (Zab lb .cB) <| jn <| JC.ret <| JQ.outRB <| JQ.outR ?_
       try obtain rfl := so hx
       try obtain rfl := hr _ rfl
       dsimp only at hq32
       refine JQ.outR <| JQ.outRB ?_
       try obtain rfl := so hq32
       dsimp only at hq31
       refine JQ.outR ?_
       obtain rfl := so hq31
       exact jd (.val (S rB false)) rfl rfl rfl rfl rfl rfl
     refine JC.skip <| JQ.outNB <| JQ.then <| JC.region <| jmv rfl rfl <| lI hx fun v20 hv_20 hx => jc (ZaY lb tR .cI (cs hv_20)) <| jc (Zab lb tR) <| JL.nil ?_
     try obtain rfl := so hx
     exact JQ.next () rfl (Imp.norm (js := [0, 0]) rfl (.cons rfl (.cons rfl (.cons rfl .nil))))
   refine JC.exit <| JQ.outX ?_
   try obtain rfl := so hx
   try obtain rfl := hr _ rfl
   dsimp only at hq32
   refine JQ.outX <| JQ.here ?_
   try obtain rfl := so hq32
   exact JQ.joinK () () rfl (Imp.norm (js := []) rfl .nil)
 refine JC.region <| jc (Zaa (off := 0) lb Zel tR) <| jc (Zaw (j := 0) lb tA26 tR rfl (cT (ZaW a_1) rfl) rfl) <| jc (Zaa (off := 0) lb Zel tR) <| jc (Zaw (j := 1) lb tA26 tR rfl (cT (ZaW b_2) rfl) rfl) <| lI hx1 fun v5 hv_5 hx1 => jc (Zf8 lb qa26 (by decide) ng26 tR tR hv_5) <| JL.sub ⟨[(2, ov (PTR gb_3 0)), (3, ov (PTR gb_4 0)), (10, ov (S rB v5))], [cvar gb_3 Zam a_1, cvar gb_4 Zam b_2], []⟩ (.cons rfl (.cons rfl (.cons rfl .nil))) rfl rfl <| jmv rfl rfl <| jF (ov (PTR gb_3 (0 + 2))) rfl rfl rfl rfl (fun hq_2 => Zaa (off := 2) lb Zhl tR) <| jF (ov (S rS a_1.Topic)) rfl rfl rfl rfl (fun hq_3 => Zai (j := 0) lb tS9 (HasO.cnd tR (notT (notF hq_3))) rfl (cT (Zbk a_1) rfl) rfl rfl) <| jF (ov (PTR gb_4 (0 + 2))) rfl rfl rfl rfl (fun hq_4 => Zaa (off := 2) lb Zhl tR) <| jF (ov (S rS b_2.Topic)) rfl rfl rfl rfl (fun hq_5 => Zai (j := 1) lb tS9 (HasO.cnd tR (notT (notF hq_5))) rfl (cT (Zbk b_2) rfl) rfl rfl) ?_
 refine lI hx1 fun v6 hv_6 hx1 => jF (ov (S rB v6)) rfl rfl rfl rfl (fun hq_6 => Zhe lb (HasO.cnd tR (notT (notF hq_6))) (HasO.cnd tR (notT (notF hq_6))) (cs hv_6)) <| lI hx1 fun v7 hv_7 hx1 => jc (Zao lb tR (fun hb7 => .cB) (fun hb7 => (HasO.cnd tR (notT hb7))) hv_7) <| jmv rfl rfl <| jF (ov (PTR gb_3 (0 + 3))) rfl rfl rfl rfl (fun hq_8 => Zaa (off := 3) lb Zhg tR) <| jF (ov (S (rL (rU UInt8)) a_1.Payload)) rfl rfl rfl rfl (fun hq_9 => Zai (j := 0) lb tS27 (HasO.cnd tR (notT (notF hq_9))) rfl (cT (Za7 a_1) rfl) rfl rfl) <| jF (ov (S rS a_1.Payload)) rfl rfl rfl rfl (fun hq_10 => ZdU lb tu27 tu5 tu9 (HasO.cnd tR (notT (notF hq_10)))) <| jF (ov (PTR gb_4 (0 + 3))) rfl rfl rfl rfl (fun hq_11 => Zaa (off := 3) lb Zhg tR) <| JL.sub ⟨[(2, ov (PTR gb_3 0)), (3, ov (PTR gb_4 0)), (18, ov (S rB v7)), (21, bif (!v7) then ov (S rS a_1.Payload) else .one .und), (22, bif (!v7) then ov (PTR gb_4 (0 + 3)) else .one .und)], [cvar gb_3 Zam a_1, cvar gb_4 Zam b_2], []⟩ (.cons rfl (.cons rfl (.cons rfl (.cons rfl (.cons rfl .nil))))) rfl rfl ?_
 refine jF (ov (S (rL (rU UInt8)) b_2.Payload)) rfl rfl rfl rfl (fun hq_12 => Zai (j := 1) lb tS27 (HasO.cnd tR (notT (notF hq_12))) rfl (cT (Za7 b_2) rfl) rfl rfl) <| jF (ov (S rS b_2.Payload)) rfl rfl rfl rfl (fun hq_13 => ZdU lb tu27 tu5 tu9 (HasO.cnd tR (notT (notF hq_13)))) <| lI hx1 fun v8 hv_8 hx1 => jF (ov (S rB v8)) rfl rfl rfl rfl (fun hq_14 => Zhe lb (HasO.cnd tR (notT (notF hq_14))) (HasO.cnd tR (notT (notF hq_14))) (cs hv_8)) <| lI hx1 fun v9 hv_9 hx1 => jc (Zao lb tR (fun hb15 => .cB) (fun hb15 => (HasO.cnd tR (notT hb15))) hv_9) <| jmv rfl rfl <| jF (ov (PTR gb_3 (0 + 4))) rfl rfl rfl rfl (fun hq_16 => Zaa (off := 4) lb Zfh tR) <| jF (ov (A (rV 16 (rU UInt64)) a_1.Past)) rfl rfl rfl rfl (fun hq_17 => Zaw (j := 0) lb tA29 (HasO.cnd tR (notT (notF hq_17))) rfl (cT (ZaZ a_1) rfl) rfl) <| jF (ov (PTR gb_4 (0 + 4))) rfl rfl rfl rfl (fun hq_18 => Zaa (off := 4) lb Zfh tR) ?_
 refine jF (ov (A (rV 16 (rU UInt64)) b_2.Past)) rfl rfl rfl rfl (fun hq_19 => Zaw (j := 1) lb tA29 (HasO.cnd tR (notT (notF hq_19))) rfl (cT (ZaZ b_2) rfl) rfl) <| lI hx1 fun v10 hv_10 hx1 => jF (ov (S rB v10)) rfl rfl rfl rfl (fun hq_20 => Zf8 lb qa29 (by decide) ng29 (HasO.cnd tR (notT (notF hq_20))) (HasO.cnd tR (notT (notF hq_20))) hv_10) <| lI hx1 fun v11 hv_11 hx1 => jc (Zao lb tR (fun hb21 => .cB) (fun hb21 => (HasO.cnd tR (notT hb21))) hv_11) <| jmv rfl rfl <| JL.sub ⟨[(2, ov (PTR gb_3 0)), (3, ov (PTR gb_4 0)), (34, ov (S rB v11))], [cvar gb_3 Zam a_1, cvar gb_4 Zam b_2], []⟩ (.cons rfl (.cons rfl (.cons rfl .nil))) rfl rfl <| jF (ov (PTR gb_3 (0 + 20))) rfl rfl rfl rfl (fun hq_22 => Zaa (off := 20) lb ZcR tR) <| jF (ov (S (rL Zat) a_1.To)) rfl rfl rfl rfl (fun hq_23 => Zai (j := 0) lb tS30 (HasO.cnd tR (notT (notF hq_23))) rfl (cT (ZaL a_1) rfl) rfl rfl) <| jF (ov (S (rI .i64) (List.length a_1.To : Int))) rfl rfl rfl rfl (fun hq_24 => ZaE lb tu30 (HasO.cnd tR (notT (notF hq_24)))) ?_
 refine jF (ov (PTR gb_4 (0 + 20))) rfl rfl rfl rfl (fun hq_25 => Zaa (off := 20) lb ZcR tR) <| jF (ov (S (rL Zat) b_2.To)) rfl rfl rfl rfl (fun hq_26 => Zai (j := 1) lb tS30 (HasO.cnd tR (notT (notF hq_26))) rfl (cT (ZaL b_2) rfl) rfl rfl) <| jF (ov (S (rI .i64) (List.length b_2.To : Int))) rfl rfl rfl rfl (fun hq_27 => ZaE lb tu30 (HasO.cnd tR (notT (notF hq_27)))) <| lI hx1 fun v12 hv_12 hx1 => jF (ov (S rB v12)) rfl rfl rfl rfl (fun hq_28 => Zaq lb (HasO.cnd tR (notT (notF hq_28))) (HasO.cnd tR (notT (notF hq_28))) (cs hv_12)) <| lI hx1 fun v13 hv_13 hx1 => jc (Zao lb tR (fun hb29 => .cB) (fun hb29 => (HasO.cnd tR (notT hb29))) hv_13) <| JL.nil ?_
 try obtain rfl := so hx1
 exact JQ.join () (Imp.norm (js := [0, 0]) rfl (.cons rfl (.cons rfl (.cons rfl .nil))))

theorem Zif (k : Nat) (t_1 : Zah) (r : Bool) (hm : Zfg k t_1 = some r) : Sim Tryz.prog 37 [A Zae t_1] [] (γ := Unit) (fun q => []) (fun q => .one (.val (S rB r))) := by
 unfold Zfg at hm
 refine Sim.of Tryz.func37 rfl rfl (lE rfl) (fun e0 w0 => ?_)
 refine JC.at ⟨[(0, ov (A Zae t_1))], [], []⟩ <| jr <| jx (ZaX lb tR) fun gb_2 => jc (Zab lb .cB) <| jn <| jr <| jc (Zaa (off := 0) lb Zeu tR) <| jc (Zai (j := 0) lb tS22 tR rfl (cT (ZaS t_1) rfl) rfl rfl) <| jc (Zab lb tR) <| jn <| JC.seq <| bI hm fun x_31 hx1 hq1 => JC.seqJ (γ := Unit) (stj := fun _ => ⟨[(1, ov (PTR gb_2 0)), (3, ov (S (rI .i64) t_1.Kind)), (75, ov (S rB x_31))], [cvar gb_2 Zae t_1], []⟩) (fun _ => ?_) ?_
 · refine jif tR hq1 (fun hc66 hq1 => ?_) (fun hc66 hq1 => ?_)
   · refine jr <| jc (Zab lb .cB) <| jn <| JC.ret <| JQ.outR ?_
     obtain rfl := so hq1
     exact jd (.val (S rB false)) rfl rfl rfl rfl rfl rfl
   refine JC.skip <| JQ.then <| JC.seq <| bI hq1 fun x_39 hx67 hq67 => JC.seqJ (γ := Unit) (stj := fun _ => ⟨[(1, ov (PTR gb_2 0)), (3, ov (S (rI .i64) t_1.Kind)), (93, ov (S rB x_39))], [cvar gb_2 Zae t_1], []⟩) (fun _ => ?_) ?_
   · refine jif tR hq67 (fun hc79 hq67 => ?_) (fun hc79 hq67 => ?_)
     · refine jr <| jc (Zab lb .cB) <| jn <| JC.ret <| JQ.outR ?_
       obtain rfl := so hq67
       exact jd (.val (S rB false)) rfl rfl rfl rfl rfl rfl
     refine JC.skip <| JQ.then <| bI hq67 fun x_43 hx80 hq80 => JC.seqJ (γ := Unit) (stj := fun _ => ⟨[(2, ov (S rB x_43))], [], []⟩) (fun _ => ?_) ?_
     · refine JC.ret ?_
       obtain rfl := so hq80
       exact jd (.val (S rB x_43)) rfl rfl rfl rfl rfl rfl
     refine JC.region <| jmv rfl rfl <| lI hx80 fun v40 hv_40 hx80 => jc (Zaq lb tR .cI (cs hv_40)) <| jmv rfl rfl <| jF (ov (PTR gb_2 (0 + 4))) rfl rfl rfl rfl (fun hq_81 => Zaa (off := 4) lb Zgi tR) <| jF (ov (A Zam t_1.Event)) rfl rfl rfl rfl (fun hq_82 => Zaw (j := 0) lb tA32 (HasO.cnd tR (notT (notF hq_82))) rfl (cT (Zbl t_1) rfl) rfl) <| jF (ov (A zq0 zq1)) rfl rfl rfl rfl (fun hq_83 => Za9 lb tZ32 zr32 tp32 .nil rfl) <| bI hx80 fun v41 hv_41 hx80 => jF (ov (S rB v41)) rfl rfl rfl rfl (fun hq_84 => (Zak (js := []) ld cl65 (Zih k t_1.Event (Zar.mk (Zaf.mk (0 : Int) (0 : UInt64)) ([] : (List UInt8)) ([] : (List UInt8)) (Vector.replicate 16 (0 : UInt64)) ([] : (List ZaA))) v41 (ifT hv_41 hq_84)) .func (.cons (HasO.cnd tR (notT (notF hq_84))) (.cons (HasO.wk (q := A Zam (Zar.mk (Zaf.mk (0 : Int) (0 : UInt64)) ([] : (List UInt8)) ([] : (List UInt8)) (Vector.replicate 16 (0 : UInt64)) ([] : (List ZaA)))) (HasO.cnd tR (notT (notF hq_84))) (wkAK (Wk.st (Wk.pair Wk.refl (Wk.pair Wk.refl (Wk.pair Wk.nil (Wk.pair Wk.refl (Wk.pair Wk.nil Wk.refl)))))))) .nil)) rfl).post (fun _ => Imp.refl)) ?_
     obtain ⟨v42, hv_42, hx80⟩ := ZaQ hx80
     refine jc (Zao lb tR (fun hb85 => .cB) (fun hb85 => (HasO.cnd tR (notT hb85))) hv_42) <| jc (Zab lb tR) <| JL.nil ?_
     try obtain rfl := so hx80
     exact jo rfl rfl rfl
   refine JC.region <| jc (Zaa (off := 41) lb Ze8 tR) <| jc (Zaw (j := 0) lb tA29 tR rfl (cT (Zbf t_1) rfl) rfl) <| jc (Za9 lb tZ29 zv29 tp29 .nil rfl) <| lI hx67 fun v32 hv_32 hx67 => jc (Zf8 lb qa29 (by decide) ng29 tR tR hv_32) <| jmv rfl rfl <| jF (ov (PTR gb_2 (0 + 57))) rfl rfl rfl rfl (fun hq_68 => Zaa (off := 57) lb ZeH tR) <| jF (ov (S (rL Zad) t_1.Extra)) rfl rfl rfl rfl (fun hq_69 => Zai (j := 0) lb tS33 (HasO.cnd tR (notT (notF hq_69))) rfl (cT (Za3 t_1) rfl) rfl rfl) <| jF (ov (S (rI .i64) (List.length t_1.Extra : Int))) rfl rfl rfl rfl (fun hq_70 => ZaE lb tu33 (HasO.cnd tR (notT (notF hq_70)))) <| lI hx67 fun v33 hv_33 hx67 => jF (ov (S rB v33)) rfl rfl rfl rfl (fun hq_71 => Zaq lb (HasO.cnd tR (notT (notF hq_71))) .cI (cs hv_33)) ?_
   obtain ⟨v34, hv_34, hx67⟩ := ZaQ hx67
   refine jc (Zao lb tR (fun hb72 => .cB) (fun hb72 => (HasO.cnd tR (notT hb72))) hv_34) <| jmv rfl rfl <| jT (ov (S (rI .i64) t_1.Kind)) rfl rfl rfl rfl (fun hq_73 => Zax lb tR) <| JL.sub ⟨[(1, ov (PTR gb_2 0)), (3, ov (S (rI .i64) t_1.Kind)), (86, ov (S rB v34)), (87, bif v34 then ov (S (rI .i64) t_1.Kind) else .one .und)], [cvar gb_2 Zae t_1], []⟩ (.cons rfl (.cons rfl (.cons rfl (.cons rfl .nil)))) rfl rfl <| lI hx67 fun v35 hv_35 hx67 => jT (ov (S rB v35)) rfl rfl rfl rfl (fun hq_74 => Zaq lb (HasO.cnd tR hq_74) .cI (cs hv_35)) <| lI hx67 fun v36 hv_36 hx67 => jc (Zao lb tR (fun hb75 => (HasO.cnd tR hb75)) (fun hb75 => .cB) hv_36) <| jmv rfl rfl <| jT (ov (S (rI .i64) t_1.Kind)) rfl rfl rfl rfl (fun hq_76 => Zax lb tR) ?_
   obtain ⟨v37, hv_37, hx67⟩ := ZaQ hx67
   refine jT (ov (S rB v37)) rfl rfl rfl rfl (fun hq_77 => Zaq lb (HasO.cnd tR hq_77) .cI (cs hv_37)) <| lI hx67 fun v38 hv_38 hx67 => jc (Zao lb tR (fun hb78 => (HasO.cnd tR hb78)) (fun hb78 => .cB) hv_38) <| JL.nil ?_
   try obtain rfl := so hx67
   exact JQ.join () (Imp.norm (js := [0]) rfl (.cons rfl (.cons rfl (.cons rfl .nil))))
 refine JC.region ?_
 dsimp only [List.append]
 refine jc (Zaa (off := 3) lb ZcK tR) <| jc (Zai (j := 0) lb tS23 tR rfl (cT (ZaH t_1) rfl) rfl rfl) <| jc (ZaE lb tu23 tR) <| lI hx1 fun v3 hv_3 hx1 => jc (Zaq lb tR .cI (cs hv_3)) <| jmv rfl rfl <| JL.sub ⟨[(1, ov (PTR gb_2 0)), (3, ov (S (rI .i64) t_1.Kind)), (10, ov (S rB v3))], [cvar gb_2 Zae t_1], []⟩ (.cons rfl (.cons rfl (.cons rfl .nil))) rfl rfl <| jT (ov (S (rI .i64) t_1.Kind)) rfl rfl rfl rfl (fun hq_2 => Zax lb tR) <| lI hx1 fun v4 hv_4 hx1 => jT (ov (S rB v4)) rfl rfl rfl rfl (fun hq_3 => Zaq lb (HasO.cnd tR hq_3) .cI (cs hv_4)) <| lI hx1 fun v5 hv_5 hx1 => jc (Zao lb tR (fun hb4 => (HasO.cnd tR hb4)) (fun hb4 => .cB) hv_5) <| jmv rfl rfl ?_
 refine jT (ov (S (rI .i64) t_1.Kind)) rfl rfl rfl rfl (fun hq_5 => Zax lb tR) <| lI hx1 fun v6 hv_6 hx1 => jT (ov (S rB v6)) rfl rfl rfl rfl (fun hq_6 => Zaq lb (HasO.cnd tR hq_6) .cI (cs hv_6)) <| lI hx1 fun v7 hv_7 hx1 => jc (Zao lb tR (fun hb7 => (HasO.cnd tR hb7)) (fun hb7 => .cB) hv_7) <| jmv rfl rfl <| jF (ov (PTR gb_2 (0 + 25))) rfl rfl rfl rfl (fun hq_8 => Zaa (off := 25) lb Zgy tR) <| jF (ov (A (rV 16 (rU UInt64)) t_1.Past)) rfl rfl rfl rfl (fun hq_9 => Zaw (j := 0) lb tA29 (HasO.cnd tR (notT (notF hq_9))) rfl (cT (Zby t_1) rfl) rfl) <| jF (ov (A (rV 16 (rU UInt64)) (Vector.replicate 16 (0 : UInt64)))) rfl rfl rfl rfl (fun hq_10 => Za9 lb tZ29 zv29 tp29 .nil rfl) ?_
 obtain ⟨v8, hv_8, hx1⟩ := ZaQ hx1
 refine jF (ov (S rB v8)) rfl rfl rfl rfl (fun hq_11 => Zf8 lb qa29 (by decide) ng29 (HasO.cnd tR (notT (notF hq_11))) (HasO.cnd tR (notT (notF hq_11))) hv_8) <| JL.sub ⟨[(1, ov (PTR gb_2 0)), (3, ov (S (rI .i64) t_1.Kind)), (18, ov (S rB v7)), (22, bif (!v7) then ov (S rB v8) else .one .und)], [cvar gb_2 Zae t_1], []⟩ (.cons rfl (.cons rfl (.cons rfl (.cons rfl .nil)))) rfl rfl <| jF (ov (S rB v8)) rfl rfl rfl rfl (fun hq_12 => Zax lb (HasO.cnd tR (notT (notF hq_12)))) <| JL.cnd (sv := ov (S (rI .i64) t_1.Kind)) (Zbg.cT (q := (!v7)) (ltB rfl) rfl rfl) rfl (ltB rfl) (fun hq_13 => Zax lb tR) <| lI hx1 fun v9 hv_9 hx1 => JL.cnd (sv := ov (S rB v9)) (Zbg.cT (q := (!v7)) (ltB rfl) rfl rfl) rfl (ltB rfl) (fun hq_14 => Zaq lb (HasO.cnd tR (andI (notT (notF (andL hq_14))) (andR hq_14))) .cI (cs hv_9)) <| lI hx1 fun v10 hv_10 hx1 => jF (ov (S rB v10)) rfl rfl rfl rfl (fun hq_15 => Zao lb (HasO.cnd tR (notT (notF hq_15))) (fun hb16 => (HasO.cnd tR (andI (notT (notF hq_15)) hb16))) (fun hb16 => .cB) hv_10) ?_
 obtain ⟨v11, hv_11, hx1⟩ := ZaQ hx1
 refine jc (Zao lb tR (fun hb17 => .cB) (fun hb17 => (HasO.cnd tR (notT hb17))) hv_11) <| jmv rfl rfl <| jF (ov (PTR gb_2 (0 + 59))) rfl rfl rfl rfl (fun hq_18 => Zaa (off := 59) lb ZhM tR) <| jF (ov (A (rV 32 (rU UInt8)) t_1.Hash)) rfl rfl rfl rfl (fun hq_19 => Zaw (j := 0) lb tA35 (HasO.cnd tR (notT (notF hq_19))) rfl (cT (ZbZ t_1) rfl) rfl) <| jF (ov (A (rV 32 (rU UInt8)) (Vector.replicate 32 (0 : UInt8)))) rfl rfl rfl rfl (fun hq_20 => Za9 lb tZ35 zv35 tp35 .nil rfl) <| lI hx1 fun v12 hv_12 hx1 => jF (ov (S rB v12)) rfl rfl rfl rfl (fun hq_21 => Zf8 lb qa35 (by decide) ng35 (HasO.cnd tR (notT (notF hq_21))) (HasO.cnd tR (notT (notF hq_21))) hv_12) <| jF (ov (S rB v12)) rfl rfl rfl rfl (fun hq_22 => Zax lb (HasO.cnd tR (notT (notF hq_22)))) <| JL.cnd (sv := ov (S (rI .i64) t_1.Kind)) (Zbg.cT (q := (!v11)) (ltB rfl) rfl rfl) rfl (ltB rfl) (fun hq_23 => Zax lb tR) <| JL.sub ⟨[(1, ov (PTR gb_2 0)), (3, ov (S (rI .i64) t_1.Kind)), (28, ov (S rB v11)), (33, bif (!v11) then ov (S rB v12) else .one .und), (34, bif ((!v11) && v12) then ov (S (rI .i64) t_1.Kind) else .one .und)], [cvar gb_2 Zae t_1], []⟩ (.cons rfl (.cons rfl (.cons rfl (.cons rfl (.cons rfl .nil))))) rfl rfl ?_
 refine lI hx1 fun v13 hv_13 hx1 => JL.cnd (sv := ov (S rB v13)) (Zbg.cT (q := (!v11)) (ltB rfl) rfl rfl) rfl (ltB rfl) (fun hq_24 => Zaq lb (HasO.cnd tR (andI (notT (notF (andL hq_24))) (andR hq_24))) .cI (cs hv_13)) <| lI hx1 fun v14 hv_14 hx1 => jF (ov (S rB v14)) rfl rfl rfl rfl (fun hq_25 => Zao lb (HasO.cnd tR (notT (notF hq_25))) (fun hb26 => (HasO.cnd tR (andI (notT (notF hq_25)) hb26))) (fun hb26 => .cB) hv_14) <| lI hx1 fun v15 hv_15 hx1 => jc (Zao lb tR (fun hb27 => .cB) (fun hb27 => (HasO.cnd tR (notT hb27))) hv_15) <| jmv rfl rfl <| jF (ov (PTR gb_2 (0 + 91))) rfl rfl rfl rfl (fun hq_28 => Zaa (off := 91) lb ZeT tR) <| jF (ov (S (rL (rV 32 (rU UInt8))) t_1.Leaves)) rfl rfl rfl rfl (fun hq_29 => Zai (j := 0) lb tS36 (HasO.cnd tR (notT (notF hq_29))) rfl (cT (Zbd t_1) rfl) rfl rfl) <| jF (ov (S (rI .i64) (List.length t_1.Leaves : Int))) rfl rfl rfl rfl (fun hq_30 => ZaE lb tu36 (HasO.cnd tR (notT (notF hq_30)))) ?_
 refine lI hx1 fun v16 hv_16 hx1 => jF (ov (S rB v16)) rfl rfl rfl rfl (fun hq_31 => Zaq lb (HasO.cnd tR (notT (notF hq_31))) .cI (cs hv_16)) <| jF (ov (S rB v16)) rfl rfl rfl rfl (fun hq_32 => Zax lb (HasO.cnd tR (notT (notF hq_32)))) <| JL.cnd (sv := ov (S (rI .i64) t_1.Kind)) (Zbg.cT (q := (!v15)) (ltB rfl) rfl rfl) rfl (ltB rfl) (fun hq_33 => Zax lb tR) <| lI hx1 fun v17 hv_17 hx1 => JL.cnd (sv := ov (S rB v17)) (Zbg.cT (q := (!v15)) (ltB rfl) rfl rfl) rfl (ltB rfl) (fun hq_34 => Zaq lb (HasO.cnd tR (andI (notT (notF (andL hq_34))) (andR hq_34))) .cI (cs hv_17)) <| lI hx1 fun v18 hv_18 hx1 => jF (ov (S rB v18)) rfl rfl rfl rfl (fun hq_35 => Zao lb (HasO.cnd tR (notT (notF hq_35))) (fun hb36 => (HasO.cnd tR (andI (notT (notF hq_35)) hb36))) (fun hb36 => .cB) hv_18) <| JL.sub ⟨[(1, ov (PTR gb_2 0)), (3, ov (S (rI .i64) t_1.Kind)), (38, ov (S rB v15)), (46, bif (!v15) then ov (S rB v18) else .one .und)], [cvar gb_2 Zae t_1], []⟩ (.cons rfl (.cons rfl (.cons rfl (.cons rfl .nil)))) rfl rfl ?_
 refine lI hx1 fun v19 hv_19 hx1 => jc (Zao lb tR (fun hb37 => .cB) (fun hb37 => (HasO.cnd tR (notT hb37))) hv_19) <| jmv rfl rfl <| jF (ov (PTR gb_2 (0 + 92))) rfl rfl rfl rfl (fun hq_38 => Zaa (off := 92) lb ZcE tR) <| jF (ov (S (rL (rI .i64)) t_1.Buckets)) rfl rfl rfl rfl (fun hq_39 => Zai (j := 0) lb tS37 (HasO.cnd tR (notT (notF hq_39))) rfl (cT (ZaJ t_1) rfl) rfl rfl) <| jF (ov (S (rI .i64) (List.length t_1.Buckets : Int))) rfl rfl rfl rfl (fun hq_40 => ZaE lb tu37 (HasO.cnd tR (notT (notF hq_40)))) <| lI hx1 fun v20 hv_20 hx1 => jF (ov (S rB v20)) rfl rfl rfl rfl (fun hq_41 => Zaq lb (HasO.cnd tR (notT (notF hq_41))) .cI (cs hv_20)) <| jF (ov (S rB v20)) rfl rfl rfl rfl (fun hq_42 => Zax lb (HasO.cnd tR (notT (notF hq_42)))) <| JL.cnd (sv := ov (S (rI .i64) t_1.Kind)) (Zbg.cT (q := (!v19)) (ltB rfl) rfl rfl) rfl (ltB rfl) (fun hq_43 => Zax lb tR) ?_
 refine lI hx1 fun v21 hv_21 hx1 => JL.cnd (sv := ov (S rB v21)) (Zbg.cT (q := (!v19)) (ltB rfl) rfl rfl) rfl (ltB rfl) (fun hq_44 => Zaq lb (HasO.cnd tR (andI (notT (notF (andL hq_44))) (andR hq_44))) .cI (cs hv_21)) <| lI hx1 fun v22 hv_22 hx1 => jF (ov (S rB v22)) rfl rfl rfl rfl (fun hq_45 => Zao lb (HasO.cnd tR (notT (notF hq_45))) (fun hb46 => (HasO.cnd tR (andI (notT (notF hq_45)) hb46))) (fun hb46 => .cB) hv_22) <| lI hx1 fun v23 hv_23 hx1 => jc (Zao lb tR (fun hb47 => .cB) (fun hb47 => (HasO.cnd tR (notT hb47))) hv_23) <| jmv rfl rfl <| JL.sub ⟨[(1, ov (PTR gb_2 0)), (3, ov (S (rI .i64) t_1.Kind)), (58, ov (S rB v23))], [cvar gb_2 Zae t_1], []⟩ (.cons rfl (.cons rfl (.cons rfl .nil))) rfl rfl <| jF (ov (PTR gb_2 (0 + 93))) rfl rfl rfl rfl (fun hq_48 => Zaa (off := 93) lb Zgn tR) <| jF (ov (S rB t_1.Reply)) rfl rfl rfl rfl (fun hq_49 => Zai (j := 0) lb tS4 (HasO.cnd tR (notT (notF hq_49))) rfl (cT (ZbR t_1) rfl) rfl rfl) ?_
 refine jF (ov (S rB t_1.Reply)) rfl rfl rfl rfl (fun hq_50 => Zax lb (HasO.cnd tR (notT (notF hq_50)))) <| JL.cnd (sv := ov (S (rI .i64) t_1.Kind)) (Zbg.cT (q := (!v23)) (ltB rfl) rfl rfl) rfl (ltB rfl) (fun hq_51 => Zax lb tR) <| lI hx1 fun v24 hv_24 hx1 => JL.cnd (sv := ov (S rB v24)) (Zbg.cT (q := (!v23)) (ltB rfl) rfl rfl) rfl (ltB rfl) (fun hq_52 => Zaq lb (HasO.cnd tR (andI (notT (notF (andL hq_52))) (andR hq_52))) .cI (cs hv_24)) <| lI hx1 fun v25 hv_25 hx1 => jF (ov (S rB v25)) rfl rfl rfl rfl (fun hq_53 => Zao lb (HasO.cnd tR (notT (notF hq_53))) (fun hb54 => (HasO.cnd tR (andI (notT (notF hq_53)) hb54))) (fun hb54 => .cB) hv_25) <| lI hx1 fun v26 hv_26 hx1 => jc (Zao lb tR (fun hb55 => .cB) (fun hb55 => (HasO.cnd tR (notT hb55))) hv_26) <| jmv rfl rfl <| jF (ov (PTR gb_2 (0 + 58))) rfl rfl rfl rfl (fun hq_56 => Zaa (off := 58) lb Zd6 tR) ?_
 refine jF (ov (S (rL Zad) t_1.Live)) rfl rfl rfl rfl (fun hq_57 => Zai (j := 0) lb tS33 (HasO.cnd tR (notT (notF hq_57))) rfl (cT (ZaT t_1) rfl) rfl rfl) <| jF (ov (S (rI .i64) (List.length t_1.Live : Int))) rfl rfl rfl rfl (fun hq_58 => ZaE lb tu33 (HasO.cnd tR (notT (notF hq_58)))) <| lI hx1 fun v27 hv_27 hx1 => jF (ov (S rB v27)) rfl rfl rfl rfl (fun hq_59 => Zaq lb (HasO.cnd tR (notT (notF hq_59))) .cI (cs hv_27)) <| JL.sub ⟨[(1, ov (PTR gb_2 0)), (3, ov (S (rI .i64) t_1.Kind)), (66, ov (S rB v26)), (70, bif (!v26) then ov (S rB v27) else .one .und)], [cvar gb_2 Zae t_1], []⟩ (.cons rfl (.cons rfl (.cons rfl (.cons rfl .nil)))) rfl rfl <| jF (ov (S rB v27)) rfl rfl rfl rfl (fun hq_60 => Zax lb (HasO.cnd tR (notT (notF hq_60)))) <| JL.cnd (sv := ov (S (rI .i64) t_1.Kind)) (Zbg.cT (q := (!v26)) (ltB rfl) rfl rfl) rfl (ltB rfl) (fun hq_61 => Zax lb tR) <| lI hx1 fun v28 hv_28 hx1 => JL.cnd (sv := ov (S rB v28)) (Zbg.cT (q := (!v26)) (ltB rfl) rfl rfl) rfl (ltB rfl) (fun hq_62 => Zaq lb (HasO.cnd tR (andI (notT (notF (andL hq_62))) (andR hq_62))) .cI (cs hv_28)) ?_
 refine lI hx1 fun v29 hv_29 hx1 => jF (ov (S rB v29)) rfl rfl rfl rfl (fun hq_63 => Zao lb (HasO.cnd tR (notT (notF hq_63))) (fun hb64 => (HasO.cnd tR (andI (notT (notF hq_63)) hb64))) (fun hb64 => .cB) hv_29) <| lI hx1 fun v30 hv_30 hx1 => jc (Zao lb tR (fun hb65 => .cB) (fun hb65 => (HasO.cnd tR (notT hb65))) hv_30) <| JL.nil ?_
 try obtain rfl := so hx1
 exact JQ.join () (Imp.norm (js := [0]) rfl (.cons rfl (.cons rfl (.cons rfl .nil))))

theorem ZbQ (k : Nat) (d_1 : Zaf) (r : Bool) (hm : Zcc k d_1 = some r) : Sim Tryz.prog 41 [A Zad d_1] [] (γ := Unit) (fun q => []) (fun q => .one (.val (S rB r))) := by
 unfold Zcc at hm
 refine Sim.of Tryz.func41 rfl rfl (lE rfl) (fun e0 w0 => ?_)
 refine JC.at ⟨[(0, ov (A Zad d_1))], [], []⟩ <| jr <| jx (ZaX lb tR) fun gb_2 => jc (Zab lb .cB) <| jn <| bI hm fun x_10 hx1 hq1 => JC.seqJ (γ := Unit) (stj := fun _ => ⟨[(2, ov (S rB x_10))], [], []⟩) (fun _ => ?_) ?_
 · refine JC.ret ?_
   obtain rfl := so hq1
   exact jd (.val (S rB x_10)) rfl rfl rfl rfl rfl rfl
 refine JC.region <| jc (Zaa (off := 0) lb Zcx tR) <| jc (Zai (j := 0) lb tS3 tR rfl (cT (ZaC d_1) rfl) rfl rfl) <| lI hx1 fun v3 hv_3 hx1 => jc (Zaq lb tR .cI (cs hv_3)) <| jmv rfl rfl <| jT (ov (PTR gb_2 (0 + 0))) rfl rfl rfl rfl (fun hq_2 => Zaa (off := 0) lb Zcx tR) <| jT (ov (S (rI .i64) d_1.Region)) rfl rfl rfl rfl (fun hq_3 => Zai (j := 0) lb tS3 (HasO.cnd tR hq_3) rfl (cT (ZaC d_1) rfl) rfl rfl) <| lI hx1 fun v4 hv_4 hx1 => jT (ov (S rB v4)) rfl rfl rfl rfl (fun hq_4 => Zaq lb (HasO.cnd tR hq_4) .cI (cs hv_4)) <| lI hx1 fun v5 hv_5 hx1 => jc (Zao lb tR (fun hb5 => (HasO.cnd tR hb5)) (fun hb5 => .cB) hv_5) ?_
 refine JL.sub ⟨[(1, ov (PTR gb_2 0)), (2, ov (S rB false)), (10, ov (S rB v5))], [cvar gb_2 Zad d_1], []⟩ (.cons rfl (.cons rfl (.cons rfl .nil))) rfl rfl <| jmv rfl rfl <| jT (ov (PTR gb_2 (0 + 1))) rfl rfl rfl rfl (fun hq_6 => Zaa (off := 1) lb ZdA tR) <| jT (ov (S (rU UInt64) d_1.Count)) rfl rfl rfl rfl (fun hq_7 => Zai (j := 0) lb tS24 (HasO.cnd tR hq_7) rfl (cT (ZaN d_1) rfl) rfl rfl) <| lI hx1 fun v6 hv_6 hx1 => jT (ov (S rB v6)) rfl rfl rfl rfl (fun hq_8 => ZbH lb (HasO.cnd tR hq_8) (HasO.cU (x := (1 : UInt64)) rfl (by decide)) (cs hv_6)) <| lI hx1 fun v7 hv_7 hx1 => jc (Zao lb tR (fun hb9 => (HasO.cnd tR hb9)) (fun hb9 => .cB) hv_7) <| jmv rfl rfl <| jT (ov (PTR gb_2 (0 + 1))) rfl rfl rfl rfl (fun hq_10 => Zaa (off := 1) lb ZdA tR) ?_
 refine jT (ov (S (rU UInt64) d_1.Count)) rfl rfl rfl rfl (fun hq_11 => Zai (j := 0) lb tS24 (HasO.cnd tR hq_11) rfl (cT (ZaN d_1) rfl) rfl rfl) <| lI hx1 fun v8 hv_8 hx1 => jT (ov (S rB v8)) rfl rfl rfl rfl (fun hq_12 => ZbH lb (HasO.cnd tR hq_12) (HasO.cU (x := (4611686018427387904 : UInt64)) rfl (by decide)) (cs hv_8)) <| lI hx1 fun v9 hv_9 hx1 => jc (Zao lb tR (fun hb13 => (HasO.cnd tR hb13)) (fun hb13 => .cB) hv_9) <| jc (Zab lb tR) <| JL.nil ?_
 try obtain rfl := so hx1
 exact jo rfl rfl rfl

theorem ZcS (k : Nat) (s_1 : (List UInt8)) (r : Bool) (hm : Zb6 k s_1 = some r) : Sim Tryz.prog 72 [S rS s_1] [] (γ := Unit) (fun q => []) (fun q => .one (.val (S rB r))) := by
 unfold Zb6 at hm
 refine Sim.of Tryz.func72 rfl rfl (lE rfl) (fun e0 w0 => ?_)
 refine JC.at ⟨[(0, ov (S rS s_1))], [], []⟩ <| jr <| jc (Zab lb .cB) <| jn <| bI hm fun x_5 hx1 hq1 => JC.seqJ (γ := Unit) (stj := fun _ => ⟨[(2, ov (S rB x_5))], [], []⟩) (fun _ => ?_) ?_
 · refine JC.ret ?_
   obtain rfl := so hq1
   exact jd (.val (S rB x_5)) rfl rfl rfl rfl rfl rfl
 refine JC.region <| jmv rfl rfl <| jc (ZfR lb tu9 tR) <| lI hx1 fun v2 hv_2 hx1 => jc (Zaq lb tR .cI (cs hv_2)) <| jmv rfl rfl <| jT (ov (S rS s_1)) rfl rfl rfl rfl (fun hq_2 => Zax lb tR) <| jT (ov (S (rI .i64) (List.length s_1 : Int))) rfl rfl rfl rfl (fun hq_3 => ZfR lb tu9 (HasO.cnd tR hq_3)) <| lI hx1 fun v3 hv_3 hx1 => jT (ov (S rB v3)) rfl rfl rfl rfl (fun hq_4 => Zaq lb (HasO.cnd tR hq_4) .cI (cs hv_3)) <| lI hx1 fun v4 hv_4 hx1 => jc (Zao lb tR (fun hb5 => (HasO.cnd tR hb5)) (fun hb5 => .cB) hv_4) <| jc (Zab lb tR) <| JL.nil ?_
 try obtain rfl := so hx1
 exact jo rfl rfl rfl

theorem Zhb (k : Nat) (i_1 : Zap) (r : Bool) (hm : Zdv k i_1 = some r) : Sim Tryz.prog 21 [A Zaj i_1] [] (γ := Unit) (fun q => []) (fun q => .one (.val (S rB r))) := by
 unfold Zdv at hm
 refine Sim.of Tryz.func21 rfl rfl (lE rfl) (fun e0 w0 => ?_)
 refine JC.at ⟨[(0, ov (A Zaj i_1))], [], []⟩ <| jr <| jx (ZaX lb tR) fun gb_2 => jc (Zab lb .cB) <| jn <| JC.seq <| jr <| jc (Zaa (off := 0) lb Zhi tR) <| jc (Zaw (j := 0) lb tA26 tR rfl (cT (ZbA i_1) rfl) rfl) <| bI hm fun v3 hv_3 hm => jx (Zak (js := []) ld cl41 (ZbQ k i_1.Dot v3 hv_3) .func (.cons tR .nil) rfl) fun _ => lI hm fun v4 hv_4 hm => jc (Zbc lb tR hv_4) <| jn ?_
 refine jif tR hm (fun hc1 hm => ?_) (fun hc1 hm => ?_)
 · refine jr <| jc (Zab lb .cB) <| jn <| JC.ret <| JQ.outR ?_
   obtain rfl := so hm
   exact jd (.val (S rB false)) rfl rfl rfl rfl rfl rfl
 refine JC.skip <| JQ.then <| JC.seq <| jr <| jc (Zaa (off := 4) lb ZiB tR) <| jc (Zai (j := 0) lb tS4 tR rfl (cT (ZcI i_1) rfl) rfl rfl) <| jn <| jif tR hm (fun hc2 hm => ?_) (fun hc2 hm => ?_)
 · refine bI hm fun x_8 hx3 hq3 => JC.seqJ (γ := Unit) (stj := fun _ => ⟨[(2, ov (S rB x_8))], [], []⟩) (fun _ => ?_) ?_
   · refine JC.ret <| JQ.outR ?_
     obtain rfl := so hq3
     exact jd (.val (S rB x_8)) rfl rfl rfl rfl rfl rfl
   refine JC.region <| jc (Zaa (off := 2) lb Zfa tR) <| jc (Zaa (off := 0) lb Zjk tR) <| JL.sub ⟨[(1, ov (PTR gb_2 0)), (2, ov (S rB false)), (10, ov (PTR gb_2 ((0 + 2) + 0)))], [cvar gb_2 Zaj i_1], []⟩ (.cons rfl (.cons rfl (.cons rfl .nil))) rfl rfl <| jc (Zai (j := 0) lb tS9 tR rfl (Comp.trans (cT (Za8 i_1) rfl) (Zb5 i_1.Key) (lE rfl)) rfl rfl) <| lI hx3 fun v5 hv_5 hx3 => jc (Zhe lb tR (HasO.cS (l := []) rfl) (cs hv_5)) <| jmv rfl rfl <| jT (ov (PTR gb_2 (0 + 2))) rfl rfl rfl rfl (fun hq_4 => Zaa (off := 2) lb Zfa tR) <| jT (ov (PTR gb_2 ((0 + 2) + 1))) rfl rfl rfl rfl (fun hq_5 => Zaa (off := 1) lb Zi9 (HasO.cnd tR hq_5)) <| jT (ov (S rS i_1.Key.Device)) rfl rfl rfl rfl (fun hq_6 => Zai (j := 0) lb tS9 (HasO.cnd tR hq_6) rfl (Comp.trans (cT (Za8 i_1) rfl) (ZbY i_1.Key) (lE rfl)) rfl rfl) ?_
   obtain ⟨v6, hv_6, hx3⟩ := ZaQ hx3
   refine jT (ov (S rB v6)) rfl rfl rfl rfl (fun hq_7 => Zhe lb (HasO.cnd tR hq_7) (HasO.cS (l := []) rfl) (cs hv_6)) <| lI hx3 fun v7 hv_7 hx3 => jc (Zao lb tR (fun hb8 => (HasO.cnd tR hb8)) (fun hb8 => .cB) hv_7) <| jc (Zab lb tR) <| JL.nil ?_
   try obtain rfl := so hx3
   exact jo rfl rfl rfl
 refine JC.skip <| JQ.then <| bI hm fun x_12 hx9 hq9 => JC.seqJ (γ := Unit) (stj := fun _ => ⟨[(2, ov (S rB x_12))], [], []⟩) (fun _ => ?_) ?_
 · refine JC.ret ?_
   obtain rfl := so hq9
   exact jd (.val (S rB x_12)) rfl rfl rfl rfl rfl rfl
 refine JC.region <| jc (Zaa (off := 2) lb Zfa tR) <| jc (Zaa (off := 0) lb Zjk tR) <| JL.sub ⟨[(1, ov (PTR gb_2 0)), (2, ov (S rB false)), (20, ov (PTR gb_2 ((0 + 2) + 0)))], [cvar gb_2 Zaj i_1], []⟩ (.cons rfl (.cons rfl (.cons rfl .nil))) rfl rfl <| jc (Zai (j := 0) lb tS9 tR rfl (Comp.trans (cT (Za8 i_1) rfl) (Zb5 i_1.Key) (lE rfl)) rfl rfl) <| bI hx9 fun v9 hv_9 hx9 => jx (Zak (js := []) ld cl72 (ZcS k i_1.Key.Topic v9 hv_9) .func (.cons tR .nil) rfl) fun _ => jmv rfl rfl <| jT (ov (PTR gb_2 (0 + 2))) rfl rfl rfl rfl (fun hq_10 => Zaa (off := 2) lb Zfa tR) <| jT (ov (PTR gb_2 ((0 + 2) + 1))) rfl rfl rfl rfl (fun hq_11 => Zaa (off := 1) lb Zi9 (HasO.cnd tR hq_11)) <| jT (ov (S rS i_1.Key.Device)) rfl rfl rfl rfl (fun hq_12 => Zai (j := 0) lb tS9 (HasO.cnd tR hq_12) rfl (Comp.trans (cT (Za8 i_1) rfl) (ZbY i_1.Key) (lE rfl)) rfl rfl) ?_
 refine bI hx9 fun v10 hv_10 hx9 => jT (ov (S rB v10)) rfl rfl rfl rfl (fun hq_13 => (Zak (js := []) ld cl72 (ZcS k i_1.Key.Device v10 (ifT hv_10 hq_13)) .func (.cons (HasO.cnd tR hq_13) .nil) rfl).post (fun _ => Imp.refl)) <| lI hx9 fun v11 hv_11 hx9 => jc (Zao lb tR (fun hb14 => (HasO.cnd tR hb14)) (fun hb14 => .cB) hv_11) <| jc (Zab lb tR) <| JL.nil ?_
 try obtain rfl := so hx9
 exact jo rfl rfl rfl

theorem ZeF (k : Nat) (l_1 : (List Zap)) (r : Bool) (hm : ref11_mayItems k l_1 = some r) : Sim Tryz.prog 38 [S (rL Zaj) l_1] [] (γ := Unit) (fun q => []) (fun q => .one (.val (S rB r))) := by
 unfold ref11_mayItems at hm
 refine Sim.of Tryz.func38 rfl rfl (lE rfl) (fun e0 w0 => ?_)
 refine JC.at ⟨[(0, ov (S (rL Zaj) l_1))], [], []⟩ <| jr <| jc (Zab lb .cB) <| jn <| bI hm fun tv1 hx1 hq1 => JC.seqK (α := Unit) (γ := Unit) (stj := fun v q => ⟨[(0, ov (S (rL Zaj) l_1))], [], []⟩) (p := fun v => tv1 = (.inl v)) (fun v q hv => ?_) ?_
 · subst hv
   skip
   obtain _ := q
   dsimp only at hq1
   refine JC.at ⟨[(0, ov (S (rL Zaj) l_1))], [], []⟩ <| jr <| jmv rfl rfl <| jc (ZaE lb tu23 tR) <| lI hq1 fun v11 hv_11 hq1 => jc (Zaq lb tR .cI (cs hv_11)) <| jc (Zab lb tR) <| jn <| JC.ret ?_
   obtain rfl := so hq1
   exact jd (.val (S rB v11)) rfl rfl rfl rfl rfl rfl
 refine jr <| jc (Zab lb .cI) <| jn <| JC.block <| bI hx1 fun tv2 hL2 hq2 => JC.pre ?_ (JC.loop (γ := Unit) (stf := fun s q => ⟨[(0, ov (S (rL Zaj) l_1)), (3, ov (S (rI .i64) s))], [], []⟩) (q := ()) hL2 ?_)
 · exact (Imp.norm (js := []) rfl (.cons rfl (.cons rfl .nil)))
 intro i_2 q x hx hr
 obtain _ := q
 change ref11_mayItems.b1 k l_1 i_2 = some x at hx
 unfold ref11_mayItems.b1 at hx
 refine JC.at ⟨[(0, ov (S (rL Zaj) l_1)), (3, ov (S (rI .i64) i_2))], [], []⟩ <| JC.seq <| bI hx fun x_6 hx3 hq3 => JC.seqJ (γ := Unit) (stj := fun _ => ⟨[(0, ov (S (rL Zaj) l_1)), (3, ov (S (rI .i64) i_2)), (11, ov (S rB x_6))], [], []⟩) (fun _ => ?_) ?_
 · refine jif tR hq3 (fun hc7 hq3 => ?_) (fun hc7 hq3 => ?_)
   · refine JC.skip <| JQ.then <| JC.seq <| JC.block <| jr <| jmv rfl rfl <| jmv rfl rfl <| bI hq3 fun v7 hv_7 hq3 => jc (Zau lb tu23 tz62 tR tR hv_7) <| jc (ZaR lb tA62 tR rfl) <| bI hq3 fun v8 hv_8 hq3 => jx (Zak (js := []) ld cl21 (Zhb k v7 v8 hv_8) .func (.cons tR .nil) rfl) fun _ => lI hq3 fun v9 hv_9 hq3 => jc (Zbc lb tR hv_9) <| jn ?_
     refine jif tR hq3 (fun hc8 hq3 => ?_) (fun hc8 hq3 => ?_)
     · refine jr <| jc (Zab lb .cB) <| jn <| JC.ret <| JQ.outRB <| JQ.outR ?_
       try obtain rfl := so hq3
       try obtain rfl := hr _ rfl
       dsimp only at hq2
       refine JQ.outR <| JQ.outRB ?_
       try obtain rfl := so hq2
       dsimp only at hq1
       refine JQ.outR ?_
       obtain rfl := so hq1
       exact jd (.val (S rB false)) rfl rfl rfl rfl rfl rfl
     refine JC.skip <| JQ.outNB <| JQ.then <| JC.region <| jmv rfl rfl <| lI hq3 fun v10 hv_10 hq3 => jc (ZaY lb tR .cI (cs hv_10)) <| jc (Zab lb tR) <| JL.nil ?_
     try obtain rfl := so hq3
     exact JQ.next () rfl (Imp.norm (js := []) rfl (.cons rfl (.cons rfl .nil)))
   refine JC.exit <| JQ.outX ?_
   try obtain rfl := so hq3
   try obtain rfl := hr _ rfl
   dsimp only at hq2
   refine JQ.outX <| JQ.here ?_
   try obtain rfl := so hq2
   exact JQ.joinK () () rfl (Imp.norm (js := []) rfl (.cons rfl .nil))
 refine JC.region <| jmv rfl rfl <| jmv rfl rfl <| jc (ZaE lb tu23 tR) <| lI hx3 fun v3 hv_3 hx3 => jc (Zaq lb tR tR (cs hv_3)) <| jmv rfl rfl <| jT (ov (S (rI .i64) i_2)) rfl rfl rfl rfl (fun hq_4 => Zax lb tR) <| lI hx3 fun v4 hv_4 hx3 => jT (ov (S rB v4)) rfl rfl rfl rfl (fun hq_5 => Zaq lb (HasO.cnd tR hq_5) .cI (cs hv_4)) <| lI hx3 fun v5 hv_5 hx3 => jc (Zao lb tR (fun hb6 => (HasO.cnd tR hb6)) (fun hb6 => .cB) hv_5) <| JL.nil ?_
 try obtain rfl := so hx3
 exact JQ.join () (Imp.norm (js := []) rfl (.cons rfl (.cons rfl (.cons rfl .nil))))

theorem Zcs (k : Nat) (v1 : (Vector UInt64 16)) (r : Bool) (hm : ref09_MayVector k v1 = some r) : Sim Tryz.prog 40 [A (rV 16 (rU UInt64)) v1] [] (γ := Unit) (fun q => []) (fun q => .one (.val (S rB r))) := by
 unfold ref09_MayVector at hm
 refine Sim.of Tryz.func40 rfl rfl (lE rfl) (fun e0 w0 => ?_)
 refine JC.at ⟨[(0, ov (A (rV 16 (rU UInt64)) v1))], [], []⟩ <| jr <| jx (ZaX lb tR) fun gb_2 => jc (Zab lb .cB) <| jn <| bI hm fun tv1 hx1 hq1 => JC.seqK (α := Unit) (γ := Unit) (stj := fun v q => ⟨[], [], []⟩) (p := fun v => tv1 = (.inl v)) (fun v q hv => ?_) ?_
 · subst hv
   skip
   obtain _ := q
   dsimp only at hq1
   refine JC.at ⟨[], [], []⟩ <| jr <| jc (Zab lb .cB) <| jn <| JC.ret ?_
   obtain rfl := so hq1
   exact jd (.val (S rB true)) rfl rfl rfl rfl rfl rfl
 refine jr <| jc (Zab lb .cI) <| jn <| JC.block <| bI hx1 fun tv2 hL2 hq2 => JC.pre ?_ (JC.loop (γ := Unit) (stf := fun s q => ⟨[(1, ov (PTR gb_2 0)), (3, ov (S (rI .i64) s))], [cvar gb_2 (rV 16 (rU UInt64)) v1], []⟩) (q := ()) hL2 ?_)
 · exact (Imp.norm (js := [0]) rfl (.cons rfl (.cons rfl .nil)))
 intro i_3 q x hx hr
 obtain _ := q
 change ref09_MayVector.b1 k v1 i_3 = some x at hx
 unfold ref09_MayVector.b1 at hx
 refine JC.at ⟨[(1, ov (PTR gb_2 0)), (3, ov (S (rI .i64) i_3))], [cvar gb_2 (rV 16 (rU UInt64)) v1], []⟩ <| JC.seq <| jr <| jmv rfl rfl <| lI hx fun v4 hv_4 hx => jc (Zaq lb tR .cI (cs hv_4)) <| jn <| jif tR hx (fun hc3 hx => ?_) (fun hc3 hx => ?_)
 · refine JC.skip <| JQ.then <| JC.seq <| JC.block <| jr <| jmv rfl rfl <| bI hx fun i_5 hv_i_5 hx => jc (Zcy lb tr29 tR tR hv_i_5) <| lI hx fun v6 hv_6 hx => jc (Zai (j := 0) lb tS24 tR rfl (Comp.at (Comp.self (rV 16 (rU UInt64)) v1) i_5.2 rfl) rfl hv_6) <| lI hx fun v7 hv_7 hx => jc (ZbH lb tR (HasO.cU (x := (4611686018427387904 : UInt64)) rfl (by decide)) (cs hv_7)) <| jn <| jif tR hx (fun hc4 hx => ?_) (fun hc4 hx => ?_)
   · refine jr <| jc (Zab lb .cB) <| jn <| JC.ret <| JQ.outRB <| JQ.outR ?_
     try obtain rfl := so hx
     try obtain rfl := hr _ rfl
     dsimp only at hq2
     refine JQ.outR <| JQ.outRB ?_
     try obtain rfl := so hq2
     dsimp only at hq1
     refine JQ.outR ?_
     obtain rfl := so hq1
     exact jd (.val (S rB false)) rfl rfl rfl rfl rfl rfl
   refine JC.skip <| JQ.outNB <| JQ.then <| JC.region <| jmv rfl rfl <| lI hx fun v8 hv_8 hx => jc (ZaY lb tR .cI (cs hv_8)) <| jc (Zab lb tR) <| JL.nil ?_
   try obtain rfl := so hx
   exact JQ.next () rfl (Imp.norm (js := [0]) rfl (.cons rfl (.cons rfl .nil)))
 refine JC.exit <| JQ.outX ?_
 try obtain rfl := so hx
 try obtain rfl := hr _ rfl
 dsimp only at hq2
 refine JQ.outX <| JQ.here ?_
 try obtain rfl := so hq2
 exact JQ.joinK () () rfl (Imp.norm (js := []) rfl .nil)

theorem Zdb (k : Nat) (a_1 : Zaf) (b_2 : Zaf) (r : Bool) (hm : Zdn k a_1 b_2 = some r) : Sim Tryz.prog 42 [A Zad a_1, A Zad b_2] [] (γ := Unit) (fun q => []) (fun q => .one (.val (S rB r))) := by
 unfold Zdn at hm
 refine Sim.of Tryz.func42 rfl rfl (lE rfl) (fun e0 w0 => ?_)
 refine JC.at ⟨[(0, ov (A Zad a_1)), (1, ov (A Zad b_2))], [], []⟩ <| jr <| jx (ZaX lb tR) fun gb_3 => jx (ZaX lb tR) fun gb_4 => jc (Zab lb .cB) <| jn <| bI hm fun x_10 hx1 hq1 => JC.seqJ (γ := Unit) (stj := fun _ => ⟨[(4, ov (S rB x_10))], [], []⟩) (fun _ => ?_) ?_
 · refine JC.ret ?_
   obtain rfl := so hq1
   exact jd (.val (S rB x_10)) rfl rfl rfl rfl rfl rfl
 refine JC.region <| jc (Zaa (off := 0) lb Zcx tR) <| jc (Zai (j := 0) lb tS3 tR rfl (cT (ZaC a_1) rfl) rfl rfl) <| jc (Zaa (off := 0) lb Zcx tR) <| jc (Zai (j := 1) lb tS3 tR rfl (cT (ZaC b_2) rfl) rfl rfl) <| lI hx1 fun v5 hv_5 hx1 => jc (Zaq lb tR tR (cs hv_5)) <| JL.sub ⟨[(2, ov (PTR gb_3 0)), (3, ov (PTR gb_4 0)), (4, ov (S rB false)), (9, ov (S rB v5))], [cvar gb_3 Zad a_1, cvar gb_4 Zad b_2], []⟩ (.cons rfl (.cons rfl (.cons rfl (.cons rfl .nil)))) rfl rfl <| jmv rfl rfl <| jF (ov (PTR gb_3 (0 + 0))) rfl rfl rfl rfl (fun hq_2 => Zaa (off := 0) lb Zcx tR) <| jF (ov (S (rI .i64) a_1.Region)) rfl rfl rfl rfl (fun hq_3 => Zai (j := 0) lb tS3 (HasO.cnd tR (notT (notF hq_3))) rfl (cT (ZaC a_1) rfl) rfl rfl) <| jF (ov (PTR gb_4 (0 + 0))) rfl rfl rfl rfl (fun hq_4 => Zaa (off := 0) lb Zcx tR) <| jF (ov (S (rI .i64) b_2.Region)) rfl rfl rfl rfl (fun hq_5 => Zai (j := 1) lb tS3 (HasO.cnd tR (notT (notF hq_5))) rfl (cT (ZaC b_2) rfl) rfl rfl) ?_
 refine lI hx1 fun v6 hv_6 hx1 => jF (ov (S rB v6)) rfl rfl rfl rfl (fun hq_6 => Zaq lb (HasO.cnd tR (notT (notF hq_6))) (HasO.cnd tR (notT (notF hq_6))) (cs hv_6)) <| jF (ov (S rB v6)) rfl rfl rfl rfl (fun hq_7 => Zax lb (HasO.cnd tR (notT (notF hq_7)))) <| JL.cnd (sv := ov (PTR gb_3 (0 + 1))) (Zbg.cT (q := (!v5)) (ltB rfl) rfl rfl) rfl (ltB rfl) (fun hq_8 => Zaa (off := 1) lb ZdA tR) <| JL.cnd (sv := ov (S (rU UInt64) a_1.Count)) (Zbg.cT (q := (!v5)) (ltB rfl) rfl rfl) rfl (ltB rfl) (fun hq_9 => Zai (j := 0) lb tS24 (HasO.cnd tR (andI (notT (notF (andL hq_9))) (andR hq_9))) rfl (cT (ZaN a_1) rfl) rfl rfl) <| JL.cnd (sv := ov (PTR gb_4 (0 + 1))) (Zbg.cT (q := (!v5)) (ltB rfl) rfl rfl) rfl (ltB rfl) (fun hq_10 => Zaa (off := 1) lb ZdA tR) <| JL.cnd (sv := ov (S (rU UInt64) b_2.Count)) (Zbg.cT (q := (!v5)) (ltB rfl) rfl rfl) rfl (ltB rfl) (fun hq_11 => Zai (j := 1) lb tS24 (HasO.cnd tR (andI (notT (notF (andL hq_11))) (andR hq_11))) rfl (cT (ZaN b_2) rfl) rfl rfl) <| lI hx1 fun v7 hv_7 hx1 => JL.cnd (sv := ov (S rB v7)) (Zbg.cT (q := (!v5)) (ltB rfl) rfl rfl) rfl (ltB rfl) (fun hq_12 => ZbH lb (HasO.cnd tR (andI (notT (notF (andL hq_12))) (andR hq_12))) (HasO.cnd tR (andI (notT (notF (andL hq_12))) (andR hq_12))) (cs hv_7)) ?_
 refine JL.nrm ⟨[(4, ov (S rB false)), (10, ov (S rB v5)), (16, bif (!v5) then ov (S rB v6) else .one .und), (21, bif ((!v5) && v6) then ov (S rB v7) else .one .und)], [], []⟩ [] rfl (.cons rfl (.cons rfl (.cons rfl (.cons rfl .nil)))) rfl <| lI hx1 fun v8 hv_8 hx1 => jF (ov (S rB v8)) rfl rfl rfl rfl (fun hq_13 => Zao lb (HasO.cnd tR (notT (notF hq_13))) (fun hb14 => (HasO.cnd tR (andI (notT (notF hq_13)) hb14))) (fun hb14 => .cB) hv_8) <| lI hx1 fun v9 hv_9 hx1 => jc (Zao lb tR (fun hb15 => .cB) (fun hb15 => (HasO.cnd tR (notT hb15))) hv_9) <| jc (Zab lb tR) <| JL.nil ?_
 try obtain rfl := so hx1
 exact jo rfl rfl rfl

end Go.Proofs.YtklnihlchhhhlaaGreat
