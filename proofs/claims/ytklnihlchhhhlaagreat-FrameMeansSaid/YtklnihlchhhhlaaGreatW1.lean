/- Walks. -/
import Derived.Test.YtklnihlchhhhlaaGreatT
import Derived.Test.YtklnihlchhhhlaaGreatW0
namespace Go.Proofs.YtklnihlchhhhlaaGreat
open Go Fw
set_option linter.unusedVariables false
set_option maxRecDepth 100000
set_option maxHeartbeats 4000000

theorem Zc1 (k : Nat) (s1 : (List Zal)) (r : Bool) (hm : ZaQ k s1 = some r) : Sim Tryz.prog 73 [S (rL Zaj) s1, CLO 81 []] [] (γ := Unit) (fun q => []) (fun q => .one (.val (S rB r))) := by
 unfold ZaQ at hm
 refine Sim.of Tryz.func73 rfl rfl (lE rfl) (fun e0 w0 => ?_)
 refine JC.at ⟨[(0, ov (S (rL Zaj) s1)), (1, ov (CLO 81 []))], [], []⟩ <| jr <| jc (Zac lb .cB) <| jn <| jr <| jmv rfl rfl <| jmv rfl rfl <| bI hm fun v2 hv2 hm => jx (Zak (js := []) ld ZoM (Zdi k s1 v2 hv2) .func (.cons tR (.cons tR .nil)) rfl) fun _ => lI hm fun v3 hv3 hm => jc (Zar lb tR .cI (cs hv3)) <| jc (Zac lb tR) <| jn <| JC.ret ?_
 obtain rfl := so hm
 exact jd (.val (S rB v3)) rfl rfl rfl rfl rfl rfl

theorem ZfS (k : Nat) (f1 : Zai) (r : Bool) (hm : ZdO k f1 = some r) : Sim Tryz.prog 30 [A Zad f1] [] (γ := Unit) (fun q => []) (fun q => .one (.val (S rB r))) := by
 unfold ZdO at hm
 refine Sim.of Tryz.func30 rfl rfl (lE rfl) (fun e0 w0 => ?_)
 refine JC.at ⟨[(0, ov (A Zad f1))], [], []⟩ <| jr <| jx (ZaZ lb tR) fun gb2 => jc (Zac lb .cB) <| jn <| bI hm fun x7 hx1 hq1 => JC.seqJ (γ := Unit) (stj := fun _ => ⟨[(2, ov (S rB x7))], [], []⟩) (fun _ => ?_) ?_
 · refine JC.ret ?_
   obtain rfl := so hq1
   exact jd (.val (S rB x7)) rfl rfl rfl rfl rfl rfl
 refine JC.region <| jc (Zaa (off := 3) lb ZdJ tR) <| jc (Zam (j := 0) lb tS23 tR rfl (cT (ZaO f1) rfl) rfl rfl) <| jc (ZaI lb tu23 tR) <| lI hx1 fun v3 hv3 hx1 => jc (Zar lb tR .cI (cs hv3)) <| jmv rfl rfl <| jT (ov (PTR gb2 (0 + 3))) rfl rfl rfl rfl (fun hq_2 => Zaa (off := 3) lb ZdJ tR) <| jT (ov (S (rL Zaj) f1.Items)) rfl rfl rfl rfl (fun hq3 => Zam (j := 0) lb tS23 (HasO.cnd tR hq3) rfl (cT (ZaO f1) rfl) rfl rfl) <| bI hx1 fun v4 hv4 hx1 => jT (ov (S rB v4)) rfl rfl rfl rfl (fun hq4 => (Zak (js := []) ld cl73 (Zc1 k f1.Items v4 (ifT hv4 hq4)) .func (.cons (HasO.cnd tR hq4) (.cons .func .nil)) rfl).post (fun _ => Imp.refl)) <| JL.nrm ⟨[(2, ov (S rB false)), (7, ov (S rB v3)), (10, bif v3 then ov (S rB v4) else .one .und)], [], []⟩ [] rfl (.cons rfl (.cons rfl (.cons rfl .nil))) rfl ?_
 obtain ⟨v5, hv5, hx1⟩ := ZaT hx1
 refine jT (ov (S rB v5)) rfl rfl rfl rfl (fun hq5 => ZbU lb (HasO.cnd tR hq5) hv5) <| lI hx1 fun v6 hv6 hx1 => jc (Zas lb tR (fun hb6 => (HasO.cnd tR hb6)) (fun hb6 => .cB) hv6) <| jc (Zac lb tR) <| JL.nil ?_
 try obtain rfl := so hx1
 exact jo rfl rfl rfl

theorem Zd6 (k : Nat) (d1 : Zah) (r : Bool) (hm : ZdX k d1 = some r) : Sim Tryz.prog 82 [A Zae d1] [] (γ := Unit) (fun q => []) (fun q => .one (.val (S rB r))) := by
 unfold ZdX at hm
 refine Sim.of Tryz.func82 rfl rfl (lE rfl) (fun e0 w0 => ?_)
 refine JC.at ⟨[(0, ov (A Zae d1))], [], []⟩ <| jr <| jx (ZaZ lb tR) fun gb2 => jc (Zac lb .cB) <| jn <| bI hm fun x10 hx1 hq1 => JC.seqJ (γ := Unit) (stj := fun _ => ⟨[(2, ov (S rB x10))], [], []⟩) (fun _ => ?_) ?_
 · refine JC.ret ?_
   obtain rfl := so hq1
   exact jd (.val (S rB x10)) rfl rfl rfl rfl rfl rfl
 refine JC.region <| jc (Zaa (off := 0) lb Zeq tR) <| jc (Zam (j := 0) lb tS3 tR rfl (cT (ZaN d1) rfl) rfl rfl) <| lI hx1 fun v3 hv3 hx1 => jc (Zar lb tR .cI (cs hv3)) <| jmv rfl rfl <| jT (ov (PTR gb2 (0 + 0))) rfl rfl rfl rfl (fun hq_2 => Zaa (off := 0) lb Zeq tR) <| jT (ov (S (rI .i64) d1.Region)) rfl rfl rfl rfl (fun hq3 => Zam (j := 0) lb tS3 (HasO.cnd tR hq3) rfl (cT (ZaN d1) rfl) rfl rfl) <| lI hx1 fun v4 hv4 hx1 => jT (ov (S rB v4)) rfl rfl rfl rfl (fun hq4 => Zar lb (HasO.cnd tR hq4) .cI (cs hv4)) <| lI hx1 fun v5 hv5 hx1 => jc (Zas lb tR (fun hb5 => (HasO.cnd tR hb5)) (fun hb5 => .cB) hv5) ?_
 refine JL.sub ⟨[(1, ov (PTR gb2 0)), (2, ov (S rB false)), (10, ov (S rB v5))], [cvar gb2 Zae d1], []⟩ (.cons rfl (.cons rfl (.cons rfl .nil))) rfl rfl <| jmv rfl rfl <| jT (ov (PTR gb2 (0 + 1))) rfl rfl rfl rfl (fun hq6 => Zaa (off := 1) lb Zft tR) <| jT (ov (S (rU UInt64) d1.Count)) rfl rfl rfl rfl (fun hq7 => Zam (j := 0) lb tS24 (HasO.cnd tR hq7) rfl (cT (ZaY d1) rfl) rfl rfl) <| lI hx1 fun v6 hv6 hx1 => jT (ov (S rB v6)) rfl rfl rfl rfl (fun hq8 => Zci lb (HasO.cnd tR hq8) (HasO.cU (x := (1 : UInt64)) rfl (by decide)) (cs hv6)) <| lI hx1 fun v7 hv7 hx1 => jc (Zas lb tR (fun hb9 => (HasO.cnd tR hb9)) (fun hb9 => .cB) hv7) <| jmv rfl rfl <| jT (ov (PTR gb2 (0 + 1))) rfl rfl rfl rfl (fun hq10 => Zaa (off := 1) lb Zft tR) ?_
 refine jT (ov (S (rU UInt64) d1.Count)) rfl rfl rfl rfl (fun hq11 => Zam (j := 0) lb tS24 (HasO.cnd tR hq11) rfl (cT (ZaY d1) rfl) rfl rfl) <| lI hx1 fun v8 hv8 hx1 => jT (ov (S rB v8)) rfl rfl rfl rfl (fun hq12 => Zci lb (HasO.cnd tR hq12) (HasO.cU (x := (4611686018427387904 : UInt64)) rfl (by decide)) (cs hv8)) <| lI hx1 fun v9 hv9 hx1 => jc (Zas lb tR (fun hb13 => (HasO.cnd tR hb13)) (fun hb13 => .cB) hv9) <| jc (Zac lb tR) <| JL.nil ?_
 try obtain rfl := so hx1
 exact jo rfl rfl rfl

theorem ZfX (k : Nat) (n1 : UInt64) (r : Bool) (hm : ZcI k n1 = some r) : Sim Tryz.prog 116 [S (rU UInt64) n1] [] (γ := Unit) (fun q => []) (fun q => .one (.val (S rB r))) := by
 unfold ZcI at hm
 refine Sim.of Tryz.func116 rfl rfl (lE rfl) (fun e0 w0 => ?_)
 refine JC.at ⟨[(0, ov (S (rU UInt64) n1))], [], []⟩ <| jr <| jc (Zac lb .cB) <| jn <| jr <| jmv rfl rfl <| lI hm fun v2 hv2 hm => jc (Zci lb tR (HasO.cU (x := (4611686018427387904 : UInt64)) rfl (by decide)) (cs hv2)) <| jc (Zac lb tR) <| jn <| JC.ret ?_
 obtain rfl := so hm
 exact jd (.val (S rB v2)) rfl rfl rfl rfl rfl rfl

theorem ZdC (k : Nat) (s1 : (List UInt64)) (r : Int) (hm : slices_IndexFuncuint64_uint64 k s1 = some r) : Sim Tryz.prog 85 [S (rL (rU UInt64)) s1, CLO 116 []] [] (γ := Unit) (fun q => []) (fun q => .one (.val (S (rI .i64) r))) := by
 unfold slices_IndexFuncuint64_uint64 at hm
 refine Sim.of Tryz.func85 rfl rfl (lE rfl) (fun e0 w0 => ?_)
 refine JC.at ⟨[(0, ov (S (rL (rU UInt64)) s1)), (1, ov (CLO 116 []))], [], []⟩ <| jr <| jc (Zac lb .cI) <| jn <| bI hm fun tv1 hx1 hq1 => JC.seqK (α := Unit) (γ := Unit) (stj := fun v q => ⟨[], [], []⟩) (p := fun v => tv1 = (.inl v)) (fun v q hv => ?_) ?_
 · subst hv
   skip
   obtain _ := q
   dsimp only at hq1
   refine JC.at ⟨[], [], []⟩ <| jr <| jc (Zac lb .cI) <| jn <| JC.ret ?_
   obtain rfl := so hq1
   exact jd (.val (S (rI .i64) (-1 : Int))) rfl rfl rfl rfl rfl rfl
 refine jr <| jmv rfl rfl <| jc (ZaI lb tu71 tR) <| jc (ZaC lb .cI) <| jn <| JC.block <| bI hx1 fun tv2 hL2 hq2 => JC.pre ?_ (JC.loop (γ := Unit) (stf := fun s q => ⟨[(0, ov (S (rL (rU UInt64)) s1)), (1, ov (CLO 116 [])), (7, ov (S (rI .i64) (List.length s1 : Int))), (8, ov (S (rI .i64) s))], [], []⟩) (q := ()) hL2 ?_)
 · exact (Imp.norm (js := []) rfl (.cons rfl (.cons rfl (.cons rfl (.cons rfl .nil)))))
 intro x2 q x hx hr
 obtain _ := q
 change slices_IndexFuncuint64_uint64.b1 k s1 x2 = some x at hx
 unfold slices_IndexFuncuint64_uint64.b1 at hx
 refine JC.at ⟨[(0, ov (S (rL (rU UInt64)) s1)), (1, ov (CLO 116 [])), (7, ov (S (rI .i64) (List.length s1 : Int))), (8, ov (S (rI .i64) x2))], [], []⟩ <| jr <| lI hx fun v3 hv3 hx => jc (Zar lb tR tR (cs hv3)) <| jn <| JC.seq <| jif tR hx (fun hc3 hx => ?_) (fun hc3 hx => ?_)
 · refine JC.skip <| JQ.then <| JC.seq <| JC.block <| jr <| jmv rfl rfl <| jc (Zac lb tR) <| jn <| jr <| jmv rfl rfl <| jmv rfl rfl <| jmv rfl rfl <| bI hx fun v4 hv4 hx => jc (Zau lb tu71 tz24 tR tR hv4) <| jc (Zbr lb tS24 rfl tR rfl) <| bI hx fun v5 hv5 hx => jx (Zak (js := []) ld ZoQ (ZfX k v4 v5 hv5) tR (.cons tR .nil) rfl) fun _ => jn ?_
   refine jif tR hx (fun hc4 hx => ?_) (fun hc4 hx => ?_)
   · refine jr <| jmv rfl rfl <| jc (Zac lb tR) <| jn <| JC.ret <| JQ.outRB <| JQ.outR ?_
     try obtain rfl := so hx
     try obtain rfl := hr _ rfl
     dsimp only at hq2
     refine JQ.outR <| JQ.outRB ?_
     try obtain rfl := so hq2
     dsimp only at hq1
     refine JQ.outR ?_
     obtain rfl := so hq1
     exact jd (.val (S (rI .i64) x2)) rfl rfl rfl rfl rfl rfl
   refine JC.skip <| JQ.outNB <| JQ.then <| JC.region <| lI hx fun v6 hv6 hx => jc (ZaX lb tR .cI (cs hv6)) <| jmv rfl rfl <| JL.nil ?_
   try obtain rfl := so hx
   exact JQ.next () rfl (Imp.norm (js := []) rfl (.cons rfl (.cons rfl (.cons rfl (.cons rfl .nil)))))
 refine JC.exit <| JQ.outX ?_
 try obtain rfl := so hx
 try obtain rfl := hr _ rfl
 dsimp only at hq2
 refine JQ.outX <| JQ.here ?_
 try obtain rfl := so hq2
 exact JQ.joinK () () rfl (Imp.norm (js := []) rfl .nil)

theorem Zdm (k : Nat) (s1 : (List UInt64)) (r : Bool) (hm : Zbk k s1 = some r) : Sim Tryz.prog 32 [S (rL (rU UInt64)) s1, CLO 116 []] [] (γ := Unit) (fun q => []) (fun q => .one (.val (S rB r))) := by
 unfold Zbk at hm
 refine Sim.of Tryz.func32 rfl rfl (lE rfl) (fun e0 w0 => ?_)
 refine JC.at ⟨[(0, ov (S (rL (rU UInt64)) s1)), (1, ov (CLO 116 []))], [], []⟩ <| jr <| jc (Zac lb .cB) <| jn <| jr <| jmv rfl rfl <| jmv rfl rfl <| bI hm fun v2 hv2 hm => jx (Zak (js := []) ld cl85 (ZdC k s1 v2 hv2) .func (.cons tR (.cons tR .nil)) rfl) fun _ => lI hm fun v3 hv3 hm => jc (Zar lb tR .cI (cs hv3)) <| jc (Zac lb tR) <| jn <| JC.ret ?_
 obtain rfl := so hm
 exact jd (.val (S rB v3)) rfl rfl rfl rfl rfl rfl

theorem Zew (k : Nat) (v1 : (Vector UInt64 16)) (r : Bool) (hm : ZcH k v1 = some r) : Sim Tryz.prog 83 [A (rV 16 (rU UInt64)) v1] [] (γ := Unit) (fun q => []) (fun q => .one (.val (S rB r))) := by
 unfold ZcH at hm
 refine Sim.of Tryz.func83 rfl rfl (lE rfl) (fun e0 w0 => ?_)
 refine JC.at ⟨[(0, ov (A (rV 16 (rU UInt64)) v1))], [], []⟩ <| jr <| jx (ZaZ lb tR) fun gb2 => jc (Zac lb .cB) <| jn <| jr <| bI hm fun v3 hv3 hm => JL.pre (Imp.frzVar (j := 0) rfl (ImpK.slotP (s := 1) rfl (Comp.self (rV 16 (rU UInt64)) v1) ImpK.refl)) <| jc (ZgF lb tu29 tz24 tR .none .none hv3) <| bI hm fun v4 hv4 hm => jx (Zak (js := []) ld cl32 (Zdm k v3 v4 hv4) .func (.cons tR (.cons .func .nil)) rfl) (fun _ => ?_)
 refine lI hm fun v5 hv5 hm => jc (ZbU lb tR hv5) <| jc (Zac lb tR) <| jn <| JC.ret ?_
 obtain rfl := so hm
 exact jd (.val (S rB v5)) rfl rfl rfl rfl rfl rfl

theorem Zfs (k : Nat) (x1 : Int) (r : Bool) (hm : Zd0 k x1 = some r) : Sim Tryz.prog 142 [S (rI .i64) x1] [] (γ := Unit) (fun q => []) (fun q => .one (.val (S rB r))) := by
 unfold Zd0 at hm
 refine Sim.of Tryz.func142 rfl rfl (lE rfl) (fun e0 w0 => ?_)
 refine JC.at ⟨[(0, ov (S (rI .i64) x1))], [], []⟩ <| jr <| jc (Zac lb .cB) <| jn <| jr <| jmv rfl rfl <| jmv rfl rfl <| lI hm fun v2 hv2 hm => jc (Zar lb tR tR (cs hv2)) <| jc (Zac lb tR) <| jn <| JC.ret ?_
 obtain rfl := so hm
 exact jd (.val (S rB v2)) rfl rfl rfl rfl rfl rfl

theorem ZeD (k : Nat) (x1 : Int) (y2 : Int) (r : Int) (hm : ZcT k x1 y2 = some r) : Sim Tryz.prog 118 [S (rI .i64) x1, S (rI .i64) y2] [] (γ := Unit) (fun q => []) (fun q => .one (.val (S (rI .i64) r))) := by
 unfold ZcT at hm
 refine Sim.of Tryz.func118 rfl rfl (lE rfl) (fun e0 w0 => ?_)
 refine JC.at ⟨[(0, ov (S (rI .i64) x1)), (1, ov (S (rI .i64) y2))], [], []⟩ <| jr <| jc (Zac lb .cI) <| jn <| jr <| jmv rfl rfl <| bI hm fun v3 hv3 hm => jx (Zak (js := []) ld ZnU (Zfs k x1 v3 hv3) .func (.cons tR .nil) rfl) fun _ => jc (Zac lb tR) <| jn <| jr <| jmv rfl rfl <| bI hm fun v4 hv4 hm => jx (Zak (js := []) ld ZnU (Zfs k y2 v4 hv4) .func (.cons tR .nil) rfl) fun _ => jc (Zac lb tR) <| jn <| JC.seq <| jr <| jmv rfl rfl <| jn ?_
 refine jif tR hm (fun hc1 hm => ?_) (fun hc1 hm => ?_)
 · refine JC.seq <| jr <| jmv rfl rfl <| jn <| jif tR hm (fun hc2 hm => ?_) (fun hc2 hm => ?_)
   · refine jr <| jc (Zac lb .cI) <| jn <| JC.ret <| JQ.outR <| JQ.outR ?_
     obtain rfl := so hm
     exact jd (.val (S (rI .i64) (0 : Int))) rfl rfl rfl rfl rfl rfl
   refine JC.skip <| JQ.then <| jr <| jc (Zac lb .cI) <| jn <| JC.ret <| JQ.outR ?_
   obtain rfl := so hm
   exact jd (.val (S (rI .i64) (-1 : Int))) rfl rfl rfl rfl rfl rfl
 refine JC.skip <| JQ.then <| JC.seq <| jr <| jmv rfl rfl <| jn <| jif tR hm (fun hc3 hm => ?_) (fun hc3 hm => ?_)
 · refine jr <| jc (Zac lb .cI) <| jn <| JC.ret <| JQ.outR ?_
   obtain rfl := so hm
   exact jd (.val (S (rI .i64) (1 : Int))) rfl rfl rfl rfl rfl rfl
 refine JC.skip <| JQ.then <| JC.seq <| jr <| jmv rfl rfl <| jmv rfl rfl <| lI hm fun v5 hv5 hm => jc (Zar lb tR tR (cs hv5)) <| JL.sub ⟨[(0, ov (S (rI .i64) x1)), (1, ov (S (rI .i64) y2)), (16, ov (S rB v5))], [], []⟩ (.cons rfl (.cons rfl (.cons rfl .nil))) rfl rfl <| jn <| jif tR hm (fun hc4 hm => ?_) (fun hc4 hm => ?_)
 · refine jr <| jc (Zac lb .cI) <| jn <| JC.ret <| JQ.outR ?_
   obtain rfl := so hm
   exact jd (.val (S (rI .i64) (-1 : Int))) rfl rfl rfl rfl rfl rfl
 refine JC.skip <| JQ.then <| JC.seq <| jr <| jmv rfl rfl <| jmv rfl rfl <| lI hm fun v6 hv6 hm => jc (Zar lb tR tR (cs hv6)) <| jn <| jif tR hm (fun hc5 hm => ?_) (fun hc5 hm => ?_)
 · refine jr <| jc (Zac lb .cI) <| jn <| JC.ret <| JQ.outR ?_
   obtain rfl := so hm
   exact jd (.val (S (rI .i64) (1 : Int))) rfl rfl rfl rfl rfl rfl
 refine JC.skip <| JQ.then <| jr <| jc (Zac lb .cI) <| jn <| JC.ret ?_
 obtain rfl := so hm
 exact jd (.val (S (rI .i64) (0 : Int))) rfl rfl rfl rfl rfl rfl

theorem Zev (k : Nat) (x1 : UInt64) (r : Bool) (hm : Zc6 k x1 = some r) : Sim Tryz.prog 143 [S (rU UInt64) x1] [] (γ := Unit) (fun q => []) (fun q => .one (.val (S rB r))) := by
 unfold Zc6 at hm
 refine Sim.of Tryz.func143 rfl rfl (lE rfl) (fun e0 w0 => ?_)
 refine JC.at ⟨[(0, ov (S (rU UInt64) x1))], [], []⟩ <| jr <| jc (Zac lb .cB) <| jn <| jr <| jmv rfl rfl <| jmv rfl rfl <| lI hm fun v2 hv2 hm => jc (Zci lb tR tR (cs hv2)) <| jc (Zac lb tR) <| jn <| JC.ret ?_
 obtain rfl := so hm
 exact jd (.val (S rB v2)) rfl rfl rfl rfl rfl rfl

theorem Zd4 (k : Nat) (x1 : UInt64) (y2 : UInt64) (r : Int) (hm : Zb8 k x1 y2 = some r) : Sim Tryz.prog 119 [S (rU UInt64) x1, S (rU UInt64) y2] [] (γ := Unit) (fun q => []) (fun q => .one (.val (S (rI .i64) r))) := by
 unfold Zb8 at hm
 refine Sim.of Tryz.func119 rfl rfl (lE rfl) (fun e0 w0 => ?_)
 refine JC.at ⟨[(0, ov (S (rU UInt64) x1)), (1, ov (S (rU UInt64) y2))], [], []⟩ <| jr <| jc (Zac lb .cI) <| jn <| jr <| jmv rfl rfl <| bI hm fun v3 hv3 hm => jx (Zak (js := []) ld ZnN (Zev k x1 v3 hv3) .func (.cons tR .nil) rfl) fun _ => jc (Zac lb tR) <| jn <| jr <| jmv rfl rfl <| bI hm fun v4 hv4 hm => jx (Zak (js := []) ld ZnN (Zev k y2 v4 hv4) .func (.cons tR .nil) rfl) fun _ => jc (Zac lb tR) <| jn <| JC.seq <| jr <| jmv rfl rfl <| jn ?_
 refine jif tR hm (fun hc1 hm => ?_) (fun hc1 hm => ?_)
 · refine JC.seq <| jr <| jmv rfl rfl <| jn <| jif tR hm (fun hc2 hm => ?_) (fun hc2 hm => ?_)
   · refine jr <| jc (Zac lb .cI) <| jn <| JC.ret <| JQ.outR <| JQ.outR ?_
     obtain rfl := so hm
     exact jd (.val (S (rI .i64) (0 : Int))) rfl rfl rfl rfl rfl rfl
   refine JC.skip <| JQ.then <| jr <| jc (Zac lb .cI) <| jn <| JC.ret <| JQ.outR ?_
   obtain rfl := so hm
   exact jd (.val (S (rI .i64) (-1 : Int))) rfl rfl rfl rfl rfl rfl
 refine JC.skip <| JQ.then <| JC.seq <| jr <| jmv rfl rfl <| jn <| jif tR hm (fun hc3 hm => ?_) (fun hc3 hm => ?_)
 · refine jr <| jc (Zac lb .cI) <| jn <| JC.ret <| JQ.outR ?_
   obtain rfl := so hm
   exact jd (.val (S (rI .i64) (1 : Int))) rfl rfl rfl rfl rfl rfl
 refine JC.skip <| JQ.then <| JC.seq <| jr <| jmv rfl rfl <| jmv rfl rfl <| lI hm fun v5 hv5 hm => jc (Zci lb tR tR (cs hv5)) <| JL.sub ⟨[(0, ov (S (rU UInt64) x1)), (1, ov (S (rU UInt64) y2)), (16, ov (S rB v5))], [], []⟩ (.cons rfl (.cons rfl (.cons rfl .nil))) rfl rfl <| jn <| jif tR hm (fun hc4 hm => ?_) (fun hc4 hm => ?_)
 · refine jr <| jc (Zac lb .cI) <| jn <| JC.ret <| JQ.outR ?_
   obtain rfl := so hm
   exact jd (.val (S (rI .i64) (-1 : Int))) rfl rfl rfl rfl rfl rfl
 refine JC.skip <| JQ.then <| JC.seq <| jr <| jmv rfl rfl <| jmv rfl rfl <| lI hm fun v6 hv6 hm => jc (Zci lb tR tR (cs hv6)) <| jn <| jif tR hm (fun hc5 hm => ?_) (fun hc5 hm => ?_)
 · refine jr <| jc (Zac lb .cI) <| jn <| JC.ret <| JQ.outR ?_
   obtain rfl := so hm
   exact jd (.val (S (rI .i64) (1 : Int))) rfl rfl rfl rfl rfl rfl
 refine JC.skip <| JQ.then <| jr <| jc (Zac lb .cI) <| jn <| JC.ret ?_
 obtain rfl := so hm
 exact jd (.val (S (rI .i64) (0 : Int))) rfl rfl rfl rfl rfl rfl

theorem Zg2 (k : Nat) (vals1 : (List Int)) (r : Int) (hm : cmp_Orint k vals1 = some r) : Sim Tryz.prog 117 [S (rL (rI .i64)) vals1] [] (γ := Unit) (fun q => []) (fun q => .one (.val (S (rI .i64) r))) := by
 unfold cmp_Orint at hm
 refine Sim.of Tryz.func117 rfl rfl (lE rfl) (fun e0 w0 => ?_)
 refine JC.at ⟨[(0, ov (S (rL (rI .i64)) vals1))], [], []⟩ <| jr <| jc (Zac lb .cI) <| jn <| jr <| jc (Zac lb .cI) <| jn <| bI hm fun tv1 hx1 hq1 => JC.seqK (α := Unit) (γ := Unit) (stj := fun v q => ⟨[(3, ov (S (rI .i64) (0 : Int)))], [], []⟩) (p := fun v => tv1 = (.inl v)) (fun v q hv => ?_) ?_
 · subst hv
   skip
   obtain _ := q
   dsimp only at hq1
   refine JC.at ⟨[(3, ov (S (rI .i64) (0 : Int)))], [], []⟩ <| jr <| jmv rfl rfl <| jc (Zac lb tR) <| jn <| JC.ret ?_
   obtain rfl := so hq1
   exact jd (.val (S (rI .i64) (0 : Int))) rfl rfl rfl rfl rfl rfl
 refine jr <| jmv rfl rfl <| jc (ZaI lb tu37 tR) <| jc (ZaC lb .cI) <| jn <| JC.block <| bI hx1 fun tv2 hL2 hq2 => JC.pre ?_ (JC.loop (γ := Unit) (stf := fun s q => ⟨[(3, ov (S (rI .i64) (0 : Int))), (6, ov (S (rL (rI .i64)) vals1)), (7, ov (S (rI .i64) (List.length vals1 : Int))), (8, ov (S (rI .i64) s))], [], []⟩) (q := ()) hL2 ?_)
 · exact (Imp.norm (js := []) rfl (.cons rfl (.cons rfl (.cons rfl (.cons rfl .nil)))))
 intro x2 q x hx hr
 obtain _ := q
 change cmp_Orint.b1 k vals1 x2 = some x at hx
 unfold cmp_Orint.b1 at hx
 refine JC.at ⟨[(3, ov (S (rI .i64) (0 : Int))), (6, ov (S (rL (rI .i64)) vals1)), (7, ov (S (rI .i64) (List.length vals1 : Int))), (8, ov (S (rI .i64) x2))], [], []⟩ <| jr <| lI hx fun v3 hv3 hx => jc (Zar lb tR tR (cs hv3)) <| jn <| JC.seq <| jif tR hx (fun hc3 hx => ?_) (fun hc3 hx => ?_)
 · refine JC.skip <| JQ.then <| JC.seq <| JC.block <| jr <| bI hx fun v4 hv4 hx => jc (Zau lb tu37 tz3 tR tR hv4) <| jc (Zbr lb tS3 rfl tR rfl) <| jc (Zac lb tR) <| jn <| jr <| jmv rfl rfl <| jmv rfl rfl <| lI hx fun v5 hv5 hx => jc (Zar lb tR tR (cs hv5)) <| jn <| jif tR hx (fun hc4 hx => ?_) (fun hc4 hx => ?_)
   · refine jr <| jmv rfl rfl <| jc (Zac lb tR) <| jn <| JC.ret <| JQ.outRB <| JQ.outR ?_
     try obtain rfl := so hx
     try obtain rfl := hr _ rfl
     dsimp only at hq2
     refine JQ.outR <| JQ.outRB ?_
     try obtain rfl := so hq2
     dsimp only at hq1
     refine JQ.outR ?_
     obtain rfl := so hq1
     exact jd (.val (S (rI .i64) v4)) rfl rfl rfl rfl rfl rfl
   refine JC.skip <| JQ.outNB <| JQ.then <| JC.region <| lI hx fun v6 hv6 hx => jc (ZaX lb tR .cI (cs hv6)) <| jmv rfl rfl <| JL.nil ?_
   try obtain rfl := so hx
   exact JQ.next () rfl (Imp.norm (js := []) rfl (.cons rfl (.cons rfl (.cons rfl (.cons rfl .nil)))))
 refine JC.exit <| JQ.outX ?_
 try obtain rfl := so hx
 try obtain rfl := hr _ rfl
 dsimp only at hq2
 refine JQ.outX <| JQ.here ?_
 try obtain rfl := so hq2
 exact JQ.joinK () () rfl (Imp.norm (js := []) rfl (.cons rfl .nil))

theorem Zik (k : Nat) (a1 : Zah) (b2 : Zah) (r : Bool) (hm : Zei k a1 b2 = some r) : Sim Tryz.prog 84 [A Zae a1, A Zae b2] [] (γ := Unit) (fun q => []) (fun q => .one (.val (S rB r))) := by
 unfold Zei at hm
 refine Sim.of Tryz.func84 rfl rfl (lE rfl) (fun e0 w0 => ?_)
 refine JC.at ⟨[(0, ov (A Zae a1)), (1, ov (A Zae b2))], [], []⟩ <| jr <| jx (ZaZ lb tR) fun gb3 => jx (ZaZ lb tR) fun gb4 => jc (Zac lb .cB) <| jn <| JC.seq <| bI hm fun v5 hv5 hm => bI hm fun v6 hv6 hm => bI hm fun v7 hv7 hm => ?_
 obtain ⟨v8, hv8, hm⟩ := ZaT hm
 refine JC.anyF (base := [(2, ov (PTR gb3 0)), (3, ov (PTR gb4 0))])
     (fs := fun γ => [⟨some 5, ov (PTR gb3 (0 + 0))⟩, ⟨some 6, ov (S (rI .i64) a1.Region)⟩, ⟨some 7, ov (PTR gb4 (0 + 0))⟩, ⟨some 8, ov (S (rI .i64) b2.Region)⟩, ⟨some 9, ov (S (rI .i64) v5)⟩, ⟨some 10, ov (PTR gb3 (0 + 1))⟩, ⟨some 11, ov (S (rU UInt64) a1.Count)⟩, ⟨some 12, ov (PTR gb4 (0 + 1))⟩, ⟨some 13, ov (S (rU UInt64) b2.Count)⟩, ⟨some 14, ov (S (rI .i64) v6)⟩, ⟨some 15, ov (S (rL (rI .i64)) ([v5, v6] : (List Int)))⟩, ⟨some 16, ov (S (rI .i64) v7)⟩, ⟨some 17, ov (S rB v8)⟩, ⟨some 4, ov (S rB v8)⟩])
     (rs := fun γ => [⟨cvar gb3 Zae a1, none, none, [1, 6]⟩, ⟨cvar gb4 Zae b2, none, none, [3, 8]⟩])
     (afts := nn 14) (js := [0, 0]) Zcj (.cons rfl (.cons rfl .nil)) (fun _ => rfl)
     (by
      refine dS 1 (fun γ ρ B hb hd => Zaa (off := 0) lb Zeq (.tmp (hb 2 _ rfl))) <| dR 2 (fun γ ρ B hb hd => Zao.lk ⟨ρ, (cvar gb3 Zae a1) :: B, _⟩ (Zam (j := 0) lb tS3 (tl hd 0 5) rfl (cT (ZaN a1) rfl) rfl rfl)) <| dS 3 (fun γ ρ B hb hd => Zaa (off := 0) lb Zeq (.tmp (hb 3 _ rfl))) <| dR 4 (fun γ ρ B hb hd => Zao.lk ⟨ρ, (cvar gb4 Zae b2) :: B, _⟩ (Zam (j := 0) lb tS3 (tl hd 2 7) rfl (cT (ZaN b2) rfl) rfl rfl)) <| dS 5 (fun γ ρ B hb hd => (Zak (js := []) ld Zoe (ZeD k a1.Region b2.Region v5 hv5) .func (.cons (tl hd 1 6) (.cons (tl hd 3 8) .nil)) rfl).post (fun _ => Imp.refl)) ?_
      refine dS 6 (fun γ ρ B hb hd => Zaa (off := 1) lb Zft (.tmp (hb 2 _ rfl))) <| dR 7 (fun γ ρ B hb hd => Zao.lk ⟨ρ, (cvar gb3 Zae a1) :: B, _⟩ (Zam (j := 0) lb tS24 (tl hd 5 10) rfl (cT (ZaY a1) rfl) rfl rfl)) <| dS 8 (fun γ ρ B hb hd => Zaa (off := 1) lb Zft (.tmp (hb 3 _ rfl))) <| dR 9 (fun γ ρ B hb hd => Zao.lk ⟨ρ, (cvar gb4 Zae b2) :: B, _⟩ (Zam (j := 0) lb tS24 (tl hd 7 12) rfl (cT (ZaY b2) rfl) rfl rfl)) <| dS 10 (fun γ ρ B hb hd => (Zak (js := []) ld Zoi (Zd4 k a1.Count b2.Count v6 hv6) .func (.cons (tl hd 6 11) (.cons (tl hd 8 13) .nil)) rfl).post (fun _ => Imp.refl)) ?_
      refine dS 11 (fun γ ρ B hb hd => Zce (r := (rI .i64)) lb tu37 tz3 tZ3 rfl (lE rfl) (.S rfl (tl hd 4 9) (.S rfl (tl hd 9 14) .nil)) rfl) <| dS 12 (fun γ ρ B hb hd => (Zak (js := []) ld Zn9 (Zg2 k ([v5, v6] : (List Int)) v7 hv7) .func (.cons (tl hd 10 15) .nil) rfl).post (fun _ => Imp.refl)) <| dS 13 (fun γ ρ B hb hd => Zar lb (tl hd 11 16) .cI (cs hv8)) <| dS 14 (fun γ ρ B hb hd => Zac lb (tl hd 12 17)) ?_
      exact ZaF.nil)
     (by decide +kernel) (fun _ => rfl) (fun _ => rfl) (fun _ => rfl) rfl
     (ρ' := fun γ => [(4, ov (S rB v8))])
     (X' := fun γ => [cvar gb3 Zae a1, cvar gb4 Zae b2])
     (fun γ ρ hb hd => (.cons (hdq hd 13 4 rfl) .nil)) (fun _ => rfl) (fun γ => ?_)
 refine JQ.at ⟨[(4, ov (S rB v8))], [cvar gb3 Zae a1, cvar gb4 Zae b2], []⟩ <| JQ.then <| JC.ret ?_
 obtain rfl := so hm
 exact jd (.val (S rB v8)) rfl rfl rfl rfl rfl rfl

theorem Zfg (k : Nat) (t1 : Zaq) (r : Bool) (hm : event_May k t1 = some r) : Sim Tryz.prog 31 [A Zan t1] [] (γ := Unit) (fun q => []) (fun q => .one (.val (S rB r))) := by
 unfold event_May at hm
 refine Sim.of Tryz.func31 rfl rfl (lE rfl) (fun e0 w0 => ?_)
 refine JC.at ⟨[(0, ov (A Zan t1))], [], []⟩ <| jr <| jx (ZaZ lb tR) fun gb2 => jc (Zac lb .cB) <| jn <| JC.scope <| JC.seq <| bI hm fun x13 hx1 hq1 => JC.seqJ (γ := Unit) (stj := fun _ => ⟨[(1, ov (PTR gb2 0)), (29, ov (S rB x13))], [cvar gb2 Zan t1], []⟩) (fun _ => ?_) ?_
 · refine jif tR hq1 (fun hc14 hq1 => ?_) (fun hc14 hq1 => ?_)
   · refine jr <| jc (Zac lb .cB) <| jn <| JC.ret <| JQ.outR <| JQ.scR ?_
     obtain rfl := so hq1
     exact jd (.val (S rB false)) rfl rfl rfl rfl rfl rfl
   refine JC.skip <| JQ.then <| JC.seq <| bI hq1 fun x20 hx15 hq15 => JC.seqJ (γ := Unit) (stj := fun _ => ⟨[(1, ov (PTR gb2 0)), (45, ov (S rB x20))], [cvar gb2 Zan t1], []⟩) (fun _ => ?_) ?_
   · refine jif tR hq15 (fun hc26 hq15 => ?_) (fun hc26 hq15 => ?_)
     · refine jr <| jc (Zac lb .cB) <| jn <| JC.ret <| JQ.outR <| JQ.scR ?_
       obtain rfl := so hq15
       exact jd (.val (S rB false)) rfl rfl rfl rfl rfl rfl
     refine JC.skip <| JQ.then <| jr <| jc (Zac lb .cB) <| jn <| JC.seq <| JC.label <| JQ.then <| bI hq15 fun x38 hx27 hq27 => JC.seqJ (γ := Unit) (stj := fun _ => ⟨[(3, ov (S rB x38))], [], []⟩) (fun _ => ?_) ?_
     · refine jr <| jmv rfl rfl <| jc (Zac lb tR) <| jn <| JC.ret <| JQ.scR ?_
       obtain rfl := so hq27
       exact jd (.val (S rB x38)) rfl rfl rfl rfl rfl rfl
     refine jr <| jc (Zaa (off := 20) lb ZdW tR) <| jc (Zam (j := 0) lb tS30 tR rfl (cT (ZaR t1) rfl) rfl rfl) <| jc (ZaI lb tu30 tR) <| jc (ZaC lb .cI) <| jn <| JC.block <| JC.pre ?_ (JC.loop (γ := Unit) (stf := fun s q => ⟨[(1, ov (PTR gb2 0)), (3, ov (S rB s.1)), (47, ov (S (rL Zat) t1.To)), (48, ov (S (rI .i64) (List.length t1.To : Int))), (49, ov (S (rI .i64) s.2))], [cvar gb2 Zan t1], []⟩) (q := ()) hx27 ?_)
     · exact (Imp.norm (js := [0]) rfl (.cons rfl (.cons rfl (.cons rfl (.cons rfl (.cons rfl .nil))))))
     intro s q x hx hr
     obtain ⟨x21, x22⟩ := s
     obtain _ := q
     change event_May.b1 k t1 x21 x22 = some x at hx
     unfold event_May.b1 at hx
     refine JC.at ⟨[(1, ov (PTR gb2 0)), (3, ov (S rB x21)), (47, ov (S (rL Zat) t1.To)), (48, ov (S (rI .i64) (List.length t1.To : Int))), (49, ov (S (rI .i64) x22))], [cvar gb2 Zan t1], []⟩ <| jr <| lI hx fun v23 hv23 hx => jc (Zar lb tR tR (cs hv23)) <| jn <| JC.seq <| jif tR hx (fun hc29 hx => ?_) (fun hc29 hx => ?_)
     · refine JC.skip <| JQ.then <| JC.seq <| JC.block <| jr <| jmv rfl rfl <| bI hx fun v24 hv24 hx => jc (Zau lb tu30 ZiU tR tR hv24) <| jc (ZaS lb Zje tR rfl) <| jx (Za8 lb Zmx Zoq) fun gb25 => jc (Zac lb tR) <| jc (ZaM (j := 1) Zje tR tR rfl (UpdR.self (by rfl)) rfl) <| jn <| bI hx fun x35 hx30 hq30 => JC.seqJ (γ := Unit) (stj := fun _ => ⟨[(1, ov (PTR gb2 0)), (3, ov (S rB x35)), (47, ov (S (rL Zat) t1.To)), (48, ov (S (rI .i64) (List.length t1.To : Int))), (49, ov (S (rI .i64) x22))], [cvar gb2 Zan t1], []⟩) (fun _ => ?_) ?_
       · refine jr <| jmv rfl rfl <| lI hq30 fun v36 hv36 hq30 => jc (ZbU lb tR hv36) <| jn <| jif tR hq30 (fun hc51 hq30 => ?_) (fun hc51 hq30 => ?_)
         · refine JC.exit <| JQ.outE (by decide) <| JQ.outX ?_
           try obtain rfl := so hq30
           have ht := hr _ rfl
           have hq28 := cs ht
           clear hr ht
           refine JQ.outX <| JQ.here ?_
           try obtain rfl := so hq28
           exact jo rfl rfl rfl
         refine JC.skip <| JQ.outNB <| JQ.then <| JC.region <| lI hq30 fun v37 hv37 hq30 => jc (ZaX lb tR .cI (cs hv37)) <| jmv rfl rfl <| JL.nil ?_
         try obtain rfl := so hq30
         exact JQ.next () rfl (Imp.norm (js := [0]) rfl (.cons rfl (.cons rfl (.cons rfl (.cons rfl (.cons rfl .nil))))))
       refine bI hx30 fun v26 hv26 hx30 => bI hx30 fun v27 hv27 hx30 => lI hx30 fun v28 hv28 hx30 => lI hx30 fun v29 hv29 hx30 => lI hx30 fun v30 hv30 hx30 => bI hx30 fun v31 hv31 hx30 => bI hx30 fun v32 hv32 hx30 => lI hx30 fun v33 hv33 hx30 => ?_
       obtain ⟨v34, hv34, hx30⟩ := ZaT hx30
       refine JC.anyF (base := [(1, ov (PTR gb2 0)), (4, ov (S (rI .i64) x22)), (5, ov (PTR gb25 0)), (47, ov (S (rL Zat) t1.To)), (48, ov (S (rI .i64) (List.length t1.To : Int))), (49, ov (S (rI .i64) x22))])
           (fs := fun γ => [⟨some 54, ov (PTR gb25 (0 + 0))⟩, ⟨some 55, ov (A Zae v24.Dot)⟩, ⟨some 56, ov (S rB v26)⟩, ⟨some 57, ov (S rB v26)⟩, ⟨some 58, bif v26 then ov (PTR gb25 (0 + 2)) else .one .und⟩, ⟨some 59, bif v26 then ov (S rS v24.Device) else .one .und⟩, ⟨some 60, bif v26 then ov (S rB v27) else .one .und⟩, ⟨some 61, ov (S rB v28)⟩, ⟨some 62, ov (S rB v28)⟩, ⟨some 63, bif v28 then ov (S (rI .i64) x22) else .one .und⟩, ⟨some 64, bif v28 then ov (S rB v29) else .one .und⟩, ⟨some 65, bif v28 then ov (S rB v29) else .one .und⟩, ⟨some 66, bif (v28 && (!v29)) then ov (PTR gb2 (0 + 20)) else .one .und⟩, ⟨some 67, bif (v28 && (!v29)) then ov (S (rL Zat) t1.To) else .one .und⟩, ⟨some 68, bif (v28 && (!v29)) then ov (S (rI .i64) x22) else .one .und⟩, ⟨some 69, bif (v28 && (!v29)) then ov (S (rI .i64) v30) else .one .und⟩, ⟨some 70, bif (v28 && (!v29)) then ov (PT Zat v31) else .one .und⟩, ⟨some 71, bif (v28 && (!v29)) then ov (PT Zae v31.Dot) else .one .und⟩, ⟨some 72, bif (v28 && (!v29)) then ov (A Zae v31.Dot) else .one .und⟩, ⟨some 73, bif (v28 && (!v29)) then ov (PTR gb25 (0 + 0)) else .one .und⟩, ⟨some 74, bif (v28 && (!v29)) then ov (A Zae v24.Dot) else .one .und⟩, ⟨some 75, bif (v28 && (!v29)) then ov (S rB v32) else .one .und⟩, ⟨some 76, bif v28 then ov (S rB v33) else .one .und⟩, ⟨some 77, ov (S rB v34)⟩, ⟨some 3, ov (S rB v34)⟩])
           (rs := fun γ => [⟨cvar gb2 Zan t1, none, none, [13]⟩, ⟨cvar gb25 Zat v24, none, none, [1, 5, 20]⟩])
           (afts := nn 25) (js := [0, 0]) Zcj (.cons rfl (.cons rfl (.cons rfl (.cons rfl (.cons rfl (.cons rfl .nil)))))) (fun _ => rfl)
           (by
      refine dS 1 (fun γ ρ B hb hd => Zaa (off := 0) lb Zi2 (.tmp (hb 5 _ rfl))) <| dR 2 (fun γ ρ B hb hd => Zao.lk ⟨ρ, (cvar gb25 Zat v24) :: B, _⟩ (ZaB (j := 0) lb tA26 (tl hd 0 54) rfl (cT (Zdb v24) rfl) rfl)) <| dS 3 (fun γ ρ B hb hd => (Zak (js := []) ld cl82 (Zd6 k v24.Dot v26 hv26) .func (.cons (tl hd 1 55) .nil) rfl).post (fun _ => Imp.refl)) <| dm 4 2 56 ?_
      refine dT 5 3 57 v26 (fun γ => ov (PTR gb25 (0 + 2))) (fun γ ρ B hb hd hq31 => Zaa (off := 2) lb ZjR (.tmp (hb 5 _ rfl))) ?_
      refine eT 6 3 57 v26 (fun γ => ov (S rS v24.Device)) (fun γ ρ B hb hd hq32 => Zao.lk ⟨ρ, (cvar gb25 Zat v24) :: B, _⟩ (Zam (j := 0) lb tS9 (HasO.cnd (tl hd 4 58) hq32) rfl (cT (Zdk v24) rfl) rfl rfl)) ?_
      refine dT 7 3 57 v26 (fun γ => ov (S rB v27)) (fun γ ρ B hb hd hq33 => (Zak (js := []) ld cl71 (Zdd k v24.Device v27 (ifT hv27 hq33)) .func (.cons (HasO.cnd (tl hd 5 59) hq33) .nil) rfl).post (fun _ => Imp.refl)) ?_
      refine dS 8 (fun γ ρ B hb hd => Zas lb (tl hd 3 57) (fun hb34 => (HasO.cnd (tl hd 6 60) hb34)) (fun hb34 => .cB) hv28) <| dm 9 7 61 ?_
      refine dT 10 8 62 v28 (fun γ => ov (S (rI .i64) x22)) (fun γ ρ B hb hd hq35 => ZaC lb (.tmp (hb 4 _ rfl))) ?_
      refine dT 11 8 62 v28 (fun γ => ov (S rB v29)) (fun γ ρ B hb hd hq36 => Zar lb (HasO.cnd (tl hd 9 63) hq36) .cI (cs hv29)) ?_
      refine dT 12 8 62 v28 (fun γ => ov (S rB v29)) (fun γ ρ B hb hd hq37 => ZaC lb (HasO.cnd (tl hd 10 64) hq37)) ?_
      refine dB 13 11 65 v28 v29 (fun γ => ov (PTR gb2 (0 + 20))) (fun γ ρ B hb hd hq38 => Zaa (off := 20) lb ZdW (.tmp (hb 1 _ rfl))) ?_
      refine eB 14 11 65 v28 v29 (fun γ => ov (S (rL Zat) t1.To)) (fun γ ρ B hb hd hq39 => Zao.lk ⟨ρ, (cvar gb2 Zan t1) :: B, _⟩ (Zam (j := 0) lb tS30 (HasO.cnd (tl hd 12 66) (andI (andL hq39) (notT (notF (andR hq39))))) rfl (cT (ZaR t1) rfl) rfl rfl)) ?_
      refine dB 15 11 65 v28 v29 (fun γ => ov (S (rI .i64) x22)) (fun γ ρ B hb hd hq40 => ZaC lb (.tmp (hb 4 _ rfl))) ?_
      refine dB 16 11 65 v28 v29 (fun γ => ov (S (rI .i64) v30)) (fun γ ρ B hb hd hq41 => ZaX lb (HasO.cnd (tl hd 14 68) (andI (andL hq41) (notT (notF (andR hq41))))) .cI (cs hv30)) ?_
      refine dB 17 11 65 v28 v29 (fun γ => ov (PT Zat v31)) (fun γ ρ B hb hd hq42 => Zau lb tu30 ZiU (HasO.cnd (tl hd 13 67) (andI (andL hq42) (notT (notF (andR hq42))))) (HasO.cnd (tl hd 15 69) (andI (andL hq42) (notT (notF (andR hq42))))) (ifT hv31 hq42)) ?_
      refine dB 18 11 65 v28 v29 (fun γ => ov (PT Zae v31.Dot)) (fun γ ρ B hb hd hq43 => Zcm lb Zi2 (HasO.cnd (tl hd 16 70) (andI (andL hq43) (notT (notF (andR hq43))))) (Zdb v31)) ?_
      refine dB 19 11 65 v28 v29 (fun γ => ov (A Zae v31.Dot)) (fun γ ρ B hb hd hq44 => ZaS lb tA26 (HasO.cnd (tl hd 17 71) (andI (andL hq44) (notT (notF (andR hq44))))) rfl) ?_
      refine dB 20 11 65 v28 v29 (fun γ => ov (PTR gb25 (0 + 0))) (fun γ ρ B hb hd hq45 => Zaa (off := 0) lb Zi2 (.tmp (hb 5 _ rfl))) ?_
      refine eB 21 11 65 v28 v29 (fun γ => ov (A Zae v24.Dot)) (fun γ ρ B hb hd hq46 => Zao.lk ⟨ρ, (cvar gb25 Zat v24) :: B, _⟩ (ZaB (j := 0) lb tA26 (HasO.cnd (tl hd 19 73) (andI (andL hq46) (notT (notF (andR hq46))))) rfl (cT (Zdb v24) rfl) rfl)) ?_
      refine dB 22 11 65 v28 v29 (fun γ => ov (S rB v32)) (fun γ ρ B hb hd hq47 => (Zak (js := []) ld cl84 (Zik k v31.Dot v24.Dot v32 (ifT hv32 hq47)) .func (.cons (HasO.cnd (tl hd 18 72) (andI (andL hq47) (notT (notF (andR hq47))))) (.cons (HasO.cnd (tl hd 20 74) (andI (andL hq47) (notT (notF (andR hq47))))) .nil)) rfl).post (fun _ => Imp.refl)) ?_
      refine dT 23 8 62 v28 (fun γ => ov (S rB v33)) (fun γ ρ B hb hd hq48 => Zas lb (HasO.cnd (tl hd 11 65) hq48) (fun hb49 => .cB) (fun hb49 => (HasO.cnd (tl hd 21 75) (andI hq48 (notT hb49)))) hv33) ?_
      refine dS 24 (fun γ ρ B hb hd => Zas lb (tl hd 8 62) (fun hb50 => (HasO.cnd (tl hd 22 76) hb50)) (fun hb50 => .cB) hv34) <| dS 25 (fun γ ρ B hb hd => Zac lb (tl hd 23 77)) ?_
      exact ZaF.nil)
           (by decide +kernel) (fun _ => rfl) (fun _ => rfl) (fun _ => rfl) rfl
           (ρ' := fun γ => [(1, ov (PTR gb2 0)), (3, ov (S rB v34)), (47, ov (S (rL Zat) t1.To)), (48, ov (S (rI .i64) (List.length t1.To : Int))), (49, ov (S (rI .i64) x22))])
           (X' := fun γ => [cvar gb2 Zan t1, cvar gb25 Zat v24])
           (fun γ ρ hb hd => (.cons (hb 1 _ rfl) (.cons (hdq hd 24 3 rfl) (.cons (hb 47 _ rfl) (.cons (hb 48 _ rfl) (.cons (hb 49 _ rfl) .nil)))))) (fun _ => rfl) (fun γ => ?_)
       refine JQ.at ⟨[(1, ov (PTR gb2 0)), (3, ov (S rB v34)), (47, ov (S (rL Zat) t1.To)), (48, ov (S (rI .i64) (List.length t1.To : Int))), (49, ov (S (rI .i64) x22))], [cvar gb2 Zan t1, cvar gb25 Zat v24], []⟩ ?_
       try obtain rfl := so hx30
       exact JQ.join () (Imp.norm (js := [0]) rfl (.cons rfl (.cons rfl (.cons rfl (.cons rfl (.cons rfl .nil))))))
     refine JC.exit <| JQ.outX ?_
     try obtain rfl := so hx
     have ht := hr _ rfl
     have hq28 := cs ht
     clear hr ht
     refine JQ.outX <| JQ.here ?_
     try obtain rfl := so hq28
     exact jo rfl rfl rfl
   refine JC.region <| jc (Zaa (off := 2) lb ZhV tR) <| jc (Zam (j := 0) lb tS9 tR rfl (cT (Zby t1) rfl) rfl rfl) <| bI hx15 fun v14 hv14 hx15 => jx (Zak (js := []) ld cl71 (Zdd k t1.Topic v14 hv14) .func (.cons tR .nil) rfl) fun _ => lI hx15 fun v15 hv15 hx15 => jc (ZbU lb tR hv15) <| jmv rfl rfl <| jF (ov (PTR gb2 (0 + 3))) rfl rfl rfl rfl (fun hq16 => Zaa (off := 3) lb ZhJ tR) <| jF (ov (S (rL (rU UInt8)) t1.Payload)) rfl rfl rfl rfl (fun hq17 => Zam (j := 0) lb tS27 (HasO.cnd tR (notT (notF hq17))) rfl (cT (Zbh t1) rfl) rfl rfl) <| jF (ov (S (rI .i64) (List.length t1.Payload : Int))) rfl rfl rfl rfl (fun hq18 => ZaI lb tu27 (HasO.cnd tR (notT (notF hq18)))) ?_
   obtain ⟨v16, hv16, hx15⟩ := ZaT hx15
   refine jF (ov (S rB v16)) rfl rfl rfl rfl (fun hq19 => Zar lb (HasO.cnd tR (notT (notF hq19))) .cI (cs hv16)) <| lI hx15 fun v17 hv17 hx15 => jc (Zas lb tR (fun hb20 => .cB) (fun hb20 => (HasO.cnd tR (notT hb20))) hv17) <| jmv rfl rfl <| jF (ov (PTR gb2 (0 + 20))) rfl rfl rfl rfl (fun hq21 => Zaa (off := 20) lb ZdW tR) <| JL.sub ⟨[(1, ov (PTR gb2 0)), (40, ov (S rB v17)), (41, bif (!v17) then ov (PTR gb2 (0 + 20)) else .one .und)], [cvar gb2 Zan t1], []⟩ (.cons rfl (.cons rfl (.cons rfl .nil))) rfl rfl <| jF (ov (S (rL Zat) t1.To)) rfl rfl rfl rfl (fun hq22 => Zam (j := 0) lb tS30 (HasO.cnd tR (notT (notF hq22))) rfl (cT (ZaR t1) rfl) rfl rfl) <| jF (ov (S (rI .i64) (List.length t1.To : Int))) rfl rfl rfl rfl (fun hq23 => ZaI lb tu30 (HasO.cnd tR (notT (notF hq23)))) <| lI hx15 fun v18 hv18 hx15 => jF (ov (S rB v18)) rfl rfl rfl rfl (fun hq24 => Zar lb (HasO.cnd tR (notT (notF hq24))) .cI (cs hv18)) ?_
   refine lI hx15 fun v19 hv19 hx15 => jc (Zas lb tR (fun hb25 => .cB) (fun hb25 => (HasO.cnd tR (notT hb25))) hv19) <| JL.nil ?_
   try obtain rfl := so hx15
   exact JQ.join () (Imp.norm (js := [0]) rfl (.cons rfl (.cons rfl .nil)))
 refine bI hx1 fun v3 hv3 hx1 => lI hx1 fun v4 hv4 hx1 => bI hx1 fun v5 hv5 hx1 => lI hx1 fun v6 hv6 hx1 => lI hx1 fun v7 hv7 hx1 => ?_
 obtain ⟨v8, hv8, hx1⟩ := ZaT hx1
 rcases ZcY hx1 with ⟨hc13, hx1⟩ | ⟨hc13, hx1⟩
 · refine JC.anyF (base := [(1, ov (PTR gb2 0))])
       (fs := fun γ => [⟨some 6, ov (PTR gb2 (0 + 0))⟩, ⟨some 7, ov (A Zae t1.ID)⟩, ⟨some 8, ov (S rB v3)⟩, ⟨some 9, ov (S rB v4)⟩, ⟨some 10, ov (S rB v4)⟩, ⟨some 11, bif (!v4) then ov (PTR gb2 (0 + 4)) else .one .und⟩, ⟨some 12, bif (!v4) then ov (A (rV 16 (rU UInt64)) t1.Past) else .one .und⟩, ⟨some 13, bif (!v4) then ov (S rB v5) else .one .und⟩, ⟨some 14, bif (!v4) then ov (S rB v6) else .one .und⟩, ⟨some 15, ov (S rB v7)⟩, ⟨some 16, ov (S rB v7)⟩, ⟨some 17, bif (!v7) then ov (PTR gb2 (0 + 0)) else .one .und⟩, ⟨some 18, bif (!v7) then ov (PTR gb2 ((0 + 0) + 0)) else .one .und⟩, ⟨some 19, bif (!v7) then ov (S (rI .i64) t1.ID.Region) else .one .und⟩, ⟨some 20, bif (!v7) then ov (S (rI .i64) v8) else .one .und⟩, ⟨some 21, bif (!v7) then ov (PTR gb2 (0 + 4)) else .one .und⟩, ⟨some 22, .one .und⟩, ⟨some 23, .one .und⟩, ⟨some 24, .one .und⟩, ⟨some 25, .one .und⟩, ⟨some 26, .one .und⟩, ⟨some 27, .one .und⟩, ⟨some 28, .one .und⟩, ⟨some 29, ov (S rB true)⟩])
       (rs := fun γ => [⟨cvar gb2 Zan t1, none, none, [1, 6, 13]⟩])
       (afts := nn 24) (js := [0]) Zcj (.cons rfl .nil) (fun _ => rfl)
       (by
      refine dS 1 (fun γ ρ B hb hd => Zaa (off := 0) lb Zgd (.tmp (hb 1 _ rfl))) <| dR 2 (fun γ ρ B hb hd => Zao.lk ⟨ρ, (cvar gb2 Zan t1) :: B, _⟩ (ZaB (j := 0) lb tA26 (tl hd 0 6) rfl (cT (Zbe t1) rfl) rfl)) <| dS 3 (fun γ ρ B hb hd => (Zak (js := []) ld cl82 (Zd6 k t1.ID v3 hv3) .func (.cons (tl hd 1 7) .nil) rfl).post (fun _ => Imp.refl)) <| dS 4 (fun γ ρ B hb hd => ZbU lb (tl hd 2 8) hv4) <| dm 5 3 9 ?_
      refine dF 6 4 10 v4 (fun γ => ov (PTR gb2 (0 + 4))) (fun γ ρ B hb hd hq_2 => Zaa (off := 4) lb ZgO (.tmp (hb 1 _ rfl))) ?_
      refine eF 7 4 10 v4 (fun γ => ov (A (rV 16 (rU UInt64)) t1.Past)) (fun γ ρ B hb hd hq3 => Zao.lk ⟨ρ, (cvar gb2 Zan t1) :: B, _⟩ (ZaB (j := 0) lb tA29 (HasO.cnd (tl hd 5 11) (notT (notF hq3))) rfl (cT (Zbm t1) rfl) rfl)) ?_
      refine dF 8 4 10 v4 (fun γ => ov (S rB v5)) (fun γ ρ B hb hd hq4 => (Zak (js := []) ld cl83 (Zew k t1.Past v5 (ifT hv5 hq4)) .func (.cons (HasO.cnd (tl hd 6 12) (notT (notF hq4))) .nil) rfl).post (fun _ => Imp.refl)) ?_
      refine dF 9 4 10 v4 (fun γ => ov (S rB v6)) (fun γ ρ B hb hd hq5 => ZbU lb (HasO.cnd (tl hd 7 13) (notT (notF hq5))) hv6) ?_
      refine dS 10 (fun γ ρ B hb hd => Zas lb (tl hd 4 10) (fun hb6 => .cB) (fun hb6 => (HasO.cnd (tl hd 8 14) (notT hb6))) hv7) <| dm 11 9 15 ?_
      refine dF 12 10 16 v7 (fun γ => ov (PTR gb2 (0 + 0))) (fun γ ρ B hb hd hq7 => Zaa (off := 0) lb Zgd (.tmp (hb 1 _ rfl))) ?_
      refine dF 13 10 16 v7 (fun γ => ov (PTR gb2 ((0 + 0) + 0))) (fun γ ρ B hb hd hq8 => Zaa (off := 0) lb Zeq (HasO.cnd (tl hd 11 17) (notT (notF hq8)))) ?_
      refine eF 14 10 16 v7 (fun γ => ov (S (rI .i64) t1.ID.Region)) (fun γ ρ B hb hd hq9 => Zao.lk ⟨ρ, (cvar gb2 Zan t1) :: B, _⟩ (Zam (j := 0) lb tS3 (HasO.cnd (tl hd 12 18) (notT (notF hq9))) rfl (Comp.trans (cT (Zbe t1) rfl) (ZaN t1.ID) (lE rfl)) rfl rfl)) ?_
      refine dF 15 10 16 v7 (fun γ => ov (S (rI .i64) v8)) (fun γ ρ B hb hd hq10 => ZaX lb (HasO.cnd (tl hd 13 19) (notT (notF hq10))) .cI (cs hv8)) ?_
      refine dF 16 10 16 v7 (fun γ => ov (PTR gb2 (0 + 4))) (fun γ ρ B hb hd hq11 => Zaa (off := 4) lb ZgO (.tmp (hb 1 _ rfl))) ?_
      refine kn 17 10 16 rfl hc13 <| kn 18 10 16 rfl hc13 <| kn 19 10 16 rfl hc13 <| kn 20 10 16 rfl hc13 <| kn 21 10 16 rfl hc13 ?_
      refine kn 22 10 16 rfl hc13 <| kn 23 10 16 rfl hc13 <| dS 24 (fun γ ρ B hb hd => Zdf lb (tl hd 10 16) hc13 .cB) ?_
      exact ZaF.nil)
       (by decide +kernel) (fun _ => rfl) (fun _ => rfl) (fun _ => rfl) rfl
       (ρ' := fun γ => [(1, ov (PTR gb2 0)), (29, ov (S rB true))])
       (X' := fun γ => [cvar gb2 Zan t1])
       (fun γ ρ hb hd => (.cons (hb 1 _ rfl) (.cons (hdq hd 23 29 rfl) .nil))) (fun _ => rfl) (fun γ => ?_)
   refine JQ.at ⟨[(1, ov (PTR gb2 0)), (29, ov (S rB true))], [cvar gb2 Zan t1], []⟩ ?_
   try obtain rfl := so hx1
   exact JQ.join () (Imp.norm (js := [0]) rfl (.cons rfl (.cons rfl .nil)))
 refine bI hx1 fun i9 hv_i_9 hx1 => lI hx1 fun v10 hv10 hx1 => lI hx1 fun v11 hv11 hx1 => ?_
 obtain ⟨v12, hv12, hx1⟩ := ZaT hx1
 refine JC.anyF (base := [(1, ov (PTR gb2 0))])
     (fs := fun γ => [⟨some 6, ov (PTR gb2 (0 + 0))⟩, ⟨some 7, ov (A Zae t1.ID)⟩, ⟨some 8, ov (S rB v3)⟩, ⟨some 9, ov (S rB v4)⟩, ⟨some 10, ov (S rB v4)⟩, ⟨some 11, bif (!v4) then ov (PTR gb2 (0 + 4)) else .one .und⟩, ⟨some 12, bif (!v4) then ov (A (rV 16 (rU UInt64)) t1.Past) else .one .und⟩, ⟨some 13, bif (!v4) then ov (S rB v5) else .one .und⟩, ⟨some 14, bif (!v4) then ov (S rB v6) else .one .und⟩, ⟨some 15, ov (S rB v7)⟩, ⟨some 16, ov (S rB v7)⟩, ⟨some 17, bif (!v7) then ov (PTR gb2 (0 + 0)) else .one .und⟩, ⟨some 18, bif (!v7) then ov (PTR gb2 ((0 + 0) + 0)) else .one .und⟩, ⟨some 19, bif (!v7) then ov (S (rI .i64) t1.ID.Region) else .one .und⟩, ⟨some 20, bif (!v7) then ov (S (rI .i64) v8) else .one .und⟩, ⟨some 21, bif (!v7) then ov (PTR gb2 (0 + 4)) else .one .und⟩, ⟨some 22, ov (PTR gb2 ((0 + 4) + i9.1 * 1))⟩, ⟨some 23, ov (S (rU UInt64) v10)⟩, ⟨some 24, ov (PTR gb2 (0 + 0))⟩, ⟨some 25, ov (PTR gb2 ((0 + 0) + 1))⟩, ⟨some 26, ov (S (rU UInt64) t1.ID.Count)⟩, ⟨some 27, ov (S (rU UInt64) v11)⟩, ⟨some 28, ov (S rB v12)⟩, ⟨some 29, ov (S rB v12)⟩])
     (rs := fun γ => [⟨cvar gb2 Zan t1, none, none, [1, 6, 13, 17, 20]⟩])
     (afts := nn 24) (js := [0]) Zcj (.cons rfl .nil) (fun _ => rfl)
     (by
      refine dS 1 (fun γ ρ B hb hd => Zaa (off := 0) lb Zgd (.tmp (hb 1 _ rfl))) <| dR 2 (fun γ ρ B hb hd => Zao.lk ⟨ρ, (cvar gb2 Zan t1) :: B, _⟩ (ZaB (j := 0) lb tA26 (tl hd 0 6) rfl (cT (Zbe t1) rfl) rfl)) <| dS 3 (fun γ ρ B hb hd => (Zak (js := []) ld cl82 (Zd6 k t1.ID v3 hv3) .func (.cons (tl hd 1 7) .nil) rfl).post (fun _ => Imp.refl)) <| dS 4 (fun γ ρ B hb hd => ZbU lb (tl hd 2 8) hv4) <| dm 5 3 9 ?_
      refine dF 6 4 10 v4 (fun γ => ov (PTR gb2 (0 + 4))) (fun γ ρ B hb hd hq_2 => Zaa (off := 4) lb ZgO (.tmp (hb 1 _ rfl))) ?_
      refine eF 7 4 10 v4 (fun γ => ov (A (rV 16 (rU UInt64)) t1.Past)) (fun γ ρ B hb hd hq3 => Zao.lk ⟨ρ, (cvar gb2 Zan t1) :: B, _⟩ (ZaB (j := 0) lb tA29 (HasO.cnd (tl hd 5 11) (notT (notF hq3))) rfl (cT (Zbm t1) rfl) rfl)) ?_
      refine dF 8 4 10 v4 (fun γ => ov (S rB v5)) (fun γ ρ B hb hd hq4 => (Zak (js := []) ld cl83 (Zew k t1.Past v5 (ifT hv5 hq4)) .func (.cons (HasO.cnd (tl hd 6 12) (notT (notF hq4))) .nil) rfl).post (fun _ => Imp.refl)) ?_
      refine dF 9 4 10 v4 (fun γ => ov (S rB v6)) (fun γ ρ B hb hd hq5 => ZbU lb (HasO.cnd (tl hd 7 13) (notT (notF hq5))) hv6) ?_
      refine dS 10 (fun γ ρ B hb hd => Zas lb (tl hd 4 10) (fun hb6 => .cB) (fun hb6 => (HasO.cnd (tl hd 8 14) (notT hb6))) hv7) <| dm 11 9 15 ?_
      refine dF 12 10 16 v7 (fun γ => ov (PTR gb2 (0 + 0))) (fun γ ρ B hb hd hq7 => Zaa (off := 0) lb Zgd (.tmp (hb 1 _ rfl))) ?_
      refine dF 13 10 16 v7 (fun γ => ov (PTR gb2 ((0 + 0) + 0))) (fun γ ρ B hb hd hq8 => Zaa (off := 0) lb Zeq (HasO.cnd (tl hd 11 17) (notT (notF hq8)))) ?_
      refine eF 14 10 16 v7 (fun γ => ov (S (rI .i64) t1.ID.Region)) (fun γ ρ B hb hd hq9 => Zao.lk ⟨ρ, (cvar gb2 Zan t1) :: B, _⟩ (Zam (j := 0) lb tS3 (HasO.cnd (tl hd 12 18) (notT (notF hq9))) rfl (Comp.trans (cT (Zbe t1) rfl) (ZaN t1.ID) (lE rfl)) rfl rfl)) ?_
      refine dF 15 10 16 v7 (fun γ => ov (S (rI .i64) v8)) (fun γ ρ B hb hd hq10 => ZaX lb (HasO.cnd (tl hd 13 19) (notT (notF hq10))) .cI (cs hv8)) ?_
      refine dF 16 10 16 v7 (fun γ => ov (PTR gb2 (0 + 4))) (fun γ ρ B hb hd hq11 => Zaa (off := 4) lb ZgO (.tmp (hb 1 _ rfl))) ?_
      refine dY 17 (fun γ ρ B hb hd => ⟨.yes rfl (ltB rfl) (hl hd 10 16 rfl) hc13, lkB (Zb6 lb tr29 (HasO.cnd (tl hd 15 21) (notT hc13)) (HasO.cnd (tl hd 14 20) (notT hc13)) hv_i_9)⟩) <| dY 18 (fun γ ρ B hb hd => ⟨.yes rfl (ltB rfl) (hl hd 10 16 rfl) hc13, Zao.lk ⟨ρ, (cvar gb2 Zan t1) :: B, _⟩ (Zam (j := 0) lb tS24 (tl hd 16 22) rfl (Comp.at (cT (Zbm t1) rfl) i9.2 rfl) rfl hv10)⟩) <| dY 19 (fun γ ρ B hb hd => ⟨.yes rfl (ltB rfl) (hl hd 10 16 rfl) hc13, lkB (Zaa (off := 0) lb Zgd (.tmp (hb 1 _ rfl)))⟩) <| dY 20 (fun γ ρ B hb hd => ⟨.yes rfl (ltB rfl) (hl hd 10 16 rfl) hc13, lkB (Zaa (off := 1) lb Zft (tl hd 18 24))⟩) <| dY 21 (fun γ ρ B hb hd => ⟨.yes rfl (ltB rfl) (hl hd 10 16 rfl) hc13, Zao.lk ⟨ρ, (cvar gb2 Zan t1) :: B, _⟩ (Zam (j := 0) lb tS24 (tl hd 19 25) rfl (Comp.trans (cT (Zbe t1) rfl) (ZaY t1.ID) (lE rfl)) rfl rfl)⟩) ?_
      refine dY 22 (fun γ ρ B hb hd => ⟨.yes rfl (ltB rfl) (hl hd 10 16 rfl) hc13, lkB (Zfu lb (tl hd 20 26) (HasO.cU (x := (1 : UInt64)) rfl (by decide)) (cs hv11))⟩) <| dY 23 (fun γ ρ B hb hd => ⟨.yes rfl (ltB rfl) (hl hd 10 16 rfl) hc13, lkB (Zci lb (tl hd 17 23) (tl hd 21 27) (cs hv12))⟩) <| dS 24 (fun γ ρ B hb hd => Za6 lb (tl hd 10 16) hc13 (tl hd 22 28)) ?_
      exact ZaF.nil)
     (by decide +kernel) (fun _ => rfl) (fun _ => rfl) (fun _ => rfl) rfl
     (ρ' := fun γ => [(1, ov (PTR gb2 0)), (29, ov (S rB v12))])
     (X' := fun γ => [cvar gb2 Zan t1])
     (fun γ ρ hb hd => (.cons (hb 1 _ rfl) (.cons (hdq hd 23 29 rfl) .nil))) (fun _ => rfl) (fun γ => ?_)
 refine JQ.at ⟨[(1, ov (PTR gb2 0)), (29, ov (S rB v12))], [cvar gb2 Zan t1], []⟩ ?_
 try obtain rfl := so hx1
 exact JQ.join () (Imp.norm (js := [0]) rfl (.cons rfl (.cons rfl .nil)))

theorem Zib (k : Nat) (n1 : UInt64) (r : Bool) (hm : Zgq k n1 = some r) : Sim Tryz.prog 33 [S (rU UInt64) n1] [] (γ := Unit) (fun q => []) (fun q => .one (.val (S rB r))) := by
 unfold Zgq at hm
 refine Sim.of Tryz.func33 rfl rfl (lE rfl) (fun e0 w0 => ?_)
 refine JC.at ⟨[(0, ov (S (rU UInt64) n1))], [], []⟩ <| jr <| jc (Zac lb .cB) <| jn <| jr <| jmv rfl rfl <| lI hm fun v2 hv2 hm => jc (Zci lb tR (HasO.cU (x := (4611686018427387904 : UInt64)) rfl (by decide)) (cs hv2)) <| jc (Zac lb tR) <| jn <| JC.ret ?_
 obtain rfl := so hm
 exact jd (.val (S rB v2)) rfl rfl rfl rfl rfl rfl

theorem Zdp (k : Nat) (s1 : (List UInt64)) (r : Int) (hm : slices_IndexFuncuint64_uint64'2 k s1 = some r) : Sim Tryz.prog 85 [S (rL (rU UInt64)) s1, CLO 33 []] [] (γ := Unit) (fun q => []) (fun q => .one (.val (S (rI .i64) r))) := by
 unfold slices_IndexFuncuint64_uint64'2 at hm
 refine Sim.of Tryz.func85 rfl rfl (lE rfl) (fun e0 w0 => ?_)
 refine JC.at ⟨[(0, ov (S (rL (rU UInt64)) s1)), (1, ov (CLO 33 []))], [], []⟩ <| jr <| jc (Zac lb .cI) <| jn <| bI hm fun tv1 hx1 hq1 => JC.seqK (α := Unit) (γ := Unit) (stj := fun v q => ⟨[], [], []⟩) (p := fun v => tv1 = (.inl v)) (fun v q hv => ?_) ?_
 · subst hv
   skip
   obtain _ := q
   dsimp only at hq1
   refine JC.at ⟨[], [], []⟩ <| jr <| jc (Zac lb .cI) <| jn <| JC.ret ?_
   obtain rfl := so hq1
   exact jd (.val (S (rI .i64) (-1 : Int))) rfl rfl rfl rfl rfl rfl
 refine jr <| jmv rfl rfl <| jc (ZaI lb tu71 tR) <| jc (ZaC lb .cI) <| jn <| JC.block <| bI hx1 fun tv2 hL2 hq2 => JC.pre ?_ (JC.loop (γ := Unit) (stf := fun s q => ⟨[(0, ov (S (rL (rU UInt64)) s1)), (1, ov (CLO 33 [])), (7, ov (S (rI .i64) (List.length s1 : Int))), (8, ov (S (rI .i64) s))], [], []⟩) (q := ()) hL2 ?_)
 · exact (Imp.norm (js := []) rfl (.cons rfl (.cons rfl (.cons rfl (.cons rfl .nil)))))
 intro x2 q x hx hr
 obtain _ := q
 change slices_IndexFuncuint64_uint64'2.b1 k s1 x2 = some x at hx
 unfold slices_IndexFuncuint64_uint64'2.b1 at hx
 refine JC.at ⟨[(0, ov (S (rL (rU UInt64)) s1)), (1, ov (CLO 33 [])), (7, ov (S (rI .i64) (List.length s1 : Int))), (8, ov (S (rI .i64) x2))], [], []⟩ <| jr <| lI hx fun v3 hv3 hx => jc (Zar lb tR tR (cs hv3)) <| jn <| JC.seq <| jif tR hx (fun hc3 hx => ?_) (fun hc3 hx => ?_)
 · refine JC.skip <| JQ.then <| JC.seq <| JC.block <| jr <| jmv rfl rfl <| jc (Zac lb tR) <| jn <| jr <| jmv rfl rfl <| jmv rfl rfl <| jmv rfl rfl <| bI hx fun v4 hv4 hx => jc (Zau lb tu71 tz24 tR tR hv4) <| jc (Zbr lb tS24 rfl tR rfl) <| bI hx fun v5 hv5 hx => jx (Zak (js := []) ld cl33 (Zib k v4 v5 hv5) tR (.cons tR .nil) rfl) fun _ => jn ?_
   refine jif tR hx (fun hc4 hx => ?_) (fun hc4 hx => ?_)
   · refine jr <| jmv rfl rfl <| jc (Zac lb tR) <| jn <| JC.ret <| JQ.outRB <| JQ.outR ?_
     try obtain rfl := so hx
     try obtain rfl := hr _ rfl
     dsimp only at hq2
     refine JQ.outR <| JQ.outRB ?_
     try obtain rfl := so hq2
     dsimp only at hq1
     refine JQ.outR ?_
     obtain rfl := so hq1
     exact jd (.val (S (rI .i64) x2)) rfl rfl rfl rfl rfl rfl
   refine JC.skip <| JQ.outNB <| JQ.then <| JC.region <| lI hx fun v6 hv6 hx => jc (ZaX lb tR .cI (cs hv6)) <| jmv rfl rfl <| JL.nil ?_
   try obtain rfl := so hx
   exact JQ.next () rfl (Imp.norm (js := []) rfl (.cons rfl (.cons rfl (.cons rfl (.cons rfl .nil)))))
 refine JC.exit <| JQ.outX ?_
 try obtain rfl := so hx
 try obtain rfl := hr _ rfl
 dsimp only at hq2
 refine JQ.outX <| JQ.here ?_
 try obtain rfl := so hq2
 exact JQ.joinK () () rfl (Imp.norm (js := []) rfl .nil)

theorem Zdg (k : Nat) (s1 : (List UInt64)) (r : Bool) (hm : Za2 k s1 = some r) : Sim Tryz.prog 32 [S (rL (rU UInt64)) s1, CLO 33 []] [] (γ := Unit) (fun q => []) (fun q => .one (.val (S rB r))) := by
 unfold Za2 at hm
 refine Sim.of Tryz.func32 rfl rfl (lE rfl) (fun e0 w0 => ?_)
 refine JC.at ⟨[(0, ov (S (rL (rU UInt64)) s1)), (1, ov (CLO 33 []))], [], []⟩ <| jr <| jc (Zac lb .cB) <| jn <| jr <| jmv rfl rfl <| jmv rfl rfl <| bI hm fun v2 hv2 hm => jx (Zak (js := []) ld cl85 (Zdp k s1 v2 hv2) .func (.cons tR (.cons tR .nil)) rfl) fun _ => lI hm fun v3 hv3 hm => jc (Zar lb tR .cI (cs hv3)) <| jc (Zac lb tR) <| jn <| JC.ret ?_
 obtain rfl := so hm
 exact jd (.val (S rB v3)) rfl rfl rfl rfl rfl rfl

theorem Zel (k : Nat) (i1 : Int) (less2 : Bool) (r : Bool) (hm : Zc7 k i1 less2 = some r) : Sim Tryz.prog 29 [S (rI .i64) i1, S rB less2] [] (γ := Unit) (fun q => []) (fun q => .one (.val (S rB r))) := by
 unfold Zc7 at hm
 refine Sim.of Tryz.func29 rfl rfl (lE rfl) (fun e0 w0 => ?_)
 refine JC.at ⟨[(0, ov (S (rI .i64) i1)), (1, ov (S rB less2))], [], []⟩ <| jr <| jc (Zac lb .cB) <| jn <| bI hm fun x5 hx1 hq1 => JC.seqJ (γ := Unit) (stj := fun _ => ⟨[(4, ov (S rB x5))], [], []⟩) (fun _ => ?_) ?_
 · refine JC.ret ?_
   obtain rfl := so hq1
   exact jd (.val (S rB x5)) rfl rfl rfl rfl rfl rfl
 refine JC.region <| jmv rfl rfl <| lI hx1 fun v3 hv3 hx1 => jc (Zar lb tR .cI (cs hv3)) <| jmv rfl rfl <| jF (ov (S rB less2)) rfl rfl rfl rfl (fun hq_2 => ZaC lb tR) <| lI hx1 fun v4 hv4 hx1 => jc (Zas lb tR (fun hb3 => .cB) (fun hb3 => (HasO.cnd tR (notT hb3))) hv4) <| jc (Zac lb tR) <| JL.nil ?_
 try obtain rfl := so hx1
 exact jo rfl rfl rfl

theorem ZiO (k : Nat) (a1 : Zah) (b2 : Zah) (r : Int) (hm : ZgN k a1 b2 = some r) : Sim Tryz.prog 86 [A Zae a1, A Zae b2] [] (γ := Unit) (fun q => []) (fun q => .one (.val (S (rI .i64) r))) := by
 unfold ZgN at hm
 refine Sim.of Tryz.func86 rfl rfl (lE rfl) (fun e0 w0 => ?_)
 refine JC.at ⟨[(0, ov (A Zae a1)), (1, ov (A Zae b2))], [], []⟩ <| jr <| jx (ZaZ lb tR) fun gb3 => jx (ZaZ lb tR) fun gb4 => jc (Zac lb .cI) <| jn <| JC.seq <| bI hm fun v5 hv5 hm => bI hm fun v6 hv6 hm => ?_
 obtain ⟨v7, hv7, hm⟩ := Zaz hm
 refine JC.anyF (base := [(2, ov (PTR gb3 0)), (3, ov (PTR gb4 0))])
     (fs := fun γ => [⟨some 5, ov (PTR gb3 (0 + 0))⟩, ⟨some 6, ov (S (rI .i64) a1.Region)⟩, ⟨some 7, ov (PTR gb4 (0 + 0))⟩, ⟨some 8, ov (S (rI .i64) b2.Region)⟩, ⟨some 9, ov (S (rI .i64) v5)⟩, ⟨some 10, ov (PTR gb3 (0 + 1))⟩, ⟨some 11, ov (S (rU UInt64) a1.Count)⟩, ⟨some 12, ov (PTR gb4 (0 + 1))⟩, ⟨some 13, ov (S (rU UInt64) b2.Count)⟩, ⟨some 14, ov (S (rI .i64) v6)⟩, ⟨some 15, ov (S (rL (rI .i64)) ([v5, v6] : (List Int)))⟩, ⟨some 16, ov (S (rI .i64) v7)⟩, ⟨some 4, ov (S (rI .i64) v7)⟩])
     (rs := fun γ => [⟨cvar gb3 Zae a1, none, none, [1, 6]⟩, ⟨cvar gb4 Zae b2, none, none, [3, 8]⟩])
     (afts := nn 13) (js := [0, 0]) Zcj (.cons rfl (.cons rfl .nil)) (fun _ => rfl)
     (by
      refine dS 1 (fun γ ρ B hb hd => Zaa (off := 0) lb Zeq (.tmp (hb 2 _ rfl))) <| dR 2 (fun γ ρ B hb hd => Zao.lk ⟨ρ, (cvar gb3 Zae a1) :: B, _⟩ (Zam (j := 0) lb tS3 (tl hd 0 5) rfl (cT (ZaN a1) rfl) rfl rfl)) <| dS 3 (fun γ ρ B hb hd => Zaa (off := 0) lb Zeq (.tmp (hb 3 _ rfl))) <| dR 4 (fun γ ρ B hb hd => Zao.lk ⟨ρ, (cvar gb4 Zae b2) :: B, _⟩ (Zam (j := 0) lb tS3 (tl hd 2 7) rfl (cT (ZaN b2) rfl) rfl rfl)) <| dS 5 (fun γ ρ B hb hd => (Zak (js := []) ld Zoe (ZeD k a1.Region b2.Region v5 hv5) .func (.cons (tl hd 1 6) (.cons (tl hd 3 8) .nil)) rfl).post (fun _ => Imp.refl)) ?_
      refine dS 6 (fun γ ρ B hb hd => Zaa (off := 1) lb Zft (.tmp (hb 2 _ rfl))) <| dR 7 (fun γ ρ B hb hd => Zao.lk ⟨ρ, (cvar gb3 Zae a1) :: B, _⟩ (Zam (j := 0) lb tS24 (tl hd 5 10) rfl (cT (ZaY a1) rfl) rfl rfl)) <| dS 8 (fun γ ρ B hb hd => Zaa (off := 1) lb Zft (.tmp (hb 3 _ rfl))) <| dR 9 (fun γ ρ B hb hd => Zao.lk ⟨ρ, (cvar gb4 Zae b2) :: B, _⟩ (Zam (j := 0) lb tS24 (tl hd 7 12) rfl (cT (ZaY b2) rfl) rfl rfl)) <| dS 10 (fun γ ρ B hb hd => (Zak (js := []) ld Zoi (Zd4 k a1.Count b2.Count v6 hv6) .func (.cons (tl hd 6 11) (.cons (tl hd 8 13) .nil)) rfl).post (fun _ => Imp.refl)) ?_
      refine dS 11 (fun γ ρ B hb hd => Zce (r := (rI .i64)) lb tu37 tz3 tZ3 rfl (lE rfl) (.S rfl (tl hd 4 9) (.S rfl (tl hd 9 14) .nil)) rfl) <| dS 12 (fun γ ρ B hb hd => (Zak (js := []) ld Zn9 (Zg2 k ([v5, v6] : (List Int)) v7 hv7) .func (.cons (tl hd 10 15) .nil) rfl).post (fun _ => Imp.refl)) <| dS 13 (fun γ ρ B hb hd => Zac lb (tl hd 11 16)) ?_
      exact ZaF.nil)
     (by decide +kernel) (fun _ => rfl) (fun _ => rfl) (fun _ => rfl) rfl
     (ρ' := fun γ => [(4, ov (S (rI .i64) v7))])
     (X' := fun γ => [cvar gb3 Zae a1, cvar gb4 Zae b2])
     (fun γ ρ hb hd => (.cons (hdq hd 12 4 rfl) .nil)) (fun _ => rfl) (fun γ => ?_)
 refine JQ.at ⟨[(4, ov (S (rI .i64) v7))], [cvar gb3 Zae a1, cvar gb4 Zae b2], []⟩ <| JQ.then <| JC.ret ?_
 obtain rfl := so hm
 exact jd (.val (S (rI .i64) v7)) rfl rfl rfl rfl rfl rfl

theorem ZeC (k : Nat) (a1 : Zah) (b2 : Zah) (r : Bool) (hm : Zfm k a1 b2 = some r) : Sim Tryz.prog 35 [A Zae a1, A Zae b2] [] (γ := Unit) (fun q => []) (fun q => .one (.val (S rB r))) := by
 unfold Zfm at hm
 refine Sim.of Tryz.func35 rfl rfl (lE rfl) (fun e0 w0 => ?_)
 refine JC.at ⟨[(0, ov (A Zae a1)), (1, ov (A Zae b2))], [], []⟩ <| jr <| jx (ZaZ lb tR) fun gb3 => jx (ZaZ lb tR) fun gb4 => jc (Zac lb .cB) <| jn <| jr <| jc (ZaB (j := 0) lb tA26 tR rfl (Comp.self Zae a1) rfl) <| jc (ZaB (j := 1) lb tA26 tR rfl (Comp.self Zae b2) rfl) <| bI hm fun v5 hv5 hm => jx (Zak (js := []) ld cl86 (ZiO k a1 b2 v5 hv5) .func (.cons tR (.cons tR .nil)) rfl) fun _ => lI hm fun v6 hv6 hm => jc (Zar lb tR .cI (cs hv6)) <| jc (Zac lb tR) ?_
 refine JL.nrm ⟨[(4, ov (S rB v6))], [], []⟩ [] rfl (.cons rfl .nil) rfl <| jn <| JC.ret ?_
 obtain rfl := so hm
 exact jd (.val (S rB v6)) rfl rfl rfl rfl rfl rfl

theorem ZdR (k : Nat) (s1 : (List Zah)) (r : (List Zah)) (hm : ZbM k s1 = some r) : Sim Tryz.prog 120 [S (rL Zae) s1] [] (γ := Option Nat × Nat) (fun q => [cown q.1 Zae r 0 q.2]) (fun q => .one (.val (HDR q.1 0 (List.length r) q.2))) := by
 unfold ZbM at hm
 refine Sim.of Tryz.func120 rfl rfl (lE rfl) (fun e0 w0 => ?_)
 refine JC.at ⟨[(0, ov (S (rL Zae) s1))], [], []⟩ <| jr <| jc (Zac lb HasO.nilH) <| jn <| JC.seq <| jr <| jmv rfl rfl <| JL.consX rfl (Zkj (neg := false) (ltB rfl) tu33 tR HasO.nilH) (fun q => ?_)
 obtain ⟨hb1, hb1_⟩ := q
 cases hb1
 · refine jn <| JC.condF tR rfl <| JC.skip <| JQ.then <| jr <| jx (ZgI (r := Zae) lb tu33 tz26 tZ26 rfl (lE rfl) .nil rfl) fun gb2 => jmv rfl rfl <| bI hm fun x3 hv_x_3 hm => jx (Zbd (j := 0) lb tu33 tu33 rfl tB26 rfl (Nat.lt_of_lt_of_le Nat.zero_lt_one (lE rfl)) (Nat.lt_of_lt_of_le Nat.zero_lt_one (lE rfl))  rfl tR tR hv_x_3) (fun q => ?_)
   obtain ⟨go4, gc5⟩ := q
   refine jc (Zac lb tR) <| jn <| JC.ret ?_
   obtain rfl := so hm
   exact JQ.done (js := [0]) (ss := [.val (HDR go4 0 (List.length x3) gc5)]) (go4, gc5) (.inl rfl) (.nil rfl) rfl (.cons (.tmp rfl) .nil) rfl rfl rfl
 replace hm := nilK hm (show _ = (
       some ([] : (List Zah))
       ) by simp [hb1_ rfl, subL, apL])
 refine jn <| JC.condT tR rfl <| jr <| jc (Zac lb HasO.nilH) <| jn <| JC.ret <| JQ.outR ?_
 obtain rfl := so hm
 exact JQ.pre (Imp.nilown Zae) <| JQ.done (js := [0]) (ss := [.val (HDR none 0 (List.length ([] : (List Zah))) (0))]) (none, 0) (.inl rfl) (.nil rfl) rfl (.cons (.tmp rfl) .nil) rfl rfl rfl

end Go.Proofs.YtklnihlchhhhlaaGreat
