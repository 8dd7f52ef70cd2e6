/- Walks. -/
import Derived.Test.YtklnihlchhhhlaaGreatT
import Derived.Test.YtklnihlchhhhlaaGreatW0
import Derived.Test.YtklnihlchhhhlaaGreatW1
import Derived.Test.YtklnihlchhhhlaaGreatW3
import Derived.Test.YtklnihlchhhhlaaGreatW4
namespace Go.Proofs.YtklnihlchhhhlaaGreat
open Go Fw
set_option linter.unusedVariables false
set_option maxRecDepth 100000
set_option maxHeartbeats 4000000

theorem ZfC (k : Nat) (Kind1 : Int) (From2 : Int) (To3 : Int) (ID4 : Zah) (Topic5 : (List UInt8)) (Past6 : (Vector UInt64 16)) (Past7 : (Vector UInt64 16)) (Seen8 : (Vector UInt64 16)) (Hash9 : (Vector UInt8 32)) (Reply10 : Bool) (x12 : Zag) (gb11 : Nat) (gb13 : Nat) (r : Zag × (List Zal)) (hm : Zcq k Kind1 From2 To3 ID4 Topic5 Past6 Past7 Seen8 Hash9 Reply10 x12 = some r) : Sim Tryz.prog 93 [PTR gb11 0] [zq32 gb11 gb13 Kind1 From2 To3 ID4 Topic5 Past6 Past7 Seen8 Hash9 Reply10, cvar gb13 Zab x12] (γ := Option Nat × Nat) (fun q => [cvar gb11 (rP (rW (PTR gb13 0)) (rP (rP (rI .i64) (rP (rI .i64) (rP (rI .i64) (rP (rW (HDR q.1 0 (List.length r.2) q.2)) (rP (rP Zae (rP rS (rP (rW (HDR none 0 0 0)) (rP (rV 16 (rU UInt64)) (rP (rW (HDR none 0 0 0)) r0))))) (rP (rV 16 (rU UInt64)) (rP (rV 16 (rU UInt64)) (rP (rW (HDR none 0 0 0)) (rP (rW (HDR none 0 0 0)) (rP (rV 32 (rU UInt8)) (rP (rW (HDR none 0 0 0)) (rP (rW (HDR none 0 0 0)) (rP rB r0))))))))))))) r0)) (zq31 Kind1 From2 To3 ID4 Topic5 Past6 Past7 Seen8 Hash9 Reply10), cvar gb13 Zab r.1, cown q.1 Zaj r.2 0 q.2]) (fun q => .tup []) := by
 unfold Zcq at hm
 refine Sim.of Tryz.func93 rfl rfl (lE rfl) (fun e0 w0 => ?_)
 refine JC.at ⟨[(0, ov (PTR gb11 0))], [zq32 gb11 gb13 Kind1 From2 To3 ID4 Topic5 Past6 Past7 Seen8 Hash9 Reply10, cvar gb13 Zab x12], []⟩ <| jr <| jmv rfl rfl ?_
 obtain ⟨⟨v14, x15⟩, hv14, hm⟩ := Zaz hm
 refine jx (Zak (js := [0, 0]) ld Zla (ZdK k Kind1 From2 To3 ID4 Topic5 Past6 Past7 Seen8 Hash9 Reply10 x12 gb11 gb13 (v14, x15) hv14) .func (.cons tR .nil) rfl) fun _ => jc (Zac lb tR) <| jn <| JC.region <| jmv rfl rfl <| jmv rfl rfl <| jc (Zap lb tR (fun e v h => by subst h; rfl)) <| jc (Zaa (off := 0) lb Zb2 tR) <| jc (ZaJ (j := 0) lb tS87 tR rfl (Comp.trans (Comp.self (zq27 gb13) (zq31 Kind1 From2 To3 ID4 Topic5 Past6 Past7 Seen8 Hash9 Reply10)) (Comp.at' (Comp.inF (Comp.self (rW (PTR gb13 0)) ()) (lE rfl)) (by rfl : _ = 0)) (lE rfl))) <| jmv rfl rfl <| jmv rfl rfl <| JL.sub ⟨[(5, ov (PTR gb11 0)), (9, ov (PTR gb13 0)), (10, ov (S (rI .i64) v14)), (11, ov (PTR gb11 0))], [zq32 gb11 gb13 Kind1 From2 To3 ID4 Topic5 Past6 Past7 Seen8 Hash9 Reply10, cvar gb13 Zab x15], []⟩ (.cons rfl (.cons rfl (.cons rfl (.cons rfl .nil)))) rfl rfl <| jc (Zeh lb (.cons tR .nil)) ?_
 obtain ⟨⟨v16, x17⟩, hv16, hm⟩ := Zaz hm
 refine jx (Zak (js := [1, 0]) ld ZnY (Zfz k v14 x15 Kind1 From2 To3 ID4 Topic5 Past6 Past7 Seen8 Hash9 Reply10 gb13 gb11 (v16, x17) hv16) .func (.cons tR (.cons tR (.cons tR .nil))) rfl) (fun q => ?_)
 obtain ⟨go18, gc19⟩ := q
 refine jc (Zap lb tR (fun e v h => by subst h; rfl)) <| jc (Zaa (off := 1) lb ZdL tR) <| jc (Zaa (off := 3) lb ZdJ tR) <| jc (ZbN (j := 2) tS23 tR tR rfl ((UpdR.snd (UpdR.fst (UpdR.snd (UpdR.snd (UpdR.snd (UpdR.fst (UpdR.self (by rfl)))))))).at (by change (1 + (1 + (1 + (1 + 0)))) = ((0 + 1) + 3); omega)) rfl) <| JL.nil ?_
 obtain rfl := so hm
 exact JQ.done (js := [2, 1, 0]) (ss := []) (go18, gc19) (.inr rfl) (.nil rfl) rfl .nil rfl rfl rfl

theorem ZfL (k : Nat) (is1 : Bool) (made2 : Bool) (x4 : (List UInt8)) (gb3 : Nat) (go5 : Option Nat) (gc6 : Nat) (r : Zah × Zag) (hm : ZbQ k is1 made2 x4 = some r) : Sim Tryz.prog 135 [PTR gb3 0] [cvar gb3 (zq26 go5 x4 gc6) ((), (is1, (made2, ()))), cown go5 (rU UInt8) x4 0 gc6] (γ := Unit) (fun q => [cvar gb3 Zab r.2, cown go5 (rU UInt8) x4 (List.length x4) gc6]) (fun q => .one (.val (A Zae r.1))) := by
 unfold ZbQ at hm
 refine Sim.of Tryz.func135 rfl rfl (lE rfl) (fun e0 w0 => ?_)
 refine JC.at ⟨[(0, ov (PTR gb3 0))], [cvar gb3 (zq26 go5 x4 gc6) ((), (is1, (made2, ()))), cown go5 (rU UInt8) x4 0 gc6], []⟩ <| jr <| jx (Za8 lb tZ26 zr26) fun gb7 => jn <| jr <| jmv rfl rfl ?_
 obtain ⟨⟨v8, v9, x10, x11, x12⟩, hv8, hm⟩ := Zaz hm
 refine jx (Zak (js := [0, 0]) ld cl90 (Zd8 k (9 : Int) is1 made2 x4 gb3 go5 gc6 (v8, v9, x10, x11, x12) hv8) .func (.cons tR (.cons .cI .nil)) rfl) fun _ => jmv rfl rfl <| jc (Zaw (i := 0) lb tR rfl) <| jc (Zaw (i := 1) lb tR rfl) <| jc (Zac lb tR) <| jc (Zac lb tR) <| JL.sub ⟨[(2, ov (PTR gb7 0)), (3, ov (S (rL (rU UInt8)) v8))], [cvar gb3 (rP (rL (rU UInt8)) (rP rB (rP rB r0))) (x10, (x11, (x12, ()))), cown go5 (rU UInt8) x4 (List.length x4) gc6, cvar gb7 Zae (Zah.mk (0 : Int) (0 : UInt64))], []⟩ (.cons rfl (.cons rfl .nil)) rfl rfl <| jn <| jr <| jmv rfl rfl <| bI hm fun v13 hv13 hm => jx (Zak (js := []) ld cl52 (ZdH k v8 v13 hv13) .func (.cons tR .nil) rfl) (fun q => ?_)
 obtain ⟨gb14, go15, gc16⟩ := q
 refine jc (Zac lb tR) <| jn <| jr <| jmv rfl rfl ?_
 obtain ⟨⟨v17, x18⟩, hv17, hm⟩ := Zaz hm
 refine jx (Zak (js := [0, 0]) ld cl53 (ZcX k (1 : Int) true true v13 gb14 go15 gc16 (v17, x18) hv17) .func (.cons tR (.cons .cI .nil)) rfl) fun _ => lI hm fun v19 hv19 hm => jc (Zcn lb tu24 tu3 tR hv19) <| jmv rfl rfl ?_
 obtain ⟨⟨v20, x21⟩, hv20, hm⟩ := Zaz hm
 refine jx (Zak (js := [0]) ld cl53 (ZaD k (8 : Int) x18 gb14 (v20, x21) hv20) .func (.cons tR (.cons .cI .nil)) rfl) fun _ => JL.nrm ⟨[(2, ov (PTR gb7 0)), (15, ov (S (rI .i64) v19)), (17, ov (S (rU UInt64) v20))], [cvar gb3 (rP (rL (rU UInt8)) (rP rB (rP rB r0))) (x10, (x11, (x12, ()))), cown go5 (rU UInt8) x4 (List.length x4) gc6, cvar gb7 Zae (Zah.mk (0 : Int) (0 : UInt64))], []⟩ [2, 2, 2] rfl (.cons rfl (.cons rfl (.cons rfl .nil))) rfl <| jc (Zbl lb tZ26 zs26 tp26 (.S (off := 0) rfl tR rfl ((UpdR.fst (UpdR.self (by rfl))).at (by rfl)) (.S (off := 1) rfl tR rfl ((UpdR.snd (UpdR.fst (UpdR.self (by rfl)))).at (by rfl)) .nil)) rfl) <| jc (ZaM (j := 2) tA26 tR tR rfl (UpdR.self (by rfl)) rfl) <| jn <| JC.ret ?_
 obtain rfl := so hm
 refine JQ.pre (Imp.var (j := 2) (q := Zae) (y := (Zah.mk v19 v20)) rfl (Wk.st Wk.refl)) ?_
 refine JQ.pre (Imp.var (j := 0) (q := Zab) (y := (Zag.mk x10 x11 x12)) rfl (Wk.st Wk.refl)) ?_
 exact JQ.done (js := [0, 0]) (ss := [.val (A Zae (Zah.mk v19 v20))]) () (.inl rfl) (.nil rfl) rfl (.cons (.cellA (j := 2) tA26 rfl rfl) .nil) rfl rfl rfl

theorem ZeA (k : Nat) (x2 : Zag) (gb1 : Nat) (gb3 : Nat) (r : UInt64 × Zag) (hm : ZbP k x2 = some r) : Sim Tryz.prog 148 [PTR gb1 0] [cvar gb1 (rW (PTR gb3 0)) (), cvar gb3 Zab x2] (γ := Unit) (fun q => [cvar gb1 (rW (PTR gb3 0)) (), cvar gb3 Zab r.2]) (fun q => .one (.val (S (rU UInt64) r.1))) := by
 unfold ZbP at hm
 refine Sim.of Tryz.func148 rfl rfl (lE rfl) (fun e0 w0 => ?_)
 refine JC.at ⟨[(0, ov (PTR gb1 0))], [cvar gb1 (rW (PTR gb3 0)) (), cvar gb3 Zab x2], []⟩ <| jr <| jc (Zac lb (HasO.cU (x := (0 : UInt64)) rfl (by decide))) <| jn <| jr <| jc (ZaJ (j := 0) lb tS87 tR rfl (Comp.self (rW (PTR gb3 0)) ())) ?_
 obtain ⟨⟨v4, x5⟩, hv4, hm⟩ := Zaz hm
 refine jx (Zak (js := [1]) ld cl53 (ZaD k (8 : Int) x2 gb3 (v4, x5) hv4) .func (.cons tR (.cons .cI .nil)) rfl) fun _ => jc (Zac lb tR) <| jn <| JC.ret ?_
 obtain rfl := so hm
 exact JQ.done (js := [1, 0]) (ss := [.val (S (rU UInt64) v4)]) () (.inl rfl) (.nil rfl) rfl (.cons (.tmp rfl) .nil) rfl rfl rfl

theorem Zcg (k : Nat) (r1 : Zag) (gb2 : Nat) (r : (Vector UInt64 16) × Zag) (hm : wire_Reader_Vector k r1 = some r) : Sim Tryz.prog 130 [PTR gb2 0] [cvar gb2 Zab r1] (γ := Unit) (fun q => [cvar gb2 Zab r.2]) (fun q => .one (.val (A (rV 16 (rU UInt64)) r.1))) := by
 unfold wire_Reader_Vector at hm
 refine Sim.of Tryz.func130 rfl rfl (lE rfl) (fun e0 w0 => ?_)
 refine JC.at ⟨[(0, ov (PTR gb2 0))], [cvar gb2 Zab r1], []⟩ <| jr <| jx (Za8 lb tZ29 zr29) fun gb3 => jn <| jr <| jmv rfl rfl ?_
 obtain ⟨⟨v4, v5, x6⟩, hv4, hm⟩ := Zaz hm
 refine jx (Zak (js := [0]) ld cl90 (Zcf k (128 : Int) r1 gb2 (v4, v5, x6) hv4) .func (.cons tR (.cons .cI .nil)) rfl) fun _ => jmv rfl rfl <| jc (Zaw (i := 0) lb tR rfl) <| jc (Zaw (i := 1) lb tR rfl) <| jc (Zac lb tR) <| jc (Zac lb tR) <| JL.sub ⟨[(2, ov (PTR gb3 0)), (3, ov (S (rL (rU UInt8)) v4))], [cvar gb2 Zab x6, cvar gb3 (rV 16 (rU UInt64)) (Vector.replicate 16 (0 : UInt64))], []⟩ (.cons rfl (.cons rfl .nil)) rfl rfl <| jn <| jr <| jmv rfl rfl <| bI hm fun v7 hv7 hm => jx (Zak (js := []) ld cl52 (ZdH k v4 v7 hv7) .func (.cons tR .nil) rfl) (fun q => ?_)
 obtain ⟨gb8, go9, gc10⟩ := q
 refine jx (Za8 lb tZ87 zr87) fun gb11 => jc (ZbN (j := 4) tS87 tR tR rfl (UpdR.self (by rfl)) rfl) <| jn <| jr <| jc (Zgl lb (.cons tR .nil)) <| jc (Zac lb tR) <| JL.sub ⟨[(2, ov (PTR gb3 0)), (6, ov (CLO 148 [PTR gb11 0]))], [cvar gb8 (zq26 go9 v7 gc10) ((), (true, (true, ()))), cown go9 (rU UInt8) v7 0 gc10, cvar gb2 Zab x6, cvar gb3 (rV 16 (rU UInt64)) (Vector.replicate 16 (0 : UInt64)), cvar gb11 (rW (PTR gb8 0)) ()], []⟩ (.cons rfl (.cons rfl .nil)) rfl rfl <| jn <| bI hm fun v21 hx1 hq1 => JC.seqJ (γ := Unit) (stj := fun _ => ⟨[(2, ov (PTR gb3 0))], [cvar gb3 (rV 16 (rU UInt64)) v21, cvar gb2 Zab x6], []⟩) (fun _ => ?_) ?_
 · refine jr <| jc (ZaB (j := 0) lb tA29 tR rfl (Comp.self (rV 16 (rU UInt64)) v21) rfl) <| jc (ZaM (j := 0) tA29 tR tR rfl (UpdR.self (by rfl)) rfl) <| jn <| JC.ret ?_
   obtain rfl := so hq1
   exact JQ.done (js := [1]) (ss := [.val (A (rV 16 (rU UInt64)) v21)]) () (.inl rfl) (.nil rfl) rfl (.cons (.cellA (j := 0) tA29 rfl rfl) .nil) rfl rfl rfl
 refine jr <| jc (ZaC lb .cI) <| jn <| JC.block <| JC.pre (Imp.frz (j := 1) rfl (ImpK.var (j := 0) (q := (zq28 go9 v7 gc10)) (y := ((), (true, (true, ())))) rfl (Wk.pair Wk.own (Wk.pair Wk.refl (Wk.pair Wk.refl Wk.refl))) ImpK.refl)) <| JC.pre (Imp.var (j := 0) (q := Zab) (y := (Zag.mk v7 true true)) rfl (Wk.st (Wk.pair Wk.hl (Wk.pair Wk.refl (Wk.pair Wk.refl Wk.refl))))) ?_
 refine JC.pre ?_ (JC.loop (γ := Unit) (stf := fun s q => ⟨[(2, ov (PTR gb3 0)), (6, ov (CLO 148 [PTR gb11 0])), (16, ov (S (rI .i64) s.2.2))], [cvar gb3 (rV 16 (rU UInt64)) s.1, cvar gb11 (rW (PTR gb8 0)) (), cvar gb8 Zab s.2.1, cvar gb2 Zab x6], []⟩) (q := ()) hx1 ?_)
 · exact (Imp.norm (js := [3, 3, 0, 1]) rfl (.cons rfl (.cons rfl (.cons rfl .nil))))
 intro s q x hx hr
 obtain ⟨v12, x13, x14⟩ := s
 obtain _ := q
 change wire_Reader_Vector.b1 k v12 x13 x14 = some x at hx
 unfold wire_Reader_Vector.b1 at hx
 refine JC.at ⟨[(2, ov (PTR gb3 0)), (6, ov (CLO 148 [PTR gb11 0])), (16, ov (S (rI .i64) x14))], [cvar gb3 (rV 16 (rU UInt64)) v12, cvar gb11 (rW (PTR gb8 0)) (), cvar gb8 Zab x13, cvar gb2 Zab x6], []⟩ <| jr <| lI hx fun v15 hv15 hx => jc (Zar lb tR .cI (cs hv15)) <| jn <| JC.seq <| jif tR hx (fun hc3 hx => ?_) (fun hc3 hx => ?_)
 · refine JC.skip <| JQ.then <| JC.seq <| JC.block <| jr <| jmv rfl rfl <| jc (Zac lb tR) <| jn <| JC.region <| jmv rfl rfl <| jmv rfl rfl ?_
   obtain ⟨⟨v16, x17⟩, hv16, hx⟩ := Zaz hx
   refine jx (Zak (js := [1, 1]) ld Zpb (ZeA k x13 gb11 gb8 (v16, x17) hv16) tR .nil rfl) fun _ => bI hx fun i18 hv_i_18 hx => jc (Zb6 lb tr29 tR tR hv_i_18) <| lI hx fun v19 hv19 hx => jc (Zck (j := 2) tS24 tR tR rfl rfl (Upd.at (Comp.self (rV 16 (rU UInt64)) v12) i18.2 rfl (Upd.self (rV 16 (rU UInt64)) v12 _)).R hv19) <| JL.sub ⟨[(2, ov (PTR gb3 0)), (6, ov (CLO 148 [PTR gb11 0])), (16, ov (S (rI .i64) x14))], [cvar gb11 (rW (PTR gb8 0)) (), cvar gb8 Zab x17, cvar gb3 (rV 16 (rU UInt64)) v19, cvar gb2 Zab x6], []⟩ (.cons rfl (.cons rfl (.cons rfl .nil))) rfl rfl <| JL.nil <| JQ.outNB <| JQ.then <| JC.region ?_
   refine lI hx fun v20 hv20 hx => jc (ZaX lb tR .cI (cs hv20)) <| jmv rfl rfl <| JL.nil ?_
   try obtain rfl := so hx
   exact JQ.next () rfl (Imp.norm (js := [2, 0, 0, 0]) rfl (.cons rfl (.cons rfl (.cons rfl .nil))))
 refine JC.exit <| JQ.outX ?_
 try obtain rfl := so hx
 have ht := hr _ rfl
 have hq2 := cs ht
 clear hr ht
 refine JQ.outX <| JQ.here ?_
 try obtain rfl := so hq2
 exact JQ.join () (Imp.norm (js := [0, 2]) rfl (.cons rfl .nil))

theorem Zga (k : Nat) (r1 : Zag) (gb2 : Nat) (r : Int) (hm : Zb3 k r1 = some r) : Sim Tryz.prog 146 [PTR gb2 0] [cvar gb2 Zab r1] (γ := Unit) (fun q => [cvar gb2 Zab r1]) (fun q => .one (.val (S (rI .i64) r))) := by
 unfold Zb3 at hm
 refine Sim.of Tryz.func146 rfl rfl (lE rfl) (fun e0 w0 => ?_)
 refine JC.at ⟨[(0, ov (PTR gb2 0))], [cvar gb2 Zab r1], []⟩ <| jr <| jc (Zac lb .cI) <| jn <| JC.seq <| jr <| jmv rfl rfl <| bI hm fun v3 hv3 hm => jx (Zak (js := [0]) ld ZiI (Za1 k r1 gb2 v3 hv3) .func (.cons tR .nil) rfl) fun _ => jn <| jif tR hm (fun hc1 hm => ?_) (fun hc1 hm => ?_)
 · refine jr <| jc (Zac lb .cI) <| jn <| JC.ret <| JQ.outR ?_
   obtain rfl := so hm
   exact JQ.done (js := [0]) (ss := [.val (S (rI .i64) (0 : Int))]) () (.inl rfl) (.nil rfl) rfl (.cons (.tmp rfl) .nil) rfl rfl rfl
 refine JC.skip <| JQ.then <| jr <| jmv rfl rfl <| jc (Zap lb tR (fun e v h => by subst h; rfl)) <| jc (Zaa (off := 0) lb ZeN tR) <| jc (Zam (j := 0) lb tS27 tR rfl (cT (ZbX r1) rfl) rfl rfl) <| jc (ZaI lb tu27 tR) <| jc (Zac lb tR) <| jn <| JC.ret ?_
 obtain rfl := so hm
 exact JQ.done (js := [0]) (ss := [.val (S (rI .i64) (List.length r1.rest : Int))]) () (.inl rfl) (.nil rfl) rfl (.cons (.tmp rfl) .nil) rfl rfl rfl

theorem Zgp (k : Nat) (r1 : Zag) (gb2 : Nat) (r : Int) (hm : Zcd k r1 = some r) : Sim Tryz.prog 147 [PTR gb2 0] [cvar gb2 Zab r1] (γ := Unit) (fun q => [cvar gb2 Zab r1]) (fun q => .one (.val (S (rI .i64) r))) := by
 unfold Zcd at hm
 refine Sim.of Tryz.func147 rfl rfl (lE rfl) (fun e0 w0 => ?_)
 refine JC.at ⟨[(0, ov (PTR gb2 0))], [cvar gb2 Zab r1], []⟩ <| jr <| jc (Zac lb .cI) <| jn <| JC.seq <| JC.block <| bI hm fun x4 hx1 hq1 => JC.seqJ (γ := Unit) (stj := fun _ => ⟨[(0, ov (PTR gb2 0)), (3, ov (S rB x4))], [cvar gb2 Zab r1], []⟩) (fun _ => ?_) ?_
 · refine jif tR hq1 (fun hc2 hq1 => ?_) (fun hc2 hq1 => ?_)
   · refine jr <| jc (Zac lb .cI) <| jn <| JC.ret <| JQ.outRB <| JQ.outR ?_
     obtain rfl := so hq1
     exact JQ.done (js := [0]) (ss := [.val (S (rI .i64) (1 : Int))]) () (.inl rfl) (.nil rfl) rfl (.cons (.tmp rfl) .nil) rfl rfl rfl
   refine bI hq1 fun x8 hx3 hq3 => JC.seqJ (γ := Unit) (stj := fun _ => ⟨[(13, ov (S rB x8))], [cvar gb2 Zab r1], []⟩) (fun _ => ?_) ?_
   · refine jif tR hq3 (fun hc11 hq3 => ?_) (fun hc11 hq3 => ?_)
     · refine jr <| jc (Zac lb .cI) <| jn <| JC.ret <| JQ.outRB <| JQ.outR ?_
       obtain rfl := so hq3
       exact JQ.done (js := [0]) (ss := [.val (S (rI .i64) (4 : Int))]) () (.inl rfl) (.nil rfl) rfl (.cons (.tmp rfl) .nil) rfl rfl rfl
     refine JC.skip <| JQ.outNB <| JQ.then <| jr <| jc (Zac lb .cI) <| jn <| JC.ret ?_
     obtain rfl := so hq3
     exact JQ.done (js := [0]) (ss := [.val (S (rI .i64) (0 : Int))]) () (.inl rfl) (.nil rfl) rfl (.cons (.tmp rfl) .nil) rfl rfl rfl
   refine JC.region <| jmv rfl rfl <| bI hx3 fun v5 hv5 hx3 => jx (Zak (js := [0]) ld ZiI (Za1 k r1 gb2 v5 hv5) .func (.cons tR .nil) rfl) fun _ => jmv rfl rfl <| jF (ov (PTR gb2 0)) rfl rfl rfl rfl (fun hq_4 => ZaC lb tR) <| jF (ov (PTR gb2 0)) rfl rfl rfl rfl (fun hq5 => Zap lb (HasO.cnd tR (notT (notF hq5))) (fun e v h => by subst h; rfl)) <| jF (ov (PTR gb2 (0 + 0))) rfl rfl rfl rfl (fun hq6 => Zaa (off := 0) lb ZeN (HasO.cnd tR (notT (notF hq6)))) <| jF (ov (S (rL (rU UInt8)) r1.rest)) rfl rfl rfl rfl (fun hq7 => Zam (j := 0) lb tS27 (HasO.cnd tR (notT (notF hq7))) rfl (cT (ZbX r1) rfl) rfl rfl) <| jF (ov (S (rI .i64) (List.length r1.rest : Int))) rfl rfl rfl rfl (fun hq8 => ZaI lb tu27 (HasO.cnd tR (notT (notF hq8)))) ?_
   refine lI hx3 fun v6 hv6 hx3 => jF (ov (S rB v6)) rfl rfl rfl rfl (fun hq9 => Zar lb (HasO.cnd tR (notT (notF hq9))) .cI (cs hv6)) <| lI hx3 fun v7 hv7 hx3 => jc (Zas lb tR (fun hb10 => .cB) (fun hb10 => (HasO.cnd tR (notT hb10))) hv7) <| jc (Zac lb tR) <| JL.nil ?_
   try obtain rfl := so hx3
   exact JQ.join () (Imp.norm (js := [0]) rfl (.cons rfl .nil))
 refine JC.region <| jmv rfl rfl <| jc (ZjF (neg := false) lb tu87 tR (HasO.const (p := PTO none) fun _ => rfl)) <| jmv rfl rfl <| JL.run (.yes rfl (ltB rfl) rfl rfl) (ZaC lb tR) <| JL.run (.yes rfl (ltB rfl) rfl rfl) (Zap lb tR (fun e v h => by subst h; rfl)) <| JL.run (.yes rfl (ltB rfl) rfl rfl) (Zaa (off := 2) lb Zns tR) <| JL.run (.yes rfl (ltB rfl) rfl rfl) (Zam (j := 0) lb tS4 tR rfl (cT (ZfM r1) rfl) rfl rfl) <| lI hx1 fun v3 hv3 hx1 => JL.run (.yes rfl (ltB rfl) rfl rfl) (ZbU lb tR hv3) <| jc (Za6 lb tR rfl tR) <| jc (Zac lb tR) <| JL.nil ?_
 try obtain rfl := so hx1
 exact JQ.join () (Imp.norm (js := [0]) rfl (.cons rfl (.cons rfl .nil)))

theorem Zjn (k : Nat) (b_1 : (List UInt8)) (r : Zaq × Int) (hm : event_Of k b_1 = some r) : Sim Tryz.prog 127 [S (rL (rU UInt8)) b_1] [] (γ := Unit) (fun q => []) (fun q => .tup [.val (A Zan r.1), .val (S (rI .i64) r.2)]) := by
 unfold event_Of at hm
 refine Sim.of Tryz.func127 rfl rfl (lE rfl) (fun e0 w0 => ?_)
 refine JC.at ⟨[(0, ov (S (rL (rU UInt8)) b_1))], [], []⟩ <| jr <| jx (Za8 lb tZ32 zr32) fun gb2 => jc (Zac lb .cI) <| jn <| jr <| jmv rfl rfl <| bI hm fun v3 hv3 hm => jx (Zak (js := []) ld cl52 (ZdH k b_1 v3 hv3) .func (.cons tR .nil) rfl) (fun q => ?_)
 obtain ⟨gb4, go5, gc6⟩ := q
 refine jc (Zac lb tR) <| jn <| JC.seq ?_
 obtain ⟨⟨v7, x8⟩, hv7, hm⟩ := Zaz hm
 obtain ⟨⟨v9, x10⟩, hv9, hm⟩ := Zaz hm
 obtain ⟨⟨v11, x12⟩, hv11, hm⟩ := Zaz hm
 obtain ⟨⟨v13, x14⟩, hv13, hm⟩ := Zaz hm
 refine JC.anyF (base := [(0, ov (S (rL (rU UInt8)) b_1)), (2, ov (PTR gb2 0)), (4, ov (PTR gb4 0))])
     (fs := fun γ => [⟨some 8, ov (PTR gb4 0)⟩, ⟨some 9, ov (A Zae v7)⟩, ⟨some 10, ov (PTR gb4 0)⟩, ⟨some 11, ov (S (rL (rU UInt8)) v9)⟩, ⟨some 12, ov (S rS v9)⟩, ⟨some 13, ov (PTR gb4 0)⟩, ⟨some 14, ov (S (rL (rU UInt8)) v11)⟩, ⟨some 15, ov (PTR gb4 0)⟩, ⟨some 16, ov (A (rV 16 (rU UInt64)) v13)⟩, ⟨some 17, ov (A zq42 (v7, (v9, (v11, (v13, ((), ()))))))⟩, ⟨some 5, ov (PTR (γ 10 0) 0)⟩, ⟨none, .one .any⟩])
     (rs := fun γ => [⟨cvar gb4 (zq26 go5 v3 gc6) ((), (true, (true, ()))), none, (some 1), []⟩, ⟨cown go5 (rU UInt8) v3 0 gc6, none, (some 1), []⟩, ⟨cvar gb2 zq40 zq41, none, none, []⟩, ⟨cvar gb4 Zab x8, (some 1), (some 3), []⟩, ⟨cown go5 (rU UInt8) v3 (List.length v3) gc6, (some 1), none, []⟩, ⟨cvar gb4 Zab x10, (some 3), (some 6), []⟩, ⟨cvar gb4 Zab x12, (some 6), (some 8), []⟩, ⟨cvar gb4 Zab x14, (some 8), none, []⟩, ⟨cvar (γ 10 0) zq40 zq41, (some 10), (some 11), []⟩, ⟨cvar (γ 10 0) zq42 (v7, (v9, (v11, (v13, ((), ()))))), (some 11), none, []⟩])
     (afts := [[], [], [], [], [], [], [], [], [], [], [10, 11], []]) (js := [0, 0, 0]) Zcj (.cons rfl (.cons rfl (.cons rfl .nil))) (fun _ => rfl)
     (by
      refine db 1 4 <| dR 2 (fun γ ρ B hb hd => Zao.at ⟨ρ, (cvar gb4 (zq26 go5 v3 gc6) ((), (true, (true, ())))) :: (cown go5 (rU UInt8) v3 0 gc6) :: B, _⟩ (setO ⟨ρ, (cvar gb4 Zab x8) :: (cown go5 (rU UInt8) v3 (List.length v3) gc6) :: B, _⟩ _ _) ((Zak (js := [0, 0]) ld Zll (ZfL k true true v3 gb4 go5 gc6 (v7, x8) hv7) .func (.cons (tl hd 0 8) .nil) rfl).post (fun _ => Imp.refl))) <| db 3 4 <| dR 4 (fun γ ρ B hb hd => Zao.at ⟨ρ, (cvar gb4 Zab x8) :: B, _⟩ (setO ⟨ρ, (cvar gb4 Zab x10) :: B, _⟩ _ _) ((Zak (js := [0]) ld Zjz (Zbw k x8 gb4 (v9, x10) hv9) .func (.cons (tl hd 2 10) .nil) rfl).post (fun _ => Imp.refl))) <| dS 5 (fun γ ρ B hb hd => ZdD lb tu27 tu5 tu9 (tl hd 3 11)) ?_
      refine db 6 4 <| dR 7 (fun γ ρ B hb hd => Zao.at ⟨ρ, (cvar gb4 Zab x10) :: B, _⟩ (setO ⟨ρ, (cvar gb4 Zab x12) :: B, _⟩ _ _) ((Zak (js := [0]) ld Zjz (Zbw k x10 gb4 (v11, x12) hv11) .func (.cons (tl hd 5 13) .nil) rfl).post (fun _ => Imp.refl))) <| db 8 4 <| dR 9 (fun γ ρ B hb hd => Zao.at ⟨ρ, (cvar gb4 Zab x12) :: B, _⟩ (setO ⟨ρ, (cvar gb4 Zab x14) :: B, _⟩ _ _) ((Zak (js := [0]) ld Zmj (Zcg k x12 gb4 (v13, x14) hv13) .func (.cons (tl hd 7 15) .nil) rfl).post (fun _ => Imp.refl))) <| dS 10 (fun γ ρ B hb hd => Zbl lb tZ32 zr32 tp32 (.A (off := 0) rfl (tl hd 1 9) ((UpdR.fst (UpdR.self (by rfl))).at (by rfl)) (.S (off := 2) rfl (tl hd 4 12) rfl ((UpdR.snd (UpdR.fst (UpdR.self (by rfl)))).at (by rfl)) (.S (off := 3) rfl (tl hd 6 14) rfl ((UpdR.snd (UpdR.snd (UpdR.fst (UpdR.self (by rfl))))).at (by rfl)) (.A (off := 4) rfl (tl hd 8 16) ((UpdR.snd (UpdR.snd (UpdR.snd (UpdR.fst (UpdR.self (by rfl)))))).at (by rfl)) .nil)))) rfl) <| ZaF.cons (j := 11) rfl (fun _ => rfl) (.runX (fun _ _ => rfl) (fun γ ρ B hb hd => ⟨.none, OpX.ghost (γ := Nat) (st' := fun q => setO ⟨ρ, (cvar q zq40 zq41) :: B, _⟩ (some 5) (ov (PTR q 0))) (fun q c => q) (OpX.front (Za8 lb tZ32 zr32)) (fun q => Imp.refl)⟩) (fun _ _ => rfl) (fun _ _ => rfl)) ?_
      refine dR 12 (fun γ ρ B hb hd => Zao.at ⟨ρ, (cvar (γ 10 0) zq40 zq41) :: B, _⟩ (setO ⟨ρ, (cvar (γ 10 0) zq42 (v7, (v9, (v11, (v13, ((), ())))))) :: B, _⟩ _ _) (ZaM (j := 0) tA32 (tl hd 10 5) (tl hd 9 17) rfl (UpdR.self (by rfl)) rfl)) ?_
      exact ZaF.nil)
     (by decide +kernel) (fun _ => rfl) (fun _ => rfl) (fun _ => rfl) rfl
     (ρ' := fun γ => [(0, ov (S (rL (rU UInt8)) b_1)), (2, ov (PTR gb2 0)), (4, ov (PTR gb4 0)), (5, ov (PTR (γ 10 0) 0))])
     (X' := fun γ => [cvar gb2 zq40 zq41, cown go5 (rU UInt8) v3 (List.length v3) gc6, cvar gb4 Zab x14, cvar (γ 10 0) zq42 (v7, (v9, (v11, (v13, ((), ())))))])
     (fun γ ρ hb hd => (.cons (hb 0 _ rfl) (.cons (hb 2 _ rfl) (.cons (hb 4 _ rfl) (.cons (hdq hd 10 5 rfl) .nil))))) (fun _ => rfl) (fun γ => ?_)
 generalize (γ 10 0) = gb15
 clear γ
 refine JQ.at ⟨[(0, ov (S (rL (rU UInt8)) b_1)), (2, ov (PTR gb2 0)), (4, ov (PTR gb4 0)), (5, ov (PTR gb15 0))], [cvar gb2 zq40 zq41, cown go5 (rU UInt8) v3 (List.length v3) gc6, cvar gb4 Zab x14, cvar gb15 zq42 (v7, (v9, (v11, (v13, ((), ())))))], []⟩ <| JQ.then ?_
 obtain ⟨⟨r35, To36⟩, hx1, hq1⟩ := Zaz hm
 refine JC.seqJ (γ := Option Nat × Nat) (stj := fun q => ⟨[(0, ov (S (rL (rU UInt8)) b_1)), (2, ov (PTR gb2 0)), (4, ov (PTR gb4 0)), (5, ov (PTR gb15 0))], [cvar gb2 zq40 zq41, cvar gb4 Zab r35, cvar gb15 (rP Zae (rP rS (rP (rL (rU UInt8)) (rP (rV 16 (rU UInt64)) (rP (rW (HDR q.1 0 (List.length To36) q.2)) r0))))) (v7, (v9, (v11, (v13, ((), ()))))), cown q.1 Zat To36 0 q.2], []⟩) (fun q => ?_) ?_
 · obtain ⟨go37, gc38⟩ := q
   refine JC.at ⟨[(0, ov (S (rL (rU UInt8)) b_1)), (2, ov (PTR gb2 0)), (4, ov (PTR gb4 0)), (5, ov (PTR gb15 0))], [cvar gb2 zq40 zq41, cvar gb4 Zab r35, cvar gb15 (zq45 go37 To36 gc38) (v7, (v9, (v11, (v13, ((), ()))))), cown go37 Zat To36 0 gc38], []⟩ <| JC.seq <| bI hq1 fun x48 hx4 hq4 => JC.seqJ (γ := Unit) (stj := fun _ => ⟨[(2, ov (PTR gb2 0)), (5, ov (PTR gb15 0)), (52, ov (S rB x48))], [cvar gb2 zq40 zq41, cvar gb15 (zq45 go37 To36 gc38) (v7, (v9, (v11, (v13, ((), ()))))), cown go37 Zat To36 (List.length To36) gc38], []⟩) (fun _ => ?_) ?_
   · refine jif tR hq4 (fun hc9 hq4 => ?_) (fun hc9 hq4 => ?_)
     · refine jr <| jc (Zbl lb tZ32 zr32 tp32 .nil rfl) <| jc (ZaM (j := 0) tA32 tR tR rfl (UpdR.self (by rfl)) rfl) <| jc (Zac lb .cI) <| jn <| JC.ret <| JQ.outR ?_
       obtain rfl := so hq4
       refine JQ.pre (Imp.var (j := 0) (q := Zan) (y := (Zaq.mk (Zah.mk (0 : Int) (0 : UInt64)) ([] : (List UInt8)) ([] : (List UInt8)) (Vector.replicate 16 (0 : UInt64)) ([] : (List ZaA)))) rfl (Wk.st (Wk.pair Wk.refl (Wk.pair Wk.refl (Wk.pair Wk.nil (Wk.pair Wk.refl (Wk.pair Wk.nil Wk.refl))))))) ?_
       exact JQ.done (js := []) (ss := [.val (A Zan (Zaq.mk (Zah.mk (0 : Int) (0 : UInt64)) ([] : (List UInt8)) ([] : (List UInt8)) (Vector.replicate 16 (0 : UInt64)) ([] : (List ZaA)))), .val (S (rI .i64) (4 : Int))]) () (.inl rfl) (.nil rfl) rfl (.cons (.cellA (j := 0) tA32 rfl rfl) (.cons (.tmp rfl) .nil)) rfl rfl rfl
     refine JC.skip <| JQ.then <| jr <| jc (ZaB (j := 1) lb tA32 tR rfl (Comp.self (zq45 go37 To36 gc38) (v7, (v9, (v11, (v13, ((), ())))))) rfl) <| jc (ZaM (j := 0) tA32 tR tR rfl (UpdR.self (by rfl)) rfl) <| jc (Zac lb .cI) <| jn <| JC.ret ?_
     obtain rfl := so hq4
     refine JQ.pre (Imp.frz (j := 2) rfl (ImpK.slotA (s := 54) (q := (zq46 go37 To36 gc38)) (y := (v7, (v9, (v11, (v13, ((), ())))))) rfl (Wk.pair Wk.refl (Wk.pair Wk.refl (Wk.pair Wk.refl (Wk.pair Wk.refl (Wk.pair Wk.own Wk.refl))))) (ImpK.var (j := 0) (q := (zq46 go37 To36 gc38)) (y := (v7, (v9, (v11, (v13, ((), ())))))) rfl (Wk.pair Wk.refl (Wk.pair Wk.refl (Wk.pair Wk.refl (Wk.pair Wk.refl (Wk.pair Wk.own Wk.refl))))) (ImpK.var (j := 1) (q := (zq46 go37 To36 gc38)) (y := (v7, (v9, (v11, (v13, ((), ())))))) rfl (Wk.pair Wk.refl (Wk.pair Wk.refl (Wk.pair Wk.refl (Wk.pair Wk.refl (Wk.pair Wk.own Wk.refl))))) ImpK.refl)))) <| JQ.pre (Imp.var (j := 0) (q := Zan) (y := (Zaq.mk v7 v9 v11 v13 To36)) rfl (Wk.st (Wk.pair Wk.refl (Wk.pair Wk.refl (Wk.pair Wk.refl (Wk.pair Wk.refl (Wk.pair Wk.hl Wk.refl))))))) ?_
     exact JQ.done (js := []) (ss := [.val (A Zan (Zaq.mk v7 v9 v11 v13 To36)), .val (S (rI .i64) (0 : Int))]) () (.inl rfl) (.nil rfl) rfl (.cons (.cellA (j := 0) tA32 rfl rfl) (.cons (.tmp rfl) .nil)) rfl rfl rfl
   refine JC.region <| jmv rfl rfl <| bI hx4 fun v39 hv39 hx4 => jx (Zak (js := [1]) ld Zpw (Zgp k r35 gb4 v39 hv39) .func (.cons tR .nil) rfl) fun _ => lI hx4 fun v40 hv40 hx4 => jc (Zar lb tR .cI (cs hv40)) <| jmv rfl rfl ?_
   rcases ZcY hx4 with ⟨hc6, hx4⟩ | ⟨hc6, hx4⟩
   · refine jk rfl hc6 <| jk rfl hc6 <| jk rfl hc6 <| jc (Zdf lb tR hc6 .cB) <| jmv rfl rfl <| jk rfl rfl <| jk rfl rfl <| jk rfl rfl <| jk rfl rfl <| jk rfl rfl <| jc (Zdf lb tR rfl .cB) <| JL.nil ?_
     try obtain rfl := so hx4
     exact JQ.pre (Imp.frz (j := 3) rfl ImpK.refl) <| JQ.join () (Imp.norm (js := [1, 1, 1]) rfl (.cons rfl (.cons rfl (.cons rfl .nil))))
   refine JL.run (.yes rfl (ltB rfl) rfl hc6) (ZaB (j := 2) lb tA32 tR rfl (Comp.self (zq45 go37 To36 gc38) (v7, (v9, (v11, (v13, ((), ())))))) rfl) <| bI hx4 fun v41 hv41 hx4 => JL.pre (Imp.frz (j := 3) rfl (ImpK.slotA (s := 42) (q := (zq46 go37 To36 gc38)) (y := (v7, (v9, (v11, (v13, ((), ())))))) rfl (Wk.pair Wk.refl (Wk.pair Wk.refl (Wk.pair Wk.refl (Wk.pair Wk.refl (Wk.pair Wk.own Wk.refl))))) (ImpK.var (j := 2) (q := (zq46 go37 To36 gc38)) (y := (v7, (v9, (v11, (v13, ((), ())))))) rfl (Wk.pair Wk.refl (Wk.pair Wk.refl (Wk.pair Wk.refl (Wk.pair Wk.refl (Wk.pair Wk.own Wk.refl))))) ImpK.refl))) <| JL.pre (Imp.slotA (s := 42) rfl (Wk.st (Wk.pair Wk.refl (Wk.pair Wk.refl (Wk.pair Wk.refl (Wk.pair Wk.refl (Wk.pair Wk.hl Wk.refl))))))) <| JL.runX (.yes rfl (ltB rfl) rfl hc6) (Zak (js := []) ld cl31 (Zfg k (Zaq.mk v7 v9 v11 v13 To36) v41 hv41) .func (.cons tR .nil) rfl) fun _ => lI hx4 fun v42 hv42 hx4 => JL.run (.yes rfl (ltB rfl) rfl hc6) (ZbU lb tR hv42) <| jc (Za6 lb tR hc6 tR) <| JL.nrm ⟨[(0, ov (S (rL (rU UInt8)) b_1)), (2, ov (PTR gb2 0)), (5, ov (PTR gb15 0)), (45, ov (S rB v42))], [cvar gb2 zq40 zq41, cvar gb15 (zq46 go37 To36 gc38) (v7, (v9, (v11, (v13, ((), ()))))), cown go37 Zat To36 (List.length To36) gc38], []⟩ [1, 1, 1] rfl (.cons rfl (.cons rfl (.cons rfl (.cons rfl .nil)))) rfl ?_
   refine jmv rfl rfl ?_
   rcases ZcY hx4 with ⟨hc8, hx4⟩ | ⟨hc8, hx4⟩
   · refine jk rfl hc8 <| jk rfl hc8 <| jk rfl hc8 <| jk rfl hc8 <| jk rfl hc8 <| jc (Zdf lb tR hc8 .cB) <| JL.nil ?_
     try obtain rfl := so hx4
     refine JQ.pre (Imp.var (j := 1) (q := (zq45 go37 To36 gc38)) (y := (v7, (v9, (v11, (v13, ((), ())))))) rfl (Wk.pair Wk.refl (Wk.pair Wk.refl (Wk.pair Wk.refl (Wk.pair Wk.refl (Wk.pair Wk.hh Wk.refl)))))) ?_
     exact JQ.join () (Imp.norm (js := [0, 0, 0]) rfl (.cons rfl (.cons rfl (.cons rfl .nil))))
   refine JL.run (.yes rfl (ltB rfl) rfl hc8) (ZaB (j := 1) lb tA32 tR rfl (Comp.self (zq46 go37 To36 gc38) (v7, (v9, (v11, (v13, ((), ())))))) rfl) <| bI hx4 fun v43 hv43 hx4 => JL.runX (.yes rfl (ltB rfl) rfl hc8) (Zak (js := []) ld ZnS (ZfZ k (Zaq.mk v7 v9 v11 v13 To36) v43 hv43) .func (.cons (HasO.wk (q := A Zan (Zaq.mk v7 v9 v11 v13 To36)) tR (wkAK (Wk.st (Wk.pair Wk.refl (Wk.pair Wk.refl (Wk.pair Wk.refl (Wk.pair Wk.refl (Wk.pair Wk.hl Wk.refl)))))))) .nil) rfl) (fun q => ?_)
   obtain ⟨go44, gc45⟩ := q
   refine JL.run (.yes rfl (ltB rfl) rfl hc8) (ZaC lb tR) <| bI hx4 fun v46 hv46 hx4 => JL.pre (Imp.frz (j := 0) rfl (ImpK.slotH (s := 48) rfl ImpK.refl)) <| JL.runX (.yes rfl (ltB rfl) rfl hc8) (Zak (js := []) ld cl55 (Zcw k v43 b_1 v46 hv46) .func (.cons (HasO.wk tR wkHL) (.cons tR .nil)) rfl) fun _ => lI hx4 fun v47 hv47 hx4 => JL.run (.yes rfl (ltB rfl) rfl hc8) (ZbU lb tR hv47) <| jc (Za6 lb tR hc8 tR) <| JL.nil ?_
   try obtain rfl := so hx4
   refine JQ.pre (Imp.var (j := 2) (q := (zq45 go37 To36 gc38)) (y := (v7, (v9, (v11, (v13, ((), ())))))) rfl (Wk.pair Wk.refl (Wk.pair Wk.refl (Wk.pair Wk.refl (Wk.pair Wk.refl (Wk.pair Wk.hh Wk.refl)))))) ?_
   exact JQ.join () (Imp.norm (js := [1, 1, 1]) rfl (.cons rfl (.cons rfl (.cons rfl .nil))))
 refine jr <| jmv rfl rfl ?_
 obtain ⟨⟨v16, x17⟩, hv16, hx1⟩ := Zaz hx1
 refine jx (Zak (js := [2]) ld cl53 (ZaD k (2 : Int) x14 gb4 (v16, x17) hv16) .func (.cons tR (.cons .cI .nil)) rfl) fun _ => lI hx1 fun v18 hv18 hx1 => jc (Zcn lb tu24 tu3 tR hv18) <| jmv rfl rfl <| bI hx1 fun v19 hv19 hx1 => jx (Zak (js := [0]) ld ZoN (Zga k x17 gb4 v19 hv19) .func (.cons tR .nil) rfl) fun _ => lI hx1 fun v20 hv20 hx1 => jc (ZiK lb tR tR hv20) <| jc (ZaC lb .cI) <| jn <| JC.block <| JC.pre (Imp.nilown Zat) <| JC.pre ?_ (JC.loop (γ := Option Nat × Nat) (stf := fun s q => ⟨[(0, ov (S (rL (rU UInt8)) b_1)), (2, ov (PTR gb2 0)), (4, ov (PTR gb4 0)), (5, ov (PTR gb15 0)), (23, ov (S (rI .i64) v20)), (24, ov (S (rI .i64) s.2.2))], [cvar gb2 zq40 zq41, cvar gb4 Zab s.1, cvar gb15 (rP Zae (rP rS (rP (rL (rU UInt8)) (rP (rV 16 (rU UInt64)) (rP (rW (HDR q.1 0 (List.length s.2.1) q.2)) r0))))) (v7, (v9, (v11, (v13, ((), ()))))), cown q.1 Zat s.2.1 0 q.2], []⟩) (q := (none, 0)) hx1 ?_)
 · exact (Imp.norm (js := [1, 0, 1, 1]) rfl (.cons rfl (.cons rfl (.cons rfl (.cons rfl (.cons rfl (.cons rfl .nil)))))))
 intro s q x hx hr
 obtain ⟨r21, To22, x23⟩ := s
 obtain ⟨go24, gc25⟩ := q
 change event_Of.b1 k v20 r21 To22 x23 = some x at hx
 unfold event_Of.b1 at hx
 refine JC.at ⟨[(0, ov (S (rL (rU UInt8)) b_1)), (2, ov (PTR gb2 0)), (4, ov (PTR gb4 0)), (5, ov (PTR gb15 0)), (23, ov (S (rI .i64) v20)), (24, ov (S (rI .i64) x23))], [cvar gb2 zq40 zq41, cvar gb4 Zab r21, cvar gb15 (zq45 go24 To22 gc25) (v7, (v9, (v11, (v13, ((), ()))))), cown go24 Zat To22 0 gc25], []⟩ <| jr <| lI hx fun v26 hv26 hx => jc (Zar lb tR tR (cs hv26)) <| jn <| JC.seq <| jif tR hx (fun hc3 hx => ?_) (fun hc3 hx => ?_)
 · refine JC.skip <| JQ.then <| JC.seq <| JC.block ?_
   obtain ⟨⟨v27, x28⟩, hv27, hx⟩ := Zaz hx
   obtain ⟨⟨v29, x30⟩, hv29, hx⟩ := Zaz hx
   obtain ⟨x31, hv_x_31, hx⟩ := Zaz hx
   refine JC.anyF (base := [(0, ov (S (rL (rU UInt8)) b_1)), (2, ov (PTR gb2 0)), (4, ov (PTR gb4 0)), (5, ov (PTR gb15 0)), (23, ov (S (rI .i64) v20)), (24, ov (S (rI .i64) x23))])
       (fs := fun γ => [⟨some 26, ov (PTR gb15 (0 + 20))⟩, ⟨some 27, ov (HDR go24 0 (List.length To22) gc25)⟩, ⟨some 28, ov (PTR gb4 0)⟩, ⟨some 29, ov (A Zae v27)⟩, ⟨some 30, ov (PTR gb4 0)⟩, ⟨some 31, ov (S (rL (rU UInt8)) v29)⟩, ⟨some 32, ov (S rS v29)⟩, ⟨some 33, ov (A (rP Zae (rP rS r0)) (v27, (v29, ())))⟩, ⟨some 34, ov (S (rL Zat) ([(ZaA.mk v27 v29)] : (List ZaA)))⟩, ⟨some 35, ov (HDR (deo (γ 9 0)) 0 (List.length x31) (γ 9 1))⟩, ⟨some 36, ov (PTR gb15 (0 + 20))⟩, ⟨none, .one .any⟩])
       (rs := fun γ => [⟨cvar gb2 zq40 zq41, none, none, []⟩, ⟨cvar gb4 Zab r21, none, (some 3), []⟩, ⟨cvar gb15 (zq45 go24 To22 gc25) (v7, (v9, (v11, (v13, ((), ()))))), none, (some 11), [1]⟩, ⟨cown go24 Zat To22 0 gc25, none, (some 9), []⟩, ⟨cvar gb4 Zab x28, (some 3), (some 5), []⟩, ⟨cvar gb4 Zab x30, (some 5), none, []⟩, ⟨cown (deo (γ 9 0)) Zat x31 0 (γ 9 1), (some 9), none, []⟩, ⟨cvar gb15 (zq45 (deo (γ 9 0)) x31 (γ 9 1)) (v7, (v9, (v11, (v13, ((), ()))))), (some 11), none, []⟩])
       (afts := [[], [], [], [], [], [], [], [], [], [9, 10, 11], [], []]) (js := [0, 0, 0, 0]) Zcj (.cons rfl (.cons rfl (.cons rfl (.cons rfl (.cons rfl (.cons rfl .nil)))))) (fun _ => rfl)
       (by
      refine dS 1 (fun γ ρ B hb hd => Zaa (off := 20) lb ZdW (.tmp (hb 5 _ rfl))) <| dR 2 (fun γ ρ B hb hd => Zao.lk ⟨ρ, (cvar gb15 (zq45 go24 To22 gc25) (v7, (v9, (v11, (v13, ((), ())))))) :: B, _⟩ (ZaJ (j := 0) lb tS30 (tl hd 0 26) rfl (Comp.trans (Comp.self (zq45 go24 To22 gc25) (v7, (v9, (v11, (v13, ((), ())))))) (Comp.at' (Comp.inS (Comp.inS (Comp.inS (Comp.inS (Comp.inF (Comp.self (rW (HDR go24 0 (List.length To22) gc25)) ()) (lE rfl)))))) (by rfl : _ = 20)) (lE rfl)))) <| db 3 4 <| dR 4 (fun γ ρ B hb hd => Zao.at ⟨ρ, (cvar gb4 Zab r21) :: B, _⟩ (setO ⟨ρ, (cvar gb4 Zab x28) :: B, _⟩ _ _) ((Zak (js := [0]) ld Zll (ZcO k r21 gb4 (v27, x28) hv27) .func (.cons (tl hd 2 28) .nil) rfl).post (fun _ => Imp.refl))) <| db 5 4 ?_
      refine dR 6 (fun γ ρ B hb hd => Zao.at ⟨ρ, (cvar gb4 Zab x28) :: B, _⟩ (setO ⟨ρ, (cvar gb4 Zab x30) :: B, _⟩ _ _) ((Zak (js := [0]) ld Zjz (Zbw k x28 gb4 (v29, x30) hv29) .func (.cons (tl hd 4 30) .nil) rfl).post (fun _ => Imp.refl))) <| dS 7 (fun γ ρ B hb hd => ZdD lb tu27 tu5 tu9 (tl hd 5 31)) <| dS 8 (fun γ ρ B hb hd => Zbl lb Zmx Zpa Zo1 (.A (off := 0) rfl (tl hd 3 29) ((UpdR.fst (UpdR.self (by rfl))).at (by rfl)) (.S (off := 2) rfl (tl hd 6 32) rfl ((UpdR.snd (UpdR.fst (UpdR.self (by rfl)))).at (by rfl)) .nil)) rfl) <| dS 9 (fun γ ρ B hb hd => Zce (r := Zat) lb tu30 ZiU Zmx rfl (lE rfl) (.A (HasO.wk (q := A Zat (ZaA.mk v27 v29)) (tl hd 7 33) (wkAK (Wk.st Wk.refl))) .nil) rfl) ?_
      refine ZaF.cons (j := 10) rfl (fun _ => rfl) (.runX (fun _ _ => rfl) (fun γ ρ B hb hd => ⟨.none, OpX.ghost (γ := Option Nat × Nat) (st' := fun q => setO ⟨ρ, (cown q.1 Zat x31 0 q.2) :: B, _⟩ (some 35) (ov (HDR q.1 0 (List.length x31) q.2))) (fun q c => bif Nat.beq c 0 then eno q.1 else q.2) (Zbd (j := 0) lb tu30 tu30 rfl ZoO rfl (Nat.lt_of_lt_of_le Nat.zero_lt_one (lE rfl)) (Nat.lt_of_lt_of_le Nat.zero_lt_one (lE rfl))  rfl (tl hd 1 27) (tl hd 8 34) hv_x_31) (fun q => by obtain ⟨q0, q1⟩ := q; cases q0 <;> exact Imp.refl)⟩) (fun _ _ => rfl) (fun _ _ => rfl)) ?_
      refine dS 11 (fun γ ρ B hb hd => Zaa (off := 20) lb ZdW (.tmp (hb 5 _ rfl))) <| dR 12 (fun γ ρ B hb hd => Zao.at ⟨ρ, (cvar gb15 (zq45 go24 To22 gc25) (v7, (v9, (v11, (v13, ((), ())))))) :: B, _⟩ (setO ⟨ρ, (cvar gb15 (zq45 (deo (γ 9 0)) x31 (γ 9 1)) (v7, (v9, (v11, (v13, ((), ())))))) :: B, _⟩ _ _) (ZbN (j := 0) tS30 (tl hd 10 36) (tl hd 9 35) rfl ((UpdR.snd (UpdR.snd (UpdR.snd (UpdR.snd (UpdR.fst (UpdR.self (by rfl))))))).at (by change (2 + (1 + (1 + (16 + 0)))) = (0 + 20); omega)) rfl)) ?_
      exact ZaF.nil)
       (by decide +kernel) (fun _ => rfl) (fun _ => rfl) (fun _ => rfl) rfl
       (ρ' := fun γ => [(0, ov (S (rL (rU UInt8)) b_1)), (2, ov (PTR gb2 0)), (4, ov (PTR gb4 0)), (5, ov (PTR gb15 0)), (23, ov (S (rI .i64) v20)), (24, ov (S (rI .i64) x23))])
       (X' := fun γ => [cvar gb2 zq40 zq41, cvar gb4 Zab x30, cown (deo (γ 9 0)) Zat x31 0 (γ 9 1), cvar gb15 (zq45 (deo (γ 9 0)) x31 (γ 9 1)) (v7, (v9, (v11, (v13, ((), ())))))])
       (fun γ ρ hb hd => (.cons (hb 0 _ rfl) (.cons (hb 2 _ rfl) (.cons (hb 4 _ rfl) (.cons (hb 5 _ rfl) (.cons (hb 23 _ rfl) (.cons (hb 24 _ rfl) .nil))))))) (fun _ => rfl) (fun γ => ?_)
   generalize (deo (γ 9 0)) = go32
   generalize (γ 9 1) = gc33
   clear γ
   refine JQ.at ⟨[(0, ov (S (rL (rU UInt8)) b_1)), (2, ov (PTR gb2 0)), (4, ov (PTR gb4 0)), (5, ov (PTR gb15 0)), (23, ov (S (rI .i64) v20)), (24, ov (S (rI .i64) x23))], [cvar gb2 zq40 zq41, cvar gb4 Zab x30, cown go32 Zat x31 0 gc33, cvar gb15 (zq45 go32 x31 gc33) (v7, (v9, (v11, (v13, ((), ())))))], []⟩ <| JQ.outNB <| JQ.then <| JC.region <| lI hx fun v34 hv34 hx => jc (ZaX lb tR .cI (cs hv34)) <| jmv rfl rfl <| JL.nil ?_
   try obtain rfl := so hx
   exact JQ.next (go32, gc33) rfl (Imp.norm (js := [0, 0, 1, 0]) rfl (.cons rfl (.cons rfl (.cons rfl (.cons rfl (.cons rfl (.cons rfl .nil)))))))
 refine JC.exit <| JQ.outX ?_
 try obtain rfl := so hx
 have ht := hr _ rfl
 have hq2 := cs ht
 clear hr ht
 refine JQ.outX <| JQ.here ?_
 have hz := Option.some.inj hq2
 replace hz := Prod.mk.inj hz
 obtain ⟨hz_a, hz⟩ := hz
 first | subst hz_a | clear hz_a
 first | subst hz | clear hz
 exact JQ.join (go24, gc25) (Imp.norm (js := [0, 0, 0, 0]) rfl (.cons rfl (.cons rfl (.cons rfl (.cons rfl .nil)))))

theorem ZfB (k : Nat) (Kind1 : Int) (From2 : Int) (To3 : Int) (ID4 : Zah) (Topic5 : (List UInt8)) (Past6 : (Vector UInt64 16)) (Past7 : (Vector UInt64 16)) (Seen8 : (Vector UInt64 16)) (Hash9 : (Vector UInt8 32)) (Reply10 : Bool) (x12 : Zag) (gb11 : Nat) (gb13 : Nat) (r : Zag × Zai) (hm : Zco k Kind1 From2 To3 ID4 Topic5 Past6 Past7 Seen8 Hash9 Reply10 x12 = some r) : Sim Tryz.prog 95 [PTR gb11 0] [zq32 gb11 gb13 Kind1 From2 To3 ID4 Topic5 Past6 Past7 Seen8 Hash9 Reply10, cvar gb13 Zab x12] (γ := Unit) (fun q => [cvar gb11 (zq50 gb13) ((), (r.2, ())), cvar gb13 Zab r.1]) (fun q => .tup []) := by
 unfold Zco at hm
 refine Sim.of Tryz.func95 rfl rfl (lE rfl) (fun e0 w0 => ?_)
 refine JC.at ⟨[(0, ov (PTR gb11 0))], [zq32 gb11 gb13 Kind1 From2 To3 ID4 Topic5 Past6 Past7 Seen8 Hash9 Reply10, cvar gb13 Zab x12], []⟩ ?_
 obtain ⟨⟨v14, x15⟩, hv14, hm⟩ := Zaz hm
 obtain ⟨v16, hv16, hm⟩ := ZaT hm
 obtain ⟨⟨v17, x18⟩, hv17, hm⟩ := Zaz hm
 obtain ⟨⟨v19, v20⟩, hv19, hm⟩ := Zaz hm
 refine JC.anyF (base := [(0, ov (PTR gb11 0))])
     (fs := fun γ => [⟨some 3, ov (PTR gb11 0)⟩, ⟨some 4, ov (PTR gb11 0)⟩, ⟨some 5, ov (PTR gb11 0)⟩, ⟨some 6, ov (PTR gb11 (0 + 0))⟩, ⟨some 7, ov (PTR gb13 0)⟩, ⟨some 8, ov (PTR gb11 0)⟩, ⟨some 9, ov (PTR gb11 0)⟩, ⟨some 10, ov (PTR gb11 (0 + 0))⟩, ⟨some 11, ov (PTR gb13 0)⟩, ⟨some 12, ov (S (rU UInt64) v14)⟩, ⟨some 13, ov (S (rI .i64) v16)⟩, ⟨some 14, ov (S (rL (rU UInt8)) v17)⟩, ⟨some 15, .tup [.val (A Zan v19), .val (S (rI .i64) v20)]⟩, ⟨some 2, .tup [.val (A Zan v19), .val (S (rI .i64) v20)]⟩, ⟨some 16, ov (A Zan v19)⟩, ⟨some 17, ov (S (rI .i64) v20)⟩, ⟨some 18, ov (PTR gb11 0)⟩, ⟨some 19, ov (PTR gb11 (0 + 1))⟩, ⟨some 20, ov (PTR gb11 ((0 + 1) + 4))⟩, ⟨none, .one .any⟩])
     (rs := fun γ => [⟨zq32 gb11 gb13 Kind1 From2 To3 ID4 Topic5 Past6 Past7 Seen8 Hash9 Reply10, none, (some 19), [4, 8]⟩, ⟨cvar gb13 Zab x12, none, (some 9), []⟩, ⟨cvar gb13 Zab x15, (some 9), (some 11), []⟩, ⟨cvar gb13 Zab x18, (some 11), none, []⟩, ⟨zq49 gb11 gb13 Kind1 From2 To3 v19 Past7 Seen8 Hash9 Reply10, (some 19), none, []⟩])
     (afts := nn 20) (js := [0, 0]) Zcj (.cons rfl .nil) (fun _ => rfl)
     (by
      refine db 1 0 <| db 2 0 <| dS 3 (fun γ ρ B hb hd => Zap lb (tl hd 1 4) (fun e v h => by subst h; rfl)) <| dS 4 (fun γ ρ B hb hd => Zaa (off := 0) lb Zb2 (tl hd 2 5)) <| dR 5 (fun γ ρ B hb hd => Zao.lk ⟨ρ, (zq32 gb11 gb13 Kind1 From2 To3 ID4 Topic5 Past6 Past7 Seen8 Hash9 Reply10) :: B, _⟩ (ZaJ (j := 0) lb tS87 (tl hd 3 6) rfl (Comp.trans (Comp.self (zq27 gb13) (zq31 Kind1 From2 To3 ID4 Topic5 Past6 Past7 Seen8 Hash9 Reply10)) (Comp.at' (Comp.inF (Comp.self (rW (PTR gb13 0)) ()) (lE rfl)) (by rfl : _ = 0)) (lE rfl)))) ?_
      refine db 6 0 <| dS 7 (fun γ ρ B hb hd => Zap lb (tl hd 5 8) (fun e v h => by subst h; rfl)) <| dS 8 (fun γ ρ B hb hd => Zaa (off := 0) lb Zb2 (tl hd 6 9)) <| dR 9 (fun γ ρ B hb hd => Zao.lk ⟨ρ, (zq32 gb11 gb13 Kind1 From2 To3 ID4 Topic5 Past6 Past7 Seen8 Hash9 Reply10) :: B, _⟩ (ZaJ (j := 0) lb tS87 (tl hd 7 10) rfl (Comp.trans (Comp.self (zq27 gb13) (zq31 Kind1 From2 To3 ID4 Topic5 Past6 Past7 Seen8 Hash9 Reply10)) (Comp.at' (Comp.inF (Comp.self (rW (PTR gb13 0)) ()) (lE rfl)) (by rfl : _ = 0)) (lE rfl)))) <| dR 10 (fun γ ρ B hb hd => Zao.at ⟨ρ, (cvar gb13 Zab x12) :: B, _⟩ (setO ⟨ρ, (cvar gb13 Zab x15) :: B, _⟩ _ _) ((Zak (js := [0]) ld cl53 (ZaD k (4 : Int) x12 gb13 (v14, x15) hv14) .func (.cons (tl hd 8 11) (.cons .cI .nil)) rfl).post (fun _ => Imp.refl))) ?_
      refine dS 11 (fun γ ρ B hb hd => Zcn lb tu24 tu3 (tl hd 9 12) hv16) <| dR 12 (fun γ ρ B hb hd => Zao.at ⟨ρ, (cvar gb13 Zab x15) :: B, _⟩ (setO ⟨ρ, (cvar gb13 Zab x18) :: B, _⟩ _ _) ((Zak (js := [0]) ld Znz (Zc4 k v16 x15 gb13 (v17, x18) hv17) .func (.cons (tl hd 4 7) (.cons (tl hd 10 13) .nil)) rfl).post (fun _ => Imp.refl))) <| dS 13 (fun γ ρ B hb hd => (Zak (js := []) ld Zpd (Zjn k v17 (v19, v20) hv19) .func (.cons (tl hd 11 14) .nil) rfl).post (fun _ => Imp.refl)) <| dm 14 12 15 <| dS 15 (fun γ ρ B hb hd => Zaw (i := 0) lb (tl hd 13 2) rfl) ?_
      refine dS 16 (fun γ ρ B hb hd => Zaw (i := 1) lb (tl hd 13 2) rfl) <| dS 17 (fun γ ρ B hb hd => Zap lb (tl hd 0 3) (fun e v h => by subst h; rfl)) <| dS 18 (fun γ ρ B hb hd => Zaa (off := 1) lb ZdL (tl hd 16 18)) <| dS 19 (fun γ ρ B hb hd => Zaa (off := 4) lb Zgi (tl hd 17 19)) <| dR 20 (fun γ ρ B hb hd => Zao.at ⟨ρ, (zq32 gb11 gb13 Kind1 From2 To3 ID4 Topic5 Past6 Past7 Seen8 Hash9 Reply10) :: B, _⟩ (setO ⟨ρ, (zq49 gb11 gb13 Kind1 From2 To3 v19 Past7 Seen8 Hash9 Reply10) :: B, _⟩ _ _) (ZaM (j := 0) tA32 (tl hd 18 20) (tl hd 14 16) rfl ((UpdR.snd (UpdR.fst (UpdR.snd (UpdR.snd (UpdR.snd (UpdR.snd (UpdR.fst (UpdR.self (by rfl))))))))).at (by change (1 + (1 + (1 + (1 + (1 + 0))))) = ((0 + 1) + 4); omega)) rfl)) ?_
      exact ZaF.nil)
     (by decide +kernel) (fun _ => rfl) (fun _ => rfl) (fun _ => rfl) rfl
     (ρ' := fun γ => [])
     (X' := fun γ => [cvar gb13 Zab x18, zq49 gb11 gb13 Kind1 From2 To3 v19 Past7 Seen8 Hash9 Reply10])
     (fun γ ρ hb hd => .nil) (fun _ => rfl) (fun γ => ?_)
 refine JQ.at ⟨[], [cvar gb13 Zab x18, zq49 gb11 gb13 Kind1 From2 To3 v19 Past7 Seen8 Hash9 Reply10], []⟩ ?_
 obtain rfl := so hm
 refine JQ.pre (Imp.var (j := 1) (q := (zq50 gb13)) (y := (zq51 Kind1 From2 To3 v19 Past7 Seen8 Hash9 Reply10)) rfl (Wk.pair Wk.refl (Wk.pair (Wk.st (Wk.pair Wk.refl (Wk.pair Wk.refl (Wk.pair Wk.refl (Wk.pair Wk.nil (Wk.pair Wk.refl (Wk.pair Wk.refl (Wk.pair Wk.refl (Wk.pair Wk.nil (Wk.pair Wk.nil (Wk.pair Wk.refl (Wk.pair Wk.nil (Wk.pair Wk.nil (Wk.pair Wk.refl Wk.refl)))))))))))))) Wk.refl))) ?_
 exact JQ.done (js := [1, 0]) (ss := []) () (.inr rfl) (.nil rfl) rfl .nil rfl rfl rfl

theorem ZfW (k : Nat) (Kind1 : Int) (From2 : Int) (To3 : Int) (ID4 : Zah) (Topic5 : (List UInt8)) (Past6 : (Vector UInt64 16)) (Past7 : (Vector UInt64 16)) (Seen8 : (Vector UInt64 16)) (Hash9 : (Vector UInt8 32)) (Reply10 : Bool) (x12 : Zag) (gb11 : Nat) (gb13 : Nat) (r : Zag × Zai) (hm : ZcD k Kind1 From2 To3 ID4 Topic5 Past6 Past7 Seen8 Hash9 Reply10 x12 = some r) : Sim Tryz.prog 97 [PTR gb11 0] [zq32 gb11 gb13 Kind1 From2 To3 ID4 Topic5 Past6 Past7 Seen8 Hash9 Reply10, cvar gb13 Zab x12] (γ := Unit) (fun q => [cvar gb11 (zq50 gb13) ((), (r.2, ())), cvar gb13 Zab r.1]) (fun q => .tup []) := by
 unfold ZcD at hm
 refine Sim.of Tryz.func97 rfl rfl (lE rfl) (fun e0 w0 => ?_)
 refine JC.at ⟨[(0, ov (PTR gb11 0))], [zq32 gb11 gb13 Kind1 From2 To3 ID4 Topic5 Past6 Past7 Seen8 Hash9 Reply10, cvar gb13 Zab x12], []⟩ <| JC.region <| jmv rfl rfl <| jmv rfl rfl <| jc (Zap lb tR (fun e v h => by subst h; rfl)) <| jc (Zaa (off := 0) lb Zb2 tR) <| jc (ZaJ (j := 0) lb tS87 tR rfl (Comp.trans (Comp.self (zq27 gb13) (zq31 Kind1 From2 To3 ID4 Topic5 Past6 Past7 Seen8 Hash9 Reply10)) (Comp.at' (Comp.inF (Comp.self (rW (PTR gb13 0)) ()) (lE rfl)) (by rfl : _ = 0)) (lE rfl))) ?_
 obtain ⟨⟨v14, x15⟩, hv14, hm⟩ := Zaz hm
 refine jx (Zak (js := [1]) ld Zmj (Zcg k x12 gb13 (v14, x15) hv14) .func (.cons tR .nil) rfl) fun _ => jc (Zap lb tR (fun e v h => by subst h; rfl)) <| jc (Zaa (off := 1) lb ZdL tR) <| jc (Zaa (off := 25) lb Zg3 tR) <| jc (ZaM (j := 1) tA29 tR tR rfl ((UpdR.snd (UpdR.fst (UpdR.snd (UpdR.snd (UpdR.snd (UpdR.snd (UpdR.snd (UpdR.fst (UpdR.self (by rfl)))))))))).at (by change (1 + (1 + (1 + (1 + (1 + (21 + 0)))))) = ((0 + 1) + 25); omega)) rfl) <| JL.sub ⟨[], [cvar gb13 Zab x15, zq32 gb11 gb13 Kind1 From2 To3 ID4 Topic5 Past6 v14 Seen8 Hash9 Reply10], []⟩ .nil rfl rfl <| JL.nil ?_
 obtain rfl := so hm
 refine JQ.pre (Imp.var (j := 1) (q := (zq50 gb13)) (y := (zq52 Kind1 From2 To3 ID4 Topic5 Past6 v14 Seen8 Hash9 Reply10)) rfl (Wk.pair Wk.refl (Wk.pair (Wk.st (Wk.pair Wk.refl (Wk.pair Wk.refl (Wk.pair Wk.refl (Wk.pair Wk.nil (Wk.pair (Wk.st (Wk.pair Wk.refl (Wk.pair Wk.refl (Wk.pair Wk.nil (Wk.pair Wk.refl (Wk.pair Wk.nil Wk.refl)))))) (Wk.pair Wk.refl (Wk.pair Wk.refl (Wk.pair Wk.nil (Wk.pair Wk.nil (Wk.pair Wk.refl (Wk.pair Wk.nil (Wk.pair Wk.nil (Wk.pair Wk.refl Wk.refl)))))))))))))) Wk.refl))) ?_
 exact JQ.done (js := [1, 0]) (ss := []) () (.inr rfl) (.nil rfl) rfl .nil rfl rfl rfl

theorem Zc3 (k : Nat) (n1 : Int) (r2 : Zag) (gb3 : Nat) (r : (List Zah) × Zag) (hm : frame_listapi_Dot k n1 r2 = some r) : Sim Tryz.prog 134 [PTR gb3 0, S (rI .i64) n1, BND 135 [PTR gb3 0]] [cvar gb3 Zab r2] (γ := Option Nat × Nat) (fun q => [cown q.1 Zae r.1 0 q.2, cvar gb3 Zab r.2]) (fun q => .one (.val (HDR q.1 0 (List.length r.1) q.2))) := by
 unfold frame_listapi_Dot at hm
 refine Sim.of Tryz.func134 rfl rfl (lE rfl) (fun e0 w0 => ?_)
 refine JC.at ⟨[(0, ov (PTR gb3 0)), (1, ov (S (rI .i64) n1)), (2, ov (BND 135 [PTR gb3 0]))], [cvar gb3 Zab r2], []⟩ <| jr <| jc (Zac lb HasO.nilH) <| jn <| jr <| jc (Zac lb HasO.nilH) <| jn <| bI hm fun tv1 hx1 hq1 => JC.seqK (α := (List Zah) × Zag) (γ := Option Nat × Nat) (stj := fun v q => ⟨[(7, ov (HDR q.1 0 (List.length v.1) q.2))], [cown q.1 Zae v.1 0 q.2, cvar gb3 Zab v.2], []⟩) (p := fun v => tv1 = (.inl v)) (fun v q hv => ?_) ?_
 · subst hv
   obtain ⟨l21, x22⟩ := v
   obtain ⟨go23, gc24⟩ := q
   dsimp only at hq1
   refine JC.at ⟨[(7, ov (HDR go23 0 (List.length l21) gc24))], [cown go23 Zae l21 0 gc24, cvar gb3 Zab x22], []⟩ <| jr <| jmv rfl rfl <| jc (Zac lb tR) <| jn <| JC.ret ?_
   obtain rfl := so hq1
   exact JQ.done (js := [0, 0]) (ss := [.val (HDR go23 0 (List.length l21) gc24)]) (go23, gc24) (.inl rfl) (.nil rfl) rfl (.cons (.tmp rfl) .nil) rfl rfl rfl
 refine jr <| jmv rfl rfl <| jc (ZaC lb .cI) <| jn <| JC.block <| bI hx1 fun tv2 hL2 hq2 => JC.pre (Imp.nilown Zae) <| JC.pre ?_ (JC.loop (γ := Option Nat × Nat) (stf := fun s q => ⟨[(0, ov (PTR gb3 0)), (2, ov (BND 135 [PTR gb3 0])), (7, ov (HDR q.1 0 (List.length s.2.1) q.2)), (8, ov (S (rI .i64) n1)), (9, ov (S (rI .i64) s.2.2))], [cvar gb3 Zab s.1, cown q.1 Zae s.2.1 0 q.2], []⟩) (q := (none, 0)) hL2 ?_)
 · exact (Imp.norm (js := [0, 0]) rfl (.cons rfl (.cons rfl (.cons rfl (.cons rfl (.cons rfl .nil))))))
 intro s q x hx hr
 obtain ⟨r4, l5, x6⟩ := s
 obtain ⟨go7, gc8⟩ := q
 change frame_listapi_Dot.b1 k n1 r4 l5 x6 = some x at hx
 unfold frame_listapi_Dot.b1 at hx
 refine JC.at ⟨[(0, ov (PTR gb3 0)), (2, ov (BND 135 [PTR gb3 0])), (7, ov (HDR go7 0 (List.length l5) gc8)), (8, ov (S (rI .i64) n1)), (9, ov (S (rI .i64) x6))], [cvar gb3 Zab r4, cown go7 Zae l5 0 gc8], []⟩ <| jr <| lI hx fun v9 hv9 hx => jc (Zar lb tR tR (cs hv9)) <| jn <| JC.seq <| jif tR hx (fun hc3 hx => ?_) (fun hc3 hx => ?_)
 · refine JC.skip <| JQ.then <| JC.seq <| JC.block <| JC.seq <| jr <| jmv rfl rfl <| bI hx fun v10 hv10 hx => jx (Zak (js := [0]) ld ZiI (Za1 k r4 gb3 v10 hv10) .func (.cons tR .nil) rfl) fun _ => jn <| jif tR hx (fun hc4 hx => ?_) (fun hc4 hx => ?_)
   · refine jr <| jc (Zac lb HasO.nilH) <| jn <| JC.ret <| JQ.outR <| JQ.outRB <| JQ.outR ?_
     try obtain rfl := so hx
     try obtain rfl := hr _ rfl
     dsimp only at hq2
     refine JQ.outR <| JQ.outRB ?_
     try obtain rfl := so hq2
     dsimp only at hq1
     refine JQ.outR ?_
     obtain rfl := so hq1
     exact JQ.pre (Imp.nilown Zae) <| JQ.done (js := [2, 0]) (ss := [.val (HDR none 0 (List.length ([] : (List Zah))) (0))]) (none, 0) (.inl rfl) (.nil rfl) rfl (.cons (.tmp rfl) .nil) rfl rfl rfl
   refine JC.skip <| JQ.then <| JC.region <| jmv rfl rfl <| jmv rfl rfl ?_
   obtain ⟨⟨v11, x12⟩, hv11, hx⟩ := Zaz hx
   refine jx (Zhy (js := [0]) ld Zll (ZcO k r4 gb3 (v11, x12) hv11) tR .nil rfl) fun _ => jc (Zce (r := Zae) lb tu33 tz26 tZ26 rfl (lE rfl) (.A tR .nil) rfl) <| bI hx fun l13 hv_l_13 hx => jx (Zbd (j := 1) lb tu33 tu33 rfl tB26 rfl (Nat.lt_of_lt_of_le Nat.zero_lt_one (lE rfl)) (Nat.lt_of_lt_of_le Nat.zero_lt_one (lE rfl))  rfl tR tR hv_l_13) (fun q => ?_)
   obtain ⟨go14, gc15⟩ := q
   refine JL.sub ⟨[(0, ov (PTR gb3 0)), (2, ov (BND 135 [PTR gb3 0])), (8, ov (S (rI .i64) n1)), (9, ov (S (rI .i64) x6)), (17, ov (HDR go14 0 (List.length l13) gc15))], [cvar gb3 Zab x12, cown go14 Zae l13 0 gc15], []⟩ (.cons rfl (.cons rfl (.cons rfl (.cons rfl (.cons rfl .nil))))) rfl rfl <| jc (Zac lb tR) <| JL.nil <| JQ.outNB <| JQ.then <| JC.region <| lI hx fun v16 hv16 hx => jc (ZaX lb tR .cI (cs hv16)) <| jmv rfl rfl <| JL.nil ?_
   try obtain rfl := so hx
   exact JQ.next (go14, gc15) rfl (Imp.norm (js := [0, 0]) rfl (.cons rfl (.cons rfl (.cons rfl (.cons rfl (.cons rfl .nil))))))
 refine JC.exit <| JQ.outX ?_
 try obtain rfl := so hx
 try obtain rfl := hr _ rfl
 dsimp only at hq2
 refine JQ.outX <| JQ.here ?_
 try obtain rfl := so hq2
 exact JQ.joinK (l5, r4) (go7, gc8) rfl (Imp.norm (js := [1, 0]) rfl (.cons rfl .nil))

theorem ZfJ (k : Nat) (Kind1 : Int) (From2 : Int) (To3 : Int) (ID4 : Zah) (Topic5 : (List UInt8)) (Past6 : (Vector UInt64 16)) (Past7 : (Vector UInt64 16)) (Seen8 : (Vector UInt64 16)) (Hash9 : (Vector UInt8 32)) (Reply10 : Bool) (x12 : Zag) (gb11 : Nat) (gb13 : Nat) (r : Zag × (Vector UInt64 16) × (List Zah)) (hm : ZcC k Kind1 From2 To3 ID4 Topic5 Past6 Past7 Seen8 Hash9 Reply10 x12 = some r) : Sim Tryz.prog 133 [PTR gb11 0] [zq32 gb11 gb13 Kind1 From2 To3 ID4 Topic5 Past6 Past7 Seen8 Hash9 Reply10, cvar gb13 Zab x12] (γ := Option Nat × Nat) (fun q => [cvar gb11 (rP (rW (PTR gb13 0)) (rP (rP (rI .i64) (rP (rI .i64) (rP (rI .i64) (rP (rW (HDR none 0 0 0)) (rP (rP Zae (rP rS (rP (rW (HDR none 0 0 0)) (rP (rV 16 (rU UInt64)) (rP (rW (HDR none 0 0 0)) r0))))) (rP (rV 16 (rU UInt64)) (rP (rV 16 (rU UInt64)) (rP (rW (HDR q.1 0 (List.length r.2.2) q.2)) (rP (rW (HDR none 0 0 0)) (rP (rV 32 (rU UInt8)) (rP (rW (HDR none 0 0 0)) (rP (rW (HDR none 0 0 0)) (rP rB r0))))))))))))) r0)) ((), ((Kind1, (From2, (To3, ((), ((ID4, (Topic5, ((), (Past6, ((), ()))))), (Past7, (r.2.1, ((), ((), (Hash9, ((), ((), (Reply10, ()))))))))))))), ())), cvar gb13 Zab r.1, cown q.1 Zae r.2.2 0 q.2]) (fun q => .tup []) := by
 unfold ZcC at hm
 refine Sim.of Tryz.func133 rfl rfl (lE rfl) (fun e0 w0 => ?_)
 refine JC.at ⟨[(0, ov (PTR gb11 0))], [zq32 gb11 gb13 Kind1 From2 To3 ID4 Topic5 Past6 Past7 Seen8 Hash9 Reply10, cvar gb13 Zab x12], []⟩ <| jr <| jmv rfl rfl <| jmv rfl rfl <| jc (Zap lb tR (fun e v h => by subst h; rfl)) <| jc (Zaa (off := 0) lb Zb2 tR) <| jc (ZaJ (j := 0) lb tS87 tR rfl (Comp.trans (Comp.self (zq27 gb13) (zq31 Kind1 From2 To3 ID4 Topic5 Past6 Past7 Seen8 Hash9 Reply10)) (Comp.at' (Comp.inF (Comp.self (rW (PTR gb13 0)) ()) (lE rfl)) (by rfl : _ = 0)) (lE rfl))) ?_
 obtain ⟨⟨v14, x15⟩, hv14, hm⟩ := Zaz hm
 refine jx (Zak (js := [1]) ld Zmj (Zcg k x12 gb13 (v14, x15) hv14) .func (.cons tR .nil) rfl) fun _ => jc (Zap lb tR (fun e v h => by subst h; rfl)) <| jc (Zaa (off := 1) lb ZdL tR) <| jc (Zaa (off := 41) lb Zfw tR) <| jc (ZaM (j := 1) tA29 tR tR rfl ((UpdR.snd (UpdR.fst (UpdR.snd (UpdR.snd (UpdR.snd (UpdR.snd (UpdR.snd (UpdR.snd (UpdR.fst (UpdR.self (by rfl))))))))))).at (by change (1 + (1 + (1 + (1 + (1 + (21 + (16 + 0))))))) = ((0 + 1) + 41); omega)) rfl) <| JL.sub ⟨[(0, ov (PTR gb11 0))], [cvar gb13 Zab x15, zq32 gb11 gb13 Kind1 From2 To3 ID4 Topic5 Past6 Past7 v14 Hash9 Reply10], []⟩ (.cons rfl .nil) rfl rfl <| jn <| jr <| jmv rfl rfl ?_
 obtain ⟨⟨v16, x17⟩, hv16, hm⟩ := Zaz hm
 refine jx (Zak (js := [1, 0]) ld Zla (ZdK k Kind1 From2 To3 ID4 Topic5 Past6 Past7 v14 Hash9 Reply10 x15 gb11 gb13 (v16, x17) hv16) .func (.cons tR .nil) rfl) fun _ => jc (Zac lb tR) <| jn ?_
 obtain ⟨⟨v18, x19⟩, hv18, hm⟩ := Zaz hm
 refine JC.anyF (base := [(0, ov (PTR gb11 0)), (2, ov (S (rI .i64) v16))])
     (fs := fun γ => [⟨some 14, ov (PTR gb11 0)⟩, ⟨some 15, ov (PTR gb11 0)⟩, ⟨some 16, ov (PTR gb11 0)⟩, ⟨some 17, ov (PTR gb11 (0 + 0))⟩, ⟨some 18, ov (PTR gb13 0)⟩, ⟨some 19, ov (S (rI .i64) v16)⟩, ⟨some 20, ov (PTR gb11 0)⟩, ⟨some 21, ov (PTR gb11 0)⟩, ⟨some 22, ov (PTR gb11 (0 + 0))⟩, ⟨some 23, ov (PTR gb13 0)⟩, ⟨some 24, ov (BND 135 [PTR gb13 0])⟩, ⟨some 25, ov (HDR (deo (γ 11 0)) 0 (List.length v18) (γ 11 1))⟩, ⟨some 26, ov (PTR gb11 0)⟩, ⟨some 27, ov (PTR gb11 (0 + 1))⟩, ⟨some 28, ov (PTR gb11 ((0 + 1) + 57))⟩, ⟨none, .one .any⟩])
     (rs := fun γ => [⟨zq32 gb11 gb13 Kind1 From2 To3 ID4 Topic5 Past6 Past7 v14 Hash9 Reply10, none, (some 15), [4, 9]⟩, ⟨cvar gb13 Zab x17, none, (some 11), []⟩, ⟨cown (deo (γ 11 0)) Zae v18 0 (γ 11 1), (some 11), none, []⟩, ⟨cvar gb13 Zab x19, (some 11), none, []⟩, ⟨zq54 gb11 gb13 (deo (γ 11 0)) v18 (γ 11 1) Kind1 From2 To3 ID4 Topic5 Past6 Past7 v14 Hash9 Reply10, (some 15), none, []⟩])
     (afts := [[], [], [], [], [], [], [], [], [], [], [], [11, 12, 13, 14, 15], [], [], [], []]) (js := [0, 0]) Zcj (.cons rfl (.cons rfl .nil)) (fun _ => rfl)
     (by
      refine db 1 0 <| db 2 0 <| dS 3 (fun γ ρ B hb hd => Zap lb (tl hd 1 15) (fun e v h => by subst h; rfl)) <| dS 4 (fun γ ρ B hb hd => Zaa (off := 0) lb Zb2 (tl hd 2 16)) <| dR 5 (fun γ ρ B hb hd => Zao.lk ⟨ρ, (zq32 gb11 gb13 Kind1 From2 To3 ID4 Topic5 Past6 Past7 v14 Hash9 Reply10) :: B, _⟩ (ZaJ (j := 0) lb tS87 (tl hd 3 17) rfl (Comp.trans (Comp.self (zq27 gb13) (zq31 Kind1 From2 To3 ID4 Topic5 Past6 Past7 v14 Hash9 Reply10)) (Comp.at' (Comp.inF (Comp.self (rW (PTR gb13 0)) ()) (lE rfl)) (by rfl : _ = 0)) (lE rfl)))) ?_
      refine db 6 2 <| db 7 0 <| dS 8 (fun γ ρ B hb hd => Zap lb (tl hd 6 20) (fun e v h => by subst h; rfl)) <| dS 9 (fun γ ρ B hb hd => Zaa (off := 0) lb Zb2 (tl hd 7 21)) <| dR 10 (fun γ ρ B hb hd => Zao.lk ⟨ρ, (zq32 gb11 gb13 Kind1 From2 To3 ID4 Topic5 Past6 Past7 v14 Hash9 Reply10) :: B, _⟩ (ZaJ (j := 0) lb tS87 (tl hd 8 22) rfl (Comp.trans (Comp.self (zq27 gb13) (zq31 Kind1 From2 To3 ID4 Topic5 Past6 Past7 v14 Hash9 Reply10)) (Comp.at' (Comp.inF (Comp.self (rW (PTR gb13 0)) ()) (lE rfl)) (by rfl : _ = 0)) (lE rfl)))) ?_
      refine dS 11 (fun γ ρ B hb hd => Zeh lb (.cons (tl hd 9 23) .nil)) ?_
      refine ZaF.cons (j := 12) rfl (fun _ => rfl) (.runX (fun _ _ => rfl) (fun γ ρ B hb hd => ⟨.none, OpX.ghost (γ := Option Nat × Nat) (st' := fun q => setO ⟨ρ, (cown q.1 Zae v18 0 q.2) :: (cvar gb13 Zab x19) :: B, _⟩ (some 25) (ov (HDR q.1 0 (List.length v18) q.2))) (fun q c => bif Nat.beq c 0 then eno q.1 else q.2) (Zak (js := [0]) ld Zm5 (Zc3 k v16 x17 gb13 (v18, x19) hv18) .func (.cons (tl hd 4 18) (.cons (tl hd 5 19) (.cons (tl hd 10 24) .nil))) rfl) (fun q => by obtain ⟨q0, q1⟩ := q; cases q0 <;> exact Imp.refl)⟩) (fun _ _ => rfl) (fun _ _ => rfl)) ?_
      refine dS 13 (fun γ ρ B hb hd => Zap lb (tl hd 0 14) (fun e v h => by subst h; rfl)) <| dS 14 (fun γ ρ B hb hd => Zaa (off := 1) lb ZdL (tl hd 12 26)) <| dS 15 (fun γ ρ B hb hd => Zaa (off := 57) lb Ze1 (tl hd 13 27)) <| dR 16 (fun γ ρ B hb hd => Zao.at ⟨ρ, (zq32 gb11 gb13 Kind1 From2 To3 ID4 Topic5 Past6 Past7 v14 Hash9 Reply10) :: B, _⟩ (setO ⟨ρ, (zq54 gb11 gb13 (deo (γ 11 0)) v18 (γ 11 1) Kind1 From2 To3 ID4 Topic5 Past6 Past7 v14 Hash9 Reply10) :: B, _⟩ _ _) (ZbN (j := 0) tS33 (tl hd 14 28) (tl hd 11 25) rfl ((UpdR.snd (UpdR.fst (UpdR.snd (UpdR.snd (UpdR.snd (UpdR.snd (UpdR.snd (UpdR.snd (UpdR.snd (UpdR.fst (UpdR.self (by rfl)))))))))))).at (by change (1 + (1 + (1 + (1 + (1 + (21 + (16 + (16 + 0)))))))) = ((0 + 1) + 57); omega)) rfl)) ?_
      exact ZaF.nil)
     (by decide +kernel) (fun _ => rfl) (fun _ => rfl) (fun _ => rfl) rfl
     (ρ' := fun γ => [])
     (X' := fun γ => [cown (deo (γ 11 0)) Zae v18 0 (γ 11 1), cvar gb13 Zab x19, zq54 gb11 gb13 (deo (γ 11 0)) v18 (γ 11 1) Kind1 From2 To3 ID4 Topic5 Past6 Past7 v14 Hash9 Reply10])
     (fun γ ρ hb hd => .nil) (fun _ => rfl) (fun γ => ?_)
 generalize (deo (γ 11 0)) = go20
 generalize (γ 11 1) = gc21
 clear γ
 refine JQ.at ⟨[], [cown go20 Zae v18 0 gc21, cvar gb13 Zab x19, zq54 gb11 gb13 go20 v18 gc21 Kind1 From2 To3 ID4 Topic5 Past6 Past7 v14 Hash9 Reply10], []⟩ ?_
 obtain rfl := so hm
 exact JQ.done (js := [2, 1, 0]) (ss := []) (go20, gc21) (.inr rfl) (.nil rfl) rfl .nil rfl rfl rfl

theorem Zfb (k : Nat) (Kind1 : Int) (From2 : Int) (To3 : Int) (ID4 : Zah) (Topic5 : (List UInt8)) (Past6 : (Vector UInt64 16)) (Past7 : (Vector UInt64 16)) (Seen8 : (Vector UInt64 16)) (Hash9 : (Vector UInt8 32)) (Reply10 : Bool) (x12 : Zag) (x14 : (List Zah)) (gb11 : Nat) (gb13 : Nat) (go15 : Option Nat) (gc16 : Nat) (r : Int × Zag) (hm : Zbx k Kind1 From2 To3 ID4 Topic5 Past6 Past7 Seen8 Hash9 Reply10 x12 x14 = some r) : Sim Tryz.prog 123 [PTR gb11 0] [zq54 gb11 gb13 go15 x14 gc16 Kind1 From2 To3 ID4 Topic5 Past6 Past7 Seen8 Hash9 Reply10, cvar gb13 Zab x12, cown go15 Zae x14 0 gc16] (γ := Unit) (fun q => [zq54 gb11 gb13 go15 x14 gc16 Kind1 From2 To3 ID4 Topic5 Past6 Past7 Seen8 Hash9 Reply10, cvar gb13 Zab r.2, cown go15 Zae x14 0 gc16]) (fun q => .one (.val (S (rI .i64) r.1))) := by
 unfold Zbx at hm
 refine Sim.of Tryz.func123 rfl rfl (lE rfl) (fun e0 w0 => ?_)
 refine JC.at ⟨[(0, ov (PTR gb11 0))], [zq54 gb11 gb13 go15 x14 gc16 Kind1 From2 To3 ID4 Topic5 Past6 Past7 Seen8 Hash9 Reply10, cvar gb13 Zab x12, cown go15 Zae x14 0 gc16], []⟩ <| jr <| jc (Zac lb .cI) <| jn <| jr <| jmv rfl rfl <| jc (Zap lb tR (fun e v h => by subst h; rfl)) <| jc (Zaa (off := 0) lb Zb2 tR) <| jc (ZaJ (j := 0) lb tS87 tR rfl (Comp.trans (Comp.self (zq53 gb13 go15 x14 gc16) (zq31 Kind1 From2 To3 ID4 Topic5 Past6 Past7 Seen8 Hash9 Reply10)) (Comp.at' (Comp.inF (Comp.self (rW (PTR gb13 0)) ()) (lE rfl)) (by rfl : _ = 0)) (lE rfl))) ?_
 obtain ⟨⟨v17, x18⟩, hv17, hm⟩ := Zaz hm
 refine jx (Zak (js := [1]) ld cl53 (ZaD k (2 : Int) x12 gb13 (v17, x18) hv17) .func (.cons tR (.cons .cI .nil)) rfl) fun _ => lI hm fun v19 hv19 hm => jc (Zcn lb tu24 tu3 tR hv19) <| jc (Zac lb tR) <| jn <| JC.ret ?_
 obtain rfl := so hm
 refine JQ.pre (Imp.var (j := 1) (q := (zq53 gb13 go15 x14 gc16)) (y := (zq31 Kind1 From2 To3 ID4 Topic5 Past6 Past7 Seen8 Hash9 Reply10)) rfl Wk.refl) ?_
 exact JQ.done (js := [1, 0, 0]) (ss := [.val (S (rI .i64) v19)]) () (.inl rfl) (.nil rfl) rfl (.cons (.tmp rfl) .nil) rfl rfl rfl

theorem ZfE (k : Nat) (Kind1 : Int) (From2 : Int) (To3 : Int) (ID4 : Zah) (Topic5 : (List UInt8)) (Past6 : (Vector UInt64 16)) (Past7 : (Vector UInt64 16)) (Seen8 : (Vector UInt64 16)) (Hash9 : (Vector UInt8 32)) (Reply10 : Bool) (x12 : Zag) (gb11 : Nat) (gb13 : Nat) (r : Zag × (Vector UInt64 16) × (List Zah) × (List Zah)) (hm : Zcv k Kind1 From2 To3 ID4 Topic5 Past6 Past7 Seen8 Hash9 Reply10 x12 = some r) : Sim Tryz.prog 99 [PTR gb11 0] [zq32 gb11 gb13 Kind1 From2 To3 ID4 Topic5 Past6 Past7 Seen8 Hash9 Reply10, cvar gb13 Zab x12] (γ := Option Nat × Nat × Option Nat × Nat) (fun q => [cvar gb11 (rP (rW (PTR gb13 0)) (rP (rP (rI .i64) (rP (rI .i64) (rP (rI .i64) (rP (rW (HDR none 0 0 0)) (rP (rP Zae (rP rS (rP (rW (HDR none 0 0 0)) (rP (rV 16 (rU UInt64)) (rP (rW (HDR none 0 0 0)) r0))))) (rP (rV 16 (rU UInt64)) (rP (rV 16 (rU UInt64)) (rP (rW (HDR q.1 0 (List.length r.2.2.1) q.2.1)) (rP (rW (HDR q.2.2.1 0 (List.length r.2.2.2) q.2.2.2)) (rP (rV 32 (rU UInt8)) (rP (rW (HDR none 0 0 0)) (rP (rW (HDR none 0 0 0)) (rP rB r0))))))))))))) r0)) ((), ((Kind1, (From2, (To3, ((), ((ID4, (Topic5, ((), (Past6, ((), ()))))), (Past7, (r.2.1, ((), ((), (Hash9, ((), ((), (Reply10, ()))))))))))))), ())), cvar gb13 Zab r.1, cown q.1 Zae r.2.2.1 0 q.2.1, cown q.2.2.1 Zae r.2.2.2 0 q.2.2.2]) (fun q => .tup []) := by
 unfold Zcv at hm
 refine Sim.of Tryz.func99 rfl rfl (lE rfl) (fun e0 w0 => ?_)
 refine JC.at ⟨[(0, ov (PTR gb11 0))], [zq32 gb11 gb13 Kind1 From2 To3 ID4 Topic5 Past6 Past7 Seen8 Hash9 Reply10, cvar gb13 Zab x12], []⟩ <| jr <| jmv rfl rfl ?_
 obtain ⟨⟨x14, x15, x16⟩, hv_x_14, hm⟩ := Zaz hm
 refine jx (Zak (js := [0, 0]) ld Zoy (ZfJ k Kind1 From2 To3 ID4 Topic5 Past6 Past7 Seen8 Hash9 Reply10 x12 gb11 gb13 (x14, x15, x16) hv_x_14) .func (.cons tR .nil) rfl) (fun q => ?_)
 obtain ⟨go17, gc18⟩ := q
 refine jn <| jr <| jmv rfl rfl ?_
 obtain ⟨⟨v19, x20⟩, hv19, hm⟩ := Zaz hm
 refine jx (Zak (js := [0, 0, 0]) ld Zla (Zfb k Kind1 From2 To3 ID4 Topic5 Past6 Past7 x15 Hash9 Reply10 x14 x16 gb11 gb13 go17 gc18 (v19, x20) hv19) .func (.cons tR .nil) rfl) fun _ => jc (Zac lb tR) <| jn ?_
 obtain ⟨⟨v21, x22⟩, hv21, hm⟩ := Zaz hm
 refine JC.anyF (base := [(0, ov (PTR gb11 0)), (2, ov (S (rI .i64) v19))])
     (fs := fun γ => [⟨some 7, ov (PTR gb11 0)⟩, ⟨some 8, ov (PTR gb11 0)⟩, ⟨some 9, ov (PTR gb11 0)⟩, ⟨some 10, ov (PTR gb11 (0 + 0))⟩, ⟨some 11, ov (PTR gb13 0)⟩, ⟨some 12, ov (S (rI .i64) v19)⟩, ⟨some 13, ov (PTR gb11 0)⟩, ⟨some 14, ov (PTR gb11 0)⟩, ⟨some 15, ov (PTR gb11 (0 + 0))⟩, ⟨some 16, ov (PTR gb13 0)⟩, ⟨some 17, ov (BND 135 [PTR gb13 0])⟩, ⟨some 18, ov (HDR (deo (γ 11 0)) 0 (List.length v21) (γ 11 1))⟩, ⟨some 19, ov (PTR gb11 0)⟩, ⟨some 20, ov (PTR gb11 (0 + 1))⟩, ⟨some 21, ov (PTR gb11 ((0 + 1) + 58))⟩, ⟨none, .one .any⟩])
     (rs := fun γ => [⟨zq54 gb11 gb13 go17 x16 gc18 Kind1 From2 To3 ID4 Topic5 Past6 Past7 x15 Hash9 Reply10, none, (some 15), [4, 9]⟩, ⟨cvar gb13 Zab x20, none, (some 11), []⟩, ⟨cown go17 Zae x16 0 gc18, none, none, []⟩, ⟨cown (deo (γ 11 0)) Zae v21 0 (γ 11 1), (some 11), none, []⟩, ⟨cvar gb13 Zab x22, (some 11), none, []⟩, ⟨zq56 gb11 gb13 go17 x16 gc18 (deo (γ 11 0)) v21 (γ 11 1) Kind1 From2 To3 ID4 Topic5 Past6 Past7 x15 Hash9 Reply10, (some 15), none, []⟩])
     (afts := [[], [], [], [], [], [], [], [], [], [], [], [11, 12, 13, 14, 15], [], [], [], []]) (js := [0, 0, 0]) Zcj (.cons rfl (.cons rfl .nil)) (fun _ => rfl)
     (by
      refine db 1 0 <| db 2 0 <| dS 3 (fun γ ρ B hb hd => Zap lb (tl hd 1 8) (fun e v h => by subst h; rfl)) <| dS 4 (fun γ ρ B hb hd => Zaa (off := 0) lb Zb2 (tl hd 2 9)) <| dR 5 (fun γ ρ B hb hd => Zao.lk ⟨ρ, (zq54 gb11 gb13 go17 x16 gc18 Kind1 From2 To3 ID4 Topic5 Past6 Past7 x15 Hash9 Reply10) :: B, _⟩ (ZaJ (j := 0) lb tS87 (tl hd 3 10) rfl (Comp.trans (Comp.self (zq53 gb13 go17 x16 gc18) (zq31 Kind1 From2 To3 ID4 Topic5 Past6 Past7 x15 Hash9 Reply10)) (Comp.at' (Comp.inF (Comp.self (rW (PTR gb13 0)) ()) (lE rfl)) (by rfl : _ = 0)) (lE rfl)))) ?_
      refine db 6 2 <| db 7 0 <| dS 8 (fun γ ρ B hb hd => Zap lb (tl hd 6 13) (fun e v h => by subst h; rfl)) <| dS 9 (fun γ ρ B hb hd => Zaa (off := 0) lb Zb2 (tl hd 7 14)) <| dR 10 (fun γ ρ B hb hd => Zao.lk ⟨ρ, (zq54 gb11 gb13 go17 x16 gc18 Kind1 From2 To3 ID4 Topic5 Past6 Past7 x15 Hash9 Reply10) :: B, _⟩ (ZaJ (j := 0) lb tS87 (tl hd 8 15) rfl (Comp.trans (Comp.self (zq53 gb13 go17 x16 gc18) (zq31 Kind1 From2 To3 ID4 Topic5 Past6 Past7 x15 Hash9 Reply10)) (Comp.at' (Comp.inF (Comp.self (rW (PTR gb13 0)) ()) (lE rfl)) (by rfl : _ = 0)) (lE rfl)))) ?_
      refine dS 11 (fun γ ρ B hb hd => Zeh lb (.cons (tl hd 9 16) .nil)) ?_
      refine ZaF.cons (j := 12) rfl (fun _ => rfl) (.runX (fun _ _ => rfl) (fun γ ρ B hb hd => ⟨.none, OpX.ghost (γ := Option Nat × Nat) (st' := fun q => setO ⟨ρ, (cown q.1 Zae v21 0 q.2) :: (cvar gb13 Zab x22) :: B, _⟩ (some 18) (ov (HDR q.1 0 (List.length v21) q.2))) (fun q c => bif Nat.beq c 0 then eno q.1 else q.2) (Zak (js := [0]) ld Zm5 (Zc3 k v19 x20 gb13 (v21, x22) hv21) .func (.cons (tl hd 4 11) (.cons (tl hd 5 12) (.cons (tl hd 10 17) .nil))) rfl) (fun q => by obtain ⟨q0, q1⟩ := q; cases q0 <;> exact Imp.refl)⟩) (fun _ _ => rfl) (fun _ _ => rfl)) ?_
      refine dS 13 (fun γ ρ B hb hd => Zap lb (tl hd 0 7) (fun e v h => by subst h; rfl)) <| dS 14 (fun γ ρ B hb hd => Zaa (off := 1) lb ZdL (tl hd 12 19)) <| dS 15 (fun γ ρ B hb hd => Zaa (off := 58) lb Zfr (tl hd 13 20)) <| dR 16 (fun γ ρ B hb hd => Zao.at ⟨ρ, (zq54 gb11 gb13 go17 x16 gc18 Kind1 From2 To3 ID4 Topic5 Past6 Past7 x15 Hash9 Reply10) :: B, _⟩ (setO ⟨ρ, (zq56 gb11 gb13 go17 x16 gc18 (deo (γ 11 0)) v21 (γ 11 1) Kind1 From2 To3 ID4 Topic5 Past6 Past7 x15 Hash9 Reply10) :: B, _⟩ _ _) (ZbN (j := 0) tS33 (tl hd 14 21) (tl hd 11 18) rfl ((UpdR.snd (UpdR.fst (UpdR.snd (UpdR.snd (UpdR.snd (UpdR.snd (UpdR.snd (UpdR.snd (UpdR.snd (UpdR.snd (UpdR.fst (UpdR.self (by rfl))))))))))))).at (by change (1 + (1 + (1 + (1 + (1 + (21 + (16 + (16 + (1 + 0))))))))) = ((0 + 1) + 58); omega)) rfl)) ?_
      exact ZaF.nil)
     (by decide +kernel) (fun _ => rfl) (fun _ => rfl) (fun _ => rfl) rfl
     (ρ' := fun γ => [])
     (X' := fun γ => [cown go17 Zae x16 0 gc18, cown (deo (γ 11 0)) Zae v21 0 (γ 11 1), cvar gb13 Zab x22, zq56 gb11 gb13 go17 x16 gc18 (deo (γ 11 0)) v21 (γ 11 1) Kind1 From2 To3 ID4 Topic5 Past6 Past7 x15 Hash9 Reply10])
     (fun γ ρ hb hd => .nil) (fun _ => rfl) (fun γ => ?_)
 generalize (deo (γ 11 0)) = go23
 generalize (γ 11 1) = gc24
 clear γ
 refine JQ.at ⟨[], [cown go17 Zae x16 0 gc18, cown go23 Zae v21 0 gc24, cvar gb13 Zab x22, zq56 gb11 gb13 go17 x16 gc18 go23 v21 gc24 Kind1 From2 To3 ID4 Topic5 Past6 Past7 x15 Hash9 Reply10], []⟩ ?_
 obtain rfl := so hm
 exact JQ.done (js := [3, 2, 0, 0]) (ss := []) (go17, gc18, go23, gc24) (.inr rfl) (.nil rfl) rfl .nil rfl rfl rfl

theorem Zd2 (k : Nat) (Kind1 : Int) (From2 : Int) (To3 : Int) (ID4 : Zah) (Topic5 : (List UInt8)) (Past6 : (Vector UInt64 16)) (Past7 : (Vector UInt64 16)) (Seen8 : (Vector UInt64 16)) (Hash9 : (Vector UInt8 32)) (Reply10 : Bool) (x12 : Zag) (gb11 : Nat) (gb13 : Nat) (r : (Vector UInt8 32) × Zag) (hm : ZbH k Kind1 From2 To3 ID4 Topic5 Past6 Past7 Seen8 Hash9 Reply10 x12 = some r) : Sim Tryz.prog 136 [PTR gb11 0] [zq32 gb11 gb13 Kind1 From2 To3 ID4 Topic5 Past6 Past7 Seen8 Hash9 Reply10, cvar gb13 Zab x12] (γ := Unit) (fun q => [zq32 gb11 gb13 Kind1 From2 To3 ID4 Topic5 Past6 Past7 Seen8 Hash9 Reply10, cvar gb13 Zab r.2]) (fun q => .one (.val (A (rV 32 (rU UInt8)) r.1))) := by
 unfold ZbH at hm
 refine Sim.of Tryz.func136 rfl rfl (lE rfl) (fun e0 w0 => ?_)
 refine JC.at ⟨[(0, ov (PTR gb11 0))], [zq32 gb11 gb13 Kind1 From2 To3 ID4 Topic5 Past6 Past7 Seen8 Hash9 Reply10, cvar gb13 Zab x12], []⟩ <| jr <| jx (Za8 lb tZ35 zr35) fun gb14 => jn <| JC.seq ?_
 obtain ⟨⟨v15, x16⟩, hv15, hm⟩ := Zaz hm
 obtain ⟨h17, hv_h_17, hm⟩ := ZaT hm
 refine JC.anyF (base := [(0, ov (PTR gb11 0)), (2, ov (PTR gb14 0))])
     (fs := fun γ => [⟨some 3, ov (HDR (some gb14) (0 + 0 * 1) (32 - 0) (32 - 0))⟩, ⟨some 4, ov (PTR gb11 0)⟩, ⟨some 5, ov (PTR gb11 0)⟩, ⟨some 6, ov (PTR gb11 (0 + 0))⟩, ⟨some 7, ov (PTR gb13 0)⟩, ⟨some 8, ov (S (rL (rU UInt8)) v15)⟩, ⟨some 9, ov (S (rI .i64) (min (List.length v15 : Int) ((32 - 0 : Nat) : Int)))⟩])
     (rs := fun γ => [⟨zq32 gb11 gb13 Kind1 From2 To3 ID4 Topic5 Past6 Past7 Seen8 Hash9 Reply10, none, none, [4]⟩, ⟨cvar gb13 Zab x12, none, (some 5), []⟩, ⟨cvar gb14 (rV 32 (rU UInt8)) (Vector.replicate 32 (0 : UInt8)), none, (some 6), []⟩, ⟨cvar gb13 Zab x16, (some 5), none, []⟩, ⟨cvar gb14 (rV 32 (rU UInt8)) h17, (some 6), none, []⟩])
     (afts := nn 7) (js := [0, 0, 0]) Zcj (.cons rfl (.cons rfl .nil)) (fun _ => rfl)
     (by
      refine dS 1 (fun γ ρ B hb hd => ZkE (l := 0) (h := 32) lb tu35 tz5 (.tmp (hb 2 _ rfl)) .none .none (lE rfl) (lE rfl) (ltB rfl)) <| db 2 0 <| dS 3 (fun γ ρ B hb hd => Zap lb (tl hd 1 4) (fun e v h => by subst h; rfl)) <| dS 4 (fun γ ρ B hb hd => Zaa (off := 0) lb Zb2 (tl hd 2 5)) <| dR 5 (fun γ ρ B hb hd => Zao.lk ⟨ρ, (zq32 gb11 gb13 Kind1 From2 To3 ID4 Topic5 Past6 Past7 Seen8 Hash9 Reply10) :: B, _⟩ (ZaJ (j := 0) lb tS87 (tl hd 3 6) rfl (Comp.trans (Comp.self (zq27 gb13) (zq31 Kind1 From2 To3 ID4 Topic5 Past6 Past7 Seen8 Hash9 Reply10)) (Comp.at' (Comp.inF (Comp.self (rW (PTR gb13 0)) ()) (lE rfl)) (by rfl : _ = 0)) (lE rfl)))) ?_
      refine dR 6 (fun γ ρ B hb hd => Zao.at ⟨ρ, (cvar gb13 Zab x12) :: B, _⟩ (setO ⟨ρ, (cvar gb13 Zab x16) :: B, _⟩ _ _) ((Zak (js := [0]) ld Znz (Zc4 k (32 : Int) x12 gb13 (v15, x16) hv15) .func (.cons (tl hd 4 7) (.cons .cI .nil)) rfl).post (fun _ => Imp.refl))) <| dR 7 (fun γ ρ B hb hd => Zao.at ⟨ρ, (cvar gb14 (rV 32 (rU UInt8)) (Vector.replicate 32 (0 : UInt8))) :: B, _⟩ (setO ⟨ρ, (cvar gb14 (rV 32 (rU UInt8)) h17) :: B, _⟩ _ _) (ZlQ (j := 0) ld tu27 tz5 (tl hd 0 3) rfl (Comp.self (rV 32 (rU UInt8)) (Vector.replicate 32 (0 : UInt8))) (UpdR.self (by rfl)) (fun e a w => SrcN.list (tl hd 5 8)) (lE rfl) hv_h_17 rfl rfl)) ?_
      exact ZaF.nil)
     (by decide +kernel) (fun _ => rfl) (fun _ => rfl) (fun _ => rfl) rfl
     (ρ' := fun γ => [(2, ov (PTR gb14 0))])
     (X' := fun γ => [zq32 gb11 gb13 Kind1 From2 To3 ID4 Topic5 Past6 Past7 Seen8 Hash9 Reply10, cvar gb13 Zab x16, cvar gb14 (rV 32 (rU UInt8)) h17])
     (fun γ ρ hb hd => (.cons (hb 2 _ rfl) .nil)) (fun _ => rfl) (fun γ => ?_)
 refine JQ.at ⟨[(2, ov (PTR gb14 0))], [zq32 gb11 gb13 Kind1 From2 To3 ID4 Topic5 Past6 Past7 Seen8 Hash9 Reply10, cvar gb13 Zab x16, cvar gb14 (rV 32 (rU UInt8)) h17], []⟩ <| JQ.then <| jr <| jc (ZaB (j := 2) lb tA35 tR rfl (Comp.self (rV 32 (rU UInt8)) h17) rfl) <| jc (ZaM (j := 2) tA35 tR tR rfl (UpdR.self (by rfl)) rfl) <| jn <| JC.ret ?_
 obtain rfl := so hm
 exact JQ.done (js := [0, 0]) (ss := [.val (A (rV 32 (rU UInt8)) h17)]) () (.inl rfl) (.nil rfl) rfl (.cons (.cellA (j := 2) tA35 rfl rfl) .nil) rfl rfl rfl

theorem ZfK (k : Nat) (Kind1 : Int) (From2 : Int) (To3 : Int) (ID4 : Zah) (Topic5 : (List UInt8)) (Past6 : (Vector UInt64 16)) (Past7 : (Vector UInt64 16)) (Seen8 : (Vector UInt64 16)) (Hash9 : (Vector UInt8 32)) (Reply10 : Bool) (x12 : Zag) (gb11 : Nat) (gb13 : Nat) (r : Zag × Zai) (hm : ZcG k Kind1 From2 To3 ID4 Topic5 Past6 Past7 Seen8 Hash9 Reply10 x12 = some r) : Sim Tryz.prog 101 [PTR gb11 0] [zq32 gb11 gb13 Kind1 From2 To3 ID4 Topic5 Past6 Past7 Seen8 Hash9 Reply10, cvar gb13 Zab x12] (γ := Unit) (fun q => [cvar gb11 (zq50 gb13) ((), (r.2, ())), cvar gb13 Zab r.1]) (fun q => .tup []) := by
 unfold ZcG at hm
 refine Sim.of Tryz.func101 rfl rfl (lE rfl) (fun e0 w0 => ?_)
 refine JC.at ⟨[(0, ov (PTR gb11 0))], [zq32 gb11 gb13 Kind1 From2 To3 ID4 Topic5 Past6 Past7 Seen8 Hash9 Reply10, cvar gb13 Zab x12], []⟩ <| JC.region <| jmv rfl rfl <| jmv rfl rfl ?_
 obtain ⟨⟨v14, x15⟩, hv14, hm⟩ := Zaz hm
 refine jx (Zak (js := [0, 0]) ld ZnX (Zd2 k Kind1 From2 To3 ID4 Topic5 Past6 Past7 Seen8 Hash9 Reply10 x12 gb11 gb13 (v14, x15) hv14) .func (.cons tR .nil) rfl) fun _ => jc (Zap lb tR (fun e v h => by subst h; rfl)) <| jc (Zaa (off := 1) lb ZdL tR) <| jc (Zaa (off := 59) lb Zhn tR) <| jc (ZaM (j := 0) tA35 tR tR rfl ((UpdR.snd (UpdR.fst (UpdR.snd (UpdR.snd (UpdR.snd (UpdR.snd (UpdR.snd (UpdR.snd (UpdR.snd (UpdR.snd (UpdR.snd (UpdR.fst (UpdR.self (by rfl)))))))))))))).at (by change (1 + (1 + (1 + (1 + (1 + (21 + (16 + (16 + (1 + (1 + 0)))))))))) = ((0 + 1) + 59); omega)) rfl) <| JL.nil ?_
 obtain rfl := so hm
 refine JQ.pre (Imp.var (j := 0) (q := (zq50 gb13)) (y := (zq52 Kind1 From2 To3 ID4 Topic5 Past6 Past7 Seen8 v14 Reply10)) rfl (Wk.pair Wk.refl (Wk.pair (Wk.st (Wk.pair Wk.refl (Wk.pair Wk.refl (Wk.pair Wk.refl (Wk.pair Wk.nil (Wk.pair (Wk.st (Wk.pair Wk.refl (Wk.pair Wk.refl (Wk.pair Wk.nil (Wk.pair Wk.refl (Wk.pair Wk.nil Wk.refl)))))) (Wk.pair Wk.refl (Wk.pair Wk.refl (Wk.pair Wk.nil (Wk.pair Wk.nil (Wk.pair Wk.refl (Wk.pair Wk.nil (Wk.pair Wk.nil (Wk.pair Wk.refl Wk.refl)))))))))))))) Wk.refl))) ?_
 exact JQ.done (js := [0, 0]) (ss := []) () (.inr rfl) (.nil rfl) rfl .nil rfl rfl rfl

theorem ZfA (k : Nat) (n1 : Int) (r2 : Zag) (Kind4 : Int) (From5 : Int) (To6 : Int) (ID7 : Zah) (Topic8 : (List UInt8)) (Past9 : (Vector UInt64 16)) (Past10 : (Vector UInt64 16)) (Seen11 : (Vector UInt64 16)) (Hash12 : (Vector UInt8 32)) (Reply13 : Bool) (gb3 : Nat) (gb14 : Nat) (r : (List (Vector UInt8 32)) × Zag) (hm : frame_listapi_Hash k n1 r2 Kind4 From5 To6 ID7 Topic8 Past9 Past10 Seen11 Hash12 Reply13 = some r) : Sim Tryz.prog 137 [PTR gb3 0, S (rI .i64) n1, BND 136 [PTR gb14 0]] [cvar gb3 Zab r2, zq32 gb14 gb3 Kind4 From5 To6 ID7 Topic8 Past9 Past10 Seen11 Hash12 Reply13] (γ := Option Nat × Nat) (fun q => [cown q.1 (rV 32 (rU UInt8)) r.1 0 q.2, cvar gb3 Zab r.2, zq32 gb14 gb3 Kind4 From5 To6 ID7 Topic8 Past9 Past10 Seen11 Hash12 Reply13]) (fun q => .one (.val (HDR q.1 0 (List.length r.1) q.2))) := by
 unfold frame_listapi_Hash at hm
 refine Sim.of Tryz.func137 rfl rfl (lE rfl) (fun e0 w0 => ?_)
 refine JC.at ⟨[(0, ov (PTR gb3 0)), (1, ov (S (rI .i64) n1)), (2, ov (BND 136 [PTR gb14 0]))], [cvar gb3 Zab r2, zq32 gb14 gb3 Kind4 From5 To6 ID7 Topic8 Past9 Past10 Seen11 Hash12 Reply13], []⟩ <| jr <| jc (Zac lb HasO.nilH) <| jn <| jr <| jc (Zac lb HasO.nilH) <| jn <| bI hm fun tv1 hx1 hq1 => JC.seqK (α := (List (Vector UInt8 32)) × Zag) (γ := Option Nat × Nat) (stj := fun v q => ⟨[(7, ov (HDR q.1 0 (List.length v.1) q.2))], [cown q.1 (rV 32 (rU UInt8)) v.1 0 q.2, cvar gb3 Zab v.2, zq32 gb14 gb3 Kind4 From5 To6 ID7 Topic8 Past9 Past10 Seen11 Hash12 Reply13], []⟩) (p := fun v => tv1 = (.inl v)) (fun v q hv => ?_) ?_
 · subst hv
   obtain ⟨l32, x33⟩ := v
   obtain ⟨go34, gc35⟩ := q
   dsimp only at hq1
   refine JC.at ⟨[(7, ov (HDR go34 0 (List.length l32) gc35))], [cown go34 (rV 32 (rU UInt8)) l32 0 gc35, cvar gb3 Zab x33, zq32 gb14 gb3 Kind4 From5 To6 ID7 Topic8 Past9 Past10 Seen11 Hash12 Reply13], []⟩ <| jr <| jmv rfl rfl <| jc (Zac lb tR) <| jn <| JC.ret ?_
   obtain rfl := so hq1
   exact JQ.done (js := [0, 0, 0]) (ss := [.val (HDR go34 0 (List.length l32) gc35)]) (go34, gc35) (.inl rfl) (.nil rfl) rfl (.cons (.tmp rfl) .nil) rfl rfl rfl
 refine jr <| jmv rfl rfl <| jc (ZaC lb .cI) <| jn <| JC.block <| bI hx1 fun tv2 hL2 hq2 => JC.pre (Imp.nilown (rV 32 (rU UInt8))) <| JC.pre ?_ (JC.loop (γ := Option Nat × Nat) (stf := fun s q => ⟨[(0, ov (PTR gb3 0)), (2, ov (BND 136 [PTR gb14 0])), (7, ov (HDR q.1 0 (List.length s.2.1) q.2)), (8, ov (S (rI .i64) n1)), (9, ov (S (rI .i64) s.2.2))], [cvar gb3 Zab s.1, zq32 gb14 gb3 Kind4 From5 To6 ID7 Topic8 Past9 Past10 Seen11 Hash12 Reply13, cown q.1 (rV 32 (rU UInt8)) s.2.1 0 q.2], []⟩) (q := (none, 0)) hL2 ?_)
 · exact (Imp.norm (js := [0, 0, 0]) rfl (.cons rfl (.cons rfl (.cons rfl (.cons rfl (.cons rfl .nil))))))
 intro s q x hx hr
 obtain ⟨r15, l16, x17⟩ := s
 obtain ⟨go18, gc19⟩ := q
 change frame_listapi_Hash.b1 k n1 Kind4 From5 To6 ID7 Topic8 Past9 Past10 Seen11 Hash12 Reply13 r15 l16 x17 = some x at hx
 unfold frame_listapi_Hash.b1 at hx
 refine JC.at ⟨[(0, ov (PTR gb3 0)), (2, ov (BND 136 [PTR gb14 0])), (7, ov (HDR go18 0 (List.length l16) gc19)), (8, ov (S (rI .i64) n1)), (9, ov (S (rI .i64) x17))], [cvar gb3 Zab r15, zq32 gb14 gb3 Kind4 From5 To6 ID7 Topic8 Past9 Past10 Seen11 Hash12 Reply13, cown go18 (rV 32 (rU UInt8)) l16 0 gc19], []⟩ <| jr <| lI hx fun v20 hv20 hx => jc (Zar lb tR tR (cs hv20)) <| jn <| JC.seq <| jif tR hx (fun hc3 hx => ?_) (fun hc3 hx => ?_)
 · refine JC.skip <| JQ.then <| JC.seq <| JC.block <| JC.seq <| jr <| jmv rfl rfl <| bI hx fun v21 hv21 hx => jx (Zak (js := [0]) ld ZiI (Za1 k r15 gb3 v21 hv21) .func (.cons tR .nil) rfl) fun _ => jn <| jif tR hx (fun hc4 hx => ?_) (fun hc4 hx => ?_)
   · refine jr <| jc (Zac lb HasO.nilH) <| jn <| JC.ret <| JQ.outR <| JQ.outRB <| JQ.outR ?_
     try obtain rfl := so hx
     try obtain rfl := hr _ rfl
     dsimp only at hq2
     refine JQ.outR <| JQ.outRB ?_
     try obtain rfl := so hq2
     dsimp only at hq1
     refine JQ.outR ?_
     obtain rfl := so hq1
     exact JQ.pre (Imp.nilown (rV 32 (rU UInt8))) <| JQ.done (js := [3, 0, 0]) (ss := [.val (HDR none 0 (List.length ([] : (List (Vector UInt8 32)))) (0))]) (none, 0) (.inl rfl) (.nil rfl) rfl (.cons (.tmp rfl) .nil) rfl rfl rfl
   refine JC.skip <| JQ.then <| JC.region <| jmv rfl rfl <| jmv rfl rfl ?_
   obtain ⟨⟨v22, x23⟩, hv22, hx⟩ := Zaz hx
   refine jx (Zhy (js := [1, 0]) ld ZnX (Zd2 k Kind4 From5 To6 ID7 Topic8 Past9 Past10 Seen11 Hash12 Reply13 r15 gb14 gb3 (v22, x23) hv22) tR .nil rfl) fun _ => jc (Zce (r := (rV 32 (rU UInt8))) lb tu36 tz35 tZ35 rfl (lE rfl) (.A tR .nil) rfl) <| bI hx fun l24 hv_l_24 hx => jx (Zbd (j := 2) lb tu36 tu36 rfl tB35 rfl (Nat.lt_of_lt_of_le Nat.zero_lt_one (lE rfl)) (Nat.lt_of_lt_of_le Nat.zero_lt_one (lE rfl))  rfl tR tR hv_l_24) (fun q => ?_)
   obtain ⟨go25, gc26⟩ := q
   refine JL.sub ⟨[(0, ov (PTR gb3 0)), (2, ov (BND 136 [PTR gb14 0])), (8, ov (S (rI .i64) n1)), (9, ov (S (rI .i64) x17)), (17, ov (HDR go25 0 (List.length l24) gc26))], [zq32 gb14 gb3 Kind4 From5 To6 ID7 Topic8 Past9 Past10 Seen11 Hash12 Reply13, cvar gb3 Zab x23, cown go25 (rV 32 (rU UInt8)) l24 0 gc26], []⟩ (.cons rfl (.cons rfl (.cons rfl (.cons rfl (.cons rfl .nil))))) rfl rfl <| jc (Zac lb tR) <| JL.nil <| JQ.outNB <| JQ.then <| JC.region <| lI hx fun v27 hv27 hx => jc (ZaX lb tR .cI (cs hv27)) <| jmv rfl rfl <| JL.nil ?_
   try obtain rfl := so hx
   exact JQ.next (go25, gc26) rfl (Imp.norm (js := [1, 0, 0]) rfl (.cons rfl (.cons rfl (.cons rfl (.cons rfl (.cons rfl .nil))))))
 refine JC.exit <| JQ.outX ?_
 try obtain rfl := so hx
 try obtain rfl := hr _ rfl
 dsimp only at hq2
 refine JQ.outX <| JQ.here ?_
 try obtain rfl := so hq2
 exact JQ.joinK (l16, r15) (go18, gc19) rfl (Imp.norm (js := [2, 0, 0]) rfl (.cons rfl .nil))

end Go.Proofs.YtklnihlchhhhlaaGreat
