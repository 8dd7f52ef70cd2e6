/- Walks. -/
import Derived.Test.YtklnihlchhhhlaaGreatT
import Derived.Test.YtklnihlchhhhlaaGreatW2
import Derived.Test.YtklnihlchhhhlaaGreatW3
import Derived.Test.YtklnihlchhhhlaaGreatW5
import Derived.Test.YtklnihlchhhhlaaGreatW6
namespace Go.Proofs.YtklnihlchhhhlaaGreat
open Go Fw
set_option linter.unusedVariables false
set_option maxRecDepth 100000
set_option maxHeartbeats 4000000

theorem Zfy (k : Nat) (Kind_1 : Int) (From_2 : Int) (To_3 : Int) (ID_4 : Zaf) (Topic_5 : (List UInt8)) (Past_6 : (Vector UInt64 16)) (Past_7 : (Vector UInt64 16)) (Seen_8 : (Vector UInt64 16)) (Hash_9 : (Vector UInt8 32)) (Reply_10 : Bool) (x_12 : Zag) (gb_11 : Nat) (gb_13 : Nat) (r : Zag × (List Zap)) (hm : ZdD k Kind_1 From_2 To_3 ID_4 Topic_5 Past_6 Past_7 Seen_8 Hash_9 Reply_10 x_12 = some r) : Sim Tryz.prog 93 [PTR gb_11 0] [zq34 gb_11 gb_13 Kind_1 From_2 To_3 ID_4 Topic_5 Past_6 Past_7 Seen_8 Hash_9 Reply_10, cvar gb_13 Zac x_12] (γ := Option Nat × Nat) (fun q => [cvar gb_11 (rP (rW (PTR gb_13 0)) (rP (rP (rI .i64) (rP (rI .i64) (rP (rI .i64) (rP (rW (HDR q.1 0 (List.length r.2) q.2)) (rP (rP Zad (rP rS (rP (rW (HDR none 0 0 0)) (rP (rV 16 (rU UInt64)) (rP (rW (HDR none 0 0 0)) r0))))) (rP (rV 16 (rU UInt64)) (rP (rV 16 (rU UInt64)) (rP (rW (HDR none 0 0 0)) (rP (rW (HDR none 0 0 0)) (rP (rV 32 (rU UInt8)) (rP (rW (HDR none 0 0 0)) (rP (rW (HDR none 0 0 0)) (rP rB r0))))))))))))) r0)) (zq33 Kind_1 From_2 To_3 ID_4 Topic_5 Past_6 Past_7 Seen_8 Hash_9 Reply_10), cvar gb_13 Zac r.1, cown q.1 Zaj r.2 0 q.2]) (fun q => .tup []) := by
 unfold ZdD at hm
 refine Sim.of Tryz.func93 rfl rfl (lE rfl) (fun e0 w0 => ?_)
 refine JC.at ⟨[(0, ov (PTR gb_11 0))], [zq34 gb_11 gb_13 Kind_1 From_2 To_3 ID_4 Topic_5 Past_6 Past_7 Seen_8 Hash_9 Reply_10, cvar gb_13 Zac x_12], []⟩ <| jr <| jmv rfl rfl ?_
 obtain ⟨⟨v14, x_15⟩, hv_14, hm⟩ := Zay hm
 refine jx (Zak (js := [0, 0]) ld Zk4 (ZdG k Kind_1 From_2 To_3 ID_4 Topic_5 Past_6 Past_7 Seen_8 Hash_9 Reply_10 x_12 gb_11 gb_13 (v14, x_15) hv_14) .func (.cons tR .nil) rfl) fun _ => jc (Zab lb tR) <| jn <| JC.region <| jmv rfl rfl <| jmv rfl rfl <| jc (Zas lb tR (fun e v h => by subst h; rfl)) <| jc (Zaa (off := 0) lb ZbO tR) <| jc (ZaM (j := 0) lb tS87 tR rfl (Comp.trans (Comp.self (zq29 gb_13) (zq33 Kind_1 From_2 To_3 ID_4 Topic_5 Past_6 Past_7 Seen_8 Hash_9 Reply_10)) (Comp.at' (Comp.inF (Comp.self (rW (PTR gb_13 0)) ()) (lE rfl)) (by rfl : _ = 0)) (lE rfl))) <| jmv rfl rfl <| jmv rfl rfl <| JL.sub ⟨[(5, ov (PTR gb_11 0)), (9, ov (PTR gb_13 0)), (10, ov (S (rI .i64) v14)), (11, ov (PTR gb_11 0))], [zq34 gb_11 gb_13 Kind_1 From_2 To_3 ID_4 Topic_5 Past_6 Past_7 Seen_8 Hash_9 Reply_10, cvar gb_13 Zac x_15], []⟩ (.cons rfl (.cons rfl (.cons rfl (.cons rfl .nil)))) rfl rfl <| jc (Zeg lb (.cons tR .nil)) ?_
 obtain ⟨⟨v16, x_17⟩, hv_16, hm⟩ := Zay hm
 refine jx (Zak (js := [1, 0]) ld Znq (ZfG k v14 x_15 Kind_1 From_2 To_3 ID_4 Topic_5 Past_6 Past_7 Seen_8 Hash_9 Reply_10 gb_13 gb_11 (v16, x_17) hv_16) .func (.cons tR (.cons tR (.cons tR .nil))) rfl) (fun q => ?_)
 obtain ⟨go_18, gc_19⟩ := q
 refine jc (Zas lb tR (fun e v h => by subst h; rfl)) <| jc (Zaa (off := 1) lb ZdF tR) <| jc (Zaa (off := 3) lb ZcK tR) <| jc (ZbD (j := 2) tS23 tR tR rfl ((UpdR.snd (UpdR.fst (UpdR.snd (UpdR.snd (UpdR.snd (UpdR.fst (UpdR.self (by rfl)))))))).at (by change (1 + (1 + (1 + (1 + 0)))) = ((0 + 1) + 3); omega)) rfl) <| JL.nil ?_
 obtain rfl := so hm
 exact JQ.done (js := [2, 1, 0]) (ss := []) (go_18, gc_19) (.inr rfl) (.nil rfl) rfl .nil rfl rfl rfl

theorem ZfM (k : Nat) (is_1 : Bool) (made_2 : Bool) (x_4 : (List UInt8)) (gb_3 : Nat) (go_5 : Option Nat) (gc_6 : Nat) (r : Zaf × Zag) (hm : ZdN k is_1 made_2 x_4 = some r) : Sim Tryz.prog 135 [PTR gb_3 0] [cvar gb_3 (zq28 go_5 x_4 gc_6) ((), (is_1, (made_2, ()))), cown go_5 (rU UInt8) x_4 0 gc_6] (γ := Unit) (fun q => [cvar gb_3 Zac r.2, cown go_5 (rU UInt8) x_4 (List.length x_4) gc_6]) (fun q => .one (.val (A Zad r.1))) := by
 unfold ZdN at hm
 refine Sim.of Tryz.func135 rfl rfl (lE rfl) (fun e0 w0 => ?_)
 refine JC.at ⟨[(0, ov (PTR gb_3 0))], [cvar gb_3 (zq28 go_5 x_4 gc_6) ((), (is_1, (made_2, ()))), cown go_5 (rU UInt8) x_4 0 gc_6], []⟩ <| jr <| jx (Zbh lb tZ26 zr26) fun gb_7 => jn <| jr <| jmv rfl rfl ?_
 obtain ⟨⟨v8, v9, x_10, x_11, x_12⟩, hv_8, hm⟩ := Zay hm
 refine jx (Zak (js := [0, 0]) ld cl90 (Zd7 k (9 : Int) is_1 made_2 x_4 gb_3 go_5 gc_6 (v8, v9, x_10, x_11, x_12) hv_8) .func (.cons tR (.cons .cI .nil)) rfl) fun _ => jmv rfl rfl <| jc (Zaz (i := 0) lb tR rfl) <| jc (Zaz (i := 1) lb tR rfl) <| jc (Zab lb tR) <| jc (Zab lb tR) <| JL.sub ⟨[(2, ov (PTR gb_7 0)), (3, ov (S (rL (rU UInt8)) v8))], [cvar gb_3 (rP (rL (rU UInt8)) (rP rB (rP rB r0))) (x_10, (x_11, (x_12, ()))), cown go_5 (rU UInt8) x_4 (List.length x_4) gc_6, cvar gb_7 Zad (Zaf.mk (0 : Int) (0 : UInt64))], []⟩ (.cons rfl (.cons rfl .nil)) rfl rfl <| jn <| jr <| jmv rfl rfl <| bI hm fun v13 hv_13 hm => jx (Zak (js := []) ld cl52 (Zdq k v8 v13 hv_13) .func (.cons tR .nil) rfl) (fun q => ?_)
 obtain ⟨gb_14, go_15, gc_16⟩ := q
 refine jc (Zab lb tR) <| jn <| jr <| jmv rfl rfl ?_
 obtain ⟨⟨v17, x_18⟩, hv_17, hm⟩ := Zay hm
 refine jx (Zak (js := [0, 0]) ld cl53 (ZcC k (1 : Int) true true v13 gb_14 go_15 gc_16 (v17, x_18) hv_17) .func (.cons tR (.cons .cI .nil)) rfl) fun _ => lI hm fun v19 hv_19 hm => jc (Zcf lb tu24 tu3 tR hv_19) <| jmv rfl rfl ?_
 obtain ⟨⟨v20, x_21⟩, hv_20, hm⟩ := Zay hm
 refine jx (Zak (js := [0]) ld cl53 (ZaD k (8 : Int) x_18 gb_14 (v20, x_21) hv_20) .func (.cons tR (.cons .cI .nil)) rfl) fun _ => JL.nrm ⟨[(2, ov (PTR gb_7 0)), (15, ov (S (rI .i64) v19)), (17, ov (S (rU UInt64) v20))], [cvar gb_3 (rP (rL (rU UInt8)) (rP rB (rP rB r0))) (x_10, (x_11, (x_12, ()))), cown go_5 (rU UInt8) x_4 (List.length x_4) gc_6, cvar gb_7 Zad (Zaf.mk (0 : Int) (0 : UInt64))], []⟩ [2, 2, 2] rfl (.cons rfl (.cons rfl (.cons rfl .nil))) rfl <| jc (Za9 lb tZ26 zs26 tp26 (.S (off := 0) rfl tR rfl ((UpdR.fst (UpdR.self (by rfl))).at (by rfl)) (.S (off := 1) rfl tR rfl ((UpdR.snd (UpdR.fst (UpdR.self (by rfl)))).at (by rfl)) .nil)) rfl) <| jc (ZaP (j := 2) tA26 tR tR rfl (UpdR.self (by rfl)) rfl) <| jn <| JC.ret ?_
 obtain rfl := so hm
 refine JQ.pre (Imp.var (j := 2) (q := Zad) (y := (Zaf.mk v19 v20)) rfl (Wk.st Wk.refl)) ?_
 refine JQ.pre (Imp.var (j := 0) (q := Zac) (y := (Zag.mk x_10 x_11 x_12)) rfl (Wk.st Wk.refl)) ?_
 exact JQ.done (js := [0, 0]) (ss := [.val (A Zad (Zaf.mk v19 v20))]) () (.inl rfl) (.nil rfl) rfl (.cons (.cellA (j := 2) tA26 rfl rfl) .nil) rfl rfl rfl

theorem ZeA (k : Nat) (x_2 : Zag) (gb_1 : Nat) (gb_3 : Nat) (r : UInt64 × Zag) (hm : Zb1 k x_2 = some r) : Sim Tryz.prog 148 [PTR gb_1 0] [cvar gb_1 (rW (PTR gb_3 0)) (), cvar gb_3 Zac x_2] (γ := Unit) (fun q => [cvar gb_1 (rW (PTR gb_3 0)) (), cvar gb_3 Zac r.2]) (fun q => .one (.val (S (rU UInt64) r.1))) := by
 unfold Zb1 at hm
 refine Sim.of Tryz.func148 rfl rfl (lE rfl) (fun e0 w0 => ?_)
 refine JC.at ⟨[(0, ov (PTR gb_1 0))], [cvar gb_1 (rW (PTR gb_3 0)) (), cvar gb_3 Zac x_2], []⟩ <| jr <| jc (Zab lb (HasO.cU (x := (0 : UInt64)) rfl (by decide))) <| jn <| jr <| jc (ZaM (j := 0) lb tS87 tR rfl (Comp.self (rW (PTR gb_3 0)) ())) ?_
 obtain ⟨⟨v4, x_5⟩, hv_4, hm⟩ := Zay hm
 refine jx (Zak (js := [1]) ld cl53 (ZaD k (8 : Int) x_2 gb_3 (v4, x_5) hv_4) .func (.cons tR (.cons .cI .nil)) rfl) fun _ => jc (Zab lb tR) <| jn <| JC.ret ?_
 obtain rfl := so hm
 exact JQ.done (js := [1, 0]) (ss := [.val (S (rU UInt64) v4)]) () (.inl rfl) (.nil rfl) rfl (.cons (.tmp rfl) .nil) rfl rfl rfl

theorem Zb3 (k : Nat) (r_1 : Zag) (gb_2 : Nat) (r : (Vector UInt64 16) × Zag) (hm : wire_Reader_Vector k r_1 = some r) : Sim Tryz.prog 130 [PTR gb_2 0] [cvar gb_2 Zac r_1] (γ := Unit) (fun q => [cvar gb_2 Zac r.2]) (fun q => .one (.val (A (rV 16 (rU UInt64)) r.1))) := by
 unfold wire_Reader_Vector at hm
 refine Sim.of Tryz.func130 rfl rfl (lE rfl) (fun e0 w0 => ?_)
 refine JC.at ⟨[(0, ov (PTR gb_2 0))], [cvar gb_2 Zac r_1], []⟩ <| jr <| jx (Zbh lb tZ29 zr29) fun gb_3 => jn <| jr <| jmv rfl rfl ?_
 obtain ⟨⟨v4, v5, x_6⟩, hv_4, hm⟩ := Zay hm
 refine jx (Zak (js := [0]) ld cl90 (Zb2 k (128 : Int) r_1 gb_2 (v4, v5, x_6) hv_4) .func (.cons tR (.cons .cI .nil)) rfl) fun _ => jmv rfl rfl <| jc (Zaz (i := 0) lb tR rfl) <| jc (Zaz (i := 1) lb tR rfl) <| jc (Zab lb tR) <| jc (Zab lb tR) <| JL.sub ⟨[(2, ov (PTR gb_3 0)), (3, ov (S (rL (rU UInt8)) v4))], [cvar gb_2 Zac x_6, cvar gb_3 (rV 16 (rU UInt64)) (Vector.replicate 16 (0 : UInt64))], []⟩ (.cons rfl (.cons rfl .nil)) rfl rfl <| jn <| jr <| jmv rfl rfl <| bI hm fun v7 hv_7 hm => jx (Zak (js := []) ld cl52 (Zdq k v4 v7 hv_7) .func (.cons tR .nil) rfl) (fun q => ?_)
 obtain ⟨gb_8, go_9, gc_10⟩ := q
 refine jx (Zbh lb tZ87 zr87) fun gb_11 => jc (ZbD (j := 4) tS87 tR tR rfl (UpdR.self (by rfl)) rfl) <| jn <| jr <| jc (Zgq lb (.cons tR .nil)) <| jc (Zab lb tR) <| JL.sub ⟨[(2, ov (PTR gb_3 0)), (6, ov (CLO 148 [PTR gb_11 0]))], [cvar gb_8 (zq28 go_9 v7 gc_10) ((), (true, (true, ()))), cown go_9 (rU UInt8) v7 0 gc_10, cvar gb_2 Zac x_6, cvar gb_3 (rV 16 (rU UInt64)) (Vector.replicate 16 (0 : UInt64)), cvar gb_11 (rW (PTR gb_8 0)) ()], []⟩ (.cons rfl (.cons rfl .nil)) rfl rfl <| jn <| bI hm fun v21 hx1 hq1 => JC.seqJ (γ := Unit) (stj := fun _ => ⟨[(2, ov (PTR gb_3 0))], [cvar gb_3 (rV 16 (rU UInt64)) v21, cvar gb_2 Zac x_6], []⟩) (fun _ => ?_) ?_
 · refine jr <| jc (Zaw (j := 0) lb tA29 tR rfl (Comp.self (rV 16 (rU UInt64)) v21) rfl) <| jc (ZaP (j := 0) tA29 tR tR rfl (UpdR.self (by rfl)) rfl) <| jn <| JC.ret ?_
   obtain rfl := so hq1
   exact JQ.done (js := [1]) (ss := [.val (A (rV 16 (rU UInt64)) v21)]) () (.inl rfl) (.nil rfl) rfl (.cons (.cellA (j := 0) tA29 rfl rfl) .nil) rfl rfl rfl
 refine jr <| jc (Zax lb .cI) <| jn <| JC.block <| JC.pre (Imp.frz (j := 1) rfl (ImpK.var (j := 0) (q := (zq30 go_9 v7 gc_10)) (y := ((), (true, (true, ())))) rfl (Wk.pair Wk.own (Wk.pair Wk.refl (Wk.pair Wk.refl Wk.refl))) ImpK.refl)) <| JC.pre (Imp.var (j := 0) (q := Zac) (y := (Zag.mk v7 true true)) rfl (Wk.st (Wk.pair Wk.hl (Wk.pair Wk.refl (Wk.pair Wk.refl Wk.refl))))) ?_
 refine JC.pre ?_ (JC.loop (γ := Unit) (stf := fun s q => ⟨[(2, ov (PTR gb_3 0)), (6, ov (CLO 148 [PTR gb_11 0])), (16, ov (S (rI .i64) s.2.2))], [cvar gb_3 (rV 16 (rU UInt64)) s.1, cvar gb_11 (rW (PTR gb_8 0)) (), cvar gb_8 Zac s.2.1, cvar gb_2 Zac x_6], []⟩) (q := ()) hx1 ?_)
 · exact (Imp.norm (js := [3, 3, 0, 1]) rfl (.cons rfl (.cons rfl (.cons rfl .nil))))
 intro s q x hx hr
 obtain ⟨v12, x_13, x_14⟩ := s
 obtain _ := q
 change wire_Reader_Vector.b1 k v12 x_13 x_14 = some x at hx
 unfold wire_Reader_Vector.b1 at hx
 refine JC.at ⟨[(2, ov (PTR gb_3 0)), (6, ov (CLO 148 [PTR gb_11 0])), (16, ov (S (rI .i64) x_14))], [cvar gb_3 (rV 16 (rU UInt64)) v12, cvar gb_11 (rW (PTR gb_8 0)) (), cvar gb_8 Zac x_13, cvar gb_2 Zac x_6], []⟩ <| jr <| lI hx fun v15 hv_15 hx => jc (Zaq lb tR .cI (cs hv_15)) <| jn <| JC.seq <| jif tR hx (fun hc3 hx => ?_) (fun hc3 hx => ?_)
 · refine JC.skip <| JQ.then <| JC.seq <| JC.block <| jr <| jmv rfl rfl <| jc (Zab lb tR) <| jn <| JC.region <| jmv rfl rfl <| jmv rfl rfl ?_
   obtain ⟨⟨v16, x_17⟩, hv_16, hx⟩ := Zay hx
   refine jx (Zak (js := [1, 1]) ld Zok (ZeA k x_13 gb_11 gb_8 (v16, x_17) hv_16) tR .nil rfl) fun _ => bI hx fun i_18 hv_i_18 hx => jc (Zcy lb tr29 tR tR hv_i_18) <| lI hx fun v19 hv_19 hx => jc (ZbX (j := 2) tS24 tR tR rfl rfl (Upd.at (Comp.self (rV 16 (rU UInt64)) v12) i_18.2 rfl (Upd.self (rV 16 (rU UInt64)) v12 _)).R hv_19) <| JL.sub ⟨[(2, ov (PTR gb_3 0)), (6, ov (CLO 148 [PTR gb_11 0])), (16, ov (S (rI .i64) x_14))], [cvar gb_11 (rW (PTR gb_8 0)) (), cvar gb_8 Zac x_17, cvar gb_3 (rV 16 (rU UInt64)) v19, cvar gb_2 Zac x_6], []⟩ (.cons rfl (.cons rfl (.cons rfl .nil))) rfl rfl <| JL.nil <| JQ.outNB <| JQ.then <| JC.region ?_
   refine lI hx fun v20 hv_20 hx => jc (ZaY lb tR .cI (cs hv_20)) <| jmv rfl rfl <| JL.nil ?_
   try obtain rfl := so hx
   exact JQ.next () rfl (Imp.norm (js := [2, 0, 0, 0]) rfl (.cons rfl (.cons rfl (.cons rfl .nil))))
 refine JC.exit <| JQ.outX ?_
 try obtain rfl := so hx
 have ht := hr _ rfl
 have hq2 := cs ht
 clear hr ht
 refine JQ.outX <| JQ.here ?_
 try obtain rfl := so hq2
 exact JQ.join () (Imp.norm (js := [0, 2]) rfl (.cons rfl .nil))

theorem Zf5 (k : Nat) (r_1 : Zag) (gb_2 : Nat) (r : Int) (hm : Zd3 k r_1 = some r) : Sim Tryz.prog 146 [PTR gb_2 0] [cvar gb_2 Zac r_1] (γ := Unit) (fun q => [cvar gb_2 Zac r_1]) (fun q => .one (.val (S (rI .i64) r))) := by
 unfold Zd3 at hm
 refine Sim.of Tryz.func146 rfl rfl (lE rfl) (fun e0 w0 => ?_)
 refine JC.at ⟨[(0, ov (PTR gb_2 0))], [cvar gb_2 Zac r_1], []⟩ <| jr <| jc (Zab lb .cI) <| jn <| JC.seq <| jr <| jmv rfl rfl <| bI hm fun v3 hv_3 hm => jx (Zak (js := [0]) ld ZiU (Za2 k r_1 gb_2 v3 hv_3) .func (.cons tR .nil) rfl) fun _ => jn <| jif tR hm (fun hc1 hm => ?_) (fun hc1 hm => ?_)
 · refine jr <| jc (Zab lb .cI) <| jn <| JC.ret <| JQ.outR ?_
   obtain rfl := so hm
   exact JQ.done (js := [0]) (ss := [.val (S (rI .i64) (0 : Int))]) () (.inl rfl) (.nil rfl) rfl (.cons (.tmp rfl) .nil) rfl rfl rfl
 refine JC.skip <| JQ.then <| jr <| jmv rfl rfl <| jc (Zas lb tR (fun e v h => by subst h; rfl)) <| jc (Zaa (off := 0) lb ZeO tR) <| jc (Zai (j := 0) lb tS27 tR rfl (cT (ZbL r_1) rfl) rfl rfl) <| jc (ZaE lb tu27 tR) <| jc (Zab lb tR) <| jn <| JC.ret ?_
 obtain rfl := so hm
 exact JQ.done (js := [0]) (ss := [.val (S (rI .i64) (List.length r_1.rest : Int))]) () (.inl rfl) (.nil rfl) rfl (.cons (.tmp rfl) .nil) rfl rfl rfl

theorem Zgu (k : Nat) (r_1 : Zag) (gb_2 : Nat) (r : Int) (hm : Zeq k r_1 = some r) : Sim Tryz.prog 147 [PTR gb_2 0] [cvar gb_2 Zac r_1] (γ := Unit) (fun q => [cvar gb_2 Zac r_1]) (fun q => .one (.val (S (rI .i64) r))) := by
 unfold Zeq at hm
 refine Sim.of Tryz.func147 rfl rfl (lE rfl) (fun e0 w0 => ?_)
 refine JC.at ⟨[(0, ov (PTR gb_2 0))], [cvar gb_2 Zac r_1], []⟩ <| jr <| jc (Zab lb .cI) <| jn <| JC.seq <| JC.block <| bI hm fun x_4 hx1 hq1 => JC.seqJ (γ := Unit) (stj := fun _ => ⟨[(0, ov (PTR gb_2 0)), (3, ov (S rB x_4))], [cvar gb_2 Zac r_1], []⟩) (fun _ => ?_) ?_
 · refine jif tR hq1 (fun hc2 hq1 => ?_) (fun hc2 hq1 => ?_)
   · refine jr <| jc (Zab lb .cI) <| jn <| JC.ret <| JQ.outRB <| JQ.outR ?_
     obtain rfl := so hq1
     exact JQ.done (js := [0]) (ss := [.val (S (rI .i64) (1 : Int))]) () (.inl rfl) (.nil rfl) rfl (.cons (.tmp rfl) .nil) rfl rfl rfl
   refine bI hq1 fun x_8 hx3 hq3 => JC.seqJ (γ := Unit) (stj := fun _ => ⟨[(13, ov (S rB x_8))], [cvar gb_2 Zac r_1], []⟩) (fun _ => ?_) ?_
   · refine jif tR hq3 (fun hc11 hq3 => ?_) (fun hc11 hq3 => ?_)
     · refine jr <| jc (Zab lb .cI) <| jn <| JC.ret <| JQ.outRB <| JQ.outR ?_
       obtain rfl := so hq3
       exact JQ.done (js := [0]) (ss := [.val (S (rI .i64) (4 : Int))]) () (.inl rfl) (.nil rfl) rfl (.cons (.tmp rfl) .nil) rfl rfl rfl
     refine JC.skip <| JQ.outNB <| JQ.then <| jr <| jc (Zab lb .cI) <| jn <| JC.ret ?_
     obtain rfl := so hq3
     exact JQ.done (js := [0]) (ss := [.val (S (rI .i64) (0 : Int))]) () (.inl rfl) (.nil rfl) rfl (.cons (.tmp rfl) .nil) rfl rfl rfl
   refine JC.region <| jmv rfl rfl <| bI hx3 fun v5 hv_5 hx3 => jx (Zak (js := [0]) ld ZiU (Za2 k r_1 gb_2 v5 hv_5) .func (.cons tR .nil) rfl) fun _ => jmv rfl rfl <| jF (ov (PTR gb_2 0)) rfl rfl rfl rfl (fun hq_4 => Zax lb tR) <| jF (ov (PTR gb_2 0)) rfl rfl rfl rfl (fun hq_5 => Zas lb (HasO.cnd tR (notT (notF hq_5))) (fun e v h => by subst h; rfl)) <| jF (ov (PTR gb_2 (0 + 0))) rfl rfl rfl rfl (fun hq_6 => Zaa (off := 0) lb ZeO (HasO.cnd tR (notT (notF hq_6)))) <| jF (ov (S (rL (rU UInt8)) r_1.rest)) rfl rfl rfl rfl (fun hq_7 => Zai (j := 0) lb tS27 (HasO.cnd tR (notT (notF hq_7))) rfl (cT (ZbL r_1) rfl) rfl rfl) <| jF (ov (S (rI .i64) (List.length r_1.rest : Int))) rfl rfl rfl rfl (fun hq_8 => ZaE lb tu27 (HasO.cnd tR (notT (notF hq_8)))) ?_
   refine lI hx3 fun v6 hv_6 hx3 => jF (ov (S rB v6)) rfl rfl rfl rfl (fun hq_9 => Zaq lb (HasO.cnd tR (notT (notF hq_9))) .cI (cs hv_6)) <| lI hx3 fun v7 hv_7 hx3 => jc (Zao lb tR (fun hb10 => .cB) (fun hb10 => (HasO.cnd tR (notT hb10))) hv_7) <| jc (Zab lb tR) <| JL.nil ?_
   try obtain rfl := so hx3
   exact JQ.join () (Imp.norm (js := [0]) rfl (.cons rfl .nil))
 refine JC.region <| jmv rfl rfl <| jc (Zjz (neg := false) lb tu87 tR (HasO.const (p := PTO none) fun _ => rfl)) <| jmv rfl rfl <| JL.run (.yes rfl (ltB rfl) rfl rfl) (Zax lb tR) <| JL.run (.yes rfl (ltB rfl) rfl rfl) (Zas lb tR (fun e v h => by subst h; rfl)) <| JL.run (.yes rfl (ltB rfl) rfl rfl) (Zaa (off := 2) lb ZmI tR) <| JL.run (.yes rfl (ltB rfl) rfl rfl) (Zai (j := 0) lb tS4 tR rfl (cT (ZfV r_1) rfl) rfl rfl) <| lI hx1 fun v3 hv_3 hx1 => JL.run (.yes rfl (ltB rfl) rfl rfl) (Zbc lb tR hv_3) <| jc (Za6 lb tR rfl tR) <| jc (Zab lb tR) <| JL.nil ?_
 try obtain rfl := so hx1
 exact JQ.join () (Imp.norm (js := [0]) rfl (.cons rfl (.cons rfl .nil)))

theorem Zi8 (k : Nat) (b_1 : (List UInt8)) (r : Zar × Int) (hm : event_Of k b_1 = some r) : Sim Tryz.prog 127 [S (rL (rU UInt8)) b_1] [] (γ := Unit) (fun q => []) (fun q => .tup [.val (A Zam r.1), .val (S (rI .i64) r.2)]) := by
 unfold event_Of at hm
 refine Sim.of Tryz.func127 rfl rfl (lE rfl) (fun e0 w0 => ?_)
 refine JC.at ⟨[(0, ov (S (rL (rU UInt8)) b_1))], [], []⟩ <| jr <| jx (Zbh lb tZ32 zr32) fun gb_2 => jc (Zab lb .cI) <| jn <| jr <| jmv rfl rfl <| bI hm fun v3 hv_3 hm => jx (Zak (js := []) ld cl52 (Zdq k b_1 v3 hv_3) .func (.cons tR .nil) rfl) (fun q => ?_)
 obtain ⟨gb_4, go_5, gc_6⟩ := q
 refine jc (Zab lb tR) <| jn <| JC.seq ?_
 obtain ⟨⟨v7, x_8⟩, hv_7, hm⟩ := Zay hm
 obtain ⟨⟨v9, x_10⟩, hv_9, hm⟩ := Zay hm
 obtain ⟨⟨v11, x_12⟩, hv_11, hm⟩ := Zay hm
 obtain ⟨⟨v13, x_14⟩, hv_13, hm⟩ := Zay hm
 refine JC.anyF (base := [(0, ov (S (rL (rU UInt8)) b_1)), (2, ov (PTR gb_2 0)), (4, ov (PTR gb_4 0))])
     (fs := fun γ => [⟨some 8, ov (PTR gb_4 0)⟩, ⟨some 9, ov (A Zad v7)⟩, ⟨some 10, ov (PTR gb_4 0)⟩, ⟨some 11, ov (S (rL (rU UInt8)) v9)⟩, ⟨some 12, ov (S rS v9)⟩, ⟨some 13, ov (PTR gb_4 0)⟩, ⟨some 14, ov (S (rL (rU UInt8)) v11)⟩, ⟨some 15, ov (PTR gb_4 0)⟩, ⟨some 16, ov (A (rV 16 (rU UInt64)) v13)⟩, ⟨some 17, ov (A zq42 (v7, (v9, (v11, (v13, ((), ()))))))⟩, ⟨some 5, ov (PTR (γ 10 0) 0)⟩, ⟨none, .one .any⟩])
     (rs := fun γ => [⟨cvar gb_4 (zq28 go_5 v3 gc_6) ((), (true, (true, ()))), none, (some 1), []⟩, ⟨cown go_5 (rU UInt8) v3 0 gc_6, none, (some 1), []⟩, ⟨cvar gb_2 zq0 zq1, none, none, []⟩, ⟨cvar gb_4 Zac x_8, (some 1), (some 3), []⟩, ⟨cown go_5 (rU UInt8) v3 (List.length v3) gc_6, (some 1), none, []⟩, ⟨cvar gb_4 Zac x_10, (some 3), (some 6), []⟩, ⟨cvar gb_4 Zac x_12, (some 6), (some 8), []⟩, ⟨cvar gb_4 Zac x_14, (some 8), none, []⟩, ⟨cvar (γ 10 0) zq0 zq1, (some 10), (some 11), []⟩, ⟨cvar (γ 10 0) zq42 (v7, (v9, (v11, (v13, ((), ()))))), (some 11), none, []⟩])
     (afts := [[], [], [], [], [], [], [], [], [], [], [10, 11], []]) (js := [0, 0, 0]) ZbT (.cons rfl (.cons rfl (.cons rfl .nil))) (fun _ => rfl)
     (by
      refine db 1 4 <| dR 2 (fun γ ρ B hb hd => Zan.at ⟨ρ, (cvar gb_4 (zq28 go_5 v3 gc_6) ((), (true, (true, ())))) :: (cown go_5 (rU UInt8) v3 0 gc_6) :: B, _⟩ (setO ⟨ρ, (cvar gb_4 Zac x_8) :: (cown go_5 (rU UInt8) v3 (List.length v3) gc_6) :: B, _⟩ _ _) ((Zak (js := [0, 0]) ld ZkN (ZfM k true true v3 gb_4 go_5 gc_6 (v7, x_8) hv_7) .func (.cons (tl hd 0 8) .nil) rfl).post (fun _ => Imp.refl))) <| db 3 4 <| dR 4 (fun γ ρ B hb hd => Zan.at ⟨ρ, (cvar gb_4 Zac x_8) :: B, _⟩ (setO ⟨ρ, (cvar gb_4 Zac x_10) :: B, _⟩ _ _) ((Zak (js := [0]) ld ZjT (Zbr k x_8 gb_4 (v9, x_10) hv_9) .func (.cons (tl hd 2 10) .nil) rfl).post (fun _ => Imp.refl))) <| dS 5 (fun γ ρ B hb hd => ZdU lb tu27 tu5 tu9 (tl hd 3 11)) ?_
      refine db 6 4 <| dR 7 (fun γ ρ B hb hd => Zan.at ⟨ρ, (cvar gb_4 Zac x_10) :: B, _⟩ (setO ⟨ρ, (cvar gb_4 Zac x_12) :: B, _⟩ _ _) ((Zak (js := [0]) ld ZjT (Zbr k x_10 gb_4 (v11, x_12) hv_11) .func (.cons (tl hd 5 13) .nil) rfl).post (fun _ => Imp.refl))) <| db 8 4 <| dR 9 (fun γ ρ B hb hd => Zan.at ⟨ρ, (cvar gb_4 Zac x_12) :: B, _⟩ (setO ⟨ρ, (cvar gb_4 Zac x_14) :: B, _⟩ _ _) ((Zak (js := [0]) ld Zl3 (Zb3 k x_12 gb_4 (v13, x_14) hv_13) .func (.cons (tl hd 7 15) .nil) rfl).post (fun _ => Imp.refl))) <| dS 10 (fun γ ρ B hb hd => Za9 lb tZ32 zr32 tp32 (.A (off := 0) rfl (tl hd 1 9) ((UpdR.fst (UpdR.self (by rfl))).at (by rfl)) (.S (off := 2) rfl (tl hd 4 12) rfl ((UpdR.snd (UpdR.fst (UpdR.self (by rfl)))).at (by rfl)) (.S (off := 3) rfl (tl hd 6 14) rfl ((UpdR.snd (UpdR.snd (UpdR.fst (UpdR.self (by rfl))))).at (by rfl)) (.A (off := 4) rfl (tl hd 8 16) ((UpdR.snd (UpdR.snd (UpdR.snd (UpdR.fst (UpdR.self (by rfl)))))).at (by rfl)) .nil)))) rfl) <| ZaG.cons (j := 11) rfl (fun _ => rfl) (.runX (fun _ _ => rfl) (fun γ ρ B hb hd => ⟨.none, OpX.ghost (γ := Nat) (st' := fun q => setO ⟨ρ, (cvar q zq0 zq1) :: B, _⟩ (some 5) (ov (PTR q 0))) (fun q c => q) (OpX.front (Zbh lb tZ32 zr32)) (fun q => Imp.refl)⟩) (fun _ _ => rfl) (fun _ _ => rfl)) ?_
      refine dR 12 (fun γ ρ B hb hd => Zan.at ⟨ρ, (cvar (γ 10 0) zq0 zq1) :: B, _⟩ (setO ⟨ρ, (cvar (γ 10 0) zq42 (v7, (v9, (v11, (v13, ((), ())))))) :: B, _⟩ _ _) (ZaP (j := 0) tA32 (tl hd 10 5) (tl hd 9 17) rfl (UpdR.self (by rfl)) rfl)) ?_
      exact ZaG.nil)
     (by decide +kernel) (fun _ => rfl) (fun _ => rfl) (fun _ => rfl) rfl
     (ρ' := fun γ => [(0, ov (S (rL (rU UInt8)) b_1)), (2, ov (PTR gb_2 0)), (4, ov (PTR gb_4 0)), (5, ov (PTR (γ 10 0) 0))])
     (X' := fun γ => [cvar gb_2 zq0 zq1, cown go_5 (rU UInt8) v3 (List.length v3) gc_6, cvar gb_4 Zac x_14, cvar (γ 10 0) zq42 (v7, (v9, (v11, (v13, ((), ())))))])
     (fun γ ρ hb hd => (.cons (hb 0 _ rfl) (.cons (hb 2 _ rfl) (.cons (hb 4 _ rfl) (.cons (hdq hd 10 5 rfl) .nil))))) (fun _ => rfl) (fun γ => ?_)
 generalize (γ 10 0) = gb_15
 clear γ
 refine JQ.at ⟨[(0, ov (S (rL (rU UInt8)) b_1)), (2, ov (PTR gb_2 0)), (4, ov (PTR gb_4 0)), (5, ov (PTR gb_15 0))], [cvar gb_2 zq0 zq1, cown go_5 (rU UInt8) v3 (List.length v3) gc_6, cvar gb_4 Zac x_14, cvar gb_15 zq42 (v7, (v9, (v11, (v13, ((), ())))))], []⟩ <| JQ.then ?_
 obtain ⟨⟨r_35, To_36⟩, hx1, hq1⟩ := Zay hm
 refine JC.seqJ (γ := Option Nat × Nat) (stj := fun q => ⟨[(0, ov (S (rL (rU UInt8)) b_1)), (2, ov (PTR gb_2 0)), (4, ov (PTR gb_4 0)), (5, ov (PTR gb_15 0))], [cvar gb_2 zq0 zq1, cvar gb_4 Zac r_35, cvar gb_15 (rP Zad (rP rS (rP (rL (rU UInt8)) (rP (rV 16 (rU UInt64)) (rP (rW (HDR q.1 0 (List.length To_36) q.2)) r0))))) (v7, (v9, (v11, (v13, ((), ()))))), cown q.1 Zat To_36 0 q.2], []⟩) (fun q => ?_) ?_
 · obtain ⟨go_37, gc_38⟩ := q
   refine JC.at ⟨[(0, ov (S (rL (rU UInt8)) b_1)), (2, ov (PTR gb_2 0)), (4, ov (PTR gb_4 0)), (5, ov (PTR gb_15 0))], [cvar gb_2 zq0 zq1, cvar gb_4 Zac r_35, cvar gb_15 (zq45 go_37 To_36 gc_38) (v7, (v9, (v11, (v13, ((), ()))))), cown go_37 Zat To_36 0 gc_38], []⟩ <| JC.seq <| bI hq1 fun x_48 hx4 hq4 => JC.seqJ (γ := Unit) (stj := fun _ => ⟨[(2, ov (PTR gb_2 0)), (5, ov (PTR gb_15 0)), (52, ov (S rB x_48))], [cvar gb_2 zq0 zq1, cvar gb_15 (zq45 go_37 To_36 gc_38) (v7, (v9, (v11, (v13, ((), ()))))), cown go_37 Zat To_36 (List.length To_36) gc_38], []⟩) (fun _ => ?_) ?_
   · refine jif tR hq4 (fun hc9 hq4 => ?_) (fun hc9 hq4 => ?_)
     · refine jr <| jc (Za9 lb tZ32 zr32 tp32 .nil rfl) <| jc (ZaP (j := 0) tA32 tR tR rfl (UpdR.self (by rfl)) rfl) <| jc (Zab lb .cI) <| jn <| JC.ret <| JQ.outR ?_
       obtain rfl := so hq4
       refine JQ.pre (Imp.var (j := 0) (q := Zam) (y := (Zar.mk (Zaf.mk (0 : Int) (0 : UInt64)) ([] : (List UInt8)) ([] : (List UInt8)) (Vector.replicate 16 (0 : UInt64)) ([] : (List ZaA)))) rfl (Wk.st (Wk.pair Wk.refl (Wk.pair Wk.refl (Wk.pair Wk.nil (Wk.pair Wk.refl (Wk.pair Wk.nil Wk.refl))))))) ?_
       exact JQ.done (js := []) (ss := [.val (A Zam (Zar.mk (Zaf.mk (0 : Int) (0 : UInt64)) ([] : (List UInt8)) ([] : (List UInt8)) (Vector.replicate 16 (0 : UInt64)) ([] : (List ZaA)))), .val (S (rI .i64) (4 : Int))]) () (.inl rfl) (.nil rfl) rfl (.cons (.cellA (j := 0) tA32 rfl rfl) (.cons (.tmp rfl) .nil)) rfl rfl rfl
     refine JC.skip <| JQ.then <| jr <| jc (Zaw (j := 1) lb tA32 tR rfl (Comp.self (zq45 go_37 To_36 gc_38) (v7, (v9, (v11, (v13, ((), ())))))) rfl) <| jc (ZaP (j := 0) tA32 tR tR rfl (UpdR.self (by rfl)) rfl) <| jc (Zab lb .cI) <| jn <| JC.ret ?_
     obtain rfl := so hq4
     refine JQ.pre (Imp.frz (j := 2) rfl (ImpK.slotA (s := 54) (q := (zq46 go_37 To_36 gc_38)) (y := (v7, (v9, (v11, (v13, ((), ())))))) rfl (Wk.pair Wk.refl (Wk.pair Wk.refl (Wk.pair Wk.refl (Wk.pair Wk.refl (Wk.pair Wk.own Wk.refl))))) (ImpK.var (j := 0) (q := (zq46 go_37 To_36 gc_38)) (y := (v7, (v9, (v11, (v13, ((), ())))))) rfl (Wk.pair Wk.refl (Wk.pair Wk.refl (Wk.pair Wk.refl (Wk.pair Wk.refl (Wk.pair Wk.own Wk.refl))))) (ImpK.var (j := 1) (q := (zq46 go_37 To_36 gc_38)) (y := (v7, (v9, (v11, (v13, ((), ())))))) rfl (Wk.pair Wk.refl (Wk.pair Wk.refl (Wk.pair Wk.refl (Wk.pair Wk.refl (Wk.pair Wk.own Wk.refl))))) ImpK.refl)))) <| JQ.pre (Imp.var (j := 0) (q := Zam) (y := (Zar.mk v7 v9 v11 v13 To_36)) rfl (Wk.st (Wk.pair Wk.refl (Wk.pair Wk.refl (Wk.pair Wk.refl (Wk.pair Wk.refl (Wk.pair Wk.hl Wk.refl))))))) ?_
     exact JQ.done (js := []) (ss := [.val (A Zam (Zar.mk v7 v9 v11 v13 To_36)), .val (S (rI .i64) (0 : Int))]) () (.inl rfl) (.nil rfl) rfl (.cons (.cellA (j := 0) tA32 rfl rfl) (.cons (.tmp rfl) .nil)) rfl rfl rfl
   refine JC.region <| jmv rfl rfl <| bI hx4 fun v39 hv_39 hx4 => jx (Zak (js := [1]) ld Zoj (Zgu k r_35 gb_4 v39 hv_39) .func (.cons tR .nil) rfl) fun _ => lI hx4 fun v40 hv_40 hx4 => jc (Zaq lb tR .cI (cs hv_40)) <| jmv rfl rfl ?_
   rcases ZcG hx4 with ⟨hc6, hx4⟩ | ⟨hc6, hx4⟩
   · refine jk rfl hc6 <| jk rfl hc6 <| jk rfl hc6 <| jc (Zb7 lb tR hc6 .cB) <| jmv rfl rfl <| jk rfl rfl <| jk rfl rfl <| jk rfl rfl <| jk rfl rfl <| jk rfl rfl <| jc (Zb7 lb tR rfl .cB) <| JL.nil ?_
     try obtain rfl := so hx4
     exact JQ.pre (Imp.frz (j := 3) rfl ImpK.refl) <| JQ.join () (Imp.norm (js := [1, 1, 1]) rfl (.cons rfl (.cons rfl (.cons rfl .nil))))
   refine JL.run (.yes rfl (ltB rfl) rfl hc6) (Zaw (j := 2) lb tA32 tR rfl (Comp.self (zq45 go_37 To_36 gc_38) (v7, (v9, (v11, (v13, ((), ())))))) rfl) <| bI hx4 fun v41 hv_41 hx4 => JL.pre (Imp.frz (j := 3) rfl (ImpK.slotA (s := 42) (q := (zq46 go_37 To_36 gc_38)) (y := (v7, (v9, (v11, (v13, ((), ())))))) rfl (Wk.pair Wk.refl (Wk.pair Wk.refl (Wk.pair Wk.refl (Wk.pair Wk.refl (Wk.pair Wk.own Wk.refl))))) (ImpK.var (j := 2) (q := (zq46 go_37 To_36 gc_38)) (y := (v7, (v9, (v11, (v13, ((), ())))))) rfl (Wk.pair Wk.refl (Wk.pair Wk.refl (Wk.pair Wk.refl (Wk.pair Wk.refl (Wk.pair Wk.own Wk.refl))))) ImpK.refl))) <| JL.pre (Imp.slotA (s := 42) rfl (Wk.st (Wk.pair Wk.refl (Wk.pair Wk.refl (Wk.pair Wk.refl (Wk.pair Wk.refl (Wk.pair Wk.hl Wk.refl))))))) <| JL.runX (.yes rfl (ltB rfl) rfl hc6) (Zak (js := []) ld cl31 (Zfo k (Zar.mk v7 v9 v11 v13 To_36) v41 hv_41) .func (.cons tR .nil) rfl) fun _ => lI hx4 fun v42 hv_42 hx4 => JL.run (.yes rfl (ltB rfl) rfl hc6) (Zbc lb tR hv_42) <| jc (Za6 lb tR hc6 tR) <| JL.nrm ⟨[(0, ov (S (rL (rU UInt8)) b_1)), (2, ov (PTR gb_2 0)), (5, ov (PTR gb_15 0)), (45, ov (S rB v42))], [cvar gb_2 zq0 zq1, cvar gb_15 (zq46 go_37 To_36 gc_38) (v7, (v9, (v11, (v13, ((), ()))))), cown go_37 Zat To_36 (List.length To_36) gc_38], []⟩ [1, 1, 1] rfl (.cons rfl (.cons rfl (.cons rfl (.cons rfl .nil)))) rfl ?_
   refine jmv rfl rfl ?_
   rcases ZcG hx4 with ⟨hc8, hx4⟩ | ⟨hc8, hx4⟩
   · refine jk rfl hc8 <| jk rfl hc8 <| jk rfl hc8 <| jk rfl hc8 <| jk rfl hc8 <| jc (Zb7 lb tR hc8 .cB) <| JL.nil ?_
     try obtain rfl := so hx4
     refine JQ.pre (Imp.var (j := 1) (q := (zq45 go_37 To_36 gc_38)) (y := (v7, (v9, (v11, (v13, ((), ())))))) rfl (Wk.pair Wk.refl (Wk.pair Wk.refl (Wk.pair Wk.refl (Wk.pair Wk.refl (Wk.pair Wk.hh Wk.refl)))))) ?_
     exact JQ.join () (Imp.norm (js := [0, 0, 0]) rfl (.cons rfl (.cons rfl (.cons rfl .nil))))
   refine JL.run (.yes rfl (ltB rfl) rfl hc8) (Zaw (j := 1) lb tA32 tR rfl (Comp.self (zq46 go_37 To_36 gc_38) (v7, (v9, (v11, (v13, ((), ())))))) rfl) <| bI hx4 fun v43 hv_43 hx4 => JL.runX (.yes rfl (ltB rfl) rfl hc8) (Zak (js := []) ld ZnC (ZfP k (Zar.mk v7 v9 v11 v13 To_36) v43 hv_43) .func (.cons (HasO.wk (q := A Zam (Zar.mk v7 v9 v11 v13 To_36)) tR (wkAK (Wk.st (Wk.pair Wk.refl (Wk.pair Wk.refl (Wk.pair Wk.refl (Wk.pair Wk.refl (Wk.pair Wk.hl Wk.refl)))))))) .nil) rfl) (fun q => ?_)
   obtain ⟨go_44, gc_45⟩ := q
   refine JL.run (.yes rfl (ltB rfl) rfl hc8) (Zax lb tR) <| bI hx4 fun v46 hv_46 hx4 => JL.pre (Imp.frz (j := 0) rfl (ImpK.slotH (s := 48) rfl ImpK.refl)) <| JL.runX (.yes rfl (ltB rfl) rfl hc8) (Zak (js := []) ld cl55 (Zcg k v43 b_1 v46 hv_46) .func (.cons (HasO.wk tR wkHL) (.cons tR .nil)) rfl) fun _ => lI hx4 fun v47 hv_47 hx4 => JL.run (.yes rfl (ltB rfl) rfl hc8) (Zbc lb tR hv_47) <| jc (Za6 lb tR hc8 tR) <| JL.nil ?_
   try obtain rfl := so hx4
   refine JQ.pre (Imp.var (j := 2) (q := (zq45 go_37 To_36 gc_38)) (y := (v7, (v9, (v11, (v13, ((), ())))))) rfl (Wk.pair Wk.refl (Wk.pair Wk.refl (Wk.pair Wk.refl (Wk.pair Wk.refl (Wk.pair Wk.hh Wk.refl)))))) ?_
   exact JQ.join () (Imp.norm (js := [1, 1, 1]) rfl (.cons rfl (.cons rfl (.cons rfl .nil))))
 refine jr <| jmv rfl rfl ?_
 obtain ⟨⟨v16, x_17⟩, hv_16, hx1⟩ := Zay hx1
 refine jx (Zak (js := [2]) ld cl53 (ZaD k (2 : Int) x_14 gb_4 (v16, x_17) hv_16) .func (.cons tR (.cons .cI .nil)) rfl) fun _ => lI hx1 fun v18 hv_18 hx1 => jc (Zcf lb tu24 tu3 tR hv_18) <| jmv rfl rfl <| bI hx1 fun v19 hv_19 hx1 => jx (Zak (js := [0]) ld Zov (Zf5 k x_17 gb_4 v19 hv_19) .func (.cons tR .nil) rfl) fun _ => lI hx1 fun v20 hv_20 hx1 => jc (Zi2 lb tR tR hv_20) <| jc (Zax lb .cI) <| jn <| JC.block <| JC.pre (Imp.nilown Zat) <| JC.pre ?_ (JC.loop (γ := Option Nat × Nat) (stf := fun s q => ⟨[(0, ov (S (rL (rU UInt8)) b_1)), (2, ov (PTR gb_2 0)), (4, ov (PTR gb_4 0)), (5, ov (PTR gb_15 0)), (23, ov (S (rI .i64) v20)), (24, ov (S (rI .i64) s.2.2))], [cvar gb_2 zq0 zq1, cvar gb_4 Zac s.1, cvar gb_15 (rP Zad (rP rS (rP (rL (rU UInt8)) (rP (rV 16 (rU UInt64)) (rP (rW (HDR q.1 0 (List.length s.2.1) q.2)) r0))))) (v7, (v9, (v11, (v13, ((), ()))))), cown q.1 Zat s.2.1 0 q.2], []⟩) (q := (none, 0)) hx1 ?_)
 · exact (Imp.norm (js := [1, 0, 1, 1]) rfl (.cons rfl (.cons rfl (.cons rfl (.cons rfl (.cons rfl (.cons rfl .nil)))))))
 intro s q x hx hr
 obtain ⟨r_21, To_22, x_23⟩ := s
 obtain ⟨go_24, gc_25⟩ := q
 change event_Of.b1 k v20 r_21 To_22 x_23 = some x at hx
 unfold event_Of.b1 at hx
 refine JC.at ⟨[(0, ov (S (rL (rU UInt8)) b_1)), (2, ov (PTR gb_2 0)), (4, ov (PTR gb_4 0)), (5, ov (PTR gb_15 0)), (23, ov (S (rI .i64) v20)), (24, ov (S (rI .i64) x_23))], [cvar gb_2 zq0 zq1, cvar gb_4 Zac r_21, cvar gb_15 (zq45 go_24 To_22 gc_25) (v7, (v9, (v11, (v13, ((), ()))))), cown go_24 Zat To_22 0 gc_25], []⟩ <| jr <| lI hx fun v26 hv_26 hx => jc (Zaq lb tR tR (cs hv_26)) <| jn <| JC.seq <| jif tR hx (fun hc3 hx => ?_) (fun hc3 hx => ?_)
 · refine JC.skip <| JQ.then <| JC.seq <| JC.block ?_
   obtain ⟨⟨v27, x_28⟩, hv_27, hx⟩ := Zay hx
   obtain ⟨⟨v29, x_30⟩, hv_29, hx⟩ := Zay hx
   obtain ⟨x_31, hv_x_31, hx⟩ := Zay hx
   refine JC.anyF (base := [(0, ov (S (rL (rU UInt8)) b_1)), (2, ov (PTR gb_2 0)), (4, ov (PTR gb_4 0)), (5, ov (PTR gb_15 0)), (23, ov (S (rI .i64) v20)), (24, ov (S (rI .i64) x_23))])
       (fs := fun γ => [⟨some 26, ov (PTR gb_15 (0 + 20))⟩, ⟨some 27, ov (HDR go_24 0 (List.length To_22) gc_25)⟩, ⟨some 28, ov (PTR gb_4 0)⟩, ⟨some 29, ov (A Zad v27)⟩, ⟨some 30, ov (PTR gb_4 0)⟩, ⟨some 31, ov (S (rL (rU UInt8)) v29)⟩, ⟨some 32, ov (S rS v29)⟩, ⟨some 33, ov (A (rP Zad (rP rS r0)) (v27, (v29, ())))⟩, ⟨some 34, ov (S (rL Zat) ([(ZaA.mk v27 v29)] : (List ZaA)))⟩, ⟨some 35, ov (HDR (deo (γ 9 0)) 0 (List.length x_31) (γ 9 1))⟩, ⟨some 36, ov (PTR gb_15 (0 + 20))⟩, ⟨none, .one .any⟩])
       (rs := fun γ => [⟨cvar gb_2 zq0 zq1, none, none, []⟩, ⟨cvar gb_4 Zac r_21, none, (some 3), []⟩, ⟨cvar gb_15 (zq45 go_24 To_22 gc_25) (v7, (v9, (v11, (v13, ((), ()))))), none, (some 11), [1]⟩, ⟨cown go_24 Zat To_22 0 gc_25, none, (some 9), []⟩, ⟨cvar gb_4 Zac x_28, (some 3), (some 5), []⟩, ⟨cvar gb_4 Zac x_30, (some 5), none, []⟩, ⟨cown (deo (γ 9 0)) Zat x_31 0 (γ 9 1), (some 9), none, []⟩, ⟨cvar gb_15 (zq45 (deo (γ 9 0)) x_31 (γ 9 1)) (v7, (v9, (v11, (v13, ((), ()))))), (some 11), none, []⟩])
       (afts := [[], [], [], [], [], [], [], [], [], [9, 10, 11], [], []]) (js := [0, 0, 0, 0]) ZbT (.cons rfl (.cons rfl (.cons rfl (.cons rfl (.cons rfl (.cons rfl .nil)))))) (fun _ => rfl)
       (by
      refine dS 1 (fun γ ρ B hb hd => Zaa (off := 20) lb ZcR (.tmp (hb 5 _ rfl))) <| dR 2 (fun γ ρ B hb hd => Zan.lk ⟨ρ, (cvar gb_15 (zq45 go_24 To_22 gc_25) (v7, (v9, (v11, (v13, ((), ())))))) :: B, _⟩ (ZaM (j := 0) lb tS30 (tl hd 0 26) rfl (Comp.trans (Comp.self (zq45 go_24 To_22 gc_25) (v7, (v9, (v11, (v13, ((), ())))))) (Comp.at' (Comp.inS (Comp.inS (Comp.inS (Comp.inS (Comp.inF (Comp.self (rW (HDR go_24 0 (List.length To_22) gc_25)) ()) (lE rfl)))))) (by rfl : _ = 20)) (lE rfl)))) <| db 3 4 <| dR 4 (fun γ ρ B hb hd => Zan.at ⟨ρ, (cvar gb_4 Zac r_21) :: B, _⟩ (setO ⟨ρ, (cvar gb_4 Zac x_28) :: B, _⟩ _ _) ((Zak (js := [0]) ld ZkN (Zcu k r_21 gb_4 (v27, x_28) hv_27) .func (.cons (tl hd 2 28) .nil) rfl).post (fun _ => Imp.refl))) <| db 5 4 ?_
      refine dR 6 (fun γ ρ B hb hd => Zan.at ⟨ρ, (cvar gb_4 Zac x_28) :: B, _⟩ (setO ⟨ρ, (cvar gb_4 Zac x_30) :: B, _⟩ _ _) ((Zak (js := [0]) ld ZjT (Zbr k x_28 gb_4 (v29, x_30) hv_29) .func (.cons (tl hd 4 30) .nil) rfl).post (fun _ => Imp.refl))) <| dS 7 (fun γ ρ B hb hd => ZdU lb tu27 tu5 tu9 (tl hd 5 31)) <| dS 8 (fun γ ρ B hb hd => Za9 lb ZlP ZnS Zn7 (.A (off := 0) rfl (tl hd 3 29) ((UpdR.fst (UpdR.self (by rfl))).at (by rfl)) (.S (off := 2) rfl (tl hd 6 32) rfl ((UpdR.snd (UpdR.fst (UpdR.self (by rfl)))).at (by rfl)) .nil)) rfl) <| dS 9 (fun γ ρ B hb hd => Zca (r := Zat) lb tu30 Zhc ZlP rfl (lE rfl) (.A (HasO.wk (q := A Zat (ZaA.mk v27 v29)) (tl hd 7 33) (wkAK (Wk.st Wk.refl))) .nil) rfl) ?_
      refine ZaG.cons (j := 10) rfl (fun _ => rfl) (.runX (fun _ _ => rfl) (fun γ ρ B hb hd => ⟨.none, OpX.ghost (γ := Option Nat × Nat) (st' := fun q => setO ⟨ρ, (cown q.1 Zat x_31 0 q.2) :: B, _⟩ (some 35) (ov (HDR q.1 0 (List.length x_31) q.2))) (fun q c => bif Nat.beq c 0 then eno q.1 else q.2) (Zbp (j := 0) lb tu30 tu30 rfl Zoi rfl (Nat.lt_of_lt_of_le Nat.zero_lt_one (lE rfl)) (Nat.lt_of_lt_of_le Nat.zero_lt_one (lE rfl))  rfl (tl hd 1 27) (tl hd 8 34) hv_x_31) (fun q => by obtain ⟨q0, q1⟩ := q; cases q0 <;> exact Imp.refl)⟩) (fun _ _ => rfl) (fun _ _ => rfl)) ?_
      refine dS 11 (fun γ ρ B hb hd => Zaa (off := 20) lb ZcR (.tmp (hb 5 _ rfl))) <| dR 12 (fun γ ρ B hb hd => Zan.at ⟨ρ, (cvar gb_15 (zq45 go_24 To_22 gc_25) (v7, (v9, (v11, (v13, ((), ())))))) :: B, _⟩ (setO ⟨ρ, (cvar gb_15 (zq45 (deo (γ 9 0)) x_31 (γ 9 1)) (v7, (v9, (v11, (v13, ((), ())))))) :: B, _⟩ _ _) (ZbD (j := 0) tS30 (tl hd 10 36) (tl hd 9 35) rfl ((UpdR.snd (UpdR.snd (UpdR.snd (UpdR.snd (UpdR.fst (UpdR.self (by rfl))))))).at (by change (2 + (1 + (1 + (16 + 0)))) = (0 + 20); omega)) rfl)) ?_
      exact ZaG.nil)
       (by decide +kernel) (fun _ => rfl) (fun _ => rfl) (fun _ => rfl) rfl
       (ρ' := fun γ => [(0, ov (S (rL (rU UInt8)) b_1)), (2, ov (PTR gb_2 0)), (4, ov (PTR gb_4 0)), (5, ov (PTR gb_15 0)), (23, ov (S (rI .i64) v20)), (24, ov (S (rI .i64) x_23))])
       (X' := fun γ => [cvar gb_2 zq0 zq1, cvar gb_4 Zac x_30, cown (deo (γ 9 0)) Zat x_31 0 (γ 9 1), cvar gb_15 (zq45 (deo (γ 9 0)) x_31 (γ 9 1)) (v7, (v9, (v11, (v13, ((), ())))))])
       (fun γ ρ hb hd => (.cons (hb 0 _ rfl) (.cons (hb 2 _ rfl) (.cons (hb 4 _ rfl) (.cons (hb 5 _ rfl) (.cons (hb 23 _ rfl) (.cons (hb 24 _ rfl) .nil))))))) (fun _ => rfl) (fun γ => ?_)
   generalize (deo (γ 9 0)) = go_32
   generalize (γ 9 1) = gc_33
   clear γ
   refine JQ.at ⟨[(0, ov (S (rL (rU UInt8)) b_1)), (2, ov (PTR gb_2 0)), (4, ov (PTR gb_4 0)), (5, ov (PTR gb_15 0)), (23, ov (S (rI .i64) v20)), (24, ov (S (rI .i64) x_23))], [cvar gb_2 zq0 zq1, cvar gb_4 Zac x_30, cown go_32 Zat x_31 0 gc_33, cvar gb_15 (zq45 go_32 x_31 gc_33) (v7, (v9, (v11, (v13, ((), ())))))], []⟩ <| JQ.outNB <| JQ.then <| JC.region <| lI hx fun v34 hv_34 hx => jc (ZaY lb tR .cI (cs hv_34)) <| jmv rfl rfl <| JL.nil ?_
   try obtain rfl := so hx
   exact JQ.next (go_32, gc_33) rfl (Imp.norm (js := [0, 0, 1, 0]) rfl (.cons rfl (.cons rfl (.cons rfl (.cons rfl (.cons rfl (.cons rfl .nil)))))))
 refine JC.exit <| JQ.outX ?_
 try obtain rfl := so hx
 have ht := hr _ rfl
 have hq2 := cs ht
 clear hr ht
 refine JQ.outX <| JQ.here ?_
 have hz := Option.some.inj hq2
 replace hz := Prod.mk.inj hz
 obtain ⟨hz_a, hz⟩ := hz
 first | subst hz_a | clear hz_a
 first | subst hz | clear hz
 exact JQ.join (go_24, gc_25) (Imp.norm (js := [0, 0, 0, 0]) rfl (.cons rfl (.cons rfl (.cons rfl (.cons rfl .nil)))))

theorem ZfC (k : Nat) (Kind_1 : Int) (From_2 : Int) (To_3 : Int) (ID_4 : Zaf) (Topic_5 : (List UInt8)) (Past_6 : (Vector UInt64 16)) (Past_7 : (Vector UInt64 16)) (Seen_8 : (Vector UInt64 16)) (Hash_9 : (Vector UInt8 32)) (Reply_10 : Bool) (x_12 : Zag) (gb_11 : Nat) (gb_13 : Nat) (r : Zag × Zah) (hm : Zdp k Kind_1 From_2 To_3 ID_4 Topic_5 Past_6 Past_7 Seen_8 Hash_9 Reply_10 x_12 = some r) : Sim Tryz.prog 95 [PTR gb_11 0] [zq34 gb_11 gb_13 Kind_1 From_2 To_3 ID_4 Topic_5 Past_6 Past_7 Seen_8 Hash_9 Reply_10, cvar gb_13 Zac x_12] (γ := Unit) (fun q => [cvar gb_11 (zq50 gb_13) ((), (r.2, ())), cvar gb_13 Zac r.1]) (fun q => .tup []) := by
 unfold Zdp at hm
 refine Sim.of Tryz.func95 rfl rfl (lE rfl) (fun e0 w0 => ?_)
 refine JC.at ⟨[(0, ov (PTR gb_11 0))], [zq34 gb_11 gb_13 Kind_1 From_2 To_3 ID_4 Topic_5 Past_6 Past_7 Seen_8 Hash_9 Reply_10, cvar gb_13 Zac x_12], []⟩ ?_
 obtain ⟨⟨v14, x_15⟩, hv_14, hm⟩ := Zay hm
 obtain ⟨v16, hv_16, hm⟩ := ZaQ hm
 obtain ⟨⟨v17, x_18⟩, hv_17, hm⟩ := Zay hm
 obtain ⟨⟨v19, v20⟩, hv_19, hm⟩ := Zay hm
 refine JC.anyF (base := [(0, ov (PTR gb_11 0))])
     (fs := fun γ => [⟨some 3, ov (PTR gb_11 0)⟩, ⟨some 4, ov (PTR gb_11 0)⟩, ⟨some 5, ov (PTR gb_11 0)⟩, ⟨some 6, ov (PTR gb_11 (0 + 0))⟩, ⟨some 7, ov (PTR gb_13 0)⟩, ⟨some 8, ov (PTR gb_11 0)⟩, ⟨some 9, ov (PTR gb_11 0)⟩, ⟨some 10, ov (PTR gb_11 (0 + 0))⟩, ⟨some 11, ov (PTR gb_13 0)⟩, ⟨some 12, ov (S (rU UInt64) v14)⟩, ⟨some 13, ov (S (rI .i64) v16)⟩, ⟨some 14, ov (S (rL (rU UInt8)) v17)⟩, ⟨some 15, .tup [.val (A Zam v19), .val (S (rI .i64) v20)]⟩, ⟨some 2, .tup [.val (A Zam v19), .val (S (rI .i64) v20)]⟩, ⟨some 16, ov (A Zam v19)⟩, ⟨some 17, ov (S (rI .i64) v20)⟩, ⟨some 18, ov (PTR gb_11 0)⟩, ⟨some 19, ov (PTR gb_11 (0 + 1))⟩, ⟨some 20, ov (PTR gb_11 ((0 + 1) + 4))⟩, ⟨none, .one .any⟩])
     (rs := fun γ => [⟨zq34 gb_11 gb_13 Kind_1 From_2 To_3 ID_4 Topic_5 Past_6 Past_7 Seen_8 Hash_9 Reply_10, none, (some 19), [4, 8]⟩, ⟨cvar gb_13 Zac x_12, none, (some 9), []⟩, ⟨cvar gb_13 Zac x_15, (some 9), (some 11), []⟩, ⟨cvar gb_13 Zac x_18, (some 11), none, []⟩, ⟨zq49 gb_11 gb_13 Kind_1 From_2 To_3 v19 Past_7 Seen_8 Hash_9 Reply_10, (some 19), none, []⟩])
     (afts := nn 20) (js := [0, 0]) ZbT (.cons rfl .nil) (fun _ => rfl)
     (by
      refine db 1 0 <| db 2 0 <| dS 3 (fun γ ρ B hb hd => Zas lb (tl hd 1 4) (fun e v h => by subst h; rfl)) <| dS 4 (fun γ ρ B hb hd => Zaa (off := 0) lb ZbO (tl hd 2 5)) <| dR 5 (fun γ ρ B hb hd => Zan.lk ⟨ρ, (zq34 gb_11 gb_13 Kind_1 From_2 To_3 ID_4 Topic_5 Past_6 Past_7 Seen_8 Hash_9 Reply_10) :: B, _⟩ (ZaM (j := 0) lb tS87 (tl hd 3 6) rfl (Comp.trans (Comp.self (zq29 gb_13) (zq33 Kind_1 From_2 To_3 ID_4 Topic_5 Past_6 Past_7 Seen_8 Hash_9 Reply_10)) (Comp.at' (Comp.inF (Comp.self (rW (PTR gb_13 0)) ()) (lE rfl)) (by rfl : _ = 0)) (lE rfl)))) ?_
      refine db 6 0 <| dS 7 (fun γ ρ B hb hd => Zas lb (tl hd 5 8) (fun e v h => by subst h; rfl)) <| dS 8 (fun γ ρ B hb hd => Zaa (off := 0) lb ZbO (tl hd 6 9)) <| dR 9 (fun γ ρ B hb hd => Zan.lk ⟨ρ, (zq34 gb_11 gb_13 Kind_1 From_2 To_3 ID_4 Topic_5 Past_6 Past_7 Seen_8 Hash_9 Reply_10) :: B, _⟩ (ZaM (j := 0) lb tS87 (tl hd 7 10) rfl (Comp.trans (Comp.self (zq29 gb_13) (zq33 Kind_1 From_2 To_3 ID_4 Topic_5 Past_6 Past_7 Seen_8 Hash_9 Reply_10)) (Comp.at' (Comp.inF (Comp.self (rW (PTR gb_13 0)) ()) (lE rfl)) (by rfl : _ = 0)) (lE rfl)))) <| dR 10 (fun γ ρ B hb hd => Zan.at ⟨ρ, (cvar gb_13 Zac x_12) :: B, _⟩ (setO ⟨ρ, (cvar gb_13 Zac x_15) :: B, _⟩ _ _) ((Zak (js := [0]) ld cl53 (ZaD k (4 : Int) x_12 gb_13 (v14, x_15) hv_14) .func (.cons (tl hd 8 11) (.cons .cI .nil)) rfl).post (fun _ => Imp.refl))) ?_
      refine dS 11 (fun γ ρ B hb hd => Zcf lb tu24 tu3 (tl hd 9 12) hv_16) <| dR 12 (fun γ ρ B hb hd => Zan.at ⟨ρ, (cvar gb_13 Zac x_15) :: B, _⟩ (setO ⟨ρ, (cvar gb_13 Zac x_18) :: B, _⟩ _ _) ((Zak (js := [0]) ld Zmo (ZcQ k v16 x_15 gb_13 (v17, x_18) hv_17) .func (.cons (tl hd 4 7) (.cons (tl hd 10 13) .nil)) rfl).post (fun _ => Imp.refl))) <| dS 13 (fun γ ρ B hb hd => (Zak (js := []) ld ZnP (Zi8 k v17 (v19, v20) hv_19) .func (.cons (tl hd 11 14) .nil) rfl).post (fun _ => Imp.refl)) <| dm 14 12 15 <| dS 15 (fun γ ρ B hb hd => Zaz (i := 0) lb (tl hd 13 2) rfl) ?_
      refine dS 16 (fun γ ρ B hb hd => Zaz (i := 1) lb (tl hd 13 2) rfl) <| dS 17 (fun γ ρ B hb hd => Zas lb (tl hd 0 3) (fun e v h => by subst h; rfl)) <| dS 18 (fun γ ρ B hb hd => Zaa (off := 1) lb ZdF (tl hd 16 18)) <| dS 19 (fun γ ρ B hb hd => Zaa (off := 4) lb Zgi (tl hd 17 19)) <| dR 20 (fun γ ρ B hb hd => Zan.at ⟨ρ, (zq34 gb_11 gb_13 Kind_1 From_2 To_3 ID_4 Topic_5 Past_6 Past_7 Seen_8 Hash_9 Reply_10) :: B, _⟩ (setO ⟨ρ, (zq49 gb_11 gb_13 Kind_1 From_2 To_3 v19 Past_7 Seen_8 Hash_9 Reply_10) :: B, _⟩ _ _) (ZaP (j := 0) tA32 (tl hd 18 20) (tl hd 14 16) rfl ((UpdR.snd (UpdR.fst (UpdR.snd (UpdR.snd (UpdR.snd (UpdR.snd (UpdR.fst (UpdR.self (by rfl))))))))).at (by change (1 + (1 + (1 + (1 + (1 + 0))))) = ((0 + 1) + 4); omega)) rfl)) ?_
      exact ZaG.nil)
     (by decide +kernel) (fun _ => rfl) (fun _ => rfl) (fun _ => rfl) rfl
     (ρ' := fun γ => [])
     (X' := fun γ => [cvar gb_13 Zac x_18, zq49 gb_11 gb_13 Kind_1 From_2 To_3 v19 Past_7 Seen_8 Hash_9 Reply_10])
     (fun γ ρ hb hd => .nil) (fun _ => rfl) (fun γ => ?_)
 refine JQ.at ⟨[], [cvar gb_13 Zac x_18, zq49 gb_11 gb_13 Kind_1 From_2 To_3 v19 Past_7 Seen_8 Hash_9 Reply_10], []⟩ ?_
 obtain rfl := so hm
 refine JQ.pre (Imp.var (j := 1) (q := (zq50 gb_13)) (y := (zq51 Kind_1 From_2 To_3 v19 Past_7 Seen_8 Hash_9 Reply_10)) rfl (Wk.pair Wk.refl (Wk.pair (Wk.st (Wk.pair Wk.refl (Wk.pair Wk.refl (Wk.pair Wk.refl (Wk.pair Wk.nil (Wk.pair Wk.refl (Wk.pair Wk.refl (Wk.pair Wk.refl (Wk.pair Wk.nil (Wk.pair Wk.nil (Wk.pair Wk.refl (Wk.pair Wk.nil (Wk.pair Wk.nil (Wk.pair Wk.refl Wk.refl)))))))))))))) Wk.refl))) ?_
 exact JQ.done (js := [1, 0]) (ss := []) () (.inr rfl) (.nil rfl) rfl .nil rfl rfl rfl

theorem ZfQ (k : Nat) (Kind_1 : Int) (From_2 : Int) (To_3 : Int) (ID_4 : Zaf) (Topic_5 : (List UInt8)) (Past_6 : (Vector UInt64 16)) (Past_7 : (Vector UInt64 16)) (Seen_8 : (Vector UInt64 16)) (Hash_9 : (Vector UInt8 32)) (Reply_10 : Bool) (x_12 : Zag) (gb_11 : Nat) (gb_13 : Nat) (r : Zag × Zah) (hm : ZcT k Kind_1 From_2 To_3 ID_4 Topic_5 Past_6 Past_7 Seen_8 Hash_9 Reply_10 x_12 = some r) : Sim Tryz.prog 97 [PTR gb_11 0] [zq34 gb_11 gb_13 Kind_1 From_2 To_3 ID_4 Topic_5 Past_6 Past_7 Seen_8 Hash_9 Reply_10, cvar gb_13 Zac x_12] (γ := Unit) (fun q => [cvar gb_11 (zq50 gb_13) ((), (r.2, ())), cvar gb_13 Zac r.1]) (fun q => .tup []) := by
 unfold ZcT at hm
 refine Sim.of Tryz.func97 rfl rfl (lE rfl) (fun e0 w0 => ?_)
 refine JC.at ⟨[(0, ov (PTR gb_11 0))], [zq34 gb_11 gb_13 Kind_1 From_2 To_3 ID_4 Topic_5 Past_6 Past_7 Seen_8 Hash_9 Reply_10, cvar gb_13 Zac x_12], []⟩ <| JC.region <| jmv rfl rfl <| jmv rfl rfl <| jc (Zas lb tR (fun e v h => by subst h; rfl)) <| jc (Zaa (off := 0) lb ZbO tR) <| jc (ZaM (j := 0) lb tS87 tR rfl (Comp.trans (Comp.self (zq29 gb_13) (zq33 Kind_1 From_2 To_3 ID_4 Topic_5 Past_6 Past_7 Seen_8 Hash_9 Reply_10)) (Comp.at' (Comp.inF (Comp.self (rW (PTR gb_13 0)) ()) (lE rfl)) (by rfl : _ = 0)) (lE rfl))) ?_
 obtain ⟨⟨v14, x_15⟩, hv_14, hm⟩ := Zay hm
 refine jx (Zak (js := [1]) ld Zl3 (Zb3 k x_12 gb_13 (v14, x_15) hv_14) .func (.cons tR .nil) rfl) fun _ => jc (Zas lb tR (fun e v h => by subst h; rfl)) <| jc (Zaa (off := 1) lb ZdF tR) <| jc (Zaa (off := 25) lb Zgy tR) <| jc (ZaP (j := 1) tA29 tR tR rfl ((UpdR.snd (UpdR.fst (UpdR.snd (UpdR.snd (UpdR.snd (UpdR.snd (UpdR.snd (UpdR.fst (UpdR.self (by rfl)))))))))).at (by change (1 + (1 + (1 + (1 + (1 + (21 + 0)))))) = ((0 + 1) + 25); omega)) rfl) <| JL.sub ⟨[], [cvar gb_13 Zac x_15, zq34 gb_11 gb_13 Kind_1 From_2 To_3 ID_4 Topic_5 Past_6 v14 Seen_8 Hash_9 Reply_10], []⟩ .nil rfl rfl <| JL.nil ?_
 obtain rfl := so hm
 refine JQ.pre (Imp.var (j := 1) (q := (zq50 gb_13)) (y := (zq52 Kind_1 From_2 To_3 ID_4 Topic_5 Past_6 v14 Seen_8 Hash_9 Reply_10)) rfl (Wk.pair Wk.refl (Wk.pair (Wk.st (Wk.pair Wk.refl (Wk.pair Wk.refl (Wk.pair Wk.refl (Wk.pair Wk.nil (Wk.pair (Wk.st (Wk.pair Wk.refl (Wk.pair Wk.refl (Wk.pair Wk.nil (Wk.pair Wk.refl (Wk.pair Wk.nil Wk.refl)))))) (Wk.pair Wk.refl (Wk.pair Wk.refl (Wk.pair Wk.nil (Wk.pair Wk.nil (Wk.pair Wk.refl (Wk.pair Wk.nil (Wk.pair Wk.nil (Wk.pair Wk.refl Wk.refl)))))))))))))) Wk.refl))) ?_
 exact JQ.done (js := [1, 0]) (ss := []) () (.inr rfl) (.nil rfl) rfl .nil rfl rfl rfl

theorem ZcL (k : Nat) (n_1 : Int) (r_2 : Zag) (gb_3 : Nat) (r : (List Zaf) × Zag) (hm : frame_listapi_Dot k n_1 r_2 = some r) : Sim Tryz.prog 134 [PTR gb_3 0, S (rI .i64) n_1, BND 135 [PTR gb_3 0]] [cvar gb_3 Zac r_2] (γ := Option Nat × Nat) (fun q => [cown q.1 Zad r.1 0 q.2, cvar gb_3 Zac r.2]) (fun q => .one (.val (HDR q.1 0 (List.length r.1) q.2))) := by
 unfold frame_listapi_Dot at hm
 refine Sim.of Tryz.func134 rfl rfl (lE rfl) (fun e0 w0 => ?_)
 refine JC.at ⟨[(0, ov (PTR gb_3 0)), (1, ov (S (rI .i64) n_1)), (2, ov (BND 135 [PTR gb_3 0]))], [cvar gb_3 Zac r_2], []⟩ <| jr <| jc (Zab lb HasO.nilH) <| jn <| jr <| jc (Zab lb HasO.nilH) <| jn <| bI hm fun tv1 hx1 hq1 => JC.seqK (α := (List Zaf) × Zag) (γ := Option Nat × Nat) (stj := fun v q => ⟨[(7, ov (HDR q.1 0 (List.length v.1) q.2))], [cown q.1 Zad v.1 0 q.2, cvar gb_3 Zac v.2], []⟩) (p := fun v => tv1 = (.inl v)) (fun v q hv => ?_) ?_
 · subst hv
   obtain ⟨l_21, x_22⟩ := v
   obtain ⟨go_23, gc_24⟩ := q
   dsimp only at hq1
   refine JC.at ⟨[(7, ov (HDR go_23 0 (List.length l_21) gc_24))], [cown go_23 Zad l_21 0 gc_24, cvar gb_3 Zac x_22], []⟩ <| jr <| jmv rfl rfl <| jc (Zab lb tR) <| jn <| JC.ret ?_
   obtain rfl := so hq1
   exact JQ.done (js := [0, 0]) (ss := [.val (HDR go_23 0 (List.length l_21) gc_24)]) (go_23, gc_24) (.inl rfl) (.nil rfl) rfl (.cons (.tmp rfl) .nil) rfl rfl rfl
 refine jr <| jmv rfl rfl <| jc (Zax lb .cI) <| jn <| JC.block <| bI hx1 fun tv2 hL2 hq2 => JC.pre (Imp.nilown Zad) <| JC.pre ?_ (JC.loop (γ := Option Nat × Nat) (stf := fun s q => ⟨[(0, ov (PTR gb_3 0)), (2, ov (BND 135 [PTR gb_3 0])), (7, ov (HDR q.1 0 (List.length s.2.1) q.2)), (8, ov (S (rI .i64) n_1)), (9, ov (S (rI .i64) s.2.2))], [cvar gb_3 Zac s.1, cown q.1 Zad s.2.1 0 q.2], []⟩) (q := (none, 0)) hL2 ?_)
 · exact (Imp.norm (js := [0, 0]) rfl (.cons rfl (.cons rfl (.cons rfl (.cons rfl (.cons rfl .nil))))))
 intro s q x hx hr
 obtain ⟨r_4, l_5, x_6⟩ := s
 obtain ⟨go_7, gc_8⟩ := q
 change frame_listapi_Dot.b1 k n_1 r_4 l_5 x_6 = some x at hx
 unfold frame_listapi_Dot.b1 at hx
 refine JC.at ⟨[(0, ov (PTR gb_3 0)), (2, ov (BND 135 [PTR gb_3 0])), (7, ov (HDR go_7 0 (List.length l_5) gc_8)), (8, ov (S (rI .i64) n_1)), (9, ov (S (rI .i64) x_6))], [cvar gb_3 Zac r_4, cown go_7 Zad l_5 0 gc_8], []⟩ <| jr <| lI hx fun v9 hv_9 hx => jc (Zaq lb tR tR (cs hv_9)) <| jn <| JC.seq <| jif tR hx (fun hc3 hx => ?_) (fun hc3 hx => ?_)
 · refine JC.skip <| JQ.then <| JC.seq <| JC.block <| JC.seq <| jr <| jmv rfl rfl <| bI hx fun v10 hv_10 hx => jx (Zak (js := [0]) ld ZiU (Za2 k r_4 gb_3 v10 hv_10) .func (.cons tR .nil) rfl) fun _ => jn <| jif tR hx (fun hc4 hx => ?_) (fun hc4 hx => ?_)
   · refine jr <| jc (Zab lb HasO.nilH) <| jn <| JC.ret <| JQ.outR <| JQ.outRB <| JQ.outR ?_
     try obtain rfl := so hx
     try obtain rfl := hr _ rfl
     dsimp only at hq2
     refine JQ.outR <| JQ.outRB ?_
     try obtain rfl := so hq2
     dsimp only at hq1
     refine JQ.outR ?_
     obtain rfl := so hq1
     exact JQ.pre (Imp.nilown Zad) <| JQ.done (js := [2, 0]) (ss := [.val (HDR none 0 (List.length ([] : (List Zaf))) (0))]) (none, 0) (.inl rfl) (.nil rfl) rfl (.cons (.tmp rfl) .nil) rfl rfl rfl
   refine JC.skip <| JQ.then <| JC.region <| jmv rfl rfl <| jmv rfl rfl ?_
   obtain ⟨⟨v11, x_12⟩, hv_11, hx⟩ := Zay hx
   refine jx (Zhv (js := [0]) ld ZkN (Zcu k r_4 gb_3 (v11, x_12) hv_11) tR .nil rfl) fun _ => jc (Zca (r := Zad) lb tu33 tz26 tZ26 rfl (lE rfl) (.A tR .nil) rfl) <| bI hx fun l_13 hv_l_13 hx => jx (Zbp (j := 1) lb tu33 tu33 rfl tB26 rfl (Nat.lt_of_lt_of_le Nat.zero_lt_one (lE rfl)) (Nat.lt_of_lt_of_le Nat.zero_lt_one (lE rfl))  rfl tR tR hv_l_13) (fun q => ?_)
   obtain ⟨go_14, gc_15⟩ := q
   refine JL.sub ⟨[(0, ov (PTR gb_3 0)), (2, ov (BND 135 [PTR gb_3 0])), (8, ov (S (rI .i64) n_1)), (9, ov (S (rI .i64) x_6)), (17, ov (HDR go_14 0 (List.length l_13) gc_15))], [cvar gb_3 Zac x_12, cown go_14 Zad l_13 0 gc_15], []⟩ (.cons rfl (.cons rfl (.cons rfl (.cons rfl (.cons rfl .nil))))) rfl rfl <| jc (Zab lb tR) <| JL.nil <| JQ.outNB <| JQ.then <| JC.region <| lI hx fun v16 hv_16 hx => jc (ZaY lb tR .cI (cs hv_16)) <| jmv rfl rfl <| JL.nil ?_
   try obtain rfl := so hx
   exact JQ.next (go_14, gc_15) rfl (Imp.norm (js := [0, 0]) rfl (.cons rfl (.cons rfl (.cons rfl (.cons rfl (.cons rfl .nil))))))
 refine JC.exit <| JQ.outX ?_
 try obtain rfl := so hx
 try obtain rfl := hr _ rfl
 dsimp only at hq2
 refine JQ.outX <| JQ.here ?_
 try obtain rfl := so hq2
 exact JQ.joinK (l_5, r_4) (go_7, gc_8) rfl (Imp.norm (js := [1, 0]) rfl (.cons rfl .nil))

theorem ZfK (k : Nat) (Kind_1 : Int) (From_2 : Int) (To_3 : Int) (ID_4 : Zaf) (Topic_5 : (List UInt8)) (Past_6 : (Vector UInt64 16)) (Past_7 : (Vector UInt64 16)) (Seen_8 : (Vector UInt64 16)) (Hash_9 : (Vector UInt8 32)) (Reply_10 : Bool) (x_12 : Zag) (gb_11 : Nat) (gb_13 : Nat) (r : Zag × (Vector UInt64 16) × (List Zaf)) (hm : ZcZ k Kind_1 From_2 To_3 ID_4 Topic_5 Past_6 Past_7 Seen_8 Hash_9 Reply_10 x_12 = some r) : Sim Tryz.prog 133 [PTR gb_11 0] [zq34 gb_11 gb_13 Kind_1 From_2 To_3 ID_4 Topic_5 Past_6 Past_7 Seen_8 Hash_9 Reply_10, cvar gb_13 Zac x_12] (γ := Option Nat × Nat) (fun q => [cvar gb_11 (rP (rW (PTR gb_13 0)) (rP (rP (rI .i64) (rP (rI .i64) (rP (rI .i64) (rP (rW (HDR none 0 0 0)) (rP (rP Zad (rP rS (rP (rW (HDR none 0 0 0)) (rP (rV 16 (rU UInt64)) (rP (rW (HDR none 0 0 0)) r0))))) (rP (rV 16 (rU UInt64)) (rP (rV 16 (rU UInt64)) (rP (rW (HDR q.1 0 (List.length r.2.2) q.2)) (rP (rW (HDR none 0 0 0)) (rP (rV 32 (rU UInt8)) (rP (rW (HDR none 0 0 0)) (rP (rW (HDR none 0 0 0)) (rP rB r0))))))))))))) r0)) ((), ((Kind_1, (From_2, (To_3, ((), ((ID_4, (Topic_5, ((), (Past_6, ((), ()))))), (Past_7, (r.2.1, ((), ((), (Hash_9, ((), ((), (Reply_10, ()))))))))))))), ())), cvar gb_13 Zac r.1, cown q.1 Zad r.2.2 0 q.2]) (fun q => .tup []) := by
 unfold ZcZ at hm
 refine Sim.of Tryz.func133 rfl rfl (lE rfl) (fun e0 w0 => ?_)
 refine JC.at ⟨[(0, ov (PTR gb_11 0))], [zq34 gb_11 gb_13 Kind_1 From_2 To_3 ID_4 Topic_5 Past_6 Past_7 Seen_8 Hash_9 Reply_10, cvar gb_13 Zac x_12], []⟩ <| jr <| jmv rfl rfl <| jmv rfl rfl <| jc (Zas lb tR (fun e v h => by subst h; rfl)) <| jc (Zaa (off := 0) lb ZbO tR) <| jc (ZaM (j := 0) lb tS87 tR rfl (Comp.trans (Comp.self (zq29 gb_13) (zq33 Kind_1 From_2 To_3 ID_4 Topic_5 Past_6 Past_7 Seen_8 Hash_9 Reply_10)) (Comp.at' (Comp.inF (Comp.self (rW (PTR gb_13 0)) ()) (lE rfl)) (by rfl : _ = 0)) (lE rfl))) ?_
 obtain ⟨⟨v14, x_15⟩, hv_14, hm⟩ := Zay hm
 refine jx (Zak (js := [1]) ld Zl3 (Zb3 k x_12 gb_13 (v14, x_15) hv_14) .func (.cons tR .nil) rfl) fun _ => jc (Zas lb tR (fun e v h => by subst h; rfl)) <| jc (Zaa (off := 1) lb ZdF tR) <| jc (Zaa (off := 41) lb Ze8 tR) <| jc (ZaP (j := 1) tA29 tR tR rfl ((UpdR.snd (UpdR.fst (UpdR.snd (UpdR.snd (UpdR.snd (UpdR.snd (UpdR.snd (UpdR.snd (UpdR.fst (UpdR.self (by rfl))))))))))).at (by change (1 + (1 + (1 + (1 + (1 + (21 + (16 + 0))))))) = ((0 + 1) + 41); omega)) rfl) <| JL.sub ⟨[(0, ov (PTR gb_11 0))], [cvar gb_13 Zac x_15, zq34 gb_11 gb_13 Kind_1 From_2 To_3 ID_4 Topic_5 Past_6 Past_7 v14 Hash_9 Reply_10], []⟩ (.cons rfl .nil) rfl rfl <| jn <| jr <| jmv rfl rfl ?_
 obtain ⟨⟨v16, x_17⟩, hv_16, hm⟩ := Zay hm
 refine jx (Zak (js := [1, 0]) ld Zk4 (ZdG k Kind_1 From_2 To_3 ID_4 Topic_5 Past_6 Past_7 v14 Hash_9 Reply_10 x_15 gb_11 gb_13 (v16, x_17) hv_16) .func (.cons tR .nil) rfl) fun _ => jc (Zab lb tR) <| jn ?_
 obtain ⟨⟨v18, x_19⟩, hv_18, hm⟩ := Zay hm
 refine JC.anyF (base := [(0, ov (PTR gb_11 0)), (2, ov (S (rI .i64) v16))])
     (fs := fun γ => [⟨some 14, ov (PTR gb_11 0)⟩, ⟨some 15, ov (PTR gb_11 0)⟩, ⟨some 16, ov (PTR gb_11 0)⟩, ⟨some 17, ov (PTR gb_11 (0 + 0))⟩, ⟨some 18, ov (PTR gb_13 0)⟩, ⟨some 19, ov (S (rI .i64) v16)⟩, ⟨some 20, ov (PTR gb_11 0)⟩, ⟨some 21, ov (PTR gb_11 0)⟩, ⟨some 22, ov (PTR gb_11 (0 + 0))⟩, ⟨some 23, ov (PTR gb_13 0)⟩, ⟨some 24, ov (BND 135 [PTR gb_13 0])⟩, ⟨some 25, ov (HDR (deo (γ 11 0)) 0 (List.length v18) (γ 11 1))⟩, ⟨some 26, ov (PTR gb_11 0)⟩, ⟨some 27, ov (PTR gb_11 (0 + 1))⟩, ⟨some 28, ov (PTR gb_11 ((0 + 1) + 57))⟩, ⟨none, .one .any⟩])
     (rs := fun γ => [⟨zq34 gb_11 gb_13 Kind_1 From_2 To_3 ID_4 Topic_5 Past_6 Past_7 v14 Hash_9 Reply_10, none, (some 15), [4, 9]⟩, ⟨cvar gb_13 Zac x_17, none, (some 11), []⟩, ⟨cown (deo (γ 11 0)) Zad v18 0 (γ 11 1), (some 11), none, []⟩, ⟨cvar gb_13 Zac x_19, (some 11), none, []⟩, ⟨zq54 gb_11 gb_13 (deo (γ 11 0)) v18 (γ 11 1) Kind_1 From_2 To_3 ID_4 Topic_5 Past_6 Past_7 v14 Hash_9 Reply_10, (some 15), none, []⟩])
     (afts := [[], [], [], [], [], [], [], [], [], [], [], [11, 12, 13, 14, 15], [], [], [], []]) (js := [0, 0]) ZbT (.cons rfl (.cons rfl .nil)) (fun _ => rfl)
     (by
      refine db 1 0 <| db 2 0 <| dS 3 (fun γ ρ B hb hd => Zas lb (tl hd 1 15) (fun e v h => by subst h; rfl)) <| dS 4 (fun γ ρ B hb hd => Zaa (off := 0) lb ZbO (tl hd 2 16)) <| dR 5 (fun γ ρ B hb hd => Zan.lk ⟨ρ, (zq34 gb_11 gb_13 Kind_1 From_2 To_3 ID_4 Topic_5 Past_6 Past_7 v14 Hash_9 Reply_10) :: B, _⟩ (ZaM (j := 0) lb tS87 (tl hd 3 17) rfl (Comp.trans (Comp.self (zq29 gb_13) (zq33 Kind_1 From_2 To_3 ID_4 Topic_5 Past_6 Past_7 v14 Hash_9 Reply_10)) (Comp.at' (Comp.inF (Comp.self (rW (PTR gb_13 0)) ()) (lE rfl)) (by rfl : _ = 0)) (lE rfl)))) ?_
      refine db 6 2 <| db 7 0 <| dS 8 (fun γ ρ B hb hd => Zas lb (tl hd 6 20) (fun e v h => by subst h; rfl)) <| dS 9 (fun γ ρ B hb hd => Zaa (off := 0) lb ZbO (tl hd 7 21)) <| dR 10 (fun γ ρ B hb hd => Zan.lk ⟨ρ, (zq34 gb_11 gb_13 Kind_1 From_2 To_3 ID_4 Topic_5 Past_6 Past_7 v14 Hash_9 Reply_10) :: B, _⟩ (ZaM (j := 0) lb tS87 (tl hd 8 22) rfl (Comp.trans (Comp.self (zq29 gb_13) (zq33 Kind_1 From_2 To_3 ID_4 Topic_5 Past_6 Past_7 v14 Hash_9 Reply_10)) (Comp.at' (Comp.inF (Comp.self (rW (PTR gb_13 0)) ()) (lE rfl)) (by rfl : _ = 0)) (lE rfl)))) ?_
      refine dS 11 (fun γ ρ B hb hd => Zeg lb (.cons (tl hd 9 23) .nil)) ?_
      refine ZaG.cons (j := 12) rfl (fun _ => rfl) (.runX (fun _ _ => rfl) (fun γ ρ B hb hd => ⟨.none, OpX.ghost (γ := Option Nat × Nat) (st' := fun q => setO ⟨ρ, (cown q.1 Zad v18 0 q.2) :: (cvar gb_13 Zac x_19) :: B, _⟩ (some 25) (ov (HDR q.1 0 (List.length v18) q.2))) (fun q c => bif Nat.beq c 0 then eno q.1 else q.2) (Zak (js := [0]) ld ZmR (ZcL k v16 x_17 gb_13 (v18, x_19) hv_18) .func (.cons (tl hd 4 18) (.cons (tl hd 5 19) (.cons (tl hd 10 24) .nil))) rfl) (fun q => by obtain ⟨q0, q1⟩ := q; cases q0 <;> exact Imp.refl)⟩) (fun _ _ => rfl) (fun _ _ => rfl)) ?_
      refine dS 13 (fun γ ρ B hb hd => Zas lb (tl hd 0 14) (fun e v h => by subst h; rfl)) <| dS 14 (fun γ ρ B hb hd => Zaa (off := 1) lb ZdF (tl hd 12 26)) <| dS 15 (fun γ ρ B hb hd => Zaa (off := 57) lb ZeH (tl hd 13 27)) <| dR 16 (fun γ ρ B hb hd => Zan.at ⟨ρ, (zq34 gb_11 gb_13 Kind_1 From_2 To_3 ID_4 Topic_5 Past_6 Past_7 v14 Hash_9 Reply_10) :: B, _⟩ (setO ⟨ρ, (zq54 gb_11 gb_13 (deo (γ 11 0)) v18 (γ 11 1) Kind_1 From_2 To_3 ID_4 Topic_5 Past_6 Past_7 v14 Hash_9 Reply_10) :: B, _⟩ _ _) (ZbD (j := 0) tS33 (tl hd 14 28) (tl hd 11 25) rfl ((UpdR.snd (UpdR.fst (UpdR.snd (UpdR.snd (UpdR.snd (UpdR.snd (UpdR.snd (UpdR.snd (UpdR.snd (UpdR.fst (UpdR.self (by rfl)))))))))))).at (by change (1 + (1 + (1 + (1 + (1 + (21 + (16 + (16 + 0)))))))) = ((0 + 1) + 57); omega)) rfl)) ?_
      exact ZaG.nil)
     (by decide +kernel) (fun _ => rfl) (fun _ => rfl) (fun _ => rfl) rfl
     (ρ' := fun γ => [])
     (X' := fun γ => [cown (deo (γ 11 0)) Zad v18 0 (γ 11 1), cvar gb_13 Zac x_19, zq54 gb_11 gb_13 (deo (γ 11 0)) v18 (γ 11 1) Kind_1 From_2 To_3 ID_4 Topic_5 Past_6 Past_7 v14 Hash_9 Reply_10])
     (fun γ ρ hb hd => .nil) (fun _ => rfl) (fun γ => ?_)
 generalize (deo (γ 11 0)) = go_20
 generalize (γ 11 1) = gc_21
 clear γ
 refine JQ.at ⟨[], [cown go_20 Zad v18 0 gc_21, cvar gb_13 Zac x_19, zq54 gb_11 gb_13 go_20 v18 gc_21 Kind_1 From_2 To_3 ID_4 Topic_5 Past_6 Past_7 v14 Hash_9 Reply_10], []⟩ ?_
 obtain rfl := so hm
 exact JQ.done (js := [2, 1, 0]) (ss := []) (go_20, gc_21) (.inr rfl) (.nil rfl) rfl .nil rfl rfl rfl

theorem ZeV (k : Nat) (Kind_1 : Int) (From_2 : Int) (To_3 : Int) (ID_4 : Zaf) (Topic_5 : (List UInt8)) (Past_6 : (Vector UInt64 16)) (Past_7 : (Vector UInt64 16)) (Seen_8 : (Vector UInt64 16)) (Hash_9 : (Vector UInt8 32)) (Reply_10 : Bool) (x_12 : Zag) (x_14 : (List Zaf)) (gb_11 : Nat) (gb_13 : Nat) (go_15 : Option Nat) (gc_16 : Nat) (r : Int × Zag) (hm : ZbS k Kind_1 From_2 To_3 ID_4 Topic_5 Past_6 Past_7 Seen_8 Hash_9 Reply_10 x_12 x_14 = some r) : Sim Tryz.prog 123 [PTR gb_11 0] [zq54 gb_11 gb_13 go_15 x_14 gc_16 Kind_1 From_2 To_3 ID_4 Topic_5 Past_6 Past_7 Seen_8 Hash_9 Reply_10, cvar gb_13 Zac x_12, cown go_15 Zad x_14 0 gc_16] (γ := Unit) (fun q => [zq54 gb_11 gb_13 go_15 x_14 gc_16 Kind_1 From_2 To_3 ID_4 Topic_5 Past_6 Past_7 Seen_8 Hash_9 Reply_10, cvar gb_13 Zac r.2, cown go_15 Zad x_14 0 gc_16]) (fun q => .one (.val (S (rI .i64) r.1))) := by
 unfold ZbS at hm
 refine Sim.of Tryz.func123 rfl rfl (lE rfl) (fun e0 w0 => ?_)
 refine JC.at ⟨[(0, ov (PTR gb_11 0))], [zq54 gb_11 gb_13 go_15 x_14 gc_16 Kind_1 From_2 To_3 ID_4 Topic_5 Past_6 Past_7 Seen_8 Hash_9 Reply_10, cvar gb_13 Zac x_12, cown go_15 Zad x_14 0 gc_16], []⟩ <| jr <| jc (Zab lb .cI) <| jn <| jr <| jmv rfl rfl <| jc (Zas lb tR (fun e v h => by subst h; rfl)) <| jc (Zaa (off := 0) lb ZbO tR) <| jc (ZaM (j := 0) lb tS87 tR rfl (Comp.trans (Comp.self (zq53 gb_13 go_15 x_14 gc_16) (zq33 Kind_1 From_2 To_3 ID_4 Topic_5 Past_6 Past_7 Seen_8 Hash_9 Reply_10)) (Comp.at' (Comp.inF (Comp.self (rW (PTR gb_13 0)) ()) (lE rfl)) (by rfl : _ = 0)) (lE rfl))) ?_
 obtain ⟨⟨v17, x_18⟩, hv_17, hm⟩ := Zay hm
 refine jx (Zak (js := [1]) ld cl53 (ZaD k (2 : Int) x_12 gb_13 (v17, x_18) hv_17) .func (.cons tR (.cons .cI .nil)) rfl) fun _ => lI hm fun v19 hv_19 hm => jc (Zcf lb tu24 tu3 tR hv_19) <| jc (Zab lb tR) <| jn <| JC.ret ?_
 obtain rfl := so hm
 refine JQ.pre (Imp.var (j := 1) (q := (zq53 gb_13 go_15 x_14 gc_16)) (y := (zq33 Kind_1 From_2 To_3 ID_4 Topic_5 Past_6 Past_7 Seen_8 Hash_9 Reply_10)) rfl Wk.refl) ?_
 exact JQ.done (js := [1, 0, 0]) (ss := [.val (S (rI .i64) v19)]) () (.inl rfl) (.nil rfl) rfl (.cons (.tmp rfl) .nil) rfl rfl rfl

theorem Zfz (k : Nat) (Kind_1 : Int) (From_2 : Int) (To_3 : Int) (ID_4 : Zaf) (Topic_5 : (List UInt8)) (Past_6 : (Vector UInt64 16)) (Past_7 : (Vector UInt64 16)) (Seen_8 : (Vector UInt64 16)) (Hash_9 : (Vector UInt8 32)) (Reply_10 : Bool) (x_12 : Zag) (gb_11 : Nat) (gb_13 : Nat) (r : Zag × (Vector UInt64 16) × (List Zaf) × (List Zaf)) (hm : ZcF k Kind_1 From_2 To_3 ID_4 Topic_5 Past_6 Past_7 Seen_8 Hash_9 Reply_10 x_12 = some r) : Sim Tryz.prog 99 [PTR gb_11 0] [zq34 gb_11 gb_13 Kind_1 From_2 To_3 ID_4 Topic_5 Past_6 Past_7 Seen_8 Hash_9 Reply_10, cvar gb_13 Zac x_12] (γ := Option Nat × Nat × Option Nat × Nat) (fun q => [cvar gb_11 (rP (rW (PTR gb_13 0)) (rP (rP (rI .i64) (rP (rI .i64) (rP (rI .i64) (rP (rW (HDR none 0 0 0)) (rP (rP Zad (rP rS (rP (rW (HDR none 0 0 0)) (rP (rV 16 (rU UInt64)) (rP (rW (HDR none 0 0 0)) r0))))) (rP (rV 16 (rU UInt64)) (rP (rV 16 (rU UInt64)) (rP (rW (HDR q.1 0 (List.length r.2.2.1) q.2.1)) (rP (rW (HDR q.2.2.1 0 (List.length r.2.2.2) q.2.2.2)) (rP (rV 32 (rU UInt8)) (rP (rW (HDR none 0 0 0)) (rP (rW (HDR none 0 0 0)) (rP rB r0))))))))))))) r0)) ((), ((Kind_1, (From_2, (To_3, ((), ((ID_4, (Topic_5, ((), (Past_6, ((), ()))))), (Past_7, (r.2.1, ((), ((), (Hash_9, ((), ((), (Reply_10, ()))))))))))))), ())), cvar gb_13 Zac r.1, cown q.1 Zad r.2.2.1 0 q.2.1, cown q.2.2.1 Zad r.2.2.2 0 q.2.2.2]) (fun q => .tup []) := by
 unfold ZcF at hm
 refine Sim.of Tryz.func99 rfl rfl (lE rfl) (fun e0 w0 => ?_)
 refine JC.at ⟨[(0, ov (PTR gb_11 0))], [zq34 gb_11 gb_13 Kind_1 From_2 To_3 ID_4 Topic_5 Past_6 Past_7 Seen_8 Hash_9 Reply_10, cvar gb_13 Zac x_12], []⟩ <| jr <| jmv rfl rfl ?_
 obtain ⟨⟨x_14, x_15, x_16⟩, hv_x_14, hm⟩ := Zay hm
 refine jx (Zak (js := [0, 0]) ld Zm7 (ZfK k Kind_1 From_2 To_3 ID_4 Topic_5 Past_6 Past_7 Seen_8 Hash_9 Reply_10 x_12 gb_11 gb_13 (x_14, x_15, x_16) hv_x_14) .func (.cons tR .nil) rfl) (fun q => ?_)
 obtain ⟨go_17, gc_18⟩ := q
 refine jn <| jr <| jmv rfl rfl ?_
 obtain ⟨⟨v19, x_20⟩, hv_19, hm⟩ := Zay hm
 refine jx (Zak (js := [0, 0, 0]) ld Zk4 (ZeV k Kind_1 From_2 To_3 ID_4 Topic_5 Past_6 Past_7 x_15 Hash_9 Reply_10 x_14 x_16 gb_11 gb_13 go_17 gc_18 (v19, x_20) hv_19) .func (.cons tR .nil) rfl) fun _ => jc (Zab lb tR) <| jn ?_
 obtain ⟨⟨v21, x_22⟩, hv_21, hm⟩ := Zay hm
 refine JC.anyF (base := [(0, ov (PTR gb_11 0)), (2, ov (S (rI .i64) v19))])
     (fs := fun γ => [⟨some 7, ov (PTR gb_11 0)⟩, ⟨some 8, ov (PTR gb_11 0)⟩, ⟨some 9, ov (PTR gb_11 0)⟩, ⟨some 10, ov (PTR gb_11 (0 + 0))⟩, ⟨some 11, ov (PTR gb_13 0)⟩, ⟨some 12, ov (S (rI .i64) v19)⟩, ⟨some 13, ov (PTR gb_11 0)⟩, ⟨some 14, ov (PTR gb_11 0)⟩, ⟨some 15, ov (PTR gb_11 (0 + 0))⟩, ⟨some 16, ov (PTR gb_13 0)⟩, ⟨some 17, ov (BND 135 [PTR gb_13 0])⟩, ⟨some 18, ov (HDR (deo (γ 11 0)) 0 (List.length v21) (γ 11 1))⟩, ⟨some 19, ov (PTR gb_11 0)⟩, ⟨some 20, ov (PTR gb_11 (0 + 1))⟩, ⟨some 21, ov (PTR gb_11 ((0 + 1) + 58))⟩, ⟨none, .one .any⟩])
     (rs := fun γ => [⟨zq54 gb_11 gb_13 go_17 x_16 gc_18 Kind_1 From_2 To_3 ID_4 Topic_5 Past_6 Past_7 x_15 Hash_9 Reply_10, none, (some 15), [4, 9]⟩, ⟨cvar gb_13 Zac x_20, none, (some 11), []⟩, ⟨cown go_17 Zad x_16 0 gc_18, none, none, []⟩, ⟨cown (deo (γ 11 0)) Zad v21 0 (γ 11 1), (some 11), none, []⟩, ⟨cvar gb_13 Zac x_22, (some 11), none, []⟩, ⟨zq56 gb_11 gb_13 go_17 x_16 gc_18 (deo (γ 11 0)) v21 (γ 11 1) Kind_1 From_2 To_3 ID_4 Topic_5 Past_6 Past_7 x_15 Hash_9 Reply_10, (some 15), none, []⟩])
     (afts := [[], [], [], [], [], [], [], [], [], [], [], [11, 12, 13, 14, 15], [], [], [], []]) (js := [0, 0, 0]) ZbT (.cons rfl (.cons rfl .nil)) (fun _ => rfl)
     (by
      refine db 1 0 <| db 2 0 <| dS 3 (fun γ ρ B hb hd => Zas lb (tl hd 1 8) (fun e v h => by subst h; rfl)) <| dS 4 (fun γ ρ B hb hd => Zaa (off := 0) lb ZbO (tl hd 2 9)) <| dR 5 (fun γ ρ B hb hd => Zan.lk ⟨ρ, (zq54 gb_11 gb_13 go_17 x_16 gc_18 Kind_1 From_2 To_3 ID_4 Topic_5 Past_6 Past_7 x_15 Hash_9 Reply_10) :: B, _⟩ (ZaM (j := 0) lb tS87 (tl hd 3 10) rfl (Comp.trans (Comp.self (zq53 gb_13 go_17 x_16 gc_18) (zq33 Kind_1 From_2 To_3 ID_4 Topic_5 Past_6 Past_7 x_15 Hash_9 Reply_10)) (Comp.at' (Comp.inF (Comp.self (rW (PTR gb_13 0)) ()) (lE rfl)) (by rfl : _ = 0)) (lE rfl)))) ?_
      refine db 6 2 <| db 7 0 <| dS 8 (fun γ ρ B hb hd => Zas lb (tl hd 6 13) (fun e v h => by subst h; rfl)) <| dS 9 (fun γ ρ B hb hd => Zaa (off := 0) lb ZbO (tl hd 7 14)) <| dR 10 (fun γ ρ B hb hd => Zan.lk ⟨ρ, (zq54 gb_11 gb_13 go_17 x_16 gc_18 Kind_1 From_2 To_3 ID_4 Topic_5 Past_6 Past_7 x_15 Hash_9 Reply_10) :: B, _⟩ (ZaM (j := 0) lb tS87 (tl hd 8 15) rfl (Comp.trans (Comp.self (zq53 gb_13 go_17 x_16 gc_18) (zq33 Kind_1 From_2 To_3 ID_4 Topic_5 Past_6 Past_7 x_15 Hash_9 Reply_10)) (Comp.at' (Comp.inF (Comp.self (rW (PTR gb_13 0)) ()) (lE rfl)) (by rfl : _ = 0)) (lE rfl)))) ?_
      refine dS 11 (fun γ ρ B hb hd => Zeg lb (.cons (tl hd 9 16) .nil)) ?_
      refine ZaG.cons (j := 12) rfl (fun _ => rfl) (.runX (fun _ _ => rfl) (fun γ ρ B hb hd => ⟨.none, OpX.ghost (γ := Option Nat × Nat) (st' := fun q => setO ⟨ρ, (cown q.1 Zad v21 0 q.2) :: (cvar gb_13 Zac x_22) :: B, _⟩ (some 18) (ov (HDR q.1 0 (List.length v21) q.2))) (fun q c => bif Nat.beq c 0 then eno q.1 else q.2) (Zak (js := [0]) ld ZmR (ZcL k v19 x_20 gb_13 (v21, x_22) hv_21) .func (.cons (tl hd 4 11) (.cons (tl hd 5 12) (.cons (tl hd 10 17) .nil))) rfl) (fun q => by obtain ⟨q0, q1⟩ := q; cases q0 <;> exact Imp.refl)⟩) (fun _ _ => rfl) (fun _ _ => rfl)) ?_
      refine dS 13 (fun γ ρ B hb hd => Zas lb (tl hd 0 7) (fun e v h => by subst h; rfl)) <| dS 14 (fun γ ρ B hb hd => Zaa (off := 1) lb ZdF (tl hd 12 19)) <| dS 15 (fun γ ρ B hb hd => Zaa (off := 58) lb Zd6 (tl hd 13 20)) <| dR 16 (fun γ ρ B hb hd => Zan.at ⟨ρ, (zq54 gb_11 gb_13 go_17 x_16 gc_18 Kind_1 From_2 To_3 ID_4 Topic_5 Past_6 Past_7 x_15 Hash_9 Reply_10) :: B, _⟩ (setO ⟨ρ, (zq56 gb_11 gb_13 go_17 x_16 gc_18 (deo (γ 11 0)) v21 (γ 11 1) Kind_1 From_2 To_3 ID_4 Topic_5 Past_6 Past_7 x_15 Hash_9 Reply_10) :: B, _⟩ _ _) (ZbD (j := 0) tS33 (tl hd 14 21) (tl hd 11 18) rfl ((UpdR.snd (UpdR.fst (UpdR.snd (UpdR.snd (UpdR.snd (UpdR.snd (UpdR.snd (UpdR.snd (UpdR.snd (UpdR.snd (UpdR.fst (UpdR.self (by rfl))))))))))))).at (by change (1 + (1 + (1 + (1 + (1 + (21 + (16 + (16 + (1 + 0))))))))) = ((0 + 1) + 58); omega)) rfl)) ?_
      exact ZaG.nil)
     (by decide +kernel) (fun _ => rfl) (fun _ => rfl) (fun _ => rfl) rfl
     (ρ' := fun γ => [])
     (X' := fun γ => [cown go_17 Zad x_16 0 gc_18, cown (deo (γ 11 0)) Zad v21 0 (γ 11 1), cvar gb_13 Zac x_22, zq56 gb_11 gb_13 go_17 x_16 gc_18 (deo (γ 11 0)) v21 (γ 11 1) Kind_1 From_2 To_3 ID_4 Topic_5 Past_6 Past_7 x_15 Hash_9 Reply_10])
     (fun γ ρ hb hd => .nil) (fun _ => rfl) (fun γ => ?_)
 generalize (deo (γ 11 0)) = go_23
 generalize (γ 11 1) = gc_24
 clear γ
 refine JQ.at ⟨[], [cown go_17 Zad x_16 0 gc_18, cown go_23 Zad v21 0 gc_24, cvar gb_13 Zac x_22, zq56 gb_11 gb_13 go_17 x_16 gc_18 go_23 v21 gc_24 Kind_1 From_2 To_3 ID_4 Topic_5 Past_6 Past_7 x_15 Hash_9 Reply_10], []⟩ ?_
 obtain rfl := so hm
 exact JQ.done (js := [3, 2, 0, 0]) (ss := []) (go_17, gc_18, go_23, gc_24) (.inr rfl) (.nil rfl) rfl .nil rfl rfl rfl

theorem ZdV (k : Nat) (Kind_1 : Int) (From_2 : Int) (To_3 : Int) (ID_4 : Zaf) (Topic_5 : (List UInt8)) (Past_6 : (Vector UInt64 16)) (Past_7 : (Vector UInt64 16)) (Seen_8 : (Vector UInt64 16)) (Hash_9 : (Vector UInt8 32)) (Reply_10 : Bool) (x_12 : Zag) (gb_11 : Nat) (gb_13 : Nat) (r : (Vector UInt8 32) × Zag) (hm : ZbU k Kind_1 From_2 To_3 ID_4 Topic_5 Past_6 Past_7 Seen_8 Hash_9 Reply_10 x_12 = some r) : Sim Tryz.prog 136 [PTR gb_11 0] [zq34 gb_11 gb_13 Kind_1 From_2 To_3 ID_4 Topic_5 Past_6 Past_7 Seen_8 Hash_9 Reply_10, cvar gb_13 Zac x_12] (γ := Unit) (fun q => [zq34 gb_11 gb_13 Kind_1 From_2 To_3 ID_4 Topic_5 Past_6 Past_7 Seen_8 Hash_9 Reply_10, cvar gb_13 Zac r.2]) (fun q => .one (.val (A (rV 32 (rU UInt8)) r.1))) := by
 unfold ZbU at hm
 refine Sim.of Tryz.func136 rfl rfl (lE rfl) (fun e0 w0 => ?_)
 refine JC.at ⟨[(0, ov (PTR gb_11 0))], [zq34 gb_11 gb_13 Kind_1 From_2 To_3 ID_4 Topic_5 Past_6 Past_7 Seen_8 Hash_9 Reply_10, cvar gb_13 Zac x_12], []⟩ <| jr <| jx (Zbh lb tZ35 zr35) fun gb_14 => jn <| JC.seq ?_
 obtain ⟨⟨v15, x_16⟩, hv_15, hm⟩ := Zay hm
 obtain ⟨h_17, hv_h_17, hm⟩ := ZaQ hm
 refine JC.anyF (base := [(0, ov (PTR gb_11 0)), (2, ov (PTR gb_14 0))])
     (fs := fun γ => [⟨some 3, ov (HDR (some gb_14) (0 + 0 * 1) (32 - 0) (32 - 0))⟩, ⟨some 4, ov (PTR gb_11 0)⟩, ⟨some 5, ov (PTR gb_11 0)⟩, ⟨some 6, ov (PTR gb_11 (0 + 0))⟩, ⟨some 7, ov (PTR gb_13 0)⟩, ⟨some 8, ov (S (rL (rU UInt8)) v15)⟩, ⟨some 9, ov (S (rI .i64) (min (List.length v15 : Int) ((32 - 0 : Nat) : Int)))⟩])
     (rs := fun γ => [⟨zq34 gb_11 gb_13 Kind_1 From_2 To_3 ID_4 Topic_5 Past_6 Past_7 Seen_8 Hash_9 Reply_10, none, none, [4]⟩, ⟨cvar gb_13 Zac x_12, none, (some 5), []⟩, ⟨cvar gb_14 (rV 32 (rU UInt8)) (Vector.replicate 32 (0 : UInt8)), none, (some 6), []⟩, ⟨cvar gb_13 Zac x_16, (some 5), none, []⟩, ⟨cvar gb_14 (rV 32 (rU UInt8)) h_17, (some 6), none, []⟩])
     (afts := nn 7) (js := [0, 0, 0]) ZbT (.cons rfl (.cons rfl .nil)) (fun _ => rfl)
     (by
      refine dS 1 (fun γ ρ B hb hd => Zkj (l := 0) (h := 32) lb tu35 tz5 (.tmp (hb 2 _ rfl)) .none .none (lE rfl) (lE rfl) (ltB rfl)) <| db 2 0 <| dS 3 (fun γ ρ B hb hd => Zas lb (tl hd 1 4) (fun e v h => by subst h; rfl)) <| dS 4 (fun γ ρ B hb hd => Zaa (off := 0) lb ZbO (tl hd 2 5)) <| dR 5 (fun γ ρ B hb hd => Zan.lk ⟨ρ, (zq34 gb_11 gb_13 Kind_1 From_2 To_3 ID_4 Topic_5 Past_6 Past_7 Seen_8 Hash_9 Reply_10) :: B, _⟩ (ZaM (j := 0) lb tS87 (tl hd 3 6) rfl (Comp.trans (Comp.self (zq29 gb_13) (zq33 Kind_1 From_2 To_3 ID_4 Topic_5 Past_6 Past_7 Seen_8 Hash_9 Reply_10)) (Comp.at' (Comp.inF (Comp.self (rW (PTR gb_13 0)) ()) (lE rfl)) (by rfl : _ = 0)) (lE rfl)))) ?_
      refine dR 6 (fun γ ρ B hb hd => Zan.at ⟨ρ, (cvar gb_13 Zac x_12) :: B, _⟩ (setO ⟨ρ, (cvar gb_13 Zac x_16) :: B, _⟩ _ _) ((Zak (js := [0]) ld Zmo (ZcQ k (32 : Int) x_12 gb_13 (v15, x_16) hv_15) .func (.cons (tl hd 4 7) (.cons .cI .nil)) rfl).post (fun _ => Imp.refl))) <| dR 7 (fun γ ρ B hb hd => Zan.at ⟨ρ, (cvar gb_14 (rV 32 (rU UInt8)) (Vector.replicate 32 (0 : UInt8))) :: B, _⟩ (setO ⟨ρ, (cvar gb_14 (rV 32 (rU UInt8)) h_17) :: B, _⟩ _ _) (ZkP (j := 0) ld tu27 tz5 (tl hd 0 3) rfl (Comp.self (rV 32 (rU UInt8)) (Vector.replicate 32 (0 : UInt8))) (UpdR.self (by rfl)) (fun e a w => SrcN.list (tl hd 5 8)) (lE rfl) hv_h_17 rfl rfl)) ?_
      exact ZaG.nil)
     (by decide +kernel) (fun _ => rfl) (fun _ => rfl) (fun _ => rfl) rfl
     (ρ' := fun γ => [(2, ov (PTR gb_14 0))])
     (X' := fun γ => [zq34 gb_11 gb_13 Kind_1 From_2 To_3 ID_4 Topic_5 Past_6 Past_7 Seen_8 Hash_9 Reply_10, cvar gb_13 Zac x_16, cvar gb_14 (rV 32 (rU UInt8)) h_17])
     (fun γ ρ hb hd => (.cons (hb 2 _ rfl) .nil)) (fun _ => rfl) (fun γ => ?_)
 refine JQ.at ⟨[(2, ov (PTR gb_14 0))], [zq34 gb_11 gb_13 Kind_1 From_2 To_3 ID_4 Topic_5 Past_6 Past_7 Seen_8 Hash_9 Reply_10, cvar gb_13 Zac x_16, cvar gb_14 (rV 32 (rU UInt8)) h_17], []⟩ <| JQ.then <| jr <| jc (Zaw (j := 2) lb tA35 tR rfl (Comp.self (rV 32 (rU UInt8)) h_17) rfl) <| jc (ZaP (j := 2) tA35 tR tR rfl (UpdR.self (by rfl)) rfl) <| jn <| JC.ret ?_
 obtain rfl := so hm
 exact JQ.done (js := [0, 0]) (ss := [.val (A (rV 32 (rU UInt8)) h_17)]) () (.inl rfl) (.nil rfl) rfl (.cons (.cellA (j := 2) tA35 rfl rfl) .nil) rfl rfl rfl

theorem ZfX (k : Nat) (Kind_1 : Int) (From_2 : Int) (To_3 : Int) (ID_4 : Zaf) (Topic_5 : (List UInt8)) (Past_6 : (Vector UInt64 16)) (Past_7 : (Vector UInt64 16)) (Seen_8 : (Vector UInt64 16)) (Hash_9 : (Vector UInt8 32)) (Reply_10 : Bool) (x_12 : Zag) (gb_11 : Nat) (gb_13 : Nat) (r : Zag × Zah) (hm : ZcV k Kind_1 From_2 To_3 ID_4 Topic_5 Past_6 Past_7 Seen_8 Hash_9 Reply_10 x_12 = some r) : Sim Tryz.prog 101 [PTR gb_11 0] [zq34 gb_11 gb_13 Kind_1 From_2 To_3 ID_4 Topic_5 Past_6 Past_7 Seen_8 Hash_9 Reply_10, cvar gb_13 Zac x_12] (γ := Unit) (fun q => [cvar gb_11 (zq50 gb_13) ((), (r.2, ())), cvar gb_13 Zac r.1]) (fun q => .tup []) := by
 unfold ZcV at hm
 refine Sim.of Tryz.func101 rfl rfl (lE rfl) (fun e0 w0 => ?_)
 refine JC.at ⟨[(0, ov (PTR gb_11 0))], [zq34 gb_11 gb_13 Kind_1 From_2 To_3 ID_4 Topic_5 Past_6 Past_7 Seen_8 Hash_9 Reply_10, cvar gb_13 Zac x_12], []⟩ <| JC.region <| jmv rfl rfl <| jmv rfl rfl ?_
 obtain ⟨⟨v14, x_15⟩, hv_14, hm⟩ := Zay hm
 refine jx (Zak (js := [0, 0]) ld Zno (ZdV k Kind_1 From_2 To_3 ID_4 Topic_5 Past_6 Past_7 Seen_8 Hash_9 Reply_10 x_12 gb_11 gb_13 (v14, x_15) hv_14) .func (.cons tR .nil) rfl) fun _ => jc (Zas lb tR (fun e v h => by subst h; rfl)) <| jc (Zaa (off := 1) lb ZdF tR) <| jc (Zaa (off := 59) lb ZhM tR) <| jc (ZaP (j := 0) tA35 tR tR rfl ((UpdR.snd (UpdR.fst (UpdR.snd (UpdR.snd (UpdR.snd (UpdR.snd (UpdR.snd (UpdR.snd (UpdR.snd (UpdR.snd (UpdR.snd (UpdR.fst (UpdR.self (by rfl)))))))))))))).at (by change (1 + (1 + (1 + (1 + (1 + (21 + (16 + (16 + (1 + (1 + 0)))))))))) = ((0 + 1) + 59); omega)) rfl) <| JL.nil ?_
 obtain rfl := so hm
 refine JQ.pre (Imp.var (j := 0) (q := (zq50 gb_13)) (y := (zq52 Kind_1 From_2 To_3 ID_4 Topic_5 Past_6 Past_7 Seen_8 v14 Reply_10)) rfl (Wk.pair Wk.refl (Wk.pair (Wk.st (Wk.pair Wk.refl (Wk.pair Wk.refl (Wk.pair Wk.refl (Wk.pair Wk.nil (Wk.pair (Wk.st (Wk.pair Wk.refl (Wk.pair Wk.refl (Wk.pair Wk.nil (Wk.pair Wk.refl (Wk.pair Wk.nil Wk.refl)))))) (Wk.pair Wk.refl (Wk.pair Wk.refl (Wk.pair Wk.nil (Wk.pair Wk.nil (Wk.pair Wk.refl (Wk.pair Wk.nil (Wk.pair Wk.nil (Wk.pair Wk.refl Wk.refl)))))))))))))) Wk.refl))) ?_
 exact JQ.done (js := [0, 0]) (ss := []) () (.inr rfl) (.nil rfl) rfl .nil rfl rfl rfl

theorem ZfA (k : Nat) (n_1 : Int) (r_2 : Zag) (Kind_4 : Int) (From_5 : Int) (To_6 : Int) (ID_7 : Zaf) (Topic_8 : (List UInt8)) (Past_9 : (Vector UInt64 16)) (Past_10 : (Vector UInt64 16)) (Seen_11 : (Vector UInt64 16)) (Hash_12 : (Vector UInt8 32)) (Reply_13 : Bool) (gb_3 : Nat) (gb_14 : Nat) (r : (List (Vector UInt8 32)) × Zag) (hm : frame_listapi_Hash k n_1 r_2 Kind_4 From_5 To_6 ID_7 Topic_8 Past_9 Past_10 Seen_11 Hash_12 Reply_13 = some r) : Sim Tryz.prog 137 [PTR gb_3 0, S (rI .i64) n_1, BND 136 [PTR gb_14 0]] [cvar gb_3 Zac r_2, zq34 gb_14 gb_3 Kind_4 From_5 To_6 ID_7 Topic_8 Past_9 Past_10 Seen_11 Hash_12 Reply_13] (γ := Option Nat × Nat) (fun q => [cown q.1 (rV 32 (rU UInt8)) r.1 0 q.2, cvar gb_3 Zac r.2, zq34 gb_14 gb_3 Kind_4 From_5 To_6 ID_7 Topic_8 Past_9 Past_10 Seen_11 Hash_12 Reply_13]) (fun q => .one (.val (HDR q.1 0 (List.length r.1) q.2))) := by
 unfold frame_listapi_Hash at hm
 refine Sim.of Tryz.func137 rfl rfl (lE rfl) (fun e0 w0 => ?_)
 refine JC.at ⟨[(0, ov (PTR gb_3 0)), (1, ov (S (rI .i64) n_1)), (2, ov (BND 136 [PTR gb_14 0]))], [cvar gb_3 Zac r_2, zq34 gb_14 gb_3 Kind_4 From_5 To_6 ID_7 Topic_8 Past_9 Past_10 Seen_11 Hash_12 Reply_13], []⟩ <| jr <| jc (Zab lb HasO.nilH) <| jn <| jr <| jc (Zab lb HasO.nilH) <| jn <| bI hm fun tv1 hx1 hq1 => JC.seqK (α := (List (Vector UInt8 32)) × Zag) (γ := Option Nat × Nat) (stj := fun v q => ⟨[(7, ov (HDR q.1 0 (List.length v.1) q.2))], [cown q.1 (rV 32 (rU UInt8)) v.1 0 q.2, cvar gb_3 Zac v.2, zq34 gb_14 gb_3 Kind_4 From_5 To_6 ID_7 Topic_8 Past_9 Past_10 Seen_11 Hash_12 Reply_13], []⟩) (p := fun v => tv1 = (.inl v)) (fun v q hv => ?_) ?_
 · subst hv
   obtain ⟨l_32, x_33⟩ := v
   obtain ⟨go_34, gc_35⟩ := q
   dsimp only at hq1
   refine JC.at ⟨[(7, ov (HDR go_34 0 (List.length l_32) gc_35))], [cown go_34 (rV 32 (rU UInt8)) l_32 0 gc_35, cvar gb_3 Zac x_33, zq34 gb_14 gb_3 Kind_4 From_5 To_6 ID_7 Topic_8 Past_9 Past_10 Seen_11 Hash_12 Reply_13], []⟩ <| jr <| jmv rfl rfl <| jc (Zab lb tR) <| jn <| JC.ret ?_
   obtain rfl := so hq1
   exact JQ.done (js := [0, 0, 0]) (ss := [.val (HDR go_34 0 (List.length l_32) gc_35)]) (go_34, gc_35) (.inl rfl) (.nil rfl) rfl (.cons (.tmp rfl) .nil) rfl rfl rfl
 refine jr <| jmv rfl rfl <| jc (Zax lb .cI) <| jn <| JC.block <| bI hx1 fun tv2 hL2 hq2 => JC.pre (Imp.nilown (rV 32 (rU UInt8))) <| JC.pre ?_ (JC.loop (γ := Option Nat × Nat) (stf := fun s q => ⟨[(0, ov (PTR gb_3 0)), (2, ov (BND 136 [PTR gb_14 0])), (7, ov (HDR q.1 0 (List.length s.2.1) q.2)), (8, ov (S (rI .i64) n_1)), (9, ov (S (rI .i64) s.2.2))], [cvar gb_3 Zac s.1, zq34 gb_14 gb_3 Kind_4 From_5 To_6 ID_7 Topic_8 Past_9 Past_10 Seen_11 Hash_12 Reply_13, cown q.1 (rV 32 (rU UInt8)) s.2.1 0 q.2], []⟩) (q := (none, 0)) hL2 ?_)
 · exact (Imp.norm (js := [0, 0, 0]) rfl (.cons rfl (.cons rfl (.cons rfl (.cons rfl (.cons rfl .nil))))))
 intro s q x hx hr
 obtain ⟨r_15, l_16, x_17⟩ := s
 obtain ⟨go_18, gc_19⟩ := q
 change frame_listapi_Hash.b1 k n_1 Kind_4 From_5 To_6 ID_7 Topic_8 Past_9 Past_10 Seen_11 Hash_12 Reply_13 r_15 l_16 x_17 = some x at hx
 unfold frame_listapi_Hash.b1 at hx
 refine JC.at ⟨[(0, ov (PTR gb_3 0)), (2, ov (BND 136 [PTR gb_14 0])), (7, ov (HDR go_18 0 (List.length l_16) gc_19)), (8, ov (S (rI .i64) n_1)), (9, ov (S (rI .i64) x_17))], [cvar gb_3 Zac r_15, zq34 gb_14 gb_3 Kind_4 From_5 To_6 ID_7 Topic_8 Past_9 Past_10 Seen_11 Hash_12 Reply_13, cown go_18 (rV 32 (rU UInt8)) l_16 0 gc_19], []⟩ <| jr <| lI hx fun v20 hv_20 hx => jc (Zaq lb tR tR (cs hv_20)) <| jn <| JC.seq <| jif tR hx (fun hc3 hx => ?_) (fun hc3 hx => ?_)
 · refine JC.skip <| JQ.then <| JC.seq <| JC.block <| JC.seq <| jr <| jmv rfl rfl <| bI hx fun v21 hv_21 hx => jx (Zak (js := [0]) ld ZiU (Za2 k r_15 gb_3 v21 hv_21) .func (.cons tR .nil) rfl) fun _ => jn <| jif tR hx (fun hc4 hx => ?_) (fun hc4 hx => ?_)
   · refine jr <| jc (Zab lb HasO.nilH) <| jn <| JC.ret <| JQ.outR <| JQ.outRB <| JQ.outR ?_
     try obtain rfl := so hx
     try obtain rfl := hr _ rfl
     dsimp only at hq2
     refine JQ.outR <| JQ.outRB ?_
     try obtain rfl := so hq2
     dsimp only at hq1
     refine JQ.outR ?_
     obtain rfl := so hq1
     exact JQ.pre (Imp.nilown (rV 32 (rU UInt8))) <| JQ.done (js := [3, 0, 0]) (ss := [.val (HDR none 0 (List.length ([] : (List (Vector UInt8 32)))) (0))]) (none, 0) (.inl rfl) (.nil rfl) rfl (.cons (.tmp rfl) .nil) rfl rfl rfl
   refine JC.skip <| JQ.then <| JC.region <| jmv rfl rfl <| jmv rfl rfl ?_
   obtain ⟨⟨v22, x_23⟩, hv_22, hx⟩ := Zay hx
   refine jx (Zhv (js := [1, 0]) ld Zno (ZdV k Kind_4 From_5 To_6 ID_7 Topic_8 Past_9 Past_10 Seen_11 Hash_12 Reply_13 r_15 gb_14 gb_3 (v22, x_23) hv_22) tR .nil rfl) fun _ => jc (Zca (r := (rV 32 (rU UInt8))) lb tu36 tz35 tZ35 rfl (lE rfl) (.A tR .nil) rfl) <| bI hx fun l_24 hv_l_24 hx => jx (Zbp (j := 2) lb tu36 tu36 rfl tB35 rfl (Nat.lt_of_lt_of_le Nat.zero_lt_one (lE rfl)) (Nat.lt_of_lt_of_le Nat.zero_lt_one (lE rfl))  rfl tR tR hv_l_24) (fun q => ?_)
   obtain ⟨go_25, gc_26⟩ := q
   refine JL.sub ⟨[(0, ov (PTR gb_3 0)), (2, ov (BND 136 [PTR gb_14 0])), (8, ov (S (rI .i64) n_1)), (9, ov (S (rI .i64) x_17)), (17, ov (HDR go_25 0 (List.length l_24) gc_26))], [zq34 gb_14 gb_3 Kind_4 From_5 To_6 ID_7 Topic_8 Past_9 Past_10 Seen_11 Hash_12 Reply_13, cvar gb_3 Zac x_23, cown go_25 (rV 32 (rU UInt8)) l_24 0 gc_26], []⟩ (.cons rfl (.cons rfl (.cons rfl (.cons rfl (.cons rfl .nil))))) rfl rfl <| jc (Zab lb tR) <| JL.nil <| JQ.outNB <| JQ.then <| JC.region <| lI hx fun v27 hv_27 hx => jc (ZaY lb tR .cI (cs hv_27)) <| jmv rfl rfl <| JL.nil ?_
   try obtain rfl := so hx
   exact JQ.next (go_25, gc_26) rfl (Imp.norm (js := [1, 0, 0]) rfl (.cons rfl (.cons rfl (.cons rfl (.cons rfl (.cons rfl .nil))))))
 refine JC.exit <| JQ.outX ?_
 try obtain rfl := so hx
 try obtain rfl := hr _ rfl
 dsimp only at hq2
 refine JQ.outX <| JQ.here ?_
 try obtain rfl := so hq2
 exact JQ.joinK (l_16, r_15) (go_18, gc_19) rfl (Imp.norm (js := [2, 0, 0]) rfl (.cons rfl .nil))

end Go.Proofs.YtklnihlchhhhlaaGreat
