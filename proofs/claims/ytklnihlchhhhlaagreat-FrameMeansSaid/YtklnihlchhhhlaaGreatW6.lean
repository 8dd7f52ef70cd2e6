/- Walks. -/
import Derived.Test.YtklnihlchhhhlaaGreatT
import Derived.Test.YtklnihlchhhhlaaGreatW4
import Derived.Test.YtklnihlchhhhlaaGreatW5
namespace Go.Proofs.YtklnihlchhhhlaaGreat
open Go Fw
set_option linter.unusedVariables false
set_option maxRecDepth 100000
set_option maxHeartbeats 4000000

theorem Zfo (k : Nat) (Kind1 : Int) (From2 : Int) (To3 : Int) (ID4 : Zah) (Topic5 : (List UInt8)) (Past6 : (Vector UInt64 16)) (Past7 : (Vector UInt64 16)) (Seen8 : (Vector UInt64 16)) (Hash9 : (Vector UInt8 32)) (Reply10 : Bool) (x12 : Zag) (gb11 : Nat) (gb13 : Nat) (r : Zag × (List (Vector UInt8 32))) (hm : Zca k Kind1 From2 To3 ID4 Topic5 Past6 Past7 Seen8 Hash9 Reply10 x12 = some r) : Sim Tryz.prog 103 [PTR gb11 0] [zq32 gb11 gb13 Kind1 From2 To3 ID4 Topic5 Past6 Past7 Seen8 Hash9 Reply10, cvar gb13 Zab x12] (γ := Option Nat × Nat) (fun q => [cvar gb11 (rP (rW (PTR gb13 0)) (rP (rP (rI .i64) (rP (rI .i64) (rP (rI .i64) (rP (rW (HDR none 0 0 0)) (rP (rP Zae (rP rS (rP (rW (HDR none 0 0 0)) (rP (rV 16 (rU UInt64)) (rP (rW (HDR none 0 0 0)) r0))))) (rP (rV 16 (rU UInt64)) (rP (rV 16 (rU UInt64)) (rP (rW (HDR none 0 0 0)) (rP (rW (HDR none 0 0 0)) (rP (rV 32 (rU UInt8)) (rP (rW (HDR q.1 0 (List.length r.2) q.2)) (rP (rW (HDR none 0 0 0)) (rP rB r0))))))))))))) r0)) (zq31 Kind1 From2 To3 ID4 Topic5 Past6 Past7 Seen8 Hash9 Reply10), cvar gb13 Zab r.1, cown q.1 (rV 32 (rU UInt8)) r.2 0 q.2]) (fun q => .tup []) := by
 unfold Zca at hm
 refine Sim.of Tryz.func103 rfl rfl (lE rfl) (fun e0 w0 => ?_)
 refine JC.at ⟨[(0, ov (PTR gb11 0))], [zq32 gb11 gb13 Kind1 From2 To3 ID4 Topic5 Past6 Past7 Seen8 Hash9 Reply10, cvar gb13 Zab x12], []⟩ <| JC.region <| jmv rfl rfl <| jmv rfl rfl <| jc (Zap lb tR (fun e v h => by subst h; rfl)) <| jc (Zaa (off := 0) lb Zb2 tR) <| jc (ZaJ (j := 0) lb tS87 tR rfl (Comp.trans (Comp.self (zq27 gb13) (zq31 Kind1 From2 To3 ID4 Topic5 Past6 Past7 Seen8 Hash9 Reply10)) (Comp.at' (Comp.inF (Comp.self (rW (PTR gb13 0)) ()) (lE rfl)) (by rfl : _ = 0)) (lE rfl))) <| jmv rfl rfl <| jc (Zeh lb (.cons tR .nil)) ?_
 obtain ⟨⟨v14, x15⟩, hv14, hm⟩ := Zaz hm
 refine jx (Zak (js := [1, 0]) ld Zps (ZfA k (64 : Int) x12 Kind1 From2 To3 ID4 Topic5 Past6 Past7 Seen8 Hash9 Reply10 gb13 gb11 (v14, x15) hv14) .func (.cons tR (.cons .cI (.cons tR .nil))) rfl) (fun q => ?_)
 obtain ⟨go16, gc17⟩ := q
 refine jc (Zap lb tR (fun e v h => by subst h; rfl)) <| jc (Zaa (off := 1) lb ZdL tR) <| JL.sub ⟨[(9, ov (HDR go16 0 (List.length v14) gc17)), (11, ov (PTR gb11 (0 + 1)))], [cown go16 (rV 32 (rU UInt8)) v14 0 gc17, cvar gb13 Zab x15, zq32 gb11 gb13 Kind1 From2 To3 ID4 Topic5 Past6 Past7 Seen8 Hash9 Reply10], []⟩ (.cons rfl (.cons rfl .nil)) rfl rfl <| jc (Zaa (off := 91) lb ZdM tR) <| jc (ZbN (j := 2) tS36 tR tR rfl ((UpdR.snd (UpdR.fst (UpdR.snd (UpdR.snd (UpdR.snd (UpdR.snd (UpdR.snd (UpdR.snd (UpdR.snd (UpdR.snd (UpdR.snd (UpdR.snd (UpdR.fst (UpdR.self (by rfl))))))))))))))).at (by change (1 + (1 + (1 + (1 + (1 + (21 + (16 + (16 + (1 + (1 + (32 + 0))))))))))) = ((0 + 1) + 91); omega)) rfl) <| JL.nil ?_
 obtain rfl := so hm
 exact JQ.done (js := [2, 1, 0]) (ss := []) (go16, gc17) (.inr rfl) (.nil rfl) rfl .nil rfl rfl rfl

theorem ZeB (k : Nat) (Kind2 : Int) (From3 : Int) (To4 : Int) (ID5 : Zah) (Topic6 : (List UInt8)) (Past7 : (Vector UInt64 16)) (Past8 : (Vector UInt64 16)) (Seen9 : (Vector UInt64 16)) (Hash10 : (Vector UInt8 32)) (Reply11 : Bool) (x13 : Zag) (gb1 : Nat) (gb12 : Nat) (gb14 : Nat) (r : Int × Zag) (hm : Zbi k Kind2 From3 To4 ID5 Topic6 Past7 Past8 Seen9 Hash10 Reply11 x13 = some r) : Sim Tryz.prog 139 [PTR gb1 0] [cvar gb1 (rW (PTR gb12 0)) (), zq32 gb12 gb14 Kind2 From3 To4 ID5 Topic6 Past7 Past8 Seen9 Hash10 Reply11, cvar gb14 Zab x13] (γ := Unit) (fun q => [cvar gb1 (rW (PTR gb12 0)) (), zq32 gb12 gb14 Kind2 From3 To4 ID5 Topic6 Past7 Past8 Seen9 Hash10 Reply11, cvar gb14 Zab r.2]) (fun q => .one (.val (S (rI .i64) r.1))) := by
 unfold Zbi at hm
 refine Sim.of Tryz.func139 rfl rfl (lE rfl) (fun e0 w0 => ?_)
 refine JC.at ⟨[(0, ov (PTR gb1 0))], [cvar gb1 (rW (PTR gb12 0)) (), zq32 gb12 gb14 Kind2 From3 To4 ID5 Topic6 Past7 Past8 Seen9 Hash10 Reply11, cvar gb14 Zab x13], []⟩ <| jr <| jc (Zac lb .cI) <| jn <| jr <| jc (ZaJ (j := 0) lb tS86 tR rfl (Comp.self (rW (PTR gb12 0)) ())) <| jc (Zap lb tR (fun e v h => by subst h; rfl)) <| jc (Zaa (off := 0) lb Zb2 tR) <| jc (ZaJ (j := 1) lb tS87 tR rfl (Comp.trans (Comp.self (zq27 gb14) (zq31 Kind2 From3 To4 ID5 Topic6 Past7 Past8 Seen9 Hash10 Reply11)) (Comp.at' (Comp.inF (Comp.self (rW (PTR gb14 0)) ()) (lE rfl)) (by rfl : _ = 0)) (lE rfl))) ?_
 obtain ⟨⟨v15, x16⟩, hv15, hm⟩ := Zaz hm
 refine jx (Zak (js := [2]) ld cl53 (ZaD k (1 : Int) x13 gb14 (v15, x16) hv15) .func (.cons tR (.cons .cI .nil)) rfl) fun _ => lI hm fun v17 hv17 hm => jc (Zcn lb tu24 tu3 tR hv17) <| jc (Zac lb tR) <| jn <| JC.ret ?_
 obtain rfl := so hm
 exact JQ.done (js := [1, 1, 0]) (ss := [.val (S (rI .i64) v17)]) () (.inl rfl) (.nil rfl) rfl (.cons (.tmp rfl) .nil) rfl rfl rfl

theorem Zhd (k : Nat) (n1 : Int) (r2 : Zag) (Kind5 : Int) (From6 : Int) (To7 : Int) (ID8 : Zah) (Topic9 : (List UInt8)) (Past10 : (Vector UInt64 16)) (Past11 : (Vector UInt64 16)) (Seen12 : (Vector UInt64 16)) (Hash13 : (Vector UInt8 32)) (Reply14 : Bool) (gb3 : Nat) (gb4 : Nat) (gb15 : Nat) (r : (List Int) × Zag) (hm : frame_listint k n1 r2 Kind5 From6 To7 ID8 Topic9 Past10 Past11 Seen12 Hash13 Reply14 = some r) : Sim Tryz.prog 138 [PTR gb3 0, S (rI .i64) n1, CLO 139 [PTR gb4 0]] [cvar gb3 Zab r2, cvar gb4 (rW (PTR gb15 0)) (), zq32 gb15 gb3 Kind5 From6 To7 ID8 Topic9 Past10 Past11 Seen12 Hash13 Reply14] (γ := Option Nat × Nat) (fun q => [cown q.1 (rI .i64) r.1 0 q.2, cvar gb3 Zab r.2, cvar gb4 (rW (PTR gb15 0)) (), zq32 gb15 gb3 Kind5 From6 To7 ID8 Topic9 Past10 Past11 Seen12 Hash13 Reply14]) (fun q => .one (.val (HDR q.1 0 (List.length r.1) q.2))) := by
 unfold frame_listint at hm
 refine Sim.of Tryz.func138 rfl rfl (lE rfl) (fun e0 w0 => ?_)
 refine JC.at ⟨[(0, ov (PTR gb3 0)), (1, ov (S (rI .i64) n1)), (2, ov (CLO 139 [PTR gb4 0]))], [cvar gb3 Zab r2, cvar gb4 (rW (PTR gb15 0)) (), zq32 gb15 gb3 Kind5 From6 To7 ID8 Topic9 Past10 Past11 Seen12 Hash13 Reply14], []⟩ <| jr <| jc (Zac lb HasO.nilH) <| jn <| jr <| jc (Zac lb HasO.nilH) <| jn <| bI hm fun tv1 hx1 hq1 => JC.seqK (α := (List Int) × Zag) (γ := Option Nat × Nat) (stj := fun v q => ⟨[(7, ov (HDR q.1 0 (List.length v.1) q.2))], [cown q.1 (rI .i64) v.1 0 q.2, cvar gb3 Zab v.2, cvar gb4 (rW (PTR gb15 0)) (), zq32 gb15 gb3 Kind5 From6 To7 ID8 Topic9 Past10 Past11 Seen12 Hash13 Reply14], []⟩) (p := fun v => tv1 = (.inl v)) (fun v q hv => ?_) ?_
 · subst hv
   obtain ⟨l33, x34⟩ := v
   obtain ⟨go35, gc36⟩ := q
   dsimp only at hq1
   refine JC.at ⟨[(7, ov (HDR go35 0 (List.length l33) gc36))], [cown go35 (rI .i64) l33 0 gc36, cvar gb3 Zab x34, cvar gb4 (rW (PTR gb15 0)) (), zq32 gb15 gb3 Kind5 From6 To7 ID8 Topic9 Past10 Past11 Seen12 Hash13 Reply14], []⟩ <| jr <| jmv rfl rfl <| jc (Zac lb tR) <| jn <| JC.ret ?_
   obtain rfl := so hq1
   exact JQ.done (js := [0, 0, 0, 0]) (ss := [.val (HDR go35 0 (List.length l33) gc36)]) (go35, gc36) (.inl rfl) (.nil rfl) rfl (.cons (.tmp rfl) .nil) rfl rfl rfl
 refine jr <| jmv rfl rfl <| jc (ZaC lb .cI) <| jn <| JC.block <| bI hx1 fun tv2 hL2 hq2 => JC.pre (Imp.nilown (rI .i64)) <| JC.pre ?_ (JC.loop (γ := Option Nat × Nat) (stf := fun s q => ⟨[(0, ov (PTR gb3 0)), (2, ov (CLO 139 [PTR gb4 0])), (7, ov (HDR q.1 0 (List.length s.2.1) q.2)), (8, ov (S (rI .i64) n1)), (9, ov (S (rI .i64) s.2.2))], [cvar gb3 Zab s.1, cvar gb4 (rW (PTR gb15 0)) (), zq32 gb15 gb3 Kind5 From6 To7 ID8 Topic9 Past10 Past11 Seen12 Hash13 Reply14, cown q.1 (rI .i64) s.2.1 0 q.2], []⟩) (q := (none, 0)) hL2 ?_)
 · exact (Imp.norm (js := [0, 0, 0, 0]) rfl (.cons rfl (.cons rfl (.cons rfl (.cons rfl (.cons rfl .nil))))))
 intro s q x hx hr
 obtain ⟨r16, l17, x18⟩ := s
 obtain ⟨go19, gc20⟩ := q
 change frame_listint.b1 k n1 Kind5 From6 To7 ID8 Topic9 Past10 Past11 Seen12 Hash13 Reply14 r16 l17 x18 = some x at hx
 unfold frame_listint.b1 at hx
 refine JC.at ⟨[(0, ov (PTR gb3 0)), (2, ov (CLO 139 [PTR gb4 0])), (7, ov (HDR go19 0 (List.length l17) gc20)), (8, ov (S (rI .i64) n1)), (9, ov (S (rI .i64) x18))], [cvar gb3 Zab r16, cvar gb4 (rW (PTR gb15 0)) (), zq32 gb15 gb3 Kind5 From6 To7 ID8 Topic9 Past10 Past11 Seen12 Hash13 Reply14, cown go19 (rI .i64) l17 0 gc20], []⟩ <| jr <| lI hx fun v21 hv21 hx => jc (Zar lb tR tR (cs hv21)) <| jn <| JC.seq <| jif tR hx (fun hc3 hx => ?_) (fun hc3 hx => ?_)
 · refine JC.skip <| JQ.then <| JC.seq <| JC.block <| JC.seq <| jr <| jmv rfl rfl <| bI hx fun v22 hv22 hx => jx (Zak (js := [0]) ld ZiI (Za1 k r16 gb3 v22 hv22) .func (.cons tR .nil) rfl) fun _ => jn <| jif tR hx (fun hc4 hx => ?_) (fun hc4 hx => ?_)
   · refine jr <| jc (Zac lb HasO.nilH) <| jn <| JC.ret <| JQ.outR <| JQ.outRB <| JQ.outR ?_
     try obtain rfl := so hx
     try obtain rfl := hr _ rfl
     dsimp only at hq2
     refine JQ.outR <| JQ.outRB ?_
     try obtain rfl := so hq2
     dsimp only at hq1
     refine JQ.outR ?_
     obtain rfl := so hq1
     exact JQ.pre (Imp.nilown (rI .i64)) <| JQ.done (js := [4, 0, 0, 0]) (ss := [.val (HDR none 0 (List.length ([] : (List Int))) (0))]) (none, 0) (.inl rfl) (.nil rfl) rfl (.cons (.tmp rfl) .nil) rfl rfl rfl
   refine JC.skip <| JQ.then <| JC.region <| jmv rfl rfl <| jmv rfl rfl ?_
   obtain ⟨⟨v23, x24⟩, hv23, hx⟩ := Zaz hx
   refine jx (Zak (js := [1, 1, 0]) ld Zpx (ZeB k Kind5 From6 To7 ID8 Topic9 Past10 Past11 Seen12 Hash13 Reply14 r16 gb4 gb15 gb3 (v23, x24) hv23) tR .nil rfl) fun _ => jc (Zce (r := (rI .i64)) lb tu37 tz3 tZ3 rfl (lE rfl) (.S rfl tR .nil) rfl) <| bI hx fun l25 hv_l_25 hx => jx (Zbd (j := 3) lb tu37 tu37 rfl tB3 rfl (Nat.lt_of_lt_of_le Nat.zero_lt_one (lE rfl)) (Nat.lt_of_lt_of_le Nat.zero_lt_one (lE rfl))  rfl tR tR hv_l_25) (fun q => ?_)
   obtain ⟨go26, gc27⟩ := q
   refine JL.sub ⟨[(0, ov (PTR gb3 0)), (2, ov (CLO 139 [PTR gb4 0])), (8, ov (S (rI .i64) n1)), (9, ov (S (rI .i64) x18)), (17, ov (HDR go26 0 (List.length l25) gc27))], [cvar gb4 (rW (PTR gb15 0)) (), zq32 gb15 gb3 Kind5 From6 To7 ID8 Topic9 Past10 Past11 Seen12 Hash13 Reply14, cvar gb3 Zab x24, cown go26 (rI .i64) l25 0 gc27], []⟩ (.cons rfl (.cons rfl (.cons rfl (.cons rfl (.cons rfl .nil))))) rfl rfl <| jc (Zac lb tR) <| JL.nil <| JQ.outNB <| JQ.then <| JC.region <| lI hx fun v28 hv28 hx => jc (ZaX lb tR .cI (cs hv28)) <| jmv rfl rfl <| JL.nil ?_
   try obtain rfl := so hx
   exact JQ.next (go26, gc27) rfl (Imp.norm (js := [2, 0, 0, 0]) rfl (.cons rfl (.cons rfl (.cons rfl (.cons rfl (.cons rfl .nil))))))
 refine JC.exit <| JQ.outX ?_
 try obtain rfl := so hx
 try obtain rfl := hr _ rfl
 dsimp only at hq2
 refine JQ.outX <| JQ.here ?_
 try obtain rfl := so hq2
 exact JQ.joinK (l17, r16) (go19, gc20) rfl (Imp.norm (js := [3, 0, 0, 0]) rfl (.cons rfl .nil))

theorem ZeQ (k : Nat) (Kind1 : Int) (From2 : Int) (To3 : Int) (ID4 : Zah) (Topic5 : (List UInt8)) (Past6 : (Vector UInt64 16)) (Past7 : (Vector UInt64 16)) (Seen8 : (Vector UInt64 16)) (Hash9 : (Vector UInt8 32)) (Reply10 : Bool) (x12 : Zag) (x14 : (List Int)) (gb11 : Nat) (gb13 : Nat) (go15 : Option Nat) (gc16 : Nat) (r : Int × Zag) (hm : Zbv k Kind1 From2 To3 ID4 Topic5 Past6 Past7 Seen8 Hash9 Reply10 x12 x14 = some r) : Sim Tryz.prog 123 [PTR gb11 0] [zq58 gb11 gb13 go15 x14 gc16 Kind1 From2 To3 ID4 Topic5 Past6 Past7 Seen8 Hash9 Reply10, cvar gb13 Zab x12, cown go15 (rI .i64) x14 0 gc16] (γ := Unit) (fun q => [zq58 gb11 gb13 go15 x14 gc16 Kind1 From2 To3 ID4 Topic5 Past6 Past7 Seen8 Hash9 Reply10, cvar gb13 Zab r.2, cown go15 (rI .i64) x14 0 gc16]) (fun q => .one (.val (S (rI .i64) r.1))) := by
 unfold Zbv at hm
 refine Sim.of Tryz.func123 rfl rfl (lE rfl) (fun e0 w0 => ?_)
 refine JC.at ⟨[(0, ov (PTR gb11 0))], [zq58 gb11 gb13 go15 x14 gc16 Kind1 From2 To3 ID4 Topic5 Past6 Past7 Seen8 Hash9 Reply10, cvar gb13 Zab x12, cown go15 (rI .i64) x14 0 gc16], []⟩ <| jr <| jc (Zac lb .cI) <| jn <| jr <| jmv rfl rfl <| jc (Zap lb tR (fun e v h => by subst h; rfl)) <| jc (Zaa (off := 0) lb Zb2 tR) <| jc (ZaJ (j := 0) lb tS87 tR rfl (Comp.trans (Comp.self (zq57 gb13 go15 x14 gc16) (zq31 Kind1 From2 To3 ID4 Topic5 Past6 Past7 Seen8 Hash9 Reply10)) (Comp.at' (Comp.inF (Comp.self (rW (PTR gb13 0)) ()) (lE rfl)) (by rfl : _ = 0)) (lE rfl))) ?_
 obtain ⟨⟨v17, x18⟩, hv17, hm⟩ := Zaz hm
 refine jx (Zak (js := [1]) ld cl53 (ZaD k (2 : Int) x12 gb13 (v17, x18) hv17) .func (.cons tR (.cons .cI .nil)) rfl) fun _ => lI hm fun v19 hv19 hm => jc (Zcn lb tu24 tu3 tR hv19) <| jc (Zac lb tR) <| jn <| JC.ret ?_
 obtain rfl := so hm
 refine JQ.pre (Imp.var (j := 1) (q := (zq57 gb13 go15 x14 gc16)) (y := (zq31 Kind1 From2 To3 ID4 Topic5 Past6 Past7 Seen8 Hash9 Reply10)) rfl Wk.refl) ?_
 exact JQ.done (js := [1, 0, 0]) (ss := [.val (S (rI .i64) v19)]) () (.inl rfl) (.nil rfl) rfl (.cons (.tmp rfl) .nil) rfl rfl rfl

theorem Zfj (k : Nat) (Kind1 : Int) (From2 : Int) (To3 : Int) (ID4 : Zah) (Topic5 : (List UInt8)) (Past6 : (Vector UInt64 16)) (Past7 : (Vector UInt64 16)) (Seen8 : (Vector UInt64 16)) (Hash9 : (Vector UInt8 32)) (Reply10 : Bool) (x12 : Zag) (x14 : (List Int)) (gb11 : Nat) (gb13 : Nat) (go15 : Option Nat) (gc16 : Nat) (r : Zal × Zag) (hm : Zbo k Kind1 From2 To3 ID4 Topic5 Past6 Past7 Seen8 Hash9 Reply10 x12 x14 = some r) : Sim Tryz.prog 125 [PTR gb11 0] [zq58 gb11 gb13 go15 x14 gc16 Kind1 From2 To3 ID4 Topic5 Past6 Past7 Seen8 Hash9 Reply10, cvar gb13 Zab x12, cown go15 (rI .i64) x14 0 gc16] (γ := Unit) (fun q => [zq58 gb11 gb13 go15 x14 gc16 Kind1 From2 To3 ID4 Topic5 Past6 Past7 Seen8 Hash9 Reply10, cvar gb13 Zab r.2, cown go15 (rI .i64) x14 0 gc16]) (fun q => .one (.val (A Zaj r.1))) := by
 unfold Zbo at hm
 refine Sim.of Tryz.func125 rfl rfl (lE rfl) (fun e0 w0 => ?_)
 refine JC.at ⟨[(0, ov (PTR gb11 0))], [zq58 gb11 gb13 go15 x14 gc16 Kind1 From2 To3 ID4 Topic5 Past6 Past7 Seen8 Hash9 Reply10, cvar gb13 Zab x12, cown go15 (rI .i64) x14 0 gc16], []⟩ <| jr <| jx (Za8 lb tZ62 zr62) fun gb17 => jn <| JC.seq ?_
 obtain ⟨⟨v18, x19⟩, hv18, hm⟩ := Zaz hm
 obtain ⟨⟨v20, x21⟩, hv20, hm⟩ := Zaz hm
 obtain ⟨v22, hv22, hm⟩ := ZaT hm
 refine JC.anyF (base := [(0, ov (PTR gb11 0)), (2, ov (PTR gb17 0))])
     (fs := fun γ => [⟨some 4, ov (PTR gb11 0)⟩, ⟨some 5, ov (PTR gb11 0)⟩, ⟨some 6, ov (PTR gb11 (0 + 0))⟩, ⟨some 7, ov (PTR gb13 0)⟩, ⟨some 8, ov (A Zae v18)⟩, ⟨some 9, ov (PTR gb11 0)⟩, ⟨some 10, ov (PTR gb11 0)⟩, ⟨some 11, ov (PTR gb11 (0 + 0))⟩, ⟨some 12, ov (PTR gb13 0)⟩, ⟨some 13, ov (S (rU UInt64) v20)⟩, ⟨some 14, ov (S rB v22)⟩, ⟨some 15, ov (A zq35 (zq37 v18 v22))⟩, ⟨some 3, ov (PTR (γ 12 0) 0)⟩, ⟨none, .one .any⟩])
     (rs := fun γ => [⟨zq58 gb11 gb13 go15 x14 gc16 Kind1 From2 To3 ID4 Topic5 Past6 Past7 Seen8 Hash9 Reply10, none, none, [3, 8]⟩, ⟨cvar gb13 Zab x12, none, (some 4), []⟩, ⟨cown go15 (rI .i64) x14 0 gc16, none, none, []⟩, ⟨zq33 gb17, none, none, []⟩, ⟨cvar gb13 Zab x19, (some 4), (some 9), []⟩, ⟨cvar gb13 Zab x21, (some 9), none, []⟩, ⟨zq33 (γ 12 0), (some 12), (some 13), []⟩, ⟨cvar (γ 12 0) zq35 (zq37 v18 v22), (some 13), none, []⟩])
     (afts := [[], [], [], [], [], [], [], [], [], [], [], [], [12, 13], []]) (js := [0, 0, 0, 0]) Zcj (.cons rfl (.cons rfl .nil)) (fun _ => rfl)
     (by
      refine db 1 0 <| dS 2 (fun γ ρ B hb hd => Zap lb (tl hd 0 4) (fun e v h => by subst h; rfl)) <| dS 3 (fun γ ρ B hb hd => Zaa (off := 0) lb Zb2 (tl hd 1 5)) <| dR 4 (fun γ ρ B hb hd => Zao.lk ⟨ρ, (zq58 gb11 gb13 go15 x14 gc16 Kind1 From2 To3 ID4 Topic5 Past6 Past7 Seen8 Hash9 Reply10) :: B, _⟩ (ZaJ (j := 0) lb tS87 (tl hd 2 6) rfl (Comp.trans (Comp.self (zq57 gb13 go15 x14 gc16) (zq31 Kind1 From2 To3 ID4 Topic5 Past6 Past7 Seen8 Hash9 Reply10)) (Comp.at' (Comp.inF (Comp.self (rW (PTR gb13 0)) ()) (lE rfl)) (by rfl : _ = 0)) (lE rfl)))) <| dR 5 (fun γ ρ B hb hd => Zao.at ⟨ρ, (cvar gb13 Zab x12) :: B, _⟩ (setO ⟨ρ, (cvar gb13 Zab x19) :: B, _⟩ _ _) ((Zak (js := [0]) ld Zll (ZcO k x12 gb13 (v18, x19) hv18) .func (.cons (tl hd 3 7) .nil) rfl).post (fun _ => Imp.refl))) ?_
      refine db 6 0 <| dS 7 (fun γ ρ B hb hd => Zap lb (tl hd 5 9) (fun e v h => by subst h; rfl)) <| dS 8 (fun γ ρ B hb hd => Zaa (off := 0) lb Zb2 (tl hd 6 10)) <| dR 9 (fun γ ρ B hb hd => Zao.lk ⟨ρ, (zq58 gb11 gb13 go15 x14 gc16 Kind1 From2 To3 ID4 Topic5 Past6 Past7 Seen8 Hash9 Reply10) :: B, _⟩ (ZaJ (j := 0) lb tS87 (tl hd 7 11) rfl (Comp.trans (Comp.self (zq57 gb13 go15 x14 gc16) (zq31 Kind1 From2 To3 ID4 Topic5 Past6 Past7 Seen8 Hash9 Reply10)) (Comp.at' (Comp.inF (Comp.self (rW (PTR gb13 0)) ()) (lE rfl)) (by rfl : _ = 0)) (lE rfl)))) <| dR 10 (fun γ ρ B hb hd => Zao.at ⟨ρ, (cvar gb13 Zab x19) :: B, _⟩ (setO ⟨ρ, (cvar gb13 Zab x21) :: B, _⟩ _ _) ((Zak (js := [0]) ld cl53 (ZaD k (1 : Int) x19 gb13 (v20, x21) hv20) .func (.cons (tl hd 8 12) (.cons .cI .nil)) rfl).post (fun _ => Imp.refl))) ?_
      refine dS 11 (fun γ ρ B hb hd => Zci lb (tl hd 9 13) (HasO.cU (x := (0 : UInt64)) rfl (by decide)) (cs hv22)) <| dS 12 (fun γ ρ B hb hd => Zbl lb tZ62 zs62 tp62 (.A (off := 0) rfl (tl hd 4 8) ((UpdR.fst (UpdR.self (by rfl))).at (by rfl)) (.S (off := 4) rfl (tl hd 10 14) rfl ((UpdR.snd (UpdR.snd (UpdR.fst (UpdR.self (by rfl))))).at (by rfl)) .nil)) rfl) ?_
      refine ZaF.cons (j := 13) rfl (fun _ => rfl) (.runX (fun _ _ => rfl) (fun γ ρ B hb hd => ⟨.none, OpX.ghost (γ := Nat) (st' := fun q => setO ⟨ρ, (zq33 q) :: B, _⟩ (some 3) (ov (PTR q 0))) (fun q c => q) (OpX.front (Za8 lb tZ62 zr62)) (fun q => Imp.refl)⟩) (fun _ _ => rfl) (fun _ _ => rfl)) ?_
      refine dR 14 (fun γ ρ B hb hd => Zao.at ⟨ρ, (zq33 (γ 12 0)) :: B, _⟩ (setO ⟨ρ, (cvar (γ 12 0) zq35 (zq37 v18 v22)) :: B, _⟩ _ _) (ZaM (j := 0) tA62 (tl hd 12 3) (tl hd 11 15) rfl (UpdR.self (by rfl)) rfl)) ?_
      exact ZaF.nil)
     (by decide +kernel) (fun _ => rfl) (fun _ => rfl) (fun _ => rfl) rfl
     (ρ' := fun γ => [(0, ov (PTR gb11 0)), (2, ov (PTR gb17 0)), (3, ov (PTR (γ 12 0) 0))])
     (X' := fun γ => [zq58 gb11 gb13 go15 x14 gc16 Kind1 From2 To3 ID4 Topic5 Past6 Past7 Seen8 Hash9 Reply10, cown go15 (rI .i64) x14 0 gc16, zq33 gb17, cvar gb13 Zab x21, cvar (γ 12 0) zq35 (zq37 v18 v22)])
     (fun γ ρ hb hd => (.cons (hb 0 _ rfl) (.cons (hb 2 _ rfl) (.cons (hdq hd 12 3 rfl) .nil)))) (fun _ => rfl) (fun γ => ?_)
 generalize (γ 12 0) = gb23
 clear γ
 refine JQ.at ⟨[(0, ov (PTR gb11 0)), (2, ov (PTR gb17 0)), (3, ov (PTR gb23 0))], [zq58 gb11 gb13 go15 x14 gc16 Kind1 From2 To3 ID4 Topic5 Past6 Past7 Seen8 Hash9 Reply10, cown go15 (rI .i64) x14 0 gc16, zq33 gb17, cvar gb13 Zab x21, cvar gb23 zq35 (zq37 v18 v22)], []⟩ <| JQ.then ?_
 obtain ⟨⟨i29, x30⟩, hx1, hq1⟩ := Zaz hm
 refine JC.seqJ (γ := Unit) (stj := fun _ => ⟨[(2, ov (PTR gb17 0)), (3, ov (PTR gb23 0))], [zq33 gb17, cvar gb23 Zaj i29, zq58 gb11 gb13 go15 x14 gc16 Kind1 From2 To3 ID4 Topic5 Past6 Past7 Seen8 Hash9 Reply10, cvar gb13 Zab x30, cown go15 (rI .i64) x14 0 gc16], []⟩) (fun _ => ?_) ?_
 · refine jr <| jc (ZaB (j := 1) lb tA62 tR rfl (Comp.self Zaj i29) rfl) <| jc (ZaM (j := 0) tA62 tR tR rfl (UpdR.self (by rfl)) rfl) <| jn <| JC.ret ?_
   obtain rfl := so hq1
   exact JQ.done (js := [2, 2, 2]) (ss := [.val (A Zaj i29)]) () (.inl rfl) (.nil rfl) rfl (.cons (.cellA (j := 0) tA62 rfl rfl) .nil) rfl rfl rfl
 refine jr <| jc (Zaa (off := 4) lb Zjm tR) <| jc (Zam (j := 4) lb tS4 tR rfl (Comp.trans (Comp.self zq35 (zq37 v18 v22)) (Comp.at' (Comp.inS (Comp.inS (Comp.inF (Comp.self rB v22) (lE rfl)))) (by rfl : _ = 4)) (lE rfl)) rfl rfl) <| lI hx1 fun v24 hv24 hx1 => jc (ZbU lb tR hv24) <| jn <| jif tR hx1 (fun hc2 hx1 => ?_) (fun hc2 hx1 => ?_)
 · obtain ⟨⟨v25, x26⟩, hv25, hx1⟩ := Zaz hx1
   obtain ⟨⟨v27, x28⟩, hv27, hx1⟩ := Zaz hx1
   refine JC.anyF (base := [(0, ov (PTR gb11 0)), (2, ov (PTR gb17 0)), (3, ov (PTR gb23 0))])
       (fs := fun γ => [⟨some 19, ov (PTR gb11 0)⟩, ⟨some 20, ov (PTR gb11 0)⟩, ⟨some 21, ov (PTR gb11 (0 + 0))⟩, ⟨some 22, ov (PTR gb13 0)⟩, ⟨some 23, ov (S (rL (rU UInt8)) v25)⟩, ⟨some 24, ov (S rS v25)⟩, ⟨some 25, ov (PTR gb11 0)⟩, ⟨some 26, ov (PTR gb11 0)⟩, ⟨some 27, ov (PTR gb11 (0 + 0))⟩, ⟨some 28, ov (PTR gb13 0)⟩, ⟨some 29, ov (S (rL (rU UInt8)) v27)⟩, ⟨some 30, ov (S rS v27)⟩, ⟨some 31, ov (A (rP rS (rP rS r0)) (v25, (v27, ())))⟩, ⟨some 32, ov (PTR gb23 (0 + 2))⟩, ⟨none, .one .any⟩])
       (rs := fun γ => [⟨zq58 gb11 gb13 go15 x14 gc16 Kind1 From2 To3 ID4 Topic5 Past6 Past7 Seen8 Hash9 Reply10, none, none, [3, 9]⟩, ⟨cown go15 (rI .i64) x14 0 gc16, none, none, []⟩, ⟨zq33 gb17, none, none, []⟩, ⟨cvar gb13 Zab x21, none, (some 4), []⟩, ⟨cvar gb23 zq35 (zq37 v18 v22), none, (some 14), []⟩, ⟨cvar gb13 Zab x26, (some 4), (some 10), []⟩, ⟨cvar gb13 Zab x28, (some 10), none, []⟩, ⟨cvar gb23 zq39 (v18, ((v25, (v27, ())), (v22, ()))), (some 14), none, []⟩])
       (afts := nn 15) (js := [0, 0, 0, 0, 0]) Zcj (.cons rfl (.cons rfl (.cons rfl .nil))) (fun _ => rfl)
       (by
      refine db 1 0 <| dS 2 (fun γ ρ B hb hd => Zap lb (tl hd 0 19) (fun e v h => by subst h; rfl)) <| dS 3 (fun γ ρ B hb hd => Zaa (off := 0) lb Zb2 (tl hd 1 20)) <| dR 4 (fun γ ρ B hb hd => Zao.lk ⟨ρ, (zq58 gb11 gb13 go15 x14 gc16 Kind1 From2 To3 ID4 Topic5 Past6 Past7 Seen8 Hash9 Reply10) :: B, _⟩ (ZaJ (j := 0) lb tS87 (tl hd 2 21) rfl (Comp.trans (Comp.self (zq57 gb13 go15 x14 gc16) (zq31 Kind1 From2 To3 ID4 Topic5 Past6 Past7 Seen8 Hash9 Reply10)) (Comp.at' (Comp.inF (Comp.self (rW (PTR gb13 0)) ()) (lE rfl)) (by rfl : _ = 0)) (lE rfl)))) <| dR 5 (fun γ ρ B hb hd => Zao.at ⟨ρ, (cvar gb13 Zab x21) :: B, _⟩ (setO ⟨ρ, (cvar gb13 Zab x26) :: B, _⟩ _ _) ((Zak (js := [0]) ld Zjz (Zbw k x21 gb13 (v25, x26) hv25) .func (.cons (tl hd 3 22) .nil) rfl).post (fun _ => Imp.refl))) ?_
      refine dS 6 (fun γ ρ B hb hd => ZdD lb tu27 tu5 tu9 (tl hd 4 23)) <| db 7 0 <| dS 8 (fun γ ρ B hb hd => Zap lb (tl hd 6 25) (fun e v h => by subst h; rfl)) <| dS 9 (fun γ ρ B hb hd => Zaa (off := 0) lb Zb2 (tl hd 7 26)) <| dR 10 (fun γ ρ B hb hd => Zao.lk ⟨ρ, (zq58 gb11 gb13 go15 x14 gc16 Kind1 From2 To3 ID4 Topic5 Past6 Past7 Seen8 Hash9 Reply10) :: B, _⟩ (ZaJ (j := 0) lb tS87 (tl hd 8 27) rfl (Comp.trans (Comp.self (zq57 gb13 go15 x14 gc16) (zq31 Kind1 From2 To3 ID4 Topic5 Past6 Past7 Seen8 Hash9 Reply10)) (Comp.at' (Comp.inF (Comp.self (rW (PTR gb13 0)) ()) (lE rfl)) (by rfl : _ = 0)) (lE rfl)))) ?_
      refine dR 11 (fun γ ρ B hb hd => Zao.at ⟨ρ, (cvar gb13 Zab x26) :: B, _⟩ (setO ⟨ρ, (cvar gb13 Zab x28) :: B, _⟩ _ _) ((Zak (js := [0]) ld Zjz (Zbw k x26 gb13 (v27, x28) hv27) .func (.cons (tl hd 9 28) .nil) rfl).post (fun _ => Imp.refl))) <| dS 12 (fun γ ρ B hb hd => ZdD lb tu27 tu5 tu9 (tl hd 10 29)) <| dS 13 (fun γ ρ B hb hd => Zbl lb tZ60 zs60 tp60 (.S (off := 0) rfl (tl hd 5 24) rfl ((UpdR.fst (UpdR.self (by rfl))).at (by rfl)) (.S (off := 1) rfl (tl hd 11 30) rfl ((UpdR.snd (UpdR.fst (UpdR.self (by rfl)))).at (by rfl)) .nil)) rfl) <| dS 14 (fun γ ρ B hb hd => Zaa (off := 2) lb ZgH (.tmp (hb 3 _ rfl))) <| dR 15 (fun γ ρ B hb hd => Zao.at ⟨ρ, (cvar gb23 zq35 (zq37 v18 v22)) :: B, _⟩ (setO ⟨ρ, (cvar gb23 zq39 (v18, ((v25, (v27, ())), (v22, ())))) :: B, _⟩ _ _) (ZaM (j := 0) tA60 (tl hd 13 32) (tl hd 12 31) rfl ((UpdR.snd (UpdR.fst (UpdR.self (by rfl)))).at (by change (2 + 0) = (0 + 2); omega)) rfl)) ?_
      exact ZaF.nil)
       (by decide +kernel) (fun _ => rfl) (fun _ => rfl) (fun _ => rfl) rfl
       (ρ' := fun γ => [(2, ov (PTR gb17 0)), (3, ov (PTR gb23 0))])
       (X' := fun γ => [zq58 gb11 gb13 go15 x14 gc16 Kind1 From2 To3 ID4 Topic5 Past6 Past7 Seen8 Hash9 Reply10, cown go15 (rI .i64) x14 0 gc16, zq33 gb17, cvar gb13 Zab x28, cvar gb23 zq39 (v18, ((v25, (v27, ())), (v22, ())))])
       (fun γ ρ hb hd => (.cons (hb 2 _ rfl) (.cons (hb 3 _ rfl) .nil))) (fun _ => rfl) (fun γ => ?_)
   refine JQ.at ⟨[(2, ov (PTR gb17 0)), (3, ov (PTR gb23 0))], [zq58 gb11 gb13 go15 x14 gc16 Kind1 From2 To3 ID4 Topic5 Past6 Past7 Seen8 Hash9 Reply10, cown go15 (rI .i64) x14 0 gc16, zq33 gb17, cvar gb13 Zab x28, cvar gb23 zq39 (v18, ((v25, (v27, ())), (v22, ())))], []⟩ ?_
   have hz := Option.some.inj hx1
   replace hz := Prod.mk.inj hz
   obtain ⟨hz_a, hz⟩ := hz
   first | subst hz_a | clear hz_a
   first | subst hz | clear hz
   refine JQ.pre (Imp.var (j := 4) (q := Zaj) (y := (Zal.mk v18 (Zbs.mk v25 v27) v22)) rfl (Wk.st (Wk.pair Wk.refl (Wk.pair (Wk.st Wk.refl) (Wk.pair Wk.refl Wk.refl))))) ?_
   refine JQ.pre (Imp.var (j := 0) (q := (zq57 gb13 go15 x14 gc16)) (y := (zq31 Kind1 From2 To3 ID4 Topic5 Past6 Past7 Seen8 Hash9 Reply10)) rfl Wk.refl) ?_
   exact JQ.join () (Imp.norm (js := [2, 3, 0, 1, 0]) rfl (.cons rfl (.cons rfl .nil)))
 refine JC.skip ?_
 have hz := Option.some.inj hx1
 replace hz := Prod.mk.inj hz
 obtain ⟨hz_a, hz⟩ := hz
 first | subst hz_a | clear hz_a
 first | subst hz | clear hz
 refine JQ.pre (Imp.var (j := 4) (q := Zaj) (y := (Zal.mk v18 ((Zal.mk (Zah.mk (0 : Int) (0 : UInt64)) (Zbs.mk ([] : (List UInt8)) ([] : (List UInt8))) false).Key) v22)) rfl (Wk.st Wk.refl)) ?_
 refine JQ.pre (Imp.var (j := 0) (q := (zq57 gb13 go15 x14 gc16)) (y := (zq31 Kind1 From2 To3 ID4 Topic5 Past6 Past7 Seen8 Hash9 Reply10)) rfl Wk.refl) ?_
 exact JQ.join () (Imp.norm (js := [2, 3, 0, 1, 0]) rfl (.cons rfl (.cons rfl .nil)))

theorem Ze7 (k : Nat) (n1 : Int) (r2 : Zag) (Kind4 : Int) (From5 : Int) (To6 : Int) (ID7 : Zah) (Topic8 : (List UInt8)) (Past9 : (Vector UInt64 16)) (Past10 : (Vector UInt64 16)) (Seen11 : (Vector UInt64 16)) (Hash12 : (Vector UInt8 32)) (Reply13 : Bool) (x15 : (List Int)) (gb3 : Nat) (gb14 : Nat) (go16 : Option Nat) (gc17 : Nat) (r : (List Zal) × Zag) (hm : frame_listapi_Item'2 k n1 r2 Kind4 From5 To6 ID7 Topic8 Past9 Past10 Seen11 Hash12 Reply13 x15 = some r) : Sim Tryz.prog 124 [PTR gb3 0, S (rI .i64) n1, BND 125 [PTR gb14 0]] [cvar gb3 Zab r2, zq58 gb14 gb3 go16 x15 gc17 Kind4 From5 To6 ID7 Topic8 Past9 Past10 Seen11 Hash12 Reply13, cown go16 (rI .i64) x15 0 gc17] (γ := Option Nat × Nat) (fun q => [cown q.1 Zaj r.1 0 q.2, cvar gb3 Zab r.2, zq58 gb14 gb3 go16 x15 gc17 Kind4 From5 To6 ID7 Topic8 Past9 Past10 Seen11 Hash12 Reply13, cown go16 (rI .i64) x15 0 gc17]) (fun q => .one (.val (HDR q.1 0 (List.length r.1) q.2))) := by
 unfold frame_listapi_Item'2 at hm
 refine Sim.of Tryz.func124 rfl rfl (lE rfl) (fun e0 w0 => ?_)
 refine JC.at ⟨[(0, ov (PTR gb3 0)), (1, ov (S (rI .i64) n1)), (2, ov (BND 125 [PTR gb14 0]))], [cvar gb3 Zab r2, zq58 gb14 gb3 go16 x15 gc17 Kind4 From5 To6 ID7 Topic8 Past9 Past10 Seen11 Hash12 Reply13, cown go16 (rI .i64) x15 0 gc17], []⟩ <| jr <| jc (Zac lb HasO.nilH) <| jn <| jr <| jc (Zac lb HasO.nilH) <| jn <| bI hm fun tv1 hx1 hq1 => JC.seqK (α := (List Zal) × Zag) (γ := Option Nat × Nat) (stj := fun v q => ⟨[(7, ov (HDR q.1 0 (List.length v.1) q.2))], [cown q.1 Zaj v.1 0 q.2, cvar gb3 Zab v.2, zq58 gb14 gb3 go16 x15 gc17 Kind4 From5 To6 ID7 Topic8 Past9 Past10 Seen11 Hash12 Reply13, cown go16 (rI .i64) x15 0 gc17], []⟩) (p := fun v => tv1 = (.inl v)) (fun v q hv => ?_) ?_
 · subst hv
   obtain ⟨l35, x36⟩ := v
   obtain ⟨go37, gc38⟩ := q
   dsimp only at hq1
   refine JC.at ⟨[(7, ov (HDR go37 0 (List.length l35) gc38))], [cown go37 Zaj l35 0 gc38, cvar gb3 Zab x36, zq58 gb14 gb3 go16 x15 gc17 Kind4 From5 To6 ID7 Topic8 Past9 Past10 Seen11 Hash12 Reply13, cown go16 (rI .i64) x15 0 gc17], []⟩ <| jr <| jmv rfl rfl <| jc (Zac lb tR) <| jn <| JC.ret ?_
   obtain rfl := so hq1
   exact JQ.done (js := [0, 0, 0, 0]) (ss := [.val (HDR go37 0 (List.length l35) gc38)]) (go37, gc38) (.inl rfl) (.nil rfl) rfl (.cons (.tmp rfl) .nil) rfl rfl rfl
 refine jr <| jmv rfl rfl <| jc (ZaC lb .cI) <| jn <| JC.block <| bI hx1 fun tv2 hL2 hq2 => JC.pre (Imp.nilown Zaj) <| JC.pre (Imp.var (j := 1) (q := (zq57 gb3 go16 x15 gc17)) (y := (zq31 Kind4 From5 To6 ID7 Topic8 Past9 Past10 Seen11 Hash12 Reply13)) rfl Wk.refl) ?_
 refine JC.pre ?_ (JC.loop (γ := Option Nat × Nat) (stf := fun s q => ⟨[(0, ov (PTR gb3 0)), (2, ov (BND 125 [PTR gb14 0])), (7, ov (HDR q.1 0 (List.length s.2.1) q.2)), (8, ov (S (rI .i64) n1)), (9, ov (S (rI .i64) s.2.2))], [cvar gb3 Zab s.1, zq58 gb14 gb3 go16 x15 gc17 Kind4 From5 To6 ID7 Topic8 Past9 Past10 Seen11 Hash12 Reply13, cown go16 (rI .i64) x15 0 gc17, cown q.1 Zaj s.2.1 0 q.2], []⟩) (q := (none, 0)) hL2 ?_)
 · exact (Imp.norm (js := [0, 0, 0, 0]) rfl (.cons rfl (.cons rfl (.cons rfl (.cons rfl (.cons rfl .nil))))))
 intro s q x hx hr
 obtain ⟨r18, l19, x20⟩ := s
 obtain ⟨go21, gc22⟩ := q
 change frame_listapi_Item'2.b1 k n1 Kind4 From5 To6 ID7 Topic8 Past9 Past10 Seen11 Hash12 Reply13 x15 r18 l19 x20 = some x at hx
 unfold frame_listapi_Item'2.b1 at hx
 refine JC.at ⟨[(0, ov (PTR gb3 0)), (2, ov (BND 125 [PTR gb14 0])), (7, ov (HDR go21 0 (List.length l19) gc22)), (8, ov (S (rI .i64) n1)), (9, ov (S (rI .i64) x20))], [cvar gb3 Zab r18, zq58 gb14 gb3 go16 x15 gc17 Kind4 From5 To6 ID7 Topic8 Past9 Past10 Seen11 Hash12 Reply13, cown go16 (rI .i64) x15 0 gc17, cown go21 Zaj l19 0 gc22], []⟩ <| jr <| lI hx fun v23 hv23 hx => jc (Zar lb tR tR (cs hv23)) <| jn <| JC.seq <| jif tR hx (fun hc3 hx => ?_) (fun hc3 hx => ?_)
 · refine JC.skip <| JQ.then <| JC.seq <| JC.block <| JC.seq <| jr <| jmv rfl rfl <| bI hx fun v24 hv24 hx => jx (Zak (js := [0]) ld ZiI (Za1 k r18 gb3 v24 hv24) .func (.cons tR .nil) rfl) fun _ => jn <| jif tR hx (fun hc4 hx => ?_) (fun hc4 hx => ?_)
   · refine jr <| jc (Zac lb HasO.nilH) <| jn <| JC.ret <| JQ.outR <| JQ.outRB <| JQ.outR ?_
     try obtain rfl := so hx
     try obtain rfl := hr _ rfl
     dsimp only at hq2
     refine JQ.outR <| JQ.outRB ?_
     try obtain rfl := so hq2
     dsimp only at hq1
     refine JQ.outR ?_
     obtain rfl := so hq1
     exact JQ.pre (Imp.nilown Zaj) <| JQ.done (js := [4, 0, 0, 0]) (ss := [.val (HDR none 0 (List.length ([] : (List Zal))) (0))]) (none, 0) (.inl rfl) (.nil rfl) rfl (.cons (.tmp rfl) .nil) rfl rfl rfl
   refine JC.skip <| JQ.then <| JC.region <| jmv rfl rfl <| jmv rfl rfl ?_
   obtain ⟨⟨v25, x26⟩, hv25, hx⟩ := Zaz hx
   refine jx (Zhy (js := [1, 0, 0]) ld Zn0 (Zfj k Kind4 From5 To6 ID7 Topic8 Past9 Past10 Seen11 Hash12 Reply13 r18 x15 gb14 gb3 go16 gc17 (v25, x26) hv25) tR .nil rfl) fun _ => jc (Zce (r := Zaj) lb tu23 tz62 tZ62 rfl (lE rfl) (.A tR .nil) rfl) <| bI hx fun l27 hv_l_27 hx => jx (Zbd (j := 3) lb tu23 tu23 rfl tB62 rfl (Nat.lt_of_lt_of_le Nat.zero_lt_one (lE rfl)) (Nat.lt_of_lt_of_le Nat.zero_lt_one (lE rfl))  rfl tR tR hv_l_27) (fun q => ?_)
   obtain ⟨go28, gc29⟩ := q
   refine JL.sub ⟨[(0, ov (PTR gb3 0)), (2, ov (BND 125 [PTR gb14 0])), (8, ov (S (rI .i64) n1)), (9, ov (S (rI .i64) x20)), (17, ov (HDR go28 0 (List.length l27) gc29))], [zq58 gb14 gb3 go16 x15 gc17 Kind4 From5 To6 ID7 Topic8 Past9 Past10 Seen11 Hash12 Reply13, cvar gb3 Zab x26, cown go16 (rI .i64) x15 0 gc17, cown go28 Zaj l27 0 gc29], []⟩ (.cons rfl (.cons rfl (.cons rfl (.cons rfl (.cons rfl .nil))))) rfl rfl <| jc (Zac lb tR) <| JL.nil <| JQ.outNB <| JQ.then <| JC.region <| lI hx fun v30 hv30 hx => jc (ZaX lb tR .cI (cs hv30)) <| jmv rfl rfl <| JL.nil ?_
   try obtain rfl := so hx
   exact JQ.next (go28, gc29) rfl (Imp.norm (js := [1, 0, 0, 0]) rfl (.cons rfl (.cons rfl (.cons rfl (.cons rfl (.cons rfl .nil))))))
 refine JC.exit <| JQ.outX ?_
 try obtain rfl := so hx
 try obtain rfl := hr _ rfl
 dsimp only at hq2
 refine JQ.outX <| JQ.here ?_
 try obtain rfl := so hq2
 exact JQ.joinK (l19, r18) (go21, gc22) rfl (Imp.norm (js := [3, 0, 0, 0]) rfl (.cons rfl .nil))

theorem ZeV (k : Nat) (Kind1 : Int) (From2 : Int) (To3 : Int) (ID4 : Zah) (Topic5 : (List UInt8)) (Past6 : (Vector UInt64 16)) (Past7 : (Vector UInt64 16)) (Seen8 : (Vector UInt64 16)) (Hash9 : (Vector UInt8 32)) (Reply10 : Bool) (x12 : Zag) (x14 : (List Int)) (gb11 : Nat) (gb13 : Nat) (go15 : Option Nat) (gc16 : Nat) (r : Zag × (List Zal)) (hm : Zb4 k Kind1 From2 To3 ID4 Topic5 Past6 Past7 Seen8 Hash9 Reply10 x12 x14 = some r) : Sim Tryz.prog 93 [PTR gb11 0] [zq58 gb11 gb13 go15 x14 gc16 Kind1 From2 To3 ID4 Topic5 Past6 Past7 Seen8 Hash9 Reply10, cvar gb13 Zab x12, cown go15 (rI .i64) x14 0 gc16] (γ := Option Nat × Nat) (fun q => [cvar gb11 (rP (rW (PTR gb13 0)) (rP (rP (rI .i64) (rP (rI .i64) (rP (rI .i64) (rP (rW (HDR q.1 0 (List.length r.2) q.2)) (rP (rP Zae (rP rS (rP (rW (HDR none 0 0 0)) (rP (rV 16 (rU UInt64)) (rP (rW (HDR none 0 0 0)) r0))))) (rP (rV 16 (rU UInt64)) (rP (rV 16 (rU UInt64)) (rP (rW (HDR none 0 0 0)) (rP (rW (HDR none 0 0 0)) (rP (rV 32 (rU UInt8)) (rP (rW (HDR none 0 0 0)) (rP (rW (HDR go15 0 (List.length x14) gc16)) (rP rB r0))))))))))))) r0)) (zq31 Kind1 From2 To3 ID4 Topic5 Past6 Past7 Seen8 Hash9 Reply10), cvar gb13 Zab r.1, cown q.1 Zaj r.2 0 q.2, cown go15 (rI .i64) x14 0 gc16]) (fun q => .tup []) := by
 unfold Zb4 at hm
 refine Sim.of Tryz.func93 rfl rfl (lE rfl) (fun e0 w0 => ?_)
 refine JC.at ⟨[(0, ov (PTR gb11 0))], [zq58 gb11 gb13 go15 x14 gc16 Kind1 From2 To3 ID4 Topic5 Past6 Past7 Seen8 Hash9 Reply10, cvar gb13 Zab x12, cown go15 (rI .i64) x14 0 gc16], []⟩ <| jr <| jmv rfl rfl ?_
 obtain ⟨⟨v17, x18⟩, hv17, hm⟩ := Zaz hm
 refine jx (Zak (js := [0, 0, 0]) ld Zla (ZeQ k Kind1 From2 To3 ID4 Topic5 Past6 Past7 Seen8 Hash9 Reply10 x12 x14 gb11 gb13 go15 gc16 (v17, x18) hv17) .func (.cons tR .nil) rfl) fun _ => jc (Zac lb tR) <| jn <| JC.region <| jmv rfl rfl <| jmv rfl rfl <| jc (Zap lb tR (fun e v h => by subst h; rfl)) <| jc (Zaa (off := 0) lb Zb2 tR) <| jc (ZaJ (j := 0) lb tS87 tR rfl (Comp.trans (Comp.self (zq57 gb13 go15 x14 gc16) (zq31 Kind1 From2 To3 ID4 Topic5 Past6 Past7 Seen8 Hash9 Reply10)) (Comp.at' (Comp.inF (Comp.self (rW (PTR gb13 0)) ()) (lE rfl)) (by rfl : _ = 0)) (lE rfl))) <| jmv rfl rfl <| jmv rfl rfl <| JL.sub ⟨[(5, ov (PTR gb11 0)), (9, ov (PTR gb13 0)), (10, ov (S (rI .i64) v17)), (11, ov (PTR gb11 0))], [zq58 gb11 gb13 go15 x14 gc16 Kind1 From2 To3 ID4 Topic5 Past6 Past7 Seen8 Hash9 Reply10, cvar gb13 Zab x18, cown go15 (rI .i64) x14 0 gc16], []⟩ (.cons rfl (.cons rfl (.cons rfl (.cons rfl .nil)))) rfl rfl <| jc (Zeh lb (.cons tR .nil)) ?_
 obtain ⟨⟨v19, x20⟩, hv19, hm⟩ := Zaz hm
 refine jx (Zak (js := [1, 0, 0]) ld ZnY (Ze7 k v17 x18 Kind1 From2 To3 ID4 Topic5 Past6 Past7 Seen8 Hash9 Reply10 x14 gb13 gb11 go15 gc16 (v19, x20) hv19) .func (.cons tR (.cons tR (.cons tR .nil))) rfl) (fun q => ?_)
 obtain ⟨go21, gc22⟩ := q
 refine jc (Zap lb tR (fun e v h => by subst h; rfl)) <| jc (Zaa (off := 1) lb ZdL tR) <| jc (Zaa (off := 3) lb ZdJ tR) <| jc (ZbN (j := 2) tS23 tR tR rfl ((UpdR.snd (UpdR.fst (UpdR.snd (UpdR.snd (UpdR.snd (UpdR.fst (UpdR.self (by rfl)))))))).at (by change (1 + (1 + (1 + (1 + 0)))) = ((0 + 1) + 3); omega)) rfl) <| JL.nil ?_
 obtain rfl := so hm
 exact JQ.done (js := [2, 1, 0, 0]) (ss := []) (go21, gc22) (.inr rfl) (.nil rfl) rfl .nil rfl rfl rfl

theorem ZeX (k : Nat) (Kind1 : Int) (From2 : Int) (To3 : Int) (ID4 : Zah) (Topic5 : (List UInt8)) (Past6 : (Vector UInt64 16)) (Past7 : (Vector UInt64 16)) (Seen8 : (Vector UInt64 16)) (Hash9 : (Vector UInt8 32)) (Reply10 : Bool) (x12 : Zag) (x14 : (List Zal)) (x17 : (List Int)) (gb11 : Nat) (gb13 : Nat) (go15 : Option Nat) (gc16 : Nat) (go18 : Option Nat) (gc19 : Nat) (r : Int × Zag) (hm : Zbz k Kind1 From2 To3 ID4 Topic5 Past6 Past7 Seen8 Hash9 Reply10 x12 x14 x17 = some r) : Sim Tryz.prog 123 [PTR gb11 0] [zq60 gb11 gb13 go15 x14 gc16 go18 x17 gc19 Kind1 From2 To3 ID4 Topic5 Past6 Past7 Seen8 Hash9 Reply10, cvar gb13 Zab x12, cown go15 Zaj x14 0 gc16, cown go18 (rI .i64) x17 0 gc19] (γ := Unit) (fun q => [zq60 gb11 gb13 go15 x14 gc16 go18 x17 gc19 Kind1 From2 To3 ID4 Topic5 Past6 Past7 Seen8 Hash9 Reply10, cvar gb13 Zab r.2, cown go15 Zaj x14 0 gc16, cown go18 (rI .i64) x17 0 gc19]) (fun q => .one (.val (S (rI .i64) r.1))) := by
 unfold Zbz at hm
 refine Sim.of Tryz.func123 rfl rfl (lE rfl) (fun e0 w0 => ?_)
 refine JC.at ⟨[(0, ov (PTR gb11 0))], [zq60 gb11 gb13 go15 x14 gc16 go18 x17 gc19 Kind1 From2 To3 ID4 Topic5 Past6 Past7 Seen8 Hash9 Reply10, cvar gb13 Zab x12, cown go15 Zaj x14 0 gc16, cown go18 (rI .i64) x17 0 gc19], []⟩ <| jr <| jc (Zac lb .cI) <| jn <| jr <| jmv rfl rfl <| jc (Zap lb tR (fun e v h => by subst h; rfl)) <| jc (Zaa (off := 0) lb Zb2 tR) <| jc (ZaJ (j := 0) lb tS87 tR rfl (Comp.trans (Comp.self (zq59 gb13 go15 x14 gc16 go18 x17 gc19) (zq31 Kind1 From2 To3 ID4 Topic5 Past6 Past7 Seen8 Hash9 Reply10)) (Comp.at' (Comp.inF (Comp.self (rW (PTR gb13 0)) ()) (lE rfl)) (by rfl : _ = 0)) (lE rfl))) ?_
 obtain ⟨⟨v20, x21⟩, hv20, hm⟩ := Zaz hm
 refine jx (Zak (js := [1]) ld cl53 (ZaD k (2 : Int) x12 gb13 (v20, x21) hv20) .func (.cons tR (.cons .cI .nil)) rfl) fun _ => lI hm fun v22 hv22 hm => jc (Zcn lb tu24 tu3 tR hv22) <| jc (Zac lb tR) <| jn <| JC.ret ?_
 obtain rfl := so hm
 refine JQ.pre (Imp.var (j := 1) (q := (zq59 gb13 go15 x14 gc16 go18 x17 gc19)) (y := (zq31 Kind1 From2 To3 ID4 Topic5 Past6 Past7 Seen8 Hash9 Reply10)) rfl Wk.refl) ?_
 exact JQ.done (js := [1, 0, 0, 0]) (ss := [.val (S (rI .i64) v22)]) () (.inl rfl) (.nil rfl) rfl (.cons (.tmp rfl) .nil) rfl rfl rfl

theorem Zff (k : Nat) (Kind1 : Int) (From2 : Int) (To3 : Int) (ID4 : Zah) (Topic5 : (List UInt8)) (Past6 : (Vector UInt64 16)) (Past7 : (Vector UInt64 16)) (Seen8 : (Vector UInt64 16)) (Hash9 : (Vector UInt8 32)) (Reply10 : Bool) (x12 : Zag) (x14 : (List Zal)) (x17 : (List Int)) (gb11 : Nat) (gb13 : Nat) (go15 : Option Nat) (gc16 : Nat) (go18 : Option Nat) (gc19 : Nat) (r : Zag × (Vector UInt64 16) × (List Zah)) (hm : Zb9 k Kind1 From2 To3 ID4 Topic5 Past6 Past7 Seen8 Hash9 Reply10 x12 x14 x17 = some r) : Sim Tryz.prog 133 [PTR gb11 0] [zq60 gb11 gb13 go15 x14 gc16 go18 x17 gc19 Kind1 From2 To3 ID4 Topic5 Past6 Past7 Seen8 Hash9 Reply10, cvar gb13 Zab x12, cown go15 Zaj x14 0 gc16, cown go18 (rI .i64) x17 0 gc19] (γ := Option Nat × Nat) (fun q => [cvar gb11 (rP (rW (PTR gb13 0)) (rP (rP (rI .i64) (rP (rI .i64) (rP (rI .i64) (rP (rW (HDR go15 0 (List.length x14) gc16)) (rP (rP Zae (rP rS (rP (rW (HDR none 0 0 0)) (rP (rV 16 (rU UInt64)) (rP (rW (HDR none 0 0 0)) r0))))) (rP (rV 16 (rU UInt64)) (rP (rV 16 (rU UInt64)) (rP (rW (HDR q.1 0 (List.length r.2.2) q.2)) (rP (rW (HDR none 0 0 0)) (rP (rV 32 (rU UInt8)) (rP (rW (HDR none 0 0 0)) (rP (rW (HDR go18 0 (List.length x17) gc19)) (rP rB r0))))))))))))) r0)) ((), ((Kind1, (From2, (To3, ((), ((ID4, (Topic5, ((), (Past6, ((), ()))))), (Past7, (r.2.1, ((), ((), (Hash9, ((), ((), (Reply10, ()))))))))))))), ())), cvar gb13 Zab r.1, cown go15 Zaj x14 0 gc16, cown q.1 Zae r.2.2 0 q.2, cown go18 (rI .i64) x17 0 gc19]) (fun q => .tup []) := by
 unfold Zb9 at hm
 refine Sim.of Tryz.func133 rfl rfl (lE rfl) (fun e0 w0 => ?_)
 refine JC.at ⟨[(0, ov (PTR gb11 0))], [zq60 gb11 gb13 go15 x14 gc16 go18 x17 gc19 Kind1 From2 To3 ID4 Topic5 Past6 Past7 Seen8 Hash9 Reply10, cvar gb13 Zab x12, cown go15 Zaj x14 0 gc16, cown go18 (rI .i64) x17 0 gc19], []⟩ <| jr <| jmv rfl rfl <| jmv rfl rfl <| jc (Zap lb tR (fun e v h => by subst h; rfl)) <| jc (Zaa (off := 0) lb Zb2 tR) <| jc (ZaJ (j := 0) lb tS87 tR rfl (Comp.trans (Comp.self (zq59 gb13 go15 x14 gc16 go18 x17 gc19) (zq31 Kind1 From2 To3 ID4 Topic5 Past6 Past7 Seen8 Hash9 Reply10)) (Comp.at' (Comp.inF (Comp.self (rW (PTR gb13 0)) ()) (lE rfl)) (by rfl : _ = 0)) (lE rfl))) ?_
 obtain ⟨⟨v20, x21⟩, hv20, hm⟩ := Zaz hm
 refine jx (Zak (js := [1]) ld Zmj (Zcg k x12 gb13 (v20, x21) hv20) .func (.cons tR .nil) rfl) fun _ => jc (Zap lb tR (fun e v h => by subst h; rfl)) <| jc (Zaa (off := 1) lb ZdL tR) <| jc (Zaa (off := 41) lb Zfw tR) <| jc (ZaM (j := 1) tA29 tR tR rfl ((UpdR.snd (UpdR.fst (UpdR.snd (UpdR.snd (UpdR.snd (UpdR.snd (UpdR.snd (UpdR.snd (UpdR.fst (UpdR.self (by rfl))))))))))).at (by change (1 + (1 + (1 + (1 + (1 + (21 + (16 + 0))))))) = ((0 + 1) + 41); omega)) rfl) <| JL.sub ⟨[(0, ov (PTR gb11 0))], [cvar gb13 Zab x21, zq60 gb11 gb13 go15 x14 gc16 go18 x17 gc19 Kind1 From2 To3 ID4 Topic5 Past6 Past7 v20 Hash9 Reply10, cown go15 Zaj x14 0 gc16, cown go18 (rI .i64) x17 0 gc19], []⟩ (.cons rfl .nil) rfl rfl <| jn <| jr <| jmv rfl rfl ?_
 obtain ⟨⟨v22, x23⟩, hv22, hm⟩ := Zaz hm
 refine jx (Zak (js := [1, 0, 0, 0]) ld Zla (ZeX k Kind1 From2 To3 ID4 Topic5 Past6 Past7 v20 Hash9 Reply10 x21 x14 x17 gb11 gb13 go15 gc16 go18 gc19 (v22, x23) hv22) .func (.cons tR .nil) rfl) fun _ => jc (Zac lb tR) <| jn ?_
 obtain ⟨⟨v24, x25⟩, hv24, hm⟩ := Zaz hm
 refine JC.anyF (base := [(0, ov (PTR gb11 0)), (2, ov (S (rI .i64) v22))])
     (fs := fun γ => [⟨some 14, ov (PTR gb11 0)⟩, ⟨some 15, ov (PTR gb11 0)⟩, ⟨some 16, ov (PTR gb11 0)⟩, ⟨some 17, ov (PTR gb11 (0 + 0))⟩, ⟨some 18, ov (PTR gb13 0)⟩, ⟨some 19, ov (S (rI .i64) v22)⟩, ⟨some 20, ov (PTR gb11 0)⟩, ⟨some 21, ov (PTR gb11 0)⟩, ⟨some 22, ov (PTR gb11 (0 + 0))⟩, ⟨some 23, ov (PTR gb13 0)⟩, ⟨some 24, ov (BND 135 [PTR gb13 0])⟩, ⟨some 25, ov (HDR (deo (γ 11 0)) 0 (List.length v24) (γ 11 1))⟩, ⟨some 26, ov (PTR gb11 0)⟩, ⟨some 27, ov (PTR gb11 (0 + 1))⟩, ⟨some 28, ov (PTR gb11 ((0 + 1) + 57))⟩, ⟨none, .one .any⟩])
     (rs := fun γ => [⟨zq60 gb11 gb13 go15 x14 gc16 go18 x17 gc19 Kind1 From2 To3 ID4 Topic5 Past6 Past7 v20 Hash9 Reply10, none, (some 15), [4, 9]⟩, ⟨cvar gb13 Zab x23, none, (some 11), []⟩, ⟨cown go15 Zaj x14 0 gc16, none, none, []⟩, ⟨cown go18 (rI .i64) x17 0 gc19, none, none, []⟩, ⟨cown (deo (γ 11 0)) Zae v24 0 (γ 11 1), (some 11), none, []⟩, ⟨cvar gb13 Zab x25, (some 11), none, []⟩, ⟨zq62 gb11 gb13 go15 x14 gc16 (deo (γ 11 0)) v24 (γ 11 1) go18 x17 gc19 Kind1 From2 To3 ID4 Topic5 Past6 Past7 v20 Hash9 Reply10, (some 15), none, []⟩])
     (afts := [[], [], [], [], [], [], [], [], [], [], [], [11, 12, 13, 14, 15], [], [], [], []]) (js := [0, 0, 0, 0]) Zcj (.cons rfl (.cons rfl .nil)) (fun _ => rfl)
     (by
      refine db 1 0 <| db 2 0 <| dS 3 (fun γ ρ B hb hd => Zap lb (tl hd 1 15) (fun e v h => by subst h; rfl)) <| dS 4 (fun γ ρ B hb hd => Zaa (off := 0) lb Zb2 (tl hd 2 16)) <| dR 5 (fun γ ρ B hb hd => Zao.lk ⟨ρ, (zq60 gb11 gb13 go15 x14 gc16 go18 x17 gc19 Kind1 From2 To3 ID4 Topic5 Past6 Past7 v20 Hash9 Reply10) :: B, _⟩ (ZaJ (j := 0) lb tS87 (tl hd 3 17) rfl (Comp.trans (Comp.self (zq59 gb13 go15 x14 gc16 go18 x17 gc19) (zq31 Kind1 From2 To3 ID4 Topic5 Past6 Past7 v20 Hash9 Reply10)) (Comp.at' (Comp.inF (Comp.self (rW (PTR gb13 0)) ()) (lE rfl)) (by rfl : _ = 0)) (lE rfl)))) ?_
      refine db 6 2 <| db 7 0 <| dS 8 (fun γ ρ B hb hd => Zap lb (tl hd 6 20) (fun e v h => by subst h; rfl)) <| dS 9 (fun γ ρ B hb hd => Zaa (off := 0) lb Zb2 (tl hd 7 21)) <| dR 10 (fun γ ρ B hb hd => Zao.lk ⟨ρ, (zq60 gb11 gb13 go15 x14 gc16 go18 x17 gc19 Kind1 From2 To3 ID4 Topic5 Past6 Past7 v20 Hash9 Reply10) :: B, _⟩ (ZaJ (j := 0) lb tS87 (tl hd 8 22) rfl (Comp.trans (Comp.self (zq59 gb13 go15 x14 gc16 go18 x17 gc19) (zq31 Kind1 From2 To3 ID4 Topic5 Past6 Past7 v20 Hash9 Reply10)) (Comp.at' (Comp.inF (Comp.self (rW (PTR gb13 0)) ()) (lE rfl)) (by rfl : _ = 0)) (lE rfl)))) ?_
      refine dS 11 (fun γ ρ B hb hd => Zeh lb (.cons (tl hd 9 23) .nil)) ?_
      refine ZaF.cons (j := 12) rfl (fun _ => rfl) (.runX (fun _ _ => rfl) (fun γ ρ B hb hd => ⟨.none, OpX.ghost (γ := Option Nat × Nat) (st' := fun q => setO ⟨ρ, (cown q.1 Zae v24 0 q.2) :: (cvar gb13 Zab x25) :: B, _⟩ (some 25) (ov (HDR q.1 0 (List.length v24) q.2))) (fun q c => bif Nat.beq c 0 then eno q.1 else q.2) (Zak (js := [0]) ld Zm5 (Zc3 k v22 x23 gb13 (v24, x25) hv24) .func (.cons (tl hd 4 18) (.cons (tl hd 5 19) (.cons (tl hd 10 24) .nil))) rfl) (fun q => by obtain ⟨q0, q1⟩ := q; cases q0 <;> exact Imp.refl)⟩) (fun _ _ => rfl) (fun _ _ => rfl)) ?_
      refine dS 13 (fun γ ρ B hb hd => Zap lb (tl hd 0 14) (fun e v h => by subst h; rfl)) <| dS 14 (fun γ ρ B hb hd => Zaa (off := 1) lb ZdL (tl hd 12 26)) <| dS 15 (fun γ ρ B hb hd => Zaa (off := 57) lb Ze1 (tl hd 13 27)) <| dR 16 (fun γ ρ B hb hd => Zao.at ⟨ρ, (zq60 gb11 gb13 go15 x14 gc16 go18 x17 gc19 Kind1 From2 To3 ID4 Topic5 Past6 Past7 v20 Hash9 Reply10) :: B, _⟩ (setO ⟨ρ, (zq62 gb11 gb13 go15 x14 gc16 (deo (γ 11 0)) v24 (γ 11 1) go18 x17 gc19 Kind1 From2 To3 ID4 Topic5 Past6 Past7 v20 Hash9 Reply10) :: B, _⟩ _ _) (ZbN (j := 0) tS33 (tl hd 14 28) (tl hd 11 25) rfl ((UpdR.snd (UpdR.fst (UpdR.snd (UpdR.snd (UpdR.snd (UpdR.snd (UpdR.snd (UpdR.snd (UpdR.snd (UpdR.fst (UpdR.self (by rfl)))))))))))).at (by change (1 + (1 + (1 + (1 + (1 + (21 + (16 + (16 + 0)))))))) = ((0 + 1) + 57); omega)) rfl)) ?_
      exact ZaF.nil)
     (by decide +kernel) (fun _ => rfl) (fun _ => rfl) (fun _ => rfl) rfl
     (ρ' := fun γ => [])
     (X' := fun γ => [cown go15 Zaj x14 0 gc16, cown go18 (rI .i64) x17 0 gc19, cown (deo (γ 11 0)) Zae v24 0 (γ 11 1), cvar gb13 Zab x25, zq62 gb11 gb13 go15 x14 gc16 (deo (γ 11 0)) v24 (γ 11 1) go18 x17 gc19 Kind1 From2 To3 ID4 Topic5 Past6 Past7 v20 Hash9 Reply10])
     (fun γ ρ hb hd => .nil) (fun _ => rfl) (fun γ => ?_)
 generalize (deo (γ 11 0)) = go26
 generalize (γ 11 1) = gc27
 clear γ
 refine JQ.at ⟨[], [cown go15 Zaj x14 0 gc16, cown go18 (rI .i64) x17 0 gc19, cown go26 Zae v24 0 gc27, cvar gb13 Zab x25, zq62 gb11 gb13 go15 x14 gc16 go26 v24 gc27 go18 x17 gc19 Kind1 From2 To3 ID4 Topic5 Past6 Past7 v20 Hash9 Reply10], []⟩ ?_
 obtain rfl := so hm
 exact JQ.done (js := [4, 3, 0, 1, 0]) (ss := []) (go26, gc27) (.inr rfl) (.nil rfl) rfl .nil rfl rfl rfl

theorem ZeR (k : Nat) (Kind1 : Int) (From2 : Int) (To3 : Int) (ID4 : Zah) (Topic5 : (List UInt8)) (Past6 : (Vector UInt64 16)) (Past7 : (Vector UInt64 16)) (Seen8 : (Vector UInt64 16)) (Hash9 : (Vector UInt8 32)) (Reply10 : Bool) (x12 : Zag) (gb11 : Nat) (gb13 : Nat) (r : Zag × (List Zal) × (Vector UInt64 16) × (List Zah) × (List Int) × Bool) (hm : Zb5 k Kind1 From2 To3 ID4 Topic5 Past6 Past7 Seen8 Hash9 Reply10 x12 = some r) : Sim Tryz.prog 105 [PTR gb11 0] [zq32 gb11 gb13 Kind1 From2 To3 ID4 Topic5 Past6 Past7 Seen8 Hash9 Reply10, cvar gb13 Zab x12] (γ := Option Nat × Nat × Option Nat × Nat × Option Nat × Nat) (fun q => [cvar gb11 (rP (rW (PTR gb13 0)) (rP (rP (rI .i64) (rP (rI .i64) (rP (rI .i64) (rP (rW (HDR q.1 0 (List.length r.2.1) q.2.1)) (rP (rP Zae (rP rS (rP (rW (HDR none 0 0 0)) (rP (rV 16 (rU UInt64)) (rP (rW (HDR none 0 0 0)) r0))))) (rP (rV 16 (rU UInt64)) (rP (rV 16 (rU UInt64)) (rP (rW (HDR q.2.2.1 0 (List.length r.2.2.2.1) q.2.2.2.1)) (rP (rW (HDR none 0 0 0)) (rP (rV 32 (rU UInt8)) (rP (rW (HDR none 0 0 0)) (rP (rW (HDR q.2.2.2.2.1 0 (List.length r.2.2.2.2.1) q.2.2.2.2.2)) (rP rB r0))))))))))))) r0)) ((), ((Kind1, (From2, (To3, ((), ((ID4, (Topic5, ((), (Past6, ((), ()))))), (Past7, (r.2.2.1, ((), ((), (Hash9, ((), ((), (r.2.2.2.2.2, ()))))))))))))), ())), cvar gb13 Zab r.1, cown q.1 Zaj r.2.1 0 q.2.1, cown q.2.2.1 Zae r.2.2.2.1 0 q.2.2.2.1, cown q.2.2.2.2.1 (rI .i64) r.2.2.2.2.1 0 q.2.2.2.2.2]) (fun q => .tup []) := by
 unfold Zb5 at hm
 refine Sim.of Tryz.func105 rfl rfl (lE rfl) (fun e0 w0 => ?_)
 refine JC.at ⟨[(0, ov (PTR gb11 0))], [zq32 gb11 gb13 Kind1 From2 To3 ID4 Topic5 Past6 Past7 Seen8 Hash9 Reply10, cvar gb13 Zab x12], []⟩ <| jr <| jx (ZnC lb tR) fun gb14 => jn <| jr <| jc (ZaJ (j := 2) lb tS86 tR rfl (Comp.self (rW (PTR gb11 0)) ())) <| jc (Zap lb tR (fun e v h => by subst h; rfl)) <| jc (Zaa (off := 0) lb Zb2 tR) <| jc (ZaJ (j := 0) lb tS87 tR rfl (Comp.trans (Comp.self (zq27 gb13) (zq31 Kind1 From2 To3 ID4 Topic5 Past6 Past7 Seen8 Hash9 Reply10)) (Comp.at' (Comp.inF (Comp.self (rW (PTR gb13 0)) ()) (lE rfl)) (by rfl : _ = 0)) (lE rfl))) ?_
 obtain ⟨⟨v15, x16⟩, hv15, hm⟩ := Zaz hm
 refine jx (Zak (js := [1]) ld cl53 (ZaD k (1 : Int) x12 gb13 (v15, x16) hv15) .func (.cons tR (.cons .cI .nil)) rfl) fun _ => lI hm fun v17 hv17 hm => jc (Zcn lb tu24 tu3 tR hv17) <| jc (Zac lb tR) <| JL.sub ⟨[(1, ov (PTR gb14 0)), (2, ov (S (rI .i64) v17))], [cvar gb13 Zab x16, zq32 gb11 gb13 Kind1 From2 To3 ID4 Topic5 Past6 Past7 Seen8 Hash9 Reply10, cvar gb14 (rW (PTR gb11 0)) ()], []⟩ (.cons rfl (.cons rfl .nil)) rfl rfl <| jn <| JC.seq ?_
 obtain ⟨⟨v18, x19⟩, hv18, hm⟩ := Zaz hm
 refine JC.anyF (base := [(1, ov (PTR gb14 0)), (2, ov (S (rI .i64) v17))])
     (fs := fun γ => [⟨some 9, ov (PTR gb11 0)⟩, ⟨some 10, ov (PTR gb11 0)⟩, ⟨some 11, ov (PTR gb11 0)⟩, ⟨some 12, ov (PTR gb11 (0 + 0))⟩, ⟨some 13, ov (PTR gb13 0)⟩, ⟨some 14, ov (S (rI .i64) v17)⟩, ⟨some 15, ov (CLO 139 [PTR gb14 0])⟩, ⟨some 16, ov (HDR (deo (γ 7 0)) 0 (List.length v18) (γ 7 1))⟩, ⟨some 17, ov (PTR gb11 0)⟩, ⟨some 18, ov (PTR gb11 (0 + 1))⟩, ⟨some 19, ov (PTR gb11 ((0 + 1) + 92))⟩, ⟨none, .one .any⟩])
     (rs := fun γ => [⟨cvar gb13 Zab x16, none, (some 7), []⟩, ⟨zq32 gb11 gb13 Kind1 From2 To3 ID4 Topic5 Past6 Past7 Seen8 Hash9 Reply10, none, (some 11), [4, 7]⟩, ⟨cvar gb14 (rW (PTR gb11 0)) (), none, none, [0, 1, 7]⟩, ⟨cown (deo (γ 7 0)) (rI .i64) v18 0 (γ 7 1), (some 7), none, []⟩, ⟨cvar gb13 Zab x19, (some 7), none, []⟩, ⟨zq58 gb11 gb13 (deo (γ 7 0)) v18 (γ 7 1) Kind1 From2 To3 ID4 Topic5 Past6 Past7 Seen8 Hash9 Reply10, (some 11), none, []⟩])
     (afts := [[], [], [], [], [], [], [], [7, 8, 9, 10, 11], [], [], [], []]) (js := [0, 0, 0]) Zcj (.cons rfl (.cons rfl .nil)) (fun _ => rfl)
     (by
      refine dR 1 (fun γ ρ B hb hd => Zao.lk ⟨ρ, (cvar gb14 (rW (PTR gb11 0)) ()) :: B, _⟩ (ZaJ (j := 0) lb tS86 (.tmp (hb 1 _ rfl)) rfl (Comp.self (rW (PTR gb11 0)) ()))) <| dR 2 (fun γ ρ B hb hd => Zao.lk ⟨ρ, (cvar gb14 (rW (PTR gb11 0)) ()) :: B, _⟩ (ZaJ (j := 0) lb tS86 (.tmp (hb 1 _ rfl)) rfl (Comp.self (rW (PTR gb11 0)) ()))) <| dS 3 (fun γ ρ B hb hd => Zap lb (tl hd 1 10) (fun e v h => by subst h; rfl)) <| dS 4 (fun γ ρ B hb hd => Zaa (off := 0) lb Zb2 (tl hd 2 11)) <| dR 5 (fun γ ρ B hb hd => Zao.lk ⟨ρ, (zq32 gb11 gb13 Kind1 From2 To3 ID4 Topic5 Past6 Past7 Seen8 Hash9 Reply10) :: B, _⟩ (ZaJ (j := 0) lb tS87 (tl hd 3 12) rfl (Comp.trans (Comp.self (zq27 gb13) (zq31 Kind1 From2 To3 ID4 Topic5 Past6 Past7 Seen8 Hash9 Reply10)) (Comp.at' (Comp.inF (Comp.self (rW (PTR gb13 0)) ()) (lE rfl)) (by rfl : _ = 0)) (lE rfl)))) ?_
      refine db 6 2 <| dS 7 (fun γ ρ B hb hd => Zgl lb (.cons (.tmp (hb 1 _ rfl)) .nil)) <| ZaF.cons (j := 8) rfl (fun _ => rfl) (.runX (fun _ _ => rfl) (fun γ ρ B hb hd => ⟨.none, OpX.ghost (γ := Option Nat × Nat) (st' := fun q => setO ⟨ρ, (cown q.1 (rI .i64) v18 0 q.2) :: (cvar gb13 Zab x19) :: (cvar gb14 (rW (PTR gb11 0)) ()) :: (zq32 gb11 gb13 Kind1 From2 To3 ID4 Topic5 Past6 Past7 Seen8 Hash9 Reply10) :: B, _⟩ (some 16) (ov (HDR q.1 0 (List.length v18) q.2))) (fun q c => bif Nat.beq c 0 then eno q.1 else q.2) (Zak (js := [0, 1, 0]) ld ZoG (Zhd k v17 x16 Kind1 From2 To3 ID4 Topic5 Past6 Past7 Seen8 Hash9 Reply10 gb13 gb14 gb11 (v18, x19) hv18) .func (.cons (tl hd 4 13) (.cons (tl hd 5 14) (.cons (tl hd 6 15) .nil))) rfl) (fun q => by obtain ⟨q0, q1⟩ := q; cases q0 <;> exact Imp.pick (js := [0, 0, 1, 0]) rfl rfl)⟩) (fun _ _ => rfl) (fun _ _ => rfl)) ?_
      refine dS 9 (fun γ ρ B hb hd => Zap lb (tl hd 0 9) (fun e v h => by subst h; rfl)) <| dS 10 (fun γ ρ B hb hd => Zaa (off := 1) lb ZdL (tl hd 8 17)) <| dS 11 (fun γ ρ B hb hd => Zaa (off := 92) lb Zdj (tl hd 9 18)) <| dR 12 (fun γ ρ B hb hd => Zao.at ⟨ρ, (zq32 gb11 gb13 Kind1 From2 To3 ID4 Topic5 Past6 Past7 Seen8 Hash9 Reply10) :: B, _⟩ (setO ⟨ρ, (zq58 gb11 gb13 (deo (γ 7 0)) v18 (γ 7 1) Kind1 From2 To3 ID4 Topic5 Past6 Past7 Seen8 Hash9 Reply10) :: B, _⟩ _ _) (ZbN (j := 0) tS37 (tl hd 10 19) (tl hd 7 16) rfl ((UpdR.snd (UpdR.fst (UpdR.snd (UpdR.snd (UpdR.snd (UpdR.snd (UpdR.snd (UpdR.snd (UpdR.snd (UpdR.snd (UpdR.snd (UpdR.snd (UpdR.snd (UpdR.fst (UpdR.self (by rfl)))))))))))))))).at (by change (1 + (1 + (1 + (1 + (1 + (21 + (16 + (16 + (1 + (1 + (32 + (1 + 0)))))))))))) = ((0 + 1) + 92); omega)) rfl)) ?_
      exact ZaF.nil)
     (by decide +kernel) (fun _ => rfl) (fun _ => rfl) (fun _ => rfl) rfl
     (ρ' := fun γ => [(1, ov (PTR gb14 0))])
     (X' := fun γ => [cvar gb14 (rW (PTR gb11 0)) (), cown (deo (γ 7 0)) (rI .i64) v18 0 (γ 7 1), cvar gb13 Zab x19, zq58 gb11 gb13 (deo (γ 7 0)) v18 (γ 7 1) Kind1 From2 To3 ID4 Topic5 Past6 Past7 Seen8 Hash9 Reply10])
     (fun γ ρ hb hd => (.cons (hb 1 _ rfl) .nil)) (fun _ => rfl) (fun γ => ?_)
 generalize (deo (γ 7 0)) = go20
 generalize (γ 7 1) = gc21
 clear γ
 refine JQ.at ⟨[(1, ov (PTR gb14 0))], [cvar gb14 (rW (PTR gb11 0)) (), cown go20 (rI .i64) v18 0 gc21, cvar gb13 Zab x19, zq58 gb11 gb13 go20 v18 gc21 Kind1 From2 To3 ID4 Topic5 Past6 Past7 Seen8 Hash9 Reply10], []⟩ <| JQ.then <| jr <| jc (ZaJ (j := 0) lb tS86 tR rfl (Comp.self (rW (PTR gb11 0)) ())) ?_
 obtain ⟨⟨x22, x23⟩, hv_x_22, hm⟩ := Zaz hm
 refine jx (Zak (js := [3, 2, 1]) ld cl93 (ZeV k Kind1 From2 To3 ID4 Topic5 Past6 Past7 Seen8 Hash9 Reply10 x19 v18 gb11 gb13 go20 gc21 (x22, x23) hv_x_22) .func (.cons tR .nil) rfl) (fun q => ?_)
 obtain ⟨go24, gc25⟩ := q
 refine jn <| jr <| jc (ZaJ (j := 4) lb tS86 tR rfl (Comp.self (rW (PTR gb11 0)) ())) ?_
 obtain ⟨⟨x26, x27, x28⟩, hv_x_26, hm⟩ := Zaz hm
 refine jx (Zak (js := [0, 0, 0, 0]) ld Zoy (Zff k Kind1 From2 To3 ID4 Topic5 Past6 Past7 Seen8 Hash9 Reply10 x22 x23 v18 gb11 gb13 go24 gc25 go20 gc21 (x26, x27, x28) hv_x_26) .func (.cons tR .nil) rfl) (fun q => ?_)
 obtain ⟨go29, gc30⟩ := q
 refine jn ?_
 obtain ⟨⟨v31, x32⟩, hv31, hm⟩ := Zaz hm
 obtain ⟨v33, hv33, hm⟩ := ZaT hm
 refine JC.anyF (base := [(1, ov (PTR gb14 0))])
     (fs := fun γ => [⟨some 24, ov (PTR gb11 0)⟩, ⟨some 25, ov (PTR gb11 0)⟩, ⟨some 26, ov (PTR gb11 0)⟩, ⟨some 27, ov (PTR gb11 (0 + 0))⟩, ⟨some 28, ov (PTR gb13 0)⟩, ⟨some 29, ov (S (rU UInt64) v31)⟩, ⟨some 30, ov (S rB v33)⟩, ⟨some 31, ov (PTR gb11 0)⟩, ⟨some 32, ov (PTR gb11 (0 + 1))⟩, ⟨some 33, ov (PTR gb11 ((0 + 1) + 93))⟩, ⟨none, .one .any⟩])
     (rs := fun γ => [⟨zq62 gb11 gb13 go24 x23 gc25 go29 x28 gc30 go20 v18 gc21 Kind1 From2 To3 ID4 Topic5 Past6 Past7 x27 Hash9 Reply10, none, (some 10), [4]⟩, ⟨cvar gb13 Zab x26, none, (some 5), []⟩, ⟨cown go24 Zaj x23 0 gc25, none, none, []⟩, ⟨cown go29 Zae x28 0 gc30, none, none, []⟩, ⟨cown go20 (rI .i64) v18 0 gc21, none, none, []⟩, ⟨cvar gb14 (rW (PTR gb11 0)) (), none, none, [0, 1]⟩, ⟨cvar gb13 Zab x32, (some 5), none, []⟩, ⟨zq62 gb11 gb13 go24 x23 gc25 go29 x28 gc30 go20 v18 gc21 Kind1 From2 To3 ID4 Topic5 Past6 Past7 x27 Hash9 v33, (some 10), none, []⟩])
     (afts := nn 11) (js := [0, 0, 0, 0, 0, 0]) Zcj (.cons rfl .nil) (fun _ => rfl)
     (by
      refine dR 1 (fun γ ρ B hb hd => Zao.lk ⟨ρ, (cvar gb14 (rW (PTR gb11 0)) ()) :: B, _⟩ (ZaJ (j := 0) lb tS86 (.tmp (hb 1 _ rfl)) rfl (Comp.self (rW (PTR gb11 0)) ()))) <| dR 2 (fun γ ρ B hb hd => Zao.lk ⟨ρ, (cvar gb14 (rW (PTR gb11 0)) ()) :: B, _⟩ (ZaJ (j := 0) lb tS86 (.tmp (hb 1 _ rfl)) rfl (Comp.self (rW (PTR gb11 0)) ()))) <| dS 3 (fun γ ρ B hb hd => Zap lb (tl hd 1 25) (fun e v h => by subst h; rfl)) <| dS 4 (fun γ ρ B hb hd => Zaa (off := 0) lb Zb2 (tl hd 2 26)) <| dR 5 (fun γ ρ B hb hd => Zao.lk ⟨ρ, (zq62 gb11 gb13 go24 x23 gc25 go29 x28 gc30 go20 v18 gc21 Kind1 From2 To3 ID4 Topic5 Past6 Past7 x27 Hash9 Reply10) :: B, _⟩ (ZaJ (j := 0) lb tS87 (tl hd 3 27) rfl (Comp.trans (Comp.self (zq61 gb13 go24 x23 gc25 go29 x28 gc30 go20 v18 gc21) (zq31 Kind1 From2 To3 ID4 Topic5 Past6 Past7 x27 Hash9 Reply10)) (Comp.at' (Comp.inF (Comp.self (rW (PTR gb13 0)) ()) (lE rfl)) (by rfl : _ = 0)) (lE rfl)))) ?_
      refine dR 6 (fun γ ρ B hb hd => Zao.at ⟨ρ, (cvar gb13 Zab x26) :: B, _⟩ (setO ⟨ρ, (cvar gb13 Zab x32) :: B, _⟩ _ _) ((Zak (js := [0]) ld cl53 (ZaD k (1 : Int) x26 gb13 (v31, x32) hv31) .func (.cons (tl hd 4 28) (.cons .cI .nil)) rfl).post (fun _ => Imp.refl))) <| dS 7 (fun γ ρ B hb hd => Zci lb (tl hd 5 29) (HasO.cU (x := (0 : UInt64)) rfl (by decide)) (cs hv33)) <| dS 8 (fun γ ρ B hb hd => Zap lb (tl hd 0 24) (fun e v h => by subst h; rfl)) <| dS 9 (fun γ ρ B hb hd => Zaa (off := 1) lb ZdL (tl hd 7 31)) <| dS 10 (fun γ ρ B hb hd => Zaa (off := 93) lb ZfN (tl hd 8 32)) ?_
      refine dR 11 (fun γ ρ B hb hd => Zao.at ⟨ρ, (zq62 gb11 gb13 go24 x23 gc25 go29 x28 gc30 go20 v18 gc21 Kind1 From2 To3 ID4 Topic5 Past6 Past7 x27 Hash9 Reply10) :: B, _⟩ (setO ⟨ρ, (zq62 gb11 gb13 go24 x23 gc25 go29 x28 gc30 go20 v18 gc21 Kind1 From2 To3 ID4 Topic5 Past6 Past7 x27 Hash9 v33) :: B, _⟩ _ _) (Zck (j := 0) tS4 (tl hd 9 33) (tl hd 6 30) rfl rfl ((UpdR.snd (UpdR.fst (UpdR.snd (UpdR.snd (UpdR.snd (UpdR.snd (UpdR.snd (UpdR.snd (UpdR.snd (UpdR.snd (UpdR.snd (UpdR.snd (UpdR.snd (UpdR.snd (UpdR.fst (UpdR.self (by rfl))))))))))))))))).at (by change (1 + (1 + (1 + (1 + (1 + (21 + (16 + (16 + (1 + (1 + (32 + (1 + (1 + 0))))))))))))) = ((0 + 1) + 93); omega)) rfl)) ?_
      exact ZaF.nil)
     (by decide +kernel) (fun _ => rfl) (fun _ => rfl) (fun _ => rfl) rfl
     (ρ' := fun γ => [])
     (X' := fun γ => [cown go24 Zaj x23 0 gc25, cown go29 Zae x28 0 gc30, cown go20 (rI .i64) v18 0 gc21, cvar gb14 (rW (PTR gb11 0)) (), cvar gb13 Zab x32, zq62 gb11 gb13 go24 x23 gc25 go29 x28 gc30 go20 v18 gc21 Kind1 From2 To3 ID4 Topic5 Past6 Past7 x27 Hash9 v33])
     (fun γ ρ hb hd => .nil) (fun _ => rfl) (fun γ => ?_)
 refine JQ.at ⟨[], [cown go24 Zaj x23 0 gc25, cown go29 Zae x28 0 gc30, cown go20 (rI .i64) v18 0 gc21, cvar gb14 (rW (PTR gb11 0)) (), cvar gb13 Zab x32, zq62 gb11 gb13 go24 x23 gc25 go29 x28 gc30 go20 v18 gc21 Kind1 From2 To3 ID4 Topic5 Past6 Past7 x27 Hash9 v33], []⟩ ?_
 obtain rfl := so hm
 exact JQ.done (js := [5, 4, 0, 0, 0]) (ss := []) (go24, gc25, go29, gc30, go20, gc21) (.inr rfl) (.nil rfl) rfl .nil rfl rfl rfl

end Go.Proofs.YtklnihlchhhhlaaGreat
