/- Walks. -/
import Derived.Test.YtklnihlchhhhlaaGreatT
import Derived.Test.YtklnihlchhhhlaaGreatW1
namespace Go.Proofs.YtklnihlchhhhlaaGreat
open Go Fw
set_option linter.unusedVariables false
set_option maxRecDepth 100000
set_option maxHeartbeats 4000000

theorem ZcM (k : Nat) (n1 : UInt64) (size2 : Int) (r : (List UInt8) × Int) (hm : wire_Put k n1 size2 = some r) : Sim Tryz.prog 79 [S (rU UInt64) n1, S (rI .i64) size2] [] (γ := Option Nat × Nat) (fun q => [cown q.1 (rU UInt8) r.1 0 q.2]) (fun q => .tup [.val (HDR q.1 0 (List.length r.1) q.2), .val (S (rI .i64) r.2)]) := by
 unfold wire_Put at hm
 refine Sim.of Tryz.func79 rfl rfl (lE rfl) (fun e0 w0 => ?_)
 refine JC.at ⟨[(0, ov (S (rU UInt64) n1)), (1, ov (S (rI .i64) size2))], [], []⟩ <| jr <| jc (Zac lb HasO.nilH) <| jc (Zac lb .cI) <| jn <| JC.seq <| bI hm fun x12 hx1 hq1 => JC.seqJ (γ := Unit) (stj := fun _ => ⟨[(0, ov (S (rU UInt64) n1)), (1, ov (S (rI .i64) size2)), (24, ov (S rB x12))], [], []⟩) (fun _ => ?_) ?_
 · refine jif tR hq1 (fun hc16 hq1 => ?_) (fun hc16 hq1 => ?_)
   · refine jr <| jc (Zac lb HasO.nilH) <| jc (Zac lb .cI) <| jn <| JC.ret <| JQ.outR ?_
     obtain rfl := so hq1
     exact JQ.pre (Imp.nilown (rU UInt8)) <| JQ.done (js := [0]) (ss := [.val (HDR none 0 (List.length ([] : (List UInt8))) (0)), .val (S (rI .i64) (2 : Int))]) (none, 0) (.inl rfl) (.nil rfl) rfl (.cons (.tmp rfl) (.cons (.tmp rfl) .nil)) rfl rfl rfl
   refine JC.skip <| JQ.then <| jr <| jc (Zac lb HasO.nilH) <| jn <| bI hq1 fun b27 hx17 hq17 => JC.seqJ (γ := Option Nat × Nat) (stj := fun q => ⟨[(6, ov (HDR q.1 0 (List.length b27) q.2))], [cown q.1 (rU UInt8) b27 0 q.2], []⟩) (fun q => ?_) ?_
   · obtain ⟨go28, gc29⟩ := q
     refine JC.at ⟨[(6, ov (HDR go28 0 (List.length b27) gc29))], [cown go28 (rU UInt8) b27 0 gc29], []⟩ <| jr <| jmv rfl rfl <| jc (Zac lb tR) <| jc (Zac lb .cI) <| jn <| JC.ret ?_
     obtain rfl := so hq17
     exact JQ.done (js := [0]) (ss := [.val (HDR go28 0 (List.length b27) gc29), .val (S (rI .i64) (0 : Int))]) (go28, gc29) (.inl rfl) (.nil rfl) rfl (.cons (.tmp rfl) (.cons (.tmp rfl) .nil)) rfl rfl rfl
   refine jr <| jmv rfl rfl <| jc (ZaC lb .cI) <| jn <| JC.block <| JC.pre (Imp.nilown (rU UInt8)) <| JC.pre ?_ (JC.loop (γ := Option Nat × Nat) (stf := fun s q => ⟨[(0, ov (S (rU UInt64) n1)), (1, ov (S (rI .i64) size2)), (6, ov (HDR q.1 0 (List.length s.1) q.2)), (25, ov (S (rI .i64) size2)), (26, ov (S (rI .i64) s.2))], [cown q.1 (rU UInt8) s.1 0 q.2], []⟩) (q := (none, 0)) hx17 ?_)
   · exact (Imp.norm (js := [0]) rfl (.cons rfl (.cons rfl (.cons rfl (.cons rfl (.cons rfl .nil))))))
   intro s q x hx hr
   obtain ⟨b13, x14⟩ := s
   obtain ⟨go15, gc16⟩ := q
   change wire_Put.b1 k size2 n1 b13 x14 = some x at hx
   unfold wire_Put.b1 at hx
   refine JC.at ⟨[(0, ov (S (rU UInt64) n1)), (1, ov (S (rI .i64) size2)), (6, ov (HDR go15 0 (List.length b13) gc16)), (25, ov (S (rI .i64) size2)), (26, ov (S (rI .i64) x14))], [cown go15 (rU UInt8) b13 0 gc16], []⟩ <| jr <| lI hx fun v17 hv17 hx => jc (Zar lb tR tR (cs hv17)) <| jn <| JC.seq <| jif tR hx (fun hc19 hx => ?_) (fun hc19 hx => ?_)
   · refine JC.skip <| JQ.then <| JC.seq <| JC.block <| jr <| jmv rfl rfl <| jc (Zac lb tR) <| jn <| JC.region <| jmv rfl rfl <| jmv rfl rfl <| jmv rfl rfl <| lI hx fun v18 hv18 hx => jc (ZaX lb tR .cI (cs hv18)) <| jmv rfl rfl <| lI hx fun v19 hv19 hx => jc (ZaX lb tR tR (cs hv19)) ?_
     obtain ⟨v20, hv20, hx⟩ := ZaT hx
     refine jc (ZaX lb .cI tR (cs hv20)) <| bI hx fun v21 hv21 hx => jc (Zku lb tR tR hv21) <| lI hx fun v22 hv22 hx => jc (Zgv lb tu24 tu5 tR hv22) <| JL.sub ⟨[(0, ov (S (rU UInt64) n1)), (1, ov (S (rI .i64) size2)), (6, ov (HDR go15 0 (List.length b13) gc16)), (25, ov (S (rI .i64) size2)), (26, ov (S (rI .i64) x14)), (29, ov (HDR go15 0 (List.length b13) gc16)), (37, ov (S (rU UInt8) v22))], [cown go15 (rU UInt8) b13 0 gc16], []⟩ (.cons rfl (.cons rfl (.cons rfl (.cons rfl (.cons rfl (.cons rfl (.cons rfl .nil))))))) rfl rfl <| jc (Zce (r := (rU UInt8)) lb tu27 tz5 tZ5 rfl (lE rfl) (.S rfl tR .nil) rfl) <| bI hx fun b23 hv_b_23 hx => jx (Zbd (j := 0) lb tu27 tu27 rfl tB5 rfl (Nat.lt_of_lt_of_le Nat.zero_lt_one (lE rfl)) (Nat.lt_of_lt_of_le Nat.zero_lt_one (lE rfl))  rfl tR tR hv_b_23) (fun q => ?_)
     obtain ⟨go24, gc25⟩ := q
     refine jc (Zac lb tR) <| JL.nil <| JQ.outNB <| JQ.then <| JC.region <| lI hx fun v26 hv26 hx => jc (ZaX lb tR .cI (cs hv26)) <| jmv rfl rfl <| JL.nil ?_
     try obtain rfl := so hx
     exact JQ.next (go24, gc25) rfl (Imp.norm (js := [0]) rfl (.cons rfl (.cons rfl (.cons rfl (.cons rfl (.cons rfl .nil))))))
   refine JC.exit <| JQ.outX ?_
   try obtain rfl := so hx
   have ht := hr _ rfl
   have hq18 := cs ht
   clear hr ht
   refine JQ.outX <| JQ.here ?_
   try obtain rfl := so hq18
   exact JQ.join (go15, gc16) (Imp.norm (js := [0]) rfl (.cons rfl .nil))
 refine JC.region <| jmv rfl rfl <| lI hx1 fun v3 hv3 hx1 => jc (Zar lb tR .cI (cs hv3)) <| jmv rfl rfl <| jF (ov (S (rI .i64) size2)) rfl rfl rfl rfl (fun hq_2 => ZaC lb tR) <| lI hx1 fun v4 hv4 hx1 => jF (ov (S rB v4)) rfl rfl rfl rfl (fun hq_3 => Zar lb (HasO.cnd tR (notT (notF hq_3))) .cI (cs hv4)) <| lI hx1 fun v5 hv5 hx1 => jc (Zas lb tR (fun hb4 => .cB) (fun hb4 => (HasO.cnd tR (notT hb4))) hv5) <| jmv rfl rfl <| jF (ov (S (rI .i64) size2)) rfl rfl rfl rfl (fun hq5 => ZaC lb tR) ?_
 refine lI hx1 fun v6 hv6 hx1 => jF (ov (S rB v6)) rfl rfl rfl rfl (fun hq6 => Zar lb (HasO.cnd tR (notT (notF hq6))) .cI (cs hv6)) <| jF (ov (S rB v6)) rfl rfl rfl rfl (fun hq7 => ZaC lb (HasO.cnd tR (notT (notF hq7)))) <| JL.sub ⟨[(0, ov (S (rU UInt64) n1)), (1, ov (S (rI .i64) size2)), (14, ov (S rB v5)), (17, bif (!v5) then ov (S rB v6) else .one .und)], [], []⟩ (.cons rfl (.cons rfl (.cons rfl (.cons rfl .nil)))) rfl rfl <| JL.cnd (sv := ov (S (rU UInt64) n1)) (ZbK.cT (q := (!v5)) (ltB rfl) rfl rfl) rfl (ltB rfl) (fun hq8 => ZaC lb tR) <| JL.cnd (sv := ov (S (rI .i64) size2)) (ZbK.cT (q := (!v5)) (ltB rfl) rfl rfl) rfl (ltB rfl) (fun hq9 => ZaC lb tR) <| lI hx1 fun v7 hv7 hx1 => JL.cnd (sv := ov (S (rI .i64) v7)) (ZbK.cT (q := (!v5)) (ltB rfl) rfl rfl) rfl (ltB rfl) (fun hq10 => ZaX lb .cI (HasO.cnd tR (andI (notT (notF (andL hq10))) (andR hq10))) (cs hv7)) ?_
 obtain ⟨v8, hv8, hx1⟩ := Zaz hx1
 refine JL.cnd (sv := ov (S (rU UInt64) v8)) (ZbK.cT (q := (!v5)) (ltB rfl) rfl rfl) rfl (ltB rfl) (fun hq11 => Zku lb (HasO.cnd tR (andI (notT (notF (andL hq11))) (andR hq11))) (HasO.cnd tR (andI (notT (notF (andL hq11))) (andR hq11))) (ifT hv8 hq11)) <| lI hx1 fun v9 hv9 hx1 => JL.cnd (sv := ov (S rB v9)) (ZbK.cT (q := (!v5)) (ltB rfl) rfl rfl) rfl (ltB rfl) (fun hq12 => Zci lb (HasO.cnd tR (andI (notT (notF (andL hq12))) (andR hq12))) (HasO.cU (x := (0 : UInt64)) rfl (by decide)) (cs hv9)) <| lI hx1 fun v10 hv10 hx1 => jF (ov (S rB v10)) rfl rfl rfl rfl (fun hq13 => Zas lb (HasO.cnd tR (notT (notF hq13))) (fun hb14 => (HasO.cnd tR (andI (notT (notF hq13)) hb14))) (fun hb14 => .cB) hv10) <| lI hx1 fun v11 hv11 hx1 => jc (Zas lb tR (fun hb15 => .cB) (fun hb15 => (HasO.cnd tR (notT hb15))) hv11) <| JL.nil ?_
 try obtain rfl := so hx1
 exact JQ.join () (Imp.norm (js := []) rfl (.cons rfl (.cons rfl (.cons rfl .nil))))

theorem Za0 (k : Nat) (b_1 : (List UInt8)) (v2 : Int) (x4 : (List UInt8)) (gb3 : Nat) (go5 : Option Nat) (gc6 : Nat) (r : (List UInt8)) (hm : ZaK k b_1 v2 x4 = some r) : Sim Tryz.prog 78 [PTR gb3 0, S (rL (rU UInt8)) b_1, S (rI .i64) v2] [cvar gb3 (zq21 go5 x4 gc6) ((), ()), cown go5 (rU UInt8) x4 0 gc6] (γ := Option Nat × Nat) (fun q => [cvar gb3 (rP (rW (HDR q.1 0 (List.length r) q.2)) r0) ((), ()), cown q.1 (rU UInt8) r 0 q.2]) (fun q => .tup []) := by
 unfold ZaK at hm
 refine Sim.of Tryz.func78 rfl rfl (lE rfl) (fun e0 w0 => ?_)
 refine JC.at ⟨[(0, ov (PTR gb3 0)), (1, ov (S (rL (rU UInt8)) b_1)), (2, ov (S (rI .i64) v2))], [cvar gb3 (zq21 go5 x4 gc6) ((), ()), cown go5 (rU UInt8) x4 0 gc6], []⟩ <| JC.region <| jmv rfl rfl <| jmv rfl rfl <| jc (Zap lb tR (fun e v h => by subst h; rfl)) <| jc (Zaa (off := 0) lb ZcW tR) <| jc (ZaJ (j := 0) lb tS27 tR rfl (Comp.trans (Comp.self (zq21 go5 x4 gc6) ((), ())) (Comp.at' (Comp.inF (Comp.self (rW (HDR go5 0 (List.length x4) gc6)) ()) (lE rfl)) (by rfl : _ = 0)) (lE rfl))) <| jmv rfl rfl <| bI hm fun x7 hv_x_7 hm => jx (Zbd (j := 1) lb tu27 tu27 rfl tB5 rfl (Nat.lt_of_lt_of_le Nat.zero_lt_one (lE rfl)) (Nat.lt_of_lt_of_le Nat.zero_lt_one (lE rfl))  rfl tR tR hv_x_7) (fun q => ?_)
 obtain ⟨go8, gc9⟩ := q
 refine jc (Zap lb tR (fun e v h => by subst h; rfl)) <| jc (Zaa (off := 0) lb ZcW tR) <| jc (ZbN (j := 0) tS27 tR tR rfl ((UpdR.fst (UpdR.self (by rfl))).at (by change 0 = (0 + 0); omega)) rfl) <| JL.sub ⟨[], [cvar gb3 (zq21 go8 x7 gc9) ((), ()), cown go8 (rU UInt8) x7 0 gc9], []⟩ .nil rfl rfl <| JL.nil ?_
 obtain rfl := so hm
 exact JQ.done (js := [0, 0]) (ss := []) (go8, gc9) (.inr rfl) (.nil rfl) rfl .nil rfl rfl rfl

theorem ZeE (k : Nat) (d1 : Zah) (r : (List UInt8) × Int) (hm : Zec k d1 = some r) : Sim Tryz.prog 112 [A Zae d1] [] (γ := Option Nat × Nat) (fun q => [cown q.1 (rU UInt8) r.1 0 q.2]) (fun q => .tup [.val (HDR q.1 0 (List.length r.1) q.2), .val (S (rI .i64) r.2)]) := by
 unfold Zec at hm
 refine Sim.of Tryz.func112 rfl rfl (lE rfl) (fun e0 w0 => ?_)
 refine JC.at ⟨[(0, ov (A Zae d1))], [], []⟩ <| jr <| jx (ZaZ lb tR) fun gb2 => jc (Zac lb HasO.nilH) <| jc (Zac lb .cI) <| jn <| JC.seq <| bI hm fun x6 hx1 hq1 => JC.seqJ (γ := Unit) (stj := fun _ => ⟨[(1, ov (PTR gb2 0)), (13, ov (S rB x6))], [cvar gb2 Zae d1], []⟩) (fun _ => ?_) ?_
 · refine jif tR hq1 (fun hc6 hq1 => ?_) (fun hc6 hq1 => ?_)
   · refine jr <| jc (Zac lb HasO.nilH) <| jc (Zac lb .cI) <| jn <| JC.ret <| JQ.outR ?_
     obtain rfl := so hq1
     exact JQ.pre (Imp.nilown (rU UInt8)) <| JQ.done (js := [1]) (ss := [.val (HDR none 0 (List.length ([] : (List UInt8))) (0)), .val (S (rI .i64) (2 : Int))]) (none, 0) (.inl rfl) (.nil rfl) rfl (.cons (.tmp rfl) (.cons (.tmp rfl) .nil)) rfl rfl rfl
   refine JC.skip <| JQ.then <| jr <| jc (Zaa (off := 1) lb Zft tR) <| jc (Zam (j := 0) lb tS24 tR rfl (cT (ZaY d1) rfl) rfl rfl) ?_
   obtain ⟨⟨v7, v8⟩, hv7, hq1⟩ := Zaz hq1
   refine jx (Zak (js := []) ld cl79 (ZcM k d1.Count (8 : Int) (v7, v8) hv7) .func (.cons tR (.cons .cI .nil)) rfl) (fun q => ?_)
   obtain ⟨go9, gc10⟩ := q
   refine jmv rfl rfl <| jc (Zaw (i := 0) lb tR rfl) <| jc (Zaw (i := 1) lb tR rfl) <| jc (Zac lb tR) <| jc (Zac lb tR) <| jn <| jr <| jc (Zaa (off := 0) lb Zeq tR) <| jc (Zam (j := 1) lb tS3 tR rfl (cT (ZaN d1) rfl) rfl rfl) <| JL.nrm ⟨[(4, ov (HDR go9 0 (List.length v7) gc10)), (21, ov (S (rI .i64) d1.Region))], [cown go9 (rU UInt8) v7 0 gc10], []⟩ [0] rfl (.cons rfl (.cons rfl .nil)) rfl <| lI hq1 fun v11 hv11 hq1 => jc (ZcR lb tu3 tu5 tR hv11) <| jx (ZgI (r := (rU UInt8)) lb tu27 tz5 tZ5 rfl (lE rfl) (.S rfl tR .nil) rfl) fun gb12 => jmv rfl rfl <| bI hq1 fun x13 hv_x_13 hq1 => jx (Zf6 (j := 1) (j' := 0) lb tu27 tu27 rfl tB5 rfl (Nat.lt_of_lt_of_le Nat.zero_lt_one (lE rfl)) (Nat.lt_of_lt_of_le Nat.zero_lt_one (lE rfl))  rfl tR rfl tR hv_x_13) (fun q => ?_)
   obtain ⟨go14, gc15⟩ := q
   refine jc (Zac lb tR) <| jc (Zac lb .cI) <| jn <| JC.ret ?_
   obtain rfl := so hq1
   exact JQ.done (js := [1]) (ss := [.val (HDR go14 0 (List.length x13) gc15), .val (S (rI .i64) (0 : Int))]) (go14, gc15) (.inl rfl) (.nil rfl) rfl (.cons (.tmp rfl) (.cons (.tmp rfl) .nil)) rfl rfl rfl
 refine JC.region <| jc (Zaa (off := 0) lb Zeq tR) <| jc (Zam (j := 0) lb tS3 tR rfl (cT (ZaN d1) rfl) rfl rfl) <| lI hx1 fun v3 hv3 hx1 => jc (Zar lb tR .cI (cs hv3)) <| jmv rfl rfl <| jF (ov (PTR gb2 (0 + 0))) rfl rfl rfl rfl (fun hq_2 => Zaa (off := 0) lb Zeq tR) <| jF (ov (S (rI .i64) d1.Region)) rfl rfl rfl rfl (fun hq_3 => Zam (j := 0) lb tS3 (HasO.cnd tR (notT (notF hq_3))) rfl (cT (ZaN d1) rfl) rfl rfl) <| lI hx1 fun v4 hv4 hx1 => jF (ov (S rB v4)) rfl rfl rfl rfl (fun hq4 => Zar lb (HasO.cnd tR (notT (notF hq4))) .cI (cs hv4)) <| JL.sub ⟨[(1, ov (PTR gb2 0)), (9, ov (S rB v3)), (12, bif (!v3) then ov (S rB v4) else .one .und)], [cvar gb2 Zae d1], []⟩ (.cons rfl (.cons rfl (.cons rfl .nil))) rfl rfl ?_
 obtain ⟨v5, hv5, hx1⟩ := ZaT hx1
 refine jc (Zas lb tR (fun hb5 => .cB) (fun hb5 => (HasO.cnd tR (notT hb5))) hv5) <| JL.nil ?_
 try obtain rfl := so hx1
 exact JQ.join () (Imp.norm (js := [0]) rfl (.cons rfl (.cons rfl .nil)))

theorem ZdU (k : Nat) (is1 : Bool) (x3 : (List UInt8)) (gb2 : Nat) (go4 : Option Nat) (gc5 : Nat) (r : (List UInt8)) (hm : ZbI k is1 x3 = some r) : Sim Tryz.prog 113 [PTR gb2 0, S rB is1] [cvar gb2 (zq21 go4 x3 gc5) ((), ()), cown go4 (rU UInt8) x3 0 gc5] (γ := Option Nat × Nat) (fun q => [cvar gb2 (rP (rW (HDR q.1 0 (List.length r) q.2)) r0) ((), ()), cown q.1 (rU UInt8) r 0 q.2]) (fun q => .tup []) := by
 unfold ZbI at hm
 refine Sim.of Tryz.func113 rfl rfl (lE rfl) (fun e0 w0 => ?_)
 refine JC.at ⟨[(0, ov (PTR gb2 0)), (1, ov (S rB is1))], [cvar gb2 (zq21 go4 x3 gc5) ((), ()), cown go4 (rU UInt8) x3 0 gc5], []⟩ <| jr <| jc (Zac lb (HasO.cU (x := (0 : UInt8)) rfl (by decide))) <| jn <| bI hm fun b6 hx1 hq1 => JC.seqJ (γ := Unit) (stj := fun _ => ⟨[(0, ov (PTR gb2 0)), (4, ov (S (rU UInt8) b6))], [cvar gb2 (zq21 go4 x3 gc5) ((), ()), cown go4 (rU UInt8) x3 0 gc5], []⟩) (fun _ => ?_) ?_
 · refine JC.region <| jmv rfl rfl <| jmv rfl rfl <| jc (Zap lb tR (fun e v h => by subst h; rfl)) <| jc (Zaa (off := 0) lb ZcW tR) <| jc (ZaJ (j := 0) lb tS27 tR rfl (Comp.trans (Comp.self (zq21 go4 x3 gc5) ((), ())) (Comp.at' (Comp.inF (Comp.self (rW (HDR go4 0 (List.length x3) gc5)) ()) (lE rfl)) (by rfl : _ = 0)) (lE rfl))) <| jmv rfl rfl <| jc (Zce (r := (rU UInt8)) lb tu27 tz5 tZ5 rfl (lE rfl) (.S rfl tR .nil) rfl) <| bI hq1 fun x7 hv_x_7 hq1 => jx (Zbd (j := 1) lb tu27 tu27 rfl tB5 rfl (Nat.lt_of_lt_of_le Nat.zero_lt_one (lE rfl)) (Nat.lt_of_lt_of_le Nat.zero_lt_one (lE rfl))  rfl tR tR hv_x_7) (fun q => ?_)
   obtain ⟨go8, gc9⟩ := q
   refine jc (Zap lb tR (fun e v h => by subst h; rfl)) <| jc (Zaa (off := 0) lb ZcW tR) <| JL.sub ⟨[(13, ov (HDR go8 0 (List.length x7) gc9)), (15, ov (PTR gb2 (0 + 0)))], [cvar gb2 (zq21 go4 x3 gc5) ((), ()), cown go8 (rU UInt8) x7 0 gc9], []⟩ (.cons rfl (.cons rfl .nil)) rfl rfl <| jc (ZbN (j := 0) tS27 tR tR rfl ((UpdR.fst (UpdR.self (by rfl))).at (by change 0 = (0 + 0); omega)) rfl) <| JL.nil ?_
   obtain rfl := so hq1
   exact JQ.done (js := [0, 0]) (ss := []) (go8, gc9) (.inr rfl) (.nil rfl) rfl .nil rfl rfl rfl
 refine jr <| jmv rfl rfl <| jn <| jif tR hx1 (fun hc2 hx1 => ?_) (fun hc2 hx1 => ?_)
 · refine JC.region <| jc (Zac lb (HasO.cU (x := (1 : UInt8)) rfl (by decide))) <| JL.nil ?_
   try obtain rfl := so hx1
   exact JQ.join () (Imp.norm (js := [0, 0]) rfl (.cons rfl (.cons rfl .nil)))
 refine JC.skip ?_
 try obtain rfl := so hx1
 exact JQ.join () (Imp.norm (js := [0, 0]) rfl (.cons rfl (.cons rfl .nil)))

theorem ZdA (k : Nat) (b_1 : (List UInt8)) (r : (List UInt8) × Int) (hm : Zdn k b_1 = some r) : Sim Tryz.prog 114 [S (rL (rU UInt8)) b_1] [] (γ := Option Nat × Nat) (fun q => [cown q.1 (rU UInt8) r.1 0 q.2]) (fun q => .tup [.val (HDR q.1 0 (List.length r.1) q.2), .val (S (rI .i64) r.2)]) := by
 unfold Zdn at hm
 refine Sim.of Tryz.func114 rfl rfl (lE rfl) (fun e0 w0 => ?_)
 refine JC.at ⟨[(0, ov (S (rL (rU UInt8)) b_1))], [], []⟩ <| jr <| jc (Zac lb HasO.nilH) <| jc (Zac lb .cI) <| jn <| JC.seq <| jr <| jmv rfl rfl <| jc (ZaI lb tu27 tR) <| lI hm fun v2 hv2 hm => jc (Zar lb tR .cI (cs hv2)) <| jn <| jif tR hm (fun hc1 hm => ?_) (fun hc1 hm => ?_)
 · refine jr <| jc (Zac lb HasO.nilH) <| jc (Zac lb .cI) <| jn <| JC.ret <| JQ.outR ?_
   obtain rfl := so hm
   exact JQ.pre (Imp.nilown (rU UInt8)) <| JQ.done (js := [0]) (ss := [.val (HDR none 0 (List.length ([] : (List UInt8))) (0)), .val (S (rI .i64) (3 : Int))]) (none, 0) (.inl rfl) (.nil rfl) rfl (.cons (.tmp rfl) (.cons (.tmp rfl) .nil)) rfl rfl rfl
 refine JC.skip <| JQ.then <| jr <| jmv rfl rfl <| jc (ZaI lb tu27 tR) <| lI hm fun v3 hv3 hm => jc (ZcR lb tu3 tu24 tR hv3) ?_
 obtain ⟨⟨v4, v5⟩, hv4, hm⟩ := Zaz hm
 refine jx (Zak (js := []) ld cl79 (ZcM k v3 (2 : Int) (v4, v5) hv4) .func (.cons tR (.cons .cI .nil)) rfl) (fun q => ?_)
 obtain ⟨go6, gc7⟩ := q
 refine jmv rfl rfl <| JL.sub ⟨[(0, ov (S (rL (rU UInt8)) b_1)), (9, .tup [.val (HDR go6 0 (List.length v4) gc7), .val (S (rI .i64) v5)])], [cown go6 (rU UInt8) v4 0 gc7], []⟩ (.cons rfl (.cons rfl .nil)) rfl rfl <| jc (Zaw (i := 0) lb tR rfl) <| jc (Zaw (i := 1) lb tR rfl) <| jc (Zac lb tR) <| jc (Zac lb tR) <| jn <| jr <| jmv rfl rfl <| jmv rfl rfl <| bI hm fun n8 hv_n_8 hm => jx (Zbd (j := 0) lb tu27 tu27 rfl tB5 rfl (Nat.lt_of_lt_of_le Nat.zero_lt_one (lE rfl)) (Nat.lt_of_lt_of_le Nat.zero_lt_one (lE rfl))  rfl tR tR hv_n_8) (fun q => ?_)
 obtain ⟨go9, gc10⟩ := q
 refine jc (Zac lb tR) <| jc (Zac lb .cI) <| jn <| JC.ret ?_
 obtain rfl := so hm
 exact JQ.done (js := [0]) (ss := [.val (HDR go9 0 (List.length n8) gc10), .val (S (rI .i64) (0 : Int))]) (go9, gc10) (.inl rfl) (.nil rfl) rfl (.cons (.tmp rfl) (.cons (.tmp rfl) .nil)) rfl rfl rfl

theorem Zdr (k : Nat) (l1 : (List Zal)) (x3 : (List UInt8)) (gb2 : Nat) (go4 : Option Nat) (gc5 : Nat) (r : (List UInt8)) (hm : frame_writer_items'3 k l1 x3 = some r) : Sim Tryz.prog 75 [PTR gb2 0, S (rL Zaj) l1] [cvar gb2 (zq21 go4 x3 gc5) ((), ()), cown go4 (rU UInt8) x3 0 gc5] (γ := Option Nat × Nat) (fun q => [cvar gb2 (rP (rW (HDR q.1 0 (List.length r) q.2)) r0) ((), ()), cown q.1 (rU UInt8) r 0 q.2]) (fun q => .tup []) := by
 unfold frame_writer_items'3 at hm
 refine Sim.of Tryz.func75 rfl rfl (lE rfl) (fun e0 w0 => ?_)
 refine JC.at ⟨[(0, ov (PTR gb2 0)), (1, ov (S (rL Zaj) l1))], [cvar gb2 (zq21 go4 x3 gc5) ((), ()), cown go4 (rU UInt8) x3 0 gc5], []⟩ <| jr <| jmv rfl rfl <| jmv rfl rfl <| jc (ZaI lb tu23 tR) <| lI hm fun v6 hv6 hm => jc (ZcR lb tu3 tu24 tR hv6) ?_
 obtain ⟨⟨v7, v8⟩, hv7, hm⟩ := Zaz hm
 refine jx (Zak (js := []) ld cl79 (ZcM k v6 (2 : Int) (v7, v8) hv7) .func (.cons tR (.cons .cI .nil)) rfl) (fun q => ?_)
 obtain ⟨go9, gc10⟩ := q
 refine jc (Zaw (i := 0) lb tR rfl) <| jc (Zaw (i := 1) lb tR rfl) <| bI hm fun x11 hv_x_11 hm => JL.pre (Imp.frz (j := 0) rfl (ImpK.tupAt (s := 10) (i := 0) (q := HL go9 (rU UInt8) v7 gc10) rfl rfl Zgy (ImpK.slotH (s := 11) rfl ImpK.refl))) <| jx (Zak (js := [1, 1]) ld cl78 (Za0 k v7 v8 x3 gb2 go4 gc5 x11 hv_x_11) .func (.cons tR (.cons (HasO.wk tR wkHL) (.cons tR .nil))) rfl) (fun q => ?_)
 obtain ⟨go12, gc13⟩ := q
 refine JL.nrm ⟨[(0, ov (PTR gb2 0)), (1, ov (S (rL Zaj) l1))], [cvar gb2 (zq21 go12 x11 gc13) ((), ()), cown go12 (rU UInt8) x11 0 gc13], []⟩ [0, 0] rfl (.cons rfl (.cons rfl .nil)) rfl <| jn <| jr <| jmv rfl rfl <| jc (ZaI lb tu23 tR) <| jc (ZaC lb .cI) <| jn <| JC.block <| JC.pre ?_ (JC.loop (γ := Option Nat × Nat) (stf := fun s q => ⟨[(0, ov (PTR gb2 0)), (14, ov (S (rL Zaj) l1)), (15, ov (S (rI .i64) (List.length l1 : Int))), (16, ov (S (rI .i64) s.2))], [cvar gb2 (rP (rW (HDR q.1 0 (List.length s.1) q.2)) r0) ((), ()), cown q.1 (rU UInt8) s.1 0 q.2], []⟩) (q := (go12, gc13)) hm ?_)
 · exact (Imp.norm (js := [0, 0]) rfl (.cons rfl (.cons rfl (.cons rfl (.cons rfl .nil)))))
 intro s q x hx hr
 obtain ⟨b14, x15⟩ := s
 obtain ⟨go16, gc17⟩ := q
 change frame_writer_items'3.b1 k l1 b14 x15 = some x at hx
 unfold frame_writer_items'3.b1 at hx
 refine JC.at ⟨[(0, ov (PTR gb2 0)), (14, ov (S (rL Zaj) l1)), (15, ov (S (rI .i64) (List.length l1 : Int))), (16, ov (S (rI .i64) x15))], [cvar gb2 (zq21 go16 b14 gc17) ((), ()), cown go16 (rU UInt8) b14 0 gc17], []⟩ <| jr <| lI hx fun v18 hv18 hx => jc (Zar lb tR tR (cs hv18)) <| jn <| JC.seq <| jif tR hx (fun hc2 hx => ?_) (fun hc2 hx => ?_)
 · refine JC.skip <| JQ.then <| bI hx fun b46 hx3 hq3 => JC.seqJ (γ := Option Nat × Nat) (stj := fun q => ⟨[(0, ov (PTR gb2 0)), (14, ov (S (rL Zaj) l1)), (15, ov (S (rI .i64) (List.length l1 : Int))), (16, ov (S (rI .i64) x15))], [cvar gb2 (rP (rW (HDR q.1 0 (List.length b46) q.2)) r0) ((), ()), cown q.1 (rU UInt8) b46 0 q.2], []⟩) (fun q => ?_) ?_
   · obtain ⟨go47, gc48⟩ := q
     refine JC.at ⟨[(0, ov (PTR gb2 0)), (14, ov (S (rL Zaj) l1)), (15, ov (S (rI .i64) (List.length l1 : Int))), (16, ov (S (rI .i64) x15))], [cvar gb2 (zq21 go47 b46 gc48) ((), ()), cown go47 (rU UInt8) b46 0 gc48], []⟩ <| JC.region <| lI hq3 fun v49 hv49 hq3 => jc (ZaX lb tR .cI (cs hv49)) <| jmv rfl rfl <| JL.nil ?_
     try obtain rfl := so hq3
     exact JQ.next (go47, gc48) rfl (Imp.norm (js := [0, 0]) rfl (.cons rfl (.cons rfl (.cons rfl (.cons rfl .nil)))))
   refine JC.block <| jr <| bI hx3 fun v19 hv19 hx3 => jc (Zau lb tu23 tz62 tR tR hv19) <| jc (ZaS lb tA62 tR rfl) <| jx (Za8 lb tZ62 zr62) fun gb20 => jc (ZaM (j := 2) tA62 tR tR rfl (UpdR.self (by rfl)) rfl) <| jn <| jr <| jmv rfl rfl <| jc (Zaa (off := 0) lb Zjr tR) <| jc (ZaB (j := 2) lb tA26 tR rfl (cT (ZcF v19) rfl) rfl) <| JL.sub ⟨[(0, ov (PTR gb2 0)), (5, ov (PTR gb20 0)), (14, ov (S (rL Zaj) l1)), (15, ov (S (rI .i64) (List.length l1 : Int))), (16, ov (S (rI .i64) x15)), (20, ov (PTR gb2 0)), (22, ov (A Zae v19.Dot))], [cvar gb2 (zq21 go16 b14 gc17) ((), ()), cown go16 (rU UInt8) b14 0 gc17, cvar gb20 Zaj v19], []⟩ (.cons rfl (.cons rfl (.cons rfl (.cons rfl (.cons rfl (.cons rfl (.cons rfl .nil))))))) rfl rfl ?_
   obtain ⟨⟨v21, v22⟩, hv21, hx3⟩ := Zaz hx3
   refine jx (Zak (js := []) ld Zl2 (ZeE k v19.Dot (v21, v22) hv21) .func (.cons tR .nil) rfl) (fun q => ?_)
   obtain ⟨go23, gc24⟩ := q
   refine jc (Zaw (i := 0) lb tR rfl) <| jc (Zaw (i := 1) lb tR rfl) <| bI hx3 fun x25 hv_x_25 hx3 => JL.pre (Imp.frz (j := 0) rfl (ImpK.tupAt (s := 23) (i := 0) (q := HL go23 (rU UInt8) v21 gc24) rfl rfl Zgy (ImpK.slotH (s := 24) rfl ImpK.refl))) <| jx (Zak (js := [1, 1]) ld cl78 (Za0 k v21 v22 b14 gb2 go16 gc17 x25 hv_x_25) .func (.cons tR (.cons (HasO.wk tR wkHL) (.cons tR .nil))) rfl) (fun q => ?_)
   obtain ⟨go26, gc27⟩ := q
   refine JL.nrm ⟨[(0, ov (PTR gb2 0)), (5, ov (PTR gb20 0)), (14, ov (S (rL Zaj) l1)), (15, ov (S (rI .i64) (List.length l1 : Int))), (16, ov (S (rI .i64) x15))], [cvar gb2 (zq21 go26 x25 gc27) ((), ()), cown go26 (rU UInt8) x25 0 gc27, cvar gb20 Zaj v19], []⟩ [0, 0, 1] rfl (.cons rfl (.cons rfl (.cons rfl (.cons rfl (.cons rfl .nil))))) rfl <| jn <| jr <| jmv rfl rfl <| jc (Zaa (off := 4) lb Zjm tR) <| jc (Zam (j := 2) lb tS4 tR rfl (cT (ZdE v19) rfl) rfl rfl) <| bI hx3 fun x28 hv_x_28 hx3 => jx (Zak (js := [0, 0]) ld Zn5 (ZdU k v19.Gone x25 gb2 go26 gc27 x28 hv_x_28) .func (.cons tR (.cons tR .nil)) rfl) (fun q => ?_)
   obtain ⟨go29, gc30⟩ := q
   refine jn <| jr <| jc (Zaa (off := 4) lb Zjm tR) <| jc (Zam (j := 2) lb tS4 tR rfl (cT (ZdE v19) rfl) rfl rfl) <| lI hx3 fun v31 hv31 hx3 => jc (ZbU lb tR hv31) <| jn <| jif tR hx3 (fun hc4 hx3 => ?_) (fun hc4 hx3 => ?_)
   · refine jr <| jmv rfl rfl <| jc (Zaa (off := 2) lb ZgH tR) <| jc (Zaa (off := 0) lb ZlY tR) <| JL.sub ⟨[(0, ov (PTR gb2 0)), (5, ov (PTR gb20 0)), (14, ov (S (rL Zaj) l1)), (15, ov (S (rI .i64) (List.length l1 : Int))), (16, ov (S (rI .i64) x15)), (34, ov (PTR gb2 0)), (36, ov (PTR gb20 ((0 + 2) + 0)))], [cvar gb2 (zq21 go29 x28 gc30) ((), ()), cown go29 (rU UInt8) x28 0 gc30, cvar gb20 Zaj v19], []⟩ (.cons rfl (.cons rfl (.cons rfl (.cons rfl (.cons rfl (.cons rfl (.cons rfl .nil))))))) rfl rfl <| jc (Zam (j := 2) lb tS9 tR rfl (Comp.trans (cT (ZbR v19) rfl) (Zdz v19.Key) (lE rfl)) rfl rfl) <| jc (ZgL lb tu9 tu27 tu5 tR) ?_
     obtain ⟨⟨v32, v33⟩, hv32, hx3⟩ := Zaz hx3
     refine jx (Zak (js := []) ld Zlw (ZdA k v19.Key.Topic (v32, v33) hv32) .func (.cons tR .nil) rfl) (fun q => ?_)
     obtain ⟨go34, gc35⟩ := q
     refine jc (Zaw (i := 0) lb tR rfl) <| jc (Zaw (i := 1) lb tR rfl) <| bI hx3 fun x36 hv_x_36 hx3 => JL.pre (Imp.frz (j := 0) rfl (ImpK.tupAt (s := 39) (i := 0) (q := HL go34 (rU UInt8) v32 gc35) rfl rfl Zgy (ImpK.slotH (s := 40) rfl ImpK.refl))) <| jx (Zak (js := [1, 1]) ld cl78 (Za0 k v32 v33 x28 gb2 go29 gc30 x36 hv_x_36) .func (.cons tR (.cons (HasO.wk tR wkHL) (.cons tR .nil))) rfl) (fun q => ?_)
     obtain ⟨go37, gc38⟩ := q
     refine JL.nrm ⟨[(0, ov (PTR gb2 0)), (5, ov (PTR gb20 0)), (14, ov (S (rL Zaj) l1)), (15, ov (S (rI .i64) (List.length l1 : Int))), (16, ov (S (rI .i64) x15))], [cvar gb2 (zq21 go37 x36 gc38) ((), ()), cown go37 (rU UInt8) x36 0 gc38, cvar gb20 Zaj v19], []⟩ [0, 0, 1] rfl (.cons rfl (.cons rfl (.cons rfl (.cons rfl (.cons rfl .nil))))) rfl <| jn <| JC.region <| jmv rfl rfl <| jc (Zaa (off := 2) lb ZgH tR) <| jc (Zaa (off := 1) lb ZlR tR) <| jc (Zam (j := 2) lb tS9 tR rfl (Comp.trans (cT (ZbR v19) rfl) (Zdq v19.Key) (lE rfl)) rfl rfl) <| jc (ZgL lb tu9 tu27 tu5 tR) ?_
     obtain ⟨⟨v39, v40⟩, hv39, hx3⟩ := Zaz hx3
     refine jx (Zak (js := []) ld Zlw (ZdA k v19.Key.Device (v39, v40) hv39) .func (.cons tR .nil) rfl) (fun q => ?_)
     obtain ⟨go41, gc42⟩ := q
     refine jc (Zaw (i := 0) lb tR rfl) <| jc (Zaw (i := 1) lb tR rfl) <| bI hx3 fun x43 hv_x_43 hx3 => JL.pre (Imp.frz (j := 0) rfl (ImpK.tupAt (s := 48) (i := 0) (q := HL go41 (rU UInt8) v39 gc42) rfl rfl Zgy (ImpK.slotH (s := 49) rfl ImpK.refl))) <| jx (Zak (js := [1, 1]) ld cl78 (Za0 k v39 v40 x36 gb2 go37 gc38 x43 hv_x_43) .func (.cons tR (.cons (HasO.wk tR wkHL) (.cons tR .nil))) rfl) (fun q => ?_)
     obtain ⟨go44, gc45⟩ := q
     refine JL.nrm ⟨[(0, ov (PTR gb2 0)), (14, ov (S (rL Zaj) l1)), (15, ov (S (rI .i64) (List.length l1 : Int))), (16, ov (S (rI .i64) x15))], [cvar gb2 (zq21 go44 x43 gc45) ((), ()), cown go44 (rU UInt8) x43 0 gc45], []⟩ [0, 0] rfl (.cons rfl (.cons rfl (.cons rfl (.cons rfl .nil)))) rfl <| JL.nil <| JQ.outNB ?_
     try obtain rfl := so hx3
     exact JQ.join (go44, gc45) (Imp.norm (js := [0, 0]) rfl (.cons rfl (.cons rfl (.cons rfl (.cons rfl .nil)))))
   refine JC.skip <| JQ.outNB ?_
   try obtain rfl := so hx3
   exact JQ.join (go29, gc30) (Imp.norm (js := [0, 0]) rfl (.cons rfl (.cons rfl (.cons rfl (.cons rfl .nil)))))
 refine JC.exit <| JQ.outX ?_
 try obtain rfl := so hx
 have ht := hr _ rfl
 have hq1 := cs ht
 clear hr ht
 refine JQ.outX <| JQ.here ?_
 obtain rfl := so hq1
 exact JQ.done (js := [0, 0]) (ss := []) (go16, gc17) (.inr rfl) (.nil rfl) rfl .nil rfl rfl rfl

theorem Ze9 (k : Nat) (f1 : Zai) (x3 : (List UInt8)) (gb2 : Nat) (go4 : Option Nat) (gc5 : Nat) (r : (List UInt8)) (hm : Zcz k f1 x3 = some r) : Sim Tryz.prog 92 [PTR gb2 0, A Zad f1] [cvar gb2 (zq21 go4 x3 gc5) ((), ()), cown go4 (rU UInt8) x3 0 gc5] (γ := Option Nat × Nat) (fun q => [cvar gb2 (rP (rW (HDR q.1 0 (List.length r) q.2)) r0) ((), ()), cown q.1 (rU UInt8) r 0 q.2]) (fun q => .tup []) := by
 unfold Zcz at hm
 refine Sim.of Tryz.func92 rfl rfl (lE rfl) (fun e0 w0 => ?_)
 refine JC.at ⟨[(0, ov (PTR gb2 0)), (1, ov (A Zad f1))], [cvar gb2 (zq21 go4 x3 gc5) ((), ()), cown go4 (rU UInt8) x3 0 gc5], []⟩ <| jr <| jx (ZaZ lb tR) fun gb6 => jn <| JC.region <| jmv rfl rfl <| jc (Zaa (off := 3) lb ZdJ tR) <| jc (Zam (j := 2) lb tS23 tR rfl (cT (ZaO f1) rfl) rfl rfl) <| bI hm fun x7 hv_x_7 hm => jx (Zak (js := [0, 0]) ld cl75 (Zdr k f1.Items x3 gb2 go4 gc5 x7 hv_x_7) .func (.cons tR (.cons tR .nil)) rfl) (fun q => ?_)
 obtain ⟨go8, gc9⟩ := q
 refine JL.nil ?_
 obtain rfl := so hm
 exact JQ.done (js := [0, 0]) (ss := []) (go8, gc9) (.inr rfl) (.nil rfl) rfl .nil rfl rfl rfl

theorem Zhg (k : Nat) (x1 : (List UInt8)) (v2 : Int) (gb3 : Nat) (r : (List UInt8)) (hm : Zea k x1 v2 = some r) : Sim Tryz.prog 149 [S (rL (rU UInt8)) x1, S (rI .i64) v2, PTR gb3 0] [cvar gb3 (rW (HDR none 0 0 0)) ()] (γ := Option Nat × Nat) (fun q => [cvar gb3 (rW (HDR q.1 0 (List.length r) q.2)) (), cown q.1 (rU UInt8) r 0 q.2]) (fun q => .tup []) := by
 unfold Zea at hm
 refine Sim.of Tryz.func149 rfl rfl (lE rfl) (fun e0 w0 => ?_)
 refine JC.at ⟨[(0, ov (S (rL (rU UInt8)) x1)), (1, ov (S (rI .i64) v2)), (2, ov (PTR gb3 0))], [cvar gb3 (rW (HDR none 0 0 0)) ()], []⟩ <| JC.region <| jc (ZaJ (j := 0) lb tS27 tR rfl (Comp.self (rW (HDR none 0 0 0)) ())) <| jmv rfl rfl <| bI hm fun v4 hv4 hm => JL.pre (Imp.nilown (rU UInt8)) <| jx (Zbd (j := 1) lb tu27 tu27 rfl tB5 rfl (Nat.lt_of_lt_of_le Nat.zero_lt_one (lE rfl)) (Nat.lt_of_lt_of_le Nat.zero_lt_one (lE rfl))  rfl tR tR hv4) (fun q => ?_)
 obtain ⟨go5, gc6⟩ := q
 refine JL.sub ⟨[(2, ov (PTR gb3 0)), (7, ov (HDR go5 0 (List.length v4) gc6))], [cvar gb3 (rW (HDR none 0 0 0)) (), cown go5 (rU UInt8) v4 0 gc6], []⟩ (.cons rfl (.cons rfl .nil)) rfl rfl <| jc (ZbN (j := 0) tS27 tR tR rfl (UpdR.self (by rfl)) rfl) <| JL.nil ?_
 obtain rfl := so hm
 exact JQ.done (js := [0, 0]) (ss := []) (go5, gc6) (.inr rfl) (.nil rfl) rfl .nil rfl rfl rfl

theorem ZbT (k : Nat) (x1 : (List UInt8)) (v2 : Int) (x4 : (List UInt8)) (gb3 : Nat) (go5 : Option Nat) (gc6 : Nat) (r : (List UInt8)) (hm : ZbC k x1 v2 x4 = some r) : Sim Tryz.prog 149 [S (rL (rU UInt8)) x1, S (rI .i64) v2, PTR gb3 0] [cvar gb3 (rW (HDR go5 0 (List.length x4) gc6)) (), cown go5 (rU UInt8) x4 0 gc6] (γ := Option Nat × Nat) (fun q => [cvar gb3 (rW (HDR q.1 0 (List.length r) q.2)) (), cown q.1 (rU UInt8) r 0 q.2]) (fun q => .tup []) := by
 unfold ZbC at hm
 refine Sim.of Tryz.func149 rfl rfl (lE rfl) (fun e0 w0 => ?_)
 refine JC.at ⟨[(0, ov (S (rL (rU UInt8)) x1)), (1, ov (S (rI .i64) v2)), (2, ov (PTR gb3 0))], [cvar gb3 (rW (HDR go5 0 (List.length x4) gc6)) (), cown go5 (rU UInt8) x4 0 gc6], []⟩ <| JC.region <| jc (ZaJ (j := 0) lb tS27 tR rfl (Comp.self (rW (HDR go5 0 (List.length x4) gc6)) ())) <| jmv rfl rfl <| bI hm fun x7 hv_x_7 hm => jx (Zbd (j := 1) lb tu27 tu27 rfl tB5 rfl (Nat.lt_of_lt_of_le Nat.zero_lt_one (lE rfl)) (Nat.lt_of_lt_of_le Nat.zero_lt_one (lE rfl))  rfl tR tR hv_x_7) (fun q => ?_)
 obtain ⟨go8, gc9⟩ := q
 refine jc (ZbN (j := 0) tS27 tR tR rfl (UpdR.self (by rfl)) rfl) <| JL.nil ?_
 obtain rfl := so hm
 exact JQ.done (js := [0, 0]) (ss := []) (go8, gc9) (.inr rfl) (.nil rfl) rfl .nil rfl rfl rfl

theorem Zes (k : Nat) (v1 : (Vector UInt64 16)) (r : (List UInt8)) (hm : wire_Vector k v1 = some r) : Sim Tryz.prog 129 [A (rV 16 (rU UInt64)) v1] [] (γ := Option Nat × Nat) (fun q => [cown q.1 (rU UInt8) r 0 q.2]) (fun q => .one (.val (HDR q.1 0 (List.length r) q.2))) := by
 unfold wire_Vector at hm
 refine Sim.of Tryz.func129 rfl rfl (lE rfl) (fun e0 w0 => ?_)
 refine JC.at ⟨[(0, ov (A (rV 16 (rU UInt64)) v1))], [], []⟩ <| jr <| jx (ZaZ lb tR) fun gb2 => jc (Zac lb HasO.nilH) <| jn <| jr <| jc (Zac lb HasO.nilH) <| jn <| bI hm fun b17 hx1 hq1 => JC.seqJ (γ := Option Nat × Nat) (stj := fun q => ⟨[(3, ov (HDR q.1 0 (List.length b17) q.2))], [cown q.1 (rU UInt8) b17 0 q.2], []⟩) (fun q => ?_) ?_
 · obtain ⟨go18, gc19⟩ := q
   refine JC.at ⟨[(3, ov (HDR go18 0 (List.length b17) gc19))], [cown go18 (rU UInt8) b17 0 gc19], []⟩ <| jr <| jmv rfl rfl <| jc (Zac lb tR) <| jn <| JC.ret ?_
   obtain rfl := so hq1
   exact JQ.done (js := [0]) (ss := [.val (HDR go18 0 (List.length b17) gc19)]) (go18, gc19) (.inl rfl) (.nil rfl) rfl (.cons (.tmp rfl) .nil) rfl rfl rfl
 refine jr <| jc (ZaB (j := 0) lb tA29 tR rfl (Comp.self (rV 16 (rU UInt64)) v1) rfl) <| jc (ZaC lb .cI) <| jn <| JC.block <| JC.pre (Imp.nilown (rU UInt8)) <| JC.pre ?_ (JC.loop (γ := Option Nat × Nat) (stf := fun s q => ⟨[(3, ov (HDR q.1 0 (List.length s.1) q.2)), (8, ov (A (rV 16 (rU UInt64)) v1)), (9, ov (S (rI .i64) s.2))], [cown q.1 (rU UInt8) s.1 0 q.2], []⟩) (q := (none, 0)) hx1 ?_)
 · exact (Imp.norm (js := [1]) rfl (.cons rfl (.cons rfl (.cons rfl .nil))))
 intro s q x hx hr
 obtain ⟨b3, x4⟩ := s
 obtain ⟨go5, gc6⟩ := q
 change wire_Vector.b1 k v1 b3 x4 = some x at hx
 unfold wire_Vector.b1 at hx
 refine JC.at ⟨[(3, ov (HDR go5 0 (List.length b3) gc6)), (8, ov (A (rV 16 (rU UInt64)) v1)), (9, ov (S (rI .i64) x4))], [cown go5 (rU UInt8) b3 0 gc6], []⟩ <| jr <| lI hx fun v7 hv7 hx => jc (Zar lb tR .cI (cs hv7)) <| jn <| JC.seq <| jif tR hx (fun hc3 hx => ?_) (fun hc3 hx => ?_)
 · refine JC.skip <| JQ.then <| JC.seq <| JC.block <| jr <| bI hx fun v8 hv8 hx => jc (Zis lb tu29 tS24 rfl tR tR hv8) <| jc (Zac lb tR) <| jn <| jr <| jmv rfl rfl ?_
   obtain ⟨⟨v9, v10⟩, hv9, hx⟩ := Zaz hx
   refine jx (Zak (js := []) ld cl79 (ZcM k v8 (8 : Int) (v9, v10) hv9) .func (.cons tR (.cons .cI .nil)) rfl) (fun q => ?_)
   obtain ⟨go11, gc12⟩ := q
   refine jmv rfl rfl <| jc (Zaw (i := 0) lb tR rfl) <| jc (Zaw (i := 1) lb tR rfl) <| jc (Zac lb tR) <| jc (Zac lb tR) <| JL.sub ⟨[(3, ov (HDR go5 0 (List.length b3) gc6)), (6, ov (HDR go11 0 (List.length v9) gc12)), (8, ov (A (rV 16 (rU UInt64)) v1)), (9, ov (S (rI .i64) x4))], [cown go11 (rU UInt8) v9 0 gc12, cown go5 (rU UInt8) b3 0 gc6], []⟩ (.cons rfl (.cons rfl (.cons rfl (.cons rfl .nil)))) rfl rfl <| jn <| JC.region <| jmv rfl rfl <| jmv rfl rfl <| bI hx fun b13 hv_b_13 hx => jx (Zf6 (j := 1) (j' := 0) lb tu27 tu27 rfl tB5 rfl (Nat.lt_of_lt_of_le Nat.zero_lt_one (lE rfl)) (Nat.lt_of_lt_of_le Nat.zero_lt_one (lE rfl))  rfl tR rfl tR hv_b_13) (fun q => ?_)
   obtain ⟨go14, gc15⟩ := q
   refine jc (Zac lb tR) <| JL.nil <| JQ.outNB <| JQ.then <| JC.region <| lI hx fun v16 hv16 hx => jc (ZaX lb tR .cI (cs hv16)) <| jmv rfl rfl <| JL.nil ?_
   try obtain rfl := so hx
   exact JQ.next (go14, gc15) rfl (Imp.norm (js := [1]) rfl (.cons rfl (.cons rfl (.cons rfl .nil))))
 refine JC.exit <| JQ.outX ?_
 try obtain rfl := so hx
 have ht := hr _ rfl
 have hq2 := cs ht
 clear hr ht
 refine JQ.outX <| JQ.here ?_
 try obtain rfl := so hq2
 exact JQ.join (go5, gc6) (Imp.norm (js := [0]) rfl (.cons rfl .nil))

theorem ZfZ (k : Nat) (t1 : Zaq) (r : (List UInt8)) (hm : event_bytes k t1 = some r) : Sim Tryz.prog 145 [A Zan t1] [] (γ := Option Nat × Nat) (fun q => [cown q.1 (rU UInt8) r 0 q.2]) (fun q => .one (.val (HDR q.1 0 (List.length r) q.2))) := by
 unfold event_bytes at hm
 refine Sim.of Tryz.func145 rfl rfl (lE rfl) (fun e0 w0 => ?_)
 refine JC.at ⟨[(0, ov (A Zan t1))], [], []⟩ <| jr <| jx (ZaZ lb tR) fun gb2 => jc (Zac lb HasO.nilH) <| jn <| jr <| jx (Za8 lb tZ27 zr27) fun gb3 => jn <| jr <| jc (Zgl lb (.cons tR .nil)) <| jc (Zac lb tR) <| jn <| jr <| jmv rfl rfl <| jc (Zaa (off := 0) lb Zgd tR) <| jc (ZaB (j := 0) lb tA26 tR rfl (cT (Zbe t1) rfl) rfl) <| JL.sub ⟨[(1, ov (PTR gb2 0)), (3, ov (PTR gb3 0)), (4, ov (CLO 149 [PTR gb3 0])), (8, ov (CLO 149 [PTR gb3 0])), (10, ov (A Zae t1.ID))], [cvar gb2 Zan t1, cvar gb3 (rW (HDR none 0 0 0)) ()], []⟩ (.cons rfl (.cons rfl (.cons rfl (.cons rfl (.cons rfl .nil))))) rfl rfl ?_
 obtain ⟨⟨v4, v5⟩, hv4, hm⟩ := Zaz hm
 refine jx (Zak (js := []) ld Zl2 (ZeE k t1.ID (v4, v5) hv4) .func (.cons tR .nil) rfl) (fun q => ?_)
 obtain ⟨go6, gc7⟩ := q
 refine jc (Zaw (i := 0) lb tR rfl) <| jc (Zaw (i := 1) lb tR rfl) <| bI hm fun x8 hv_x_8 hm => JL.pre (Imp.frz (j := 0) rfl (ImpK.tupAt (s := 11) (i := 0) (q := HL go6 (rU UInt8) v4 gc7) rfl rfl Zgy (ImpK.slotH (s := 12) rfl ImpK.refl))) <| jx (Zak (js := [2]) ld ZjQ (Zhg k v4 v5 gb3 x8 hv_x_8) tR (.cons (HasO.wk tR wkHL) (.cons tR .nil)) rfl) (fun q => ?_)
 obtain ⟨go9, gc10⟩ := q
 refine JL.nrm ⟨[(1, ov (PTR gb2 0)), (3, ov (PTR gb3 0)), (4, ov (CLO 149 [PTR gb3 0]))], [cvar gb3 (rW (HDR go9 0 (List.length x8) gc10)) (), cown go9 (rU UInt8) x8 0 gc10, cvar gb2 Zan t1], []⟩ [0, 0, 1] rfl (.cons rfl (.cons rfl (.cons rfl .nil))) rfl <| jn <| jr <| jmv rfl rfl <| jc (Zaa (off := 2) lb ZhV tR) <| jc (Zam (j := 2) lb tS9 tR rfl (cT (Zby t1) rfl) rfl rfl) <| jc (ZgL lb tu9 tu27 tu5 tR) ?_
 obtain ⟨⟨v11, v12⟩, hv11, hm⟩ := Zaz hm
 refine jx (Zak (js := []) ld Zlw (ZdA k t1.Topic (v11, v12) hv11) .func (.cons tR .nil) rfl) (fun q => ?_)
 obtain ⟨go13, gc14⟩ := q
 refine jc (Zaw (i := 0) lb tR rfl) <| jc (Zaw (i := 1) lb tR rfl) <| bI hm fun x15 hv_x_15 hm => JL.pre (Imp.frz (j := 0) rfl (ImpK.tupAt (s := 19) (i := 0) (q := HL go13 (rU UInt8) v11 gc14) rfl rfl Zgy (ImpK.slotH (s := 20) rfl ImpK.refl))) <| jx (Zak (js := [1, 1]) ld ZjQ (ZbT k v11 v12 x8 gb3 go9 gc10 x15 hv_x_15) tR (.cons (HasO.wk tR wkHL) (.cons tR .nil)) rfl) (fun q => ?_)
 obtain ⟨go16, gc17⟩ := q
 refine JL.nrm ⟨[(1, ov (PTR gb2 0)), (3, ov (PTR gb3 0)), (4, ov (CLO 149 [PTR gb3 0]))], [cvar gb3 (rW (HDR go16 0 (List.length x15) gc17)) (), cown go16 (rU UInt8) x15 0 gc17, cvar gb2 Zan t1], []⟩ [0, 0, 1] rfl (.cons rfl (.cons rfl (.cons rfl .nil))) rfl <| jn <| jr <| jmv rfl rfl <| jc (Zaa (off := 3) lb ZhJ tR) <| jc (Zam (j := 2) lb tS27 tR rfl (cT (Zbh t1) rfl) rfl rfl) ?_
 obtain ⟨⟨v18, v19⟩, hv18, hm⟩ := Zaz hm
 refine jx (Zak (js := []) ld Zlw (ZdA k t1.Payload (v18, v19) hv18) .func (.cons tR .nil) rfl) (fun q => ?_)
 obtain ⟨go20, gc21⟩ := q
 refine jc (Zaw (i := 0) lb tR rfl) <| jc (Zaw (i := 1) lb tR rfl) <| bI hm fun x22 hv_x_22 hm => JL.pre (Imp.frz (j := 0) rfl (ImpK.tupAt (s := 26) (i := 0) (q := HL go20 (rU UInt8) v18 gc21) rfl rfl Zgy (ImpK.slotH (s := 27) rfl ImpK.refl))) <| jx (Zak (js := [1, 1]) ld ZjQ (ZbT k v18 v19 x15 gb3 go16 gc17 x22 hv_x_22) tR (.cons (HasO.wk tR wkHL) (.cons tR .nil)) rfl) (fun q => ?_)
 obtain ⟨go23, gc24⟩ := q
 refine JL.nrm ⟨[(1, ov (PTR gb2 0)), (3, ov (PTR gb3 0)), (4, ov (CLO 149 [PTR gb3 0]))], [cvar gb3 (rW (HDR go23 0 (List.length x22) gc24)) (), cown go23 (rU UInt8) x22 0 gc24, cvar gb2 Zan t1], []⟩ [0, 0, 1] rfl (.cons rfl (.cons rfl (.cons rfl .nil))) rfl <| jn <| jr <| jmv rfl rfl <| jc (Zaa (off := 4) lb ZgO tR) <| jc (ZaB (j := 2) lb tA29 tR rfl (cT (Zbm t1) rfl) rfl) <| bI hm fun v25 hv25 hm => jx (Zak (js := []) ld Zm8 (Zes k t1.Past v25 hv25) .func (.cons tR .nil) rfl) (fun q => ?_)
 obtain ⟨go26, gc27⟩ := q
 refine bI hm fun x28 hv_x_28 hm => JL.pre (Imp.frz (j := 0) rfl (ImpK.slotH (s := 33) rfl ImpK.refl)) <| jx (Zak (js := [1, 1]) ld ZjQ (ZbT k v25 (0 : Int) x22 gb3 go23 gc24 x28 hv_x_28) tR (.cons (HasO.wk tR wkHL) (.cons .cI .nil)) rfl) (fun q => ?_)
 obtain ⟨go29, gc30⟩ := q
 refine JL.nrm ⟨[(1, ov (PTR gb2 0)), (3, ov (PTR gb3 0)), (4, ov (CLO 149 [PTR gb3 0]))], [cvar gb3 (rW (HDR go29 0 (List.length x28) gc30)) (), cown go29 (rU UInt8) x28 0 gc30, cvar gb2 Zan t1], []⟩ [0, 0, 1] rfl (.cons rfl (.cons rfl (.cons rfl .nil))) rfl <| jn <| jr <| jmv rfl rfl <| jc (Zaa (off := 20) lb ZdW tR) <| jc (Zam (j := 2) lb tS30 tR rfl (cT (ZaR t1) rfl) rfl rfl) <| jc (ZaI lb tu30 tR) <| lI hm fun v31 hv31 hm => jc (ZcR lb tu3 tu24 tR hv31) ?_
 obtain ⟨⟨v32, v33⟩, hv32, hm⟩ := Zaz hm
 refine jx (Zak (js := []) ld cl79 (ZcM k v31 (2 : Int) (v32, v33) hv32) .func (.cons tR (.cons .cI .nil)) rfl) (fun q => ?_)
 obtain ⟨go34, gc35⟩ := q
 refine jc (Zaw (i := 0) lb tR rfl) <| jc (Zaw (i := 1) lb tR rfl) <| bI hm fun x36 hv_x_36 hm => JL.pre (Imp.frz (j := 0) rfl (ImpK.tupAt (s := 40) (i := 0) (q := HL go34 (rU UInt8) v32 gc35) rfl rfl Zgy (ImpK.slotH (s := 41) rfl ImpK.refl))) <| jx (Zak (js := [1, 1]) ld ZjQ (ZbT k v32 v33 x28 gb3 go29 gc30 x36 hv_x_36) tR (.cons (HasO.wk tR wkHL) (.cons tR .nil)) rfl) (fun q => ?_)
 obtain ⟨go37, gc38⟩ := q
 refine JL.nrm ⟨[(1, ov (PTR gb2 0)), (3, ov (PTR gb3 0)), (4, ov (CLO 149 [PTR gb3 0]))], [cvar gb3 (rW (HDR go37 0 (List.length x36) gc38)) (), cown go37 (rU UInt8) x36 0 gc38, cvar gb2 Zan t1], []⟩ [0, 0, 1] rfl (.cons rfl (.cons rfl (.cons rfl .nil))) rfl <| jn <| bI hm fun x61 hx1 hq1 => JC.seqJ (γ := Option Nat × Nat) (stj := fun q => ⟨[(3, ov (PTR gb3 0))], [cvar gb3 (rW (HDR q.1 0 (List.length x61) q.2)) (), cown q.1 (rU UInt8) x61 0 q.2], []⟩) (fun q => ?_) ?_
 · obtain ⟨go62, gc63⟩ := q
   refine JC.at ⟨[(3, ov (PTR gb3 0))], [cvar gb3 (rW (HDR go62 0 (List.length x61) gc63)) (), cown go62 (rU UInt8) x61 0 gc63], []⟩ <| jr <| jc (ZaJ (j := 0) lb tS27 tR rfl (Comp.self (rW (HDR go62 0 (List.length x61) gc63)) ())) <| jc (Zac lb tR) <| jn <| JC.ret ?_
   obtain rfl := so hq1
   exact JQ.done (js := [1]) (ss := [.val (HDR go62 0 (List.length x61) gc63)]) (go62, gc63) (.inl rfl) (.nil rfl) rfl (.cons (.tmp rfl) .nil) rfl rfl rfl
 refine jr <| jc (Zaa (off := 20) lb ZdW tR) <| jc (Zam (j := 2) lb tS30 tR rfl (cT (ZaR t1) rfl) rfl rfl) <| jc (ZaI lb tu30 tR) <| jc (ZaC lb .cI) <| jn <| JC.block <| JC.pre ?_ (JC.loop (γ := Option Nat × Nat) (stf := fun s q => ⟨[(3, ov (PTR gb3 0)), (4, ov (CLO 149 [PTR gb3 0])), (45, ov (S (rL Zat) t1.To)), (46, ov (S (rI .i64) (List.length t1.To : Int))), (47, ov (S (rI .i64) s.2))], [cvar gb3 (rW (HDR q.1 0 (List.length s.1) q.2)) (), cown q.1 (rU UInt8) s.1 0 q.2], []⟩) (q := (go37, gc38)) hx1 ?_)
 · exact (Imp.norm (js := [0, 0]) rfl (.cons rfl (.cons rfl (.cons rfl (.cons rfl (.cons rfl .nil))))))
 intro s q x hx hr
 obtain ⟨x39, x40⟩ := s
 obtain ⟨go41, gc42⟩ := q
 change event_bytes.b1 k t1 x39 x40 = some x at hx
 unfold event_bytes.b1 at hx
 refine JC.at ⟨[(3, ov (PTR gb3 0)), (4, ov (CLO 149 [PTR gb3 0])), (45, ov (S (rL Zat) t1.To)), (46, ov (S (rI .i64) (List.length t1.To : Int))), (47, ov (S (rI .i64) x40))], [cvar gb3 (rW (HDR go41 0 (List.length x39) gc42)) (), cown go41 (rU UInt8) x39 0 gc42], []⟩ <| jr <| lI hx fun v43 hv43 hx => jc (Zar lb tR tR (cs hv43)) <| jn <| JC.seq <| jif tR hx (fun hc3 hx => ?_) (fun hc3 hx => ?_)
 · refine JC.skip <| JQ.then <| JC.seq <| JC.block <| jr <| bI hx fun v44 hv44 hx => jc (Zau lb tu30 ZiU tR tR hv44) <| jc (ZaS lb Zje tR rfl) <| jx (Za8 lb Zmx Zoq) fun gb45 => jc (ZaM (j := 2) Zje tR tR rfl (UpdR.self (by rfl)) rfl) <| jn <| jr <| jmv rfl rfl <| jc (Zaa (off := 0) lb Zi2 tR) <| jc (ZaB (j := 2) lb tA26 tR rfl (cT (Zdb v44) rfl) rfl) <| JL.sub ⟨[(3, ov (PTR gb3 0)), (4, ov (CLO 149 [PTR gb3 0])), (6, ov (PTR gb45 0)), (45, ov (S (rL Zat) t1.To)), (46, ov (S (rI .i64) (List.length t1.To : Int))), (47, ov (S (rI .i64) x40)), (51, ov (CLO 149 [PTR gb3 0])), (53, ov (A Zae v44.Dot))], [cvar gb3 (rW (HDR go41 0 (List.length x39) gc42)) (), cown go41 (rU UInt8) x39 0 gc42, cvar gb45 Zat v44], []⟩ (.cons rfl (.cons rfl (.cons rfl (.cons rfl (.cons rfl (.cons rfl (.cons rfl (.cons rfl .nil)))))))) rfl rfl ?_
   obtain ⟨⟨v46, v47⟩, hv46, hx⟩ := Zaz hx
   refine jx (Zak (js := []) ld Zl2 (ZeE k v44.Dot (v46, v47) hv46) .func (.cons tR .nil) rfl) (fun q => ?_)
   obtain ⟨go48, gc49⟩ := q
   refine jc (Zaw (i := 0) lb tR rfl) <| jc (Zaw (i := 1) lb tR rfl) <| bI hx fun x50 hv_x_50 hx => JL.pre (Imp.frz (j := 0) rfl (ImpK.tupAt (s := 54) (i := 0) (q := HL go48 (rU UInt8) v46 gc49) rfl rfl Zgy (ImpK.slotH (s := 55) rfl ImpK.refl))) <| jx (Zak (js := [1, 1]) ld ZjQ (ZbT k v46 v47 x39 gb3 go41 gc42 x50 hv_x_50) tR (.cons (HasO.wk tR wkHL) (.cons tR .nil)) rfl) (fun q => ?_)
   obtain ⟨go51, gc52⟩ := q
   refine JL.nrm ⟨[(3, ov (PTR gb3 0)), (4, ov (CLO 149 [PTR gb3 0])), (6, ov (PTR gb45 0)), (45, ov (S (rL Zat) t1.To)), (46, ov (S (rI .i64) (List.length t1.To : Int))), (47, ov (S (rI .i64) x40))], [cvar gb3 (rW (HDR go51 0 (List.length x50) gc52)) (), cown go51 (rU UInt8) x50 0 gc52, cvar gb45 Zat v44], []⟩ [0, 0, 1] rfl (.cons rfl (.cons rfl (.cons rfl (.cons rfl (.cons rfl (.cons rfl .nil)))))) rfl <| jn <| JC.region <| jmv rfl rfl <| jc (Zaa (off := 2) lb ZjR tR) <| jc (Zam (j := 2) lb tS9 tR rfl (cT (Zdk v44) rfl) rfl rfl) <| jc (ZgL lb tu9 tu27 tu5 tR) ?_
   obtain ⟨⟨v53, v54⟩, hv53, hx⟩ := Zaz hx
   refine jx (Zak (js := []) ld Zlw (ZdA k v44.Device (v53, v54) hv53) .func (.cons tR .nil) rfl) (fun q => ?_)
   obtain ⟨go55, gc56⟩ := q
   refine jc (Zaw (i := 0) lb tR rfl) <| jc (Zaw (i := 1) lb tR rfl) <| bI hx fun x57 hv_x_57 hx => JL.pre (Imp.frz (j := 0) rfl (ImpK.tupAt (s := 62) (i := 0) (q := HL go55 (rU UInt8) v53 gc56) rfl rfl Zgy (ImpK.slotH (s := 63) rfl ImpK.refl))) <| jx (Zak (js := [1, 1]) ld ZjQ (ZbT k v53 v54 x50 gb3 go51 gc52 x57 hv_x_57) tR (.cons (HasO.wk tR wkHL) (.cons tR .nil)) rfl) (fun q => ?_)
   obtain ⟨go58, gc59⟩ := q
   refine JL.nrm ⟨[(3, ov (PTR gb3 0)), (4, ov (CLO 149 [PTR gb3 0])), (45, ov (S (rL Zat) t1.To)), (46, ov (S (rI .i64) (List.length t1.To : Int))), (47, ov (S (rI .i64) x40))], [cvar gb3 (rW (HDR go58 0 (List.length x57) gc59)) (), cown go58 (rU UInt8) x57 0 gc59], []⟩ [0, 0] rfl (.cons rfl (.cons rfl (.cons rfl (.cons rfl (.cons rfl .nil))))) rfl <| JL.nil <| JQ.outNB <| JQ.then <| JC.region <| lI hx fun v60 hv60 hx => jc (ZaX lb tR .cI (cs hv60)) <| jmv rfl rfl <| JL.nil ?_
   try obtain rfl := so hx
   exact JQ.next (go58, gc59) rfl (Imp.norm (js := [0, 0]) rfl (.cons rfl (.cons rfl (.cons rfl (.cons rfl (.cons rfl .nil))))))
 refine JC.exit <| JQ.outX ?_
 try obtain rfl := so hx
 have ht := hr _ rfl
 have hq2 := cs ht
 clear hr ht
 refine JQ.outX <| JQ.here ?_
 try obtain rfl := so hq2
 exact JQ.join (go41, gc42) (Imp.norm (js := [0, 0]) rfl (.cons rfl .nil))

theorem ZhI (k : Nat) (e1 : Zaq) (r : (List UInt8) × Int) (hm : Zfq k e1 = some r) : Sim Tryz.prog 126 [A Zan e1] [] (γ := Option Nat × Nat) (fun q => [cown q.1 (rU UInt8) r.1 0 q.2]) (fun q => .tup [.val (HDR q.1 0 (List.length r.1) q.2), .val (S (rI .i64) r.2)]) := by
 unfold Zfq at hm
 refine Sim.of Tryz.func126 rfl rfl (lE rfl) (fun e0 w0 => ?_)
 refine JC.at ⟨[(0, ov (A Zan e1))], [], []⟩ <| jr <| jx (ZaZ lb tR) fun gb2 => jc (Zac lb HasO.nilH) <| jc (Zac lb .cI) <| jn <| JC.seq <| jr <| jc (ZaB (j := 0) lb tA32 tR rfl (Comp.self Zan e1) rfl) <| bI hm fun v3 hv3 hm => jx (Zak (js := []) ld cl31 (Zfg k e1 v3 hv3) .func (.cons tR .nil) rfl) fun _ => lI hm fun v4 hv4 hm => jc (ZbU lb tR hv4) <| jn ?_
 refine jif tR hm (fun hc1 hm => ?_) (fun hc1 hm => ?_)
 · refine jr <| jc (Zac lb HasO.nilH) <| jc (Zac lb .cI) <| jn <| JC.ret <| JQ.outR ?_
   obtain rfl := so hm
   exact JQ.pre (Imp.nilown (rU UInt8)) <| JQ.done (js := [1]) (ss := [.val (HDR none 0 (List.length ([] : (List UInt8))) (0)), .val (S (rI .i64) (2 : Int))]) (none, 0) (.inl rfl) (.nil rfl) rfl (.cons (.tmp rfl) (.cons (.tmp rfl) .nil)) rfl rfl rfl
 refine JC.skip <| JQ.then <| jr <| jc (ZaB (j := 0) lb tA32 tR rfl (Comp.self Zan e1) rfl) <| bI hm fun v5 hv5 hm => jx (Zak (js := []) ld ZnS (ZfZ k e1 v5 hv5) .func (.cons tR .nil) rfl) (fun q => ?_)
 obtain ⟨go6, gc7⟩ := q
 refine JL.nrm ⟨[(2, ov (HDR none 0 0 0)), (3, ov (S (rI .i64) (0 : Int))), (8, ov (HDR go6 0 (List.length v5) gc7))], [cown go6 (rU UInt8) v5 0 gc7], []⟩ [0] rfl (.cons rfl (.cons rfl (.cons rfl .nil))) rfl <| jc (Zac lb tR) <| jc (Zac lb .cI) <| jn <| JC.ret ?_
 obtain rfl := so hm
 exact JQ.done (js := [0]) (ss := [.val (HDR go6 0 (List.length v5) gc7), .val (S (rI .i64) (0 : Int))]) (go6, gc7) (.inl rfl) (.nil rfl) rfl (.cons (.tmp rfl) (.cons (.tmp rfl) .nil)) rfl rfl rfl

theorem ZfD (k : Nat) (f1 : Zai) (x3 : (List UInt8)) (gb2 : Nat) (go4 : Option Nat) (gc5 : Nat) (r : (List UInt8)) (hm : Zcu k f1 x3 = some r) : Sim Tryz.prog 94 [PTR gb2 0, A Zad f1] [cvar gb2 (zq21 go4 x3 gc5) ((), ()), cown go4 (rU UInt8) x3 0 gc5] (γ := Option Nat × Nat) (fun q => [cvar gb2 (rP (rW (HDR q.1 0 (List.length r) q.2)) r0) ((), ()), cown q.1 (rU UInt8) r 0 q.2]) (fun q => .tup []) := by
 unfold Zcu at hm
 refine Sim.of Tryz.func94 rfl rfl (lE rfl) (fun e0 w0 => ?_)
 refine JC.at ⟨[(0, ov (PTR gb2 0)), (1, ov (A Zad f1))], [cvar gb2 (zq21 go4 x3 gc5) ((), ()), cown go4 (rU UInt8) x3 0 gc5], []⟩ <| jr <| jx (ZaZ lb tR) fun gb6 => jn <| jr <| jc (Zaa (off := 4) lb Zgi tR) <| jc (ZaB (j := 2) lb tA32 tR rfl (cT (Zbf f1) rfl) rfl) ?_
 obtain ⟨⟨v7, v8⟩, hv7, hm⟩ := Zaz hm
 refine jx (Zak (js := []) ld Zpj (ZhI k f1.Event (v7, v8) hv7) .func (.cons tR .nil) rfl) (fun q => ?_)
 obtain ⟨go9, gc10⟩ := q
 refine jmv rfl rfl <| jc (Zaw (i := 0) lb tR rfl) <| jc (Zaw (i := 1) lb tR rfl) <| jc (Zac lb tR) <| JL.nrm ⟨[(0, ov (PTR gb2 0)), (4, ov (HDR go9 0 (List.length v7) gc10)), (11, ov (S (rI .i64) v8))], [cown go9 (rU UInt8) v7 0 gc10, cvar gb2 (zq21 go4 x3 gc5) ((), ()), cown go4 (rU UInt8) x3 0 gc5], []⟩ [0, 0, 0] rfl (.cons rfl (.cons rfl (.cons rfl .nil))) rfl <| jc (Zac lb tR) <| jn <| jr <| jmv rfl rfl <| jmv rfl rfl <| jc (Zhe lb tu27 tR) <| lI hm fun v11 hv11 hm => jc (ZcR lb tu3 tu24 tR hv11) ?_
 obtain ⟨⟨v12, v13⟩, hv12, hm⟩ := Zaz hm
 refine jx (Zak (js := []) ld cl79 (ZcM k v11 (4 : Int) (v12, v13) hv12) .func (.cons tR (.cons .cI .nil)) rfl) (fun q => ?_)
 obtain ⟨go14, gc15⟩ := q
 refine jc (Zaw (i := 0) lb tR rfl) <| jc (Zaw (i := 1) lb tR rfl) <| bI hm fun x16 hv_x_16 hm => JL.pre (Imp.frz (j := 0) rfl (ImpK.tupAt (s := 16) (i := 0) (q := HL go14 (rU UInt8) v12 gc15) rfl rfl Zgy (ImpK.slotH (s := 17) rfl ImpK.refl))) <| jx (Zak (js := [2, 2]) ld cl78 (Za0 k v12 v13 x3 gb2 go4 gc5 x16 hv_x_16) .func (.cons tR (.cons (HasO.wk tR wkHL) (.cons tR .nil))) rfl) (fun q => ?_)
 obtain ⟨go17, gc18⟩ := q
 refine JL.nrm ⟨[(0, ov (PTR gb2 0)), (4, ov (HDR go9 0 (List.length v7) gc10))], [cvar gb2 (zq21 go17 x16 gc18) ((), ()), cown go17 (rU UInt8) x16 0 gc18, cown go9 (rU UInt8) v7 0 gc10], []⟩ [0, 0, 1] rfl (.cons rfl (.cons rfl .nil)) rfl <| jn <| JC.region <| jmv rfl rfl <| jmv rfl rfl <| jc (Zap lb tR (fun e v h => by subst h; rfl)) <| jc (Zaa (off := 0) lb ZcW tR) <| jc (ZaJ (j := 0) lb tS27 tR rfl (Comp.trans (Comp.self (zq21 go17 x16 gc18) ((), ())) (Comp.at' (Comp.inF (Comp.self (rW (HDR go17 0 (List.length x16) gc18)) ()) (lE rfl)) (by rfl : _ = 0)) (lE rfl))) <| jmv rfl rfl <| bI hm fun x19 hv_x_19 hm => jx (Zf6 (j := 1) (j' := 2) lb tu27 tu27 rfl tB5 rfl (Nat.lt_of_lt_of_le Nat.zero_lt_one (lE rfl)) (Nat.lt_of_lt_of_le Nat.zero_lt_one (lE rfl))  rfl tR rfl tR hv_x_19) (fun q => ?_)
 obtain ⟨go20, gc21⟩ := q
 refine jc (Zap lb tR (fun e v h => by subst h; rfl)) <| jc (Zaa (off := 0) lb ZcW tR) <| jc (ZbN (j := 0) tS27 tR tR rfl ((UpdR.fst (UpdR.self (by rfl))).at (by change 0 = (0 + 0); omega)) rfl) <| JL.nrm ⟨[], [cvar gb2 (zq21 go20 x19 gc21) ((), ()), cown go20 (rU UInt8) x19 0 gc21], []⟩ [0, 0] rfl .nil rfl <| JL.nil ?_
 obtain rfl := so hm
 exact JQ.done (js := [0, 0]) (ss := []) (go20, gc21) (.inr rfl) (.nil rfl) rfl .nil rfl rfl rfl

theorem ZfQ (k : Nat) (f1 : Zai) (x3 : (List UInt8)) (gb2 : Nat) (go4 : Option Nat) (gc5 : Nat) (r : (List UInt8)) (hm : Zc8 k f1 x3 = some r) : Sim Tryz.prog 96 [PTR gb2 0, A Zad f1] [cvar gb2 (zq21 go4 x3 gc5) ((), ()), cown go4 (rU UInt8) x3 0 gc5] (γ := Option Nat × Nat) (fun q => [cvar gb2 (rP (rW (HDR q.1 0 (List.length r) q.2)) r0) ((), ()), cown q.1 (rU UInt8) r 0 q.2]) (fun q => .tup []) := by
 unfold Zc8 at hm
 refine Sim.of Tryz.func96 rfl rfl (lE rfl) (fun e0 w0 => ?_)
 refine JC.at ⟨[(0, ov (PTR gb2 0)), (1, ov (A Zad f1))], [cvar gb2 (zq21 go4 x3 gc5) ((), ()), cown go4 (rU UInt8) x3 0 gc5], []⟩ <| jr <| jx (ZaZ lb tR) fun gb6 => jn <| JC.region <| jmv rfl rfl <| jc (Zaa (off := 25) lb Zg3 tR) <| jc (ZaB (j := 2) lb tA29 tR rfl (cT (ZbG f1) rfl) rfl) <| bI hm fun v7 hv7 hm => jx (Zak (js := []) ld Zm8 (Zes k f1.Past v7 hv7) .func (.cons tR .nil) rfl) (fun q => ?_)
 obtain ⟨go8, gc9⟩ := q
 refine bI hm fun x10 hv_x_10 hm => JL.pre (Imp.frz (j := 0) rfl (ImpK.slotH (s := 7) rfl ImpK.refl)) <| jx (Zak (js := [1, 1]) ld cl78 (Za0 k v7 (0 : Int) x3 gb2 go4 gc5 x10 hv_x_10) .func (.cons tR (.cons (HasO.wk tR wkHL) (.cons .cI .nil))) rfl) (fun q => ?_)
 obtain ⟨go11, gc12⟩ := q
 refine JL.nrm ⟨[], [cvar gb2 (zq21 go11 x10 gc12) ((), ()), cown go11 (rU UInt8) x10 0 gc12], []⟩ [0, 0] rfl .nil rfl <| JL.nil ?_
 obtain rfl := so hm
 exact JQ.done (js := [0, 0]) (ss := []) (go11, gc12) (.inr rfl) (.nil rfl) rfl .nil rfl rfl rfl

theorem ZdZ (k : Nat) (l1 : (List Zah)) (x3 : (List UInt8)) (gb2 : Nat) (go4 : Option Nat) (gc5 : Nat) (r : (List UInt8)) (hm : frame_writer_dots k l1 x3 = some r) : Sim Tryz.prog 132 [PTR gb2 0, S (rL Zae) l1] [cvar gb2 (zq21 go4 x3 gc5) ((), ()), cown go4 (rU UInt8) x3 0 gc5] (γ := Option Nat × Nat) (fun q => [cvar gb2 (rP (rW (HDR q.1 0 (List.length r) q.2)) r0) ((), ()), cown q.1 (rU UInt8) r 0 q.2]) (fun q => .tup []) := by
 unfold frame_writer_dots at hm
 refine Sim.of Tryz.func132 rfl rfl (lE rfl) (fun e0 w0 => ?_)
 refine JC.at ⟨[(0, ov (PTR gb2 0)), (1, ov (S (rL Zae) l1))], [cvar gb2 (zq21 go4 x3 gc5) ((), ()), cown go4 (rU UInt8) x3 0 gc5], []⟩ <| jr <| jmv rfl rfl <| jmv rfl rfl <| jc (ZaI lb tu33 tR) <| lI hm fun v6 hv6 hm => jc (ZcR lb tu3 tu24 tR hv6) ?_
 obtain ⟨⟨v7, v8⟩, hv7, hm⟩ := Zaz hm
 refine jx (Zak (js := []) ld cl79 (ZcM k v6 (2 : Int) (v7, v8) hv7) .func (.cons tR (.cons .cI .nil)) rfl) (fun q => ?_)
 obtain ⟨go9, gc10⟩ := q
 refine jc (Zaw (i := 0) lb tR rfl) <| jc (Zaw (i := 1) lb tR rfl) <| bI hm fun x11 hv_x_11 hm => JL.pre (Imp.frz (j := 0) rfl (ImpK.tupAt (s := 10) (i := 0) (q := HL go9 (rU UInt8) v7 gc10) rfl rfl Zgy (ImpK.slotH (s := 11) rfl ImpK.refl))) <| jx (Zak (js := [1, 1]) ld cl78 (Za0 k v7 v8 x3 gb2 go4 gc5 x11 hv_x_11) .func (.cons tR (.cons (HasO.wk tR wkHL) (.cons tR .nil))) rfl) (fun q => ?_)
 obtain ⟨go12, gc13⟩ := q
 refine JL.nrm ⟨[(0, ov (PTR gb2 0)), (1, ov (S (rL Zae) l1))], [cvar gb2 (zq21 go12 x11 gc13) ((), ()), cown go12 (rU UInt8) x11 0 gc13], []⟩ [0, 0] rfl (.cons rfl (.cons rfl .nil)) rfl <| jn <| jr <| jmv rfl rfl <| jc (ZaI lb tu33 tR) <| jc (ZaC lb .cI) <| jn <| JC.block <| JC.pre ?_ (JC.loop (γ := Option Nat × Nat) (stf := fun s q => ⟨[(0, ov (PTR gb2 0)), (14, ov (S (rL Zae) l1)), (15, ov (S (rI .i64) (List.length l1 : Int))), (16, ov (S (rI .i64) s.2))], [cvar gb2 (rP (rW (HDR q.1 0 (List.length s.1) q.2)) r0) ((), ()), cown q.1 (rU UInt8) s.1 0 q.2], []⟩) (q := (go12, gc13)) hm ?_)
 · exact (Imp.norm (js := [0, 0]) rfl (.cons rfl (.cons rfl (.cons rfl (.cons rfl .nil)))))
 intro s q x hx hr
 obtain ⟨b14, x15⟩ := s
 obtain ⟨go16, gc17⟩ := q
 change frame_writer_dots.b1 k l1 b14 x15 = some x at hx
 unfold frame_writer_dots.b1 at hx
 refine JC.at ⟨[(0, ov (PTR gb2 0)), (14, ov (S (rL Zae) l1)), (15, ov (S (rI .i64) (List.length l1 : Int))), (16, ov (S (rI .i64) x15))], [cvar gb2 (zq21 go16 b14 gc17) ((), ()), cown go16 (rU UInt8) b14 0 gc17], []⟩ <| jr <| lI hx fun v18 hv18 hx => jc (Zar lb tR tR (cs hv18)) <| jn <| JC.seq <| jif tR hx (fun hc2 hx => ?_) (fun hc2 hx => ?_)
 · refine JC.skip <| JQ.then <| JC.seq <| JC.block <| jr <| bI hx fun v19 hv19 hx => jc (Zau lb tu33 tz26 tR tR hv19) <| jc (ZaS lb tA26 tR rfl) <| jx (Za8 lb tZ26 zr26) fun gb20 => jc (ZaM (j := 2) tA26 tR tR rfl (UpdR.self (by rfl)) rfl) <| jn <| JC.region <| jmv rfl rfl <| jc (ZaB (j := 2) lb tA26 tR rfl (Comp.self Zae v19) rfl) ?_
   obtain ⟨⟨v21, v22⟩, hv21, hx⟩ := Zaz hx
   refine jx (Zak (js := []) ld Zl2 (ZeE k v19 (v21, v22) hv21) .func (.cons tR .nil) rfl) (fun q => ?_)
   obtain ⟨go23, gc24⟩ := q
   refine JL.nrm ⟨[(0, ov (PTR gb2 0)), (14, ov (S (rL Zae) l1)), (15, ov (S (rI .i64) (List.length l1 : Int))), (16, ov (S (rI .i64) x15)), (20, ov (PTR gb2 0)), (22, .tup [.val (HDR go23 0 (List.length v21) gc24), .val (S (rI .i64) v22)])], [cown go23 (rU UInt8) v21 0 gc24, cvar gb2 (zq21 go16 b14 gc17) ((), ()), cown go16 (rU UInt8) b14 0 gc17], []⟩ [0, 0, 0] rfl (.cons rfl (.cons rfl (.cons rfl (.cons rfl (.cons rfl (.cons rfl .nil)))))) rfl <| jc (Zaw (i := 0) lb tR rfl) <| jc (Zaw (i := 1) lb tR rfl) <| bI hx fun x25 hv_x_25 hx => JL.pre (Imp.frz (j := 0) rfl (ImpK.tupAt (s := 22) (i := 0) (q := HL go23 (rU UInt8) v21 gc24) rfl rfl Zgy (ImpK.slotH (s := 23) rfl ImpK.refl))) <| jx (Zak (js := [1, 1]) ld cl78 (Za0 k v21 v22 b14 gb2 go16 gc17 x25 hv_x_25) .func (.cons tR (.cons (HasO.wk tR wkHL) (.cons tR .nil))) rfl) (fun q => ?_)
   obtain ⟨go26, gc27⟩ := q
   refine JL.nrm ⟨[(0, ov (PTR gb2 0)), (14, ov (S (rL Zae) l1)), (15, ov (S (rI .i64) (List.length l1 : Int))), (16, ov (S (rI .i64) x15))], [cvar gb2 (zq21 go26 x25 gc27) ((), ()), cown go26 (rU UInt8) x25 0 gc27], []⟩ [0, 0] rfl (.cons rfl (.cons rfl (.cons rfl (.cons rfl .nil)))) rfl <| JL.nil <| JQ.outNB <| JQ.then <| JC.region <| lI hx fun v28 hv28 hx => jc (ZaX lb tR .cI (cs hv28)) <| jmv rfl rfl <| JL.nil ?_
   try obtain rfl := so hx
   exact JQ.next (go26, gc27) rfl (Imp.norm (js := [0, 0]) rfl (.cons rfl (.cons rfl (.cons rfl (.cons rfl .nil)))))
 refine JC.exit <| JQ.outX ?_
 try obtain rfl := so hx
 have ht := hr _ rfl
 have hq1 := cs ht
 clear hr ht
 refine JQ.outX <| JQ.here ?_
 obtain rfl := so hq1
 exact JQ.done (js := [0, 0]) (ss := []) (go16, gc17) (.inr rfl) (.nil rfl) rfl .nil rfl rfl rfl

theorem ZdY (k : Nat) (f1 : Zai) (x3 : (List UInt8)) (gb2 : Nat) (go4 : Option Nat) (gc5 : Nat) (r : (List UInt8)) (hm : Zb7 k f1 x3 = some r) : Sim Tryz.prog 131 [PTR gb2 0, A Zad f1] [cvar gb2 (zq21 go4 x3 gc5) ((), ()), cown go4 (rU UInt8) x3 0 gc5] (γ := Option Nat × Nat) (fun q => [cvar gb2 (rP (rW (HDR q.1 0 (List.length r) q.2)) r0) ((), ()), cown q.1 (rU UInt8) r 0 q.2]) (fun q => .tup []) := by
 unfold Zb7 at hm
 refine Sim.of Tryz.func131 rfl rfl (lE rfl) (fun e0 w0 => ?_)
 refine JC.at ⟨[(0, ov (PTR gb2 0)), (1, ov (A Zad f1))], [cvar gb2 (zq21 go4 x3 gc5) ((), ()), cown go4 (rU UInt8) x3 0 gc5], []⟩ <| jr <| jx (ZaZ lb tR) fun gb6 => jn <| jr <| jmv rfl rfl <| jc (Zaa (off := 41) lb Zfw tR) <| jc (ZaB (j := 2) lb tA29 tR rfl (cT (Zbn f1) rfl) rfl) <| bI hm fun v7 hv7 hm => jx (Zak (js := []) ld Zm8 (Zes k f1.Seen v7 hv7) .func (.cons tR .nil) rfl) (fun q => ?_)
 obtain ⟨go8, gc9⟩ := q
 refine bI hm fun x10 hv_x_10 hm => JL.pre (Imp.frz (j := 0) rfl (ImpK.slotH (s := 7) rfl ImpK.refl)) <| jx (Zak (js := [1, 1]) ld cl78 (Za0 k v7 (0 : Int) x3 gb2 go4 gc5 x10 hv_x_10) .func (.cons tR (.cons (HasO.wk tR wkHL) (.cons .cI .nil))) rfl) (fun q => ?_)
 obtain ⟨go11, gc12⟩ := q
 refine JL.nrm ⟨[(0, ov (PTR gb2 0)), (3, ov (PTR gb6 0))], [cvar gb2 (zq21 go11 x10 gc12) ((), ()), cown go11 (rU UInt8) x10 0 gc12, cvar gb6 Zad f1], []⟩ [0, 0, 1] rfl (.cons rfl (.cons rfl .nil)) rfl <| jn <| JC.region <| jmv rfl rfl <| jc (Zaa (off := 57) lb Ze1 tR) <| jc (Zam (j := 2) lb tS33 tR rfl (cT (Za7 f1) rfl) rfl rfl) <| bI hm fun x13 hv_x_13 hm => jx (Zak (js := [0, 0]) ld Zoc (ZdZ k f1.Extra x10 gb2 go11 gc12 x13 hv_x_13) .func (.cons tR (.cons tR .nil)) rfl) (fun q => ?_)
 obtain ⟨go14, gc15⟩ := q
 refine JL.nil ?_
 obtain rfl := so hm
 exact JQ.done (js := [0, 0]) (ss := []) (go14, gc15) (.inr rfl) (.nil rfl) rfl .nil rfl rfl rfl

theorem ZfG (k : Nat) (f1 : Zai) (x3 : (List UInt8)) (gb2 : Nat) (go4 : Option Nat) (gc5 : Nat) (r : (List UInt8)) (hm : ZcZ k f1 x3 = some r) : Sim Tryz.prog 98 [PTR gb2 0, A Zad f1] [cvar gb2 (zq21 go4 x3 gc5) ((), ()), cown go4 (rU UInt8) x3 0 gc5] (γ := Option Nat × Nat) (fun q => [cvar gb2 (rP (rW (HDR q.1 0 (List.length r) q.2)) r0) ((), ()), cown q.1 (rU UInt8) r 0 q.2]) (fun q => .tup []) := by
 unfold ZcZ at hm
 refine Sim.of Tryz.func98 rfl rfl (lE rfl) (fun e0 w0 => ?_)
 refine JC.at ⟨[(0, ov (PTR gb2 0)), (1, ov (A Zad f1))], [cvar gb2 (zq21 go4 x3 gc5) ((), ()), cown go4 (rU UInt8) x3 0 gc5], []⟩ <| jr <| jx (ZaZ lb tR) fun gb6 => jn <| jr <| jmv rfl rfl <| jc (ZaB (j := 2) lb tA39 tR rfl (Comp.self Zad f1) rfl) <| bI hm fun x7 hv_x_7 hm => jx (Zak (js := [0, 0]) ld Zox (ZdY k f1 x3 gb2 go4 gc5 x7 hv_x_7) .func (.cons tR (.cons tR .nil)) rfl) (fun q => ?_)
 obtain ⟨go8, gc9⟩ := q
 refine jn <| JC.region <| jmv rfl rfl <| jc (Zaa (off := 58) lb Zfr tR) <| jc (Zam (j := 2) lb tS33 tR rfl (cT (Za5 f1) rfl) rfl rfl) <| bI hm fun x10 hv_x_10 hm => jx (Zak (js := [0, 0]) ld Zoc (ZdZ k f1.Live x7 gb2 go8 gc9 x10 hv_x_10) .func (.cons tR (.cons tR .nil)) rfl) (fun q => ?_)
 obtain ⟨go11, gc12⟩ := q
 refine JL.nrm ⟨[], [cvar gb2 (zq21 go11 x10 gc12) ((), ()), cown go11 (rU UInt8) x10 0 gc12], []⟩ [0, 0] rfl .nil rfl <| JL.nil ?_
 obtain rfl := so hm
 exact JQ.done (js := [0, 0]) (ss := []) (go11, gc12) (.inr rfl) (.nil rfl) rfl .nil rfl rfl rfl

theorem ZfR (k : Nat) (f1 : Zai) (x3 : (List UInt8)) (gb2 : Nat) (go4 : Option Nat) (gc5 : Nat) (r : (List UInt8)) (hm : Zc9 k f1 x3 = some r) : Sim Tryz.prog 100 [PTR gb2 0, A Zad f1] [cvar gb2 (zq21 go4 x3 gc5) ((), ()), cown go4 (rU UInt8) x3 0 gc5] (γ := Option Nat × Nat) (fun q => [cvar gb2 (rP (rW (HDR q.1 0 (List.length r) q.2)) r0) ((), ()), cown q.1 (rU UInt8) r 0 q.2]) (fun q => .tup []) := by
 unfold Zc9 at hm
 refine Sim.of Tryz.func100 rfl rfl (lE rfl) (fun e0 w0 => ?_)
 refine JC.at ⟨[(0, ov (PTR gb2 0)), (1, ov (A Zad f1))], [cvar gb2 (zq21 go4 x3 gc5) ((), ()), cown go4 (rU UInt8) x3 0 gc5], []⟩ <| jr <| jx (ZaZ lb tR) fun gb6 => jn <| JC.pre (Imp.frzVar (j := 2) rfl (ImpK.slotP (s := 3) rfl (Comp.self Zad f1) ImpK.refl)) <| bI hm fun v7 hv7 hm => ?_
 obtain ⟨x8, hv_x_8, hm⟩ := Zaz hm
 refine JC.anyF (base := [(0, ov (PTR gb2 0)), (3, ov (PT Zad f1))])
     (fs := fun γ => [⟨some 4, ov (PTR gb2 0)⟩, ⟨some 5, ov (PTR gb2 0)⟩, ⟨some 6, ov (PTR gb2 0)⟩, ⟨some 7, ov (PTR gb2 (0 + 0))⟩, ⟨some 8, ov (HDR go4 0 (List.length x3) gc5)⟩, ⟨some 9, ov (PT (rV 32 (rU UInt8)) f1.Hash)⟩, ⟨some 10, ov (S (rL (rU UInt8)) v7)⟩, ⟨some 11, ov (HDR (deo (γ 7 0)) 0 (List.length x8) (γ 7 1))⟩, ⟨some 12, ov (PTR gb2 0)⟩, ⟨some 13, ov (PTR gb2 (0 + 0))⟩, ⟨none, .one .any⟩])
     (rs := fun γ => [⟨cvar gb2 (zq21 go4 x3 gc5) ((), ()), none, (some 10), [4]⟩, ⟨cown go4 (rU UInt8) x3 0 gc5, none, (some 7), []⟩, ⟨cown (deo (γ 7 0)) (rU UInt8) x8 0 (γ 7 1), (some 7), none, []⟩, ⟨cvar gb2 (zq21 (deo (γ 7 0)) x8 (γ 7 1)) ((), ()), (some 10), none, []⟩])
     (afts := [[], [], [], [], [], [], [], [7, 8, 9, 10], [], [], []]) (js := [0, 0]) Zcj (.cons rfl (.cons rfl .nil)) (fun _ => rfl)
     (by
      refine db 1 0 <| db 2 0 <| dS 3 (fun γ ρ B hb hd => Zap lb (tl hd 1 5) (fun e v h => by subst h; rfl)) <| dS 4 (fun γ ρ B hb hd => Zaa (off := 0) lb ZcW (tl hd 2 6)) <| dR 5 (fun γ ρ B hb hd => Zao.lk ⟨ρ, (cvar gb2 (zq21 go4 x3 gc5) ((), ())) :: B, _⟩ (ZaJ (j := 0) lb tS27 (tl hd 3 7) rfl (Comp.trans (Comp.self (zq21 go4 x3 gc5) ((), ())) (Comp.at' (Comp.inF (Comp.self (rW (HDR go4 0 (List.length x3) gc5)) ()) (lE rfl)) (by rfl : _ = 0)) (lE rfl)))) ?_
      refine dS 6 (fun γ ρ B hb hd => Zcm lb Zhn (.tmp (hb 3 _ rfl)) (ZbS f1)) <| dS 7 (fun γ ρ B hb hd => ZgF lb tu35 tz5 (tl hd 5 9) .none .none hv7) ?_
      refine ZaF.cons (j := 8) rfl (fun _ => rfl) (.runX (fun _ _ => rfl) (fun γ ρ B hb hd => ⟨.none, OpX.ghost (γ := Option Nat × Nat) (st' := fun q => setO ⟨ρ, (cown q.1 (rU UInt8) x8 0 q.2) :: B, _⟩ (some 11) (ov (HDR q.1 0 (List.length x8) q.2))) (fun q c => bif Nat.beq c 0 then eno q.1 else q.2) (Zbd (j := 0) lb tu27 tu27 rfl tB5 rfl (Nat.lt_of_lt_of_le Nat.zero_lt_one (lE rfl)) (Nat.lt_of_lt_of_le Nat.zero_lt_one (lE rfl))  rfl (tl hd 4 8) (tl hd 6 10) hv_x_8) (fun q => by obtain ⟨q0, q1⟩ := q; cases q0 <;> exact Imp.refl)⟩) (fun _ _ => rfl) (fun _ _ => rfl)) ?_
      refine dS 9 (fun γ ρ B hb hd => Zap lb (tl hd 0 4) (fun e v h => by subst h; rfl)) <| dS 10 (fun γ ρ B hb hd => Zaa (off := 0) lb ZcW (tl hd 8 12)) <| dR 11 (fun γ ρ B hb hd => Zao.at ⟨ρ, (cvar gb2 (zq21 go4 x3 gc5) ((), ())) :: B, _⟩ (setO ⟨ρ, (cvar gb2 (zq21 (deo (γ 7 0)) x8 (γ 7 1)) ((), ())) :: B, _⟩ _ _) (ZbN (j := 0) tS27 (tl hd 9 13) (tl hd 7 11) rfl ((UpdR.fst (UpdR.self (by rfl))).at (by change 0 = (0 + 0); omega)) rfl)) ?_
      exact ZaF.nil)
     (by decide +kernel) (fun _ => rfl) (fun _ => rfl) (fun _ => rfl) rfl
     (ρ' := fun γ => [])
     (X' := fun γ => [cown (deo (γ 7 0)) (rU UInt8) x8 0 (γ 7 1), cvar gb2 (zq21 (deo (γ 7 0)) x8 (γ 7 1)) ((), ())])
     (fun γ ρ hb hd => .nil) (fun _ => rfl) (fun γ => ?_)
 generalize (deo (γ 7 0)) = go9
 generalize (γ 7 1) = gc10
 clear γ
 refine JQ.at ⟨[], [cown go9 (rU UInt8) x8 0 gc10, cvar gb2 (zq21 go9 x8 gc10) ((), ())], []⟩ ?_
 obtain rfl := so hm
 exact JQ.done (js := [1, 0]) (ss := []) (go9, gc10) (.inr rfl) (.nil rfl) rfl .nil rfl rfl rfl

theorem Zfi (k : Nat) (f1 : Zai) (x3 : (List UInt8)) (gb2 : Nat) (go4 : Option Nat) (gc5 : Nat) (r : (List UInt8)) (hm : frame_writer_leaves k f1 x3 = some r) : Sim Tryz.prog 102 [PTR gb2 0, A Zad f1] [cvar gb2 (zq21 go4 x3 gc5) ((), ()), cown go4 (rU UInt8) x3 0 gc5] (γ := Option Nat × Nat) (fun q => [cvar gb2 (rP (rW (HDR q.1 0 (List.length r) q.2)) r0) ((), ()), cown q.1 (rU UInt8) r 0 q.2]) (fun q => .tup []) := by
 unfold frame_writer_leaves at hm
 refine Sim.of Tryz.func102 rfl rfl (lE rfl) (fun e0 w0 => ?_)
 refine JC.at ⟨[(0, ov (PTR gb2 0)), (1, ov (A Zad f1))], [cvar gb2 (zq21 go4 x3 gc5) ((), ()), cown go4 (rU UInt8) x3 0 gc5], []⟩ <| jr <| jx (ZaZ lb tR) fun gb6 => jn <| jr <| jc (Zaa (off := 91) lb ZdM tR) <| jc (Zam (j := 2) lb tS36 tR rfl (cT (ZaU f1) rfl) rfl rfl) <| jc (ZaI lb tu36 tR) <| jc (ZaC lb .cI) <| jn <| JC.block <| JC.pre ?_ (JC.loop (γ := Option Nat × Nat) (stf := fun s q => ⟨[(0, ov (PTR gb2 0)), (7, ov (S (rL (rV 32 (rU UInt8))) f1.Leaves)), (8, ov (S (rI .i64) (List.length f1.Leaves : Int))), (9, ov (S (rI .i64) s.2))], [cvar gb2 (rP (rW (HDR q.1 0 (List.length s.1) q.2)) r0) ((), ()), cown q.1 (rU UInt8) s.1 0 q.2], []⟩) (q := (go4, gc5)) hm ?_)
 · exact (Imp.norm (js := [0, 0]) rfl (.cons rfl (.cons rfl (.cons rfl (.cons rfl .nil)))))
 intro s q x hx hr
 obtain ⟨b7, x8⟩ := s
 obtain ⟨go9, gc10⟩ := q
 change frame_writer_leaves.b1 k f1 b7 x8 = some x at hx
 unfold frame_writer_leaves.b1 at hx
 refine JC.at ⟨[(0, ov (PTR gb2 0)), (7, ov (S (rL (rV 32 (rU UInt8))) f1.Leaves)), (8, ov (S (rI .i64) (List.length f1.Leaves : Int))), (9, ov (S (rI .i64) x8))], [cvar gb2 (zq21 go9 b7 gc10) ((), ()), cown go9 (rU UInt8) b7 0 gc10], []⟩ <| jr <| lI hx fun v11 hv11 hx => jc (Zar lb tR tR (cs hv11)) <| jn <| JC.seq <| jif tR hx (fun hc2 hx => ?_) (fun hc2 hx => ?_)
 · refine JC.skip <| JQ.then <| JC.seq <| JC.block <| jr <| bI hx fun v12 hv12 hx => jc (Zau lb tu36 tz35 tR tR hv12) <| jc (ZaS lb tA35 tR rfl) <| jx (Za8 lb tZ35 zr35) fun gb13 => jc (ZaM (j := 2) tA35 tR tR rfl (UpdR.self (by rfl)) rfl) <| jn <| JC.pre (Imp.frzVar (j := 2) rfl (ImpK.slotP (s := 5) rfl (Comp.self (rV 32 (rU UInt8)) v12) ImpK.refl)) <| bI hx fun v14 hv14 hx => ?_
   obtain ⟨x15, hv_x_15, hx⟩ := Zaz hx
   refine JC.anyF (base := [(0, ov (PTR gb2 0)), (5, ov (PT (rV 32 (rU UInt8)) v12)), (7, ov (S (rL (rV 32 (rU UInt8))) f1.Leaves)), (8, ov (S (rI .i64) (List.length f1.Leaves : Int))), (9, ov (S (rI .i64) x8))])
       (fs := fun γ => [⟨some 13, ov (PTR gb2 0)⟩, ⟨some 14, ov (PTR gb2 0)⟩, ⟨some 15, ov (PTR gb2 0)⟩, ⟨some 16, ov (PTR gb2 (0 + 0))⟩, ⟨some 17, ov (HDR go9 0 (List.length b7) gc10)⟩, ⟨some 18, ov (S (rL (rU UInt8)) v14)⟩, ⟨some 19, ov (HDR (deo (γ 6 0)) 0 (List.length x15) (γ 6 1))⟩, ⟨some 20, ov (PTR gb2 0)⟩, ⟨some 21, ov (PTR gb2 (0 + 0))⟩, ⟨none, .one .any⟩])
       (rs := fun γ => [⟨cvar gb2 (zq21 go9 b7 gc10) ((), ()), none, (some 9), [4]⟩, ⟨cown go9 (rU UInt8) b7 0 gc10, none, (some 6), []⟩, ⟨cown (deo (γ 6 0)) (rU UInt8) x15 0 (γ 6 1), (some 6), none, []⟩, ⟨cvar gb2 (zq21 (deo (γ 6 0)) x15 (γ 6 1)) ((), ()), (some 9), none, []⟩])
       (afts := [[], [], [], [], [], [], [6, 7, 8, 9], [], [], []]) (js := [0, 0]) Zcj (.cons rfl (.cons rfl (.cons rfl (.cons rfl (.cons rfl .nil))))) (fun _ => rfl)
       (by
      refine db 1 0 <| db 2 0 <| dS 3 (fun γ ρ B hb hd => Zap lb (tl hd 1 14) (fun e v h => by subst h; rfl)) <| dS 4 (fun γ ρ B hb hd => Zaa (off := 0) lb ZcW (tl hd 2 15)) <| dR 5 (fun γ ρ B hb hd => Zao.lk ⟨ρ, (cvar gb2 (zq21 go9 b7 gc10) ((), ())) :: B, _⟩ (ZaJ (j := 0) lb tS27 (tl hd 3 16) rfl (Comp.trans (Comp.self (zq21 go9 b7 gc10) ((), ())) (Comp.at' (Comp.inF (Comp.self (rW (HDR go9 0 (List.length b7) gc10)) ()) (lE rfl)) (by rfl : _ = 0)) (lE rfl)))) ?_
      refine dS 6 (fun γ ρ B hb hd => ZgF lb tu35 tz5 (.tmp (hb 5 _ rfl)) .none .none hv14) ?_
      refine ZaF.cons (j := 7) rfl (fun _ => rfl) (.runX (fun _ _ => rfl) (fun γ ρ B hb hd => ⟨.none, OpX.ghost (γ := Option Nat × Nat) (st' := fun q => setO ⟨ρ, (cown q.1 (rU UInt8) x15 0 q.2) :: B, _⟩ (some 19) (ov (HDR q.1 0 (List.length x15) q.2))) (fun q c => bif Nat.beq c 0 then eno q.1 else q.2) (Zbd (j := 0) lb tu27 tu27 rfl tB5 rfl (Nat.lt_of_lt_of_le Nat.zero_lt_one (lE rfl)) (Nat.lt_of_lt_of_le Nat.zero_lt_one (lE rfl))  rfl (tl hd 4 17) (tl hd 5 18) hv_x_15) (fun q => by obtain ⟨q0, q1⟩ := q; cases q0 <;> exact Imp.refl)⟩) (fun _ _ => rfl) (fun _ _ => rfl)) ?_
      refine dS 8 (fun γ ρ B hb hd => Zap lb (tl hd 0 13) (fun e v h => by subst h; rfl)) <| dS 9 (fun γ ρ B hb hd => Zaa (off := 0) lb ZcW (tl hd 7 20)) <| dR 10 (fun γ ρ B hb hd => Zao.at ⟨ρ, (cvar gb2 (zq21 go9 b7 gc10) ((), ())) :: B, _⟩ (setO ⟨ρ, (cvar gb2 (zq21 (deo (γ 6 0)) x15 (γ 6 1)) ((), ())) :: B, _⟩ _ _) (ZbN (j := 0) tS27 (tl hd 8 21) (tl hd 6 19) rfl ((UpdR.fst (UpdR.self (by rfl))).at (by change 0 = (0 + 0); omega)) rfl)) ?_
      exact ZaF.nil)
       (by decide +kernel) (fun _ => rfl) (fun _ => rfl) (fun _ => rfl) rfl
       (ρ' := fun γ => [(0, ov (PTR gb2 0)), (7, ov (S (rL (rV 32 (rU UInt8))) f1.Leaves)), (8, ov (S (rI .i64) (List.length f1.Leaves : Int))), (9, ov (S (rI .i64) x8))])
       (X' := fun γ => [cown (deo (γ 6 0)) (rU UInt8) x15 0 (γ 6 1), cvar gb2 (zq21 (deo (γ 6 0)) x15 (γ 6 1)) ((), ())])
       (fun γ ρ hb hd => (.cons (hb 0 _ rfl) (.cons (hb 7 _ rfl) (.cons (hb 8 _ rfl) (.cons (hb 9 _ rfl) .nil))))) (fun _ => rfl) (fun γ => ?_)
   generalize (deo (γ 6 0)) = go16
   generalize (γ 6 1) = gc17
   clear γ
   refine JQ.at ⟨[(0, ov (PTR gb2 0)), (7, ov (S (rL (rV 32 (rU UInt8))) f1.Leaves)), (8, ov (S (rI .i64) (List.length f1.Leaves : Int))), (9, ov (S (rI .i64) x8))], [cown go16 (rU UInt8) x15 0 gc17, cvar gb2 (zq21 go16 x15 gc17) ((), ())], []⟩ <| JQ.outNB <| JQ.then <| JC.region <| lI hx fun v18 hv18 hx => jc (ZaX lb tR .cI (cs hv18)) <| jmv rfl rfl <| JL.nil ?_
   try obtain rfl := so hx
   exact JQ.next (go16, gc17) rfl (Imp.norm (js := [1, 0]) rfl (.cons rfl (.cons rfl (.cons rfl (.cons rfl .nil)))))
 refine JC.exit <| JQ.outX ?_
 try obtain rfl := so hx
 have ht := hr _ rfl
 have hq1 := cs ht
 clear hr ht
 refine JQ.outX <| JQ.here ?_
 obtain rfl := so hq1
 exact JQ.done (js := [0, 0]) (ss := []) (go9, gc10) (.inr rfl) (.nil rfl) rfl .nil rfl rfl rfl

theorem Ze0 (k : Nat) (f1 : Zai) (x3 : (List UInt8)) (gb2 : Nat) (go4 : Option Nat) (gc5 : Nat) (r : (List UInt8)) (hm : frame_writer_buckets k f1 x3 = some r) : Sim Tryz.prog 104 [PTR gb2 0, A Zad f1] [cvar gb2 (zq21 go4 x3 gc5) ((), ()), cown go4 (rU UInt8) x3 0 gc5] (γ := Option Nat × Nat) (fun q => [cvar gb2 (rP (rW (HDR q.1 0 (List.length r) q.2)) r0) ((), ()), cown q.1 (rU UInt8) r 0 q.2]) (fun q => .tup []) := by
 unfold frame_writer_buckets at hm
 refine Sim.of Tryz.func104 rfl rfl (lE rfl) (fun e0 w0 => ?_)
 refine JC.at ⟨[(0, ov (PTR gb2 0)), (1, ov (A Zad f1))], [cvar gb2 (zq21 go4 x3 gc5) ((), ()), cown go4 (rU UInt8) x3 0 gc5], []⟩ <| jr <| jx (ZaZ lb tR) fun gb6 => jn <| JC.seq <| lI hm fun v7 hv7 hm => ?_
 obtain ⟨x8, hv_x_8, hm⟩ := Zaz hm
 refine JC.anyF (base := [(0, ov (PTR gb2 0)), (3, ov (PTR gb6 0))])
     (fs := fun γ => [⟨some 6, ov (PTR gb2 0)⟩, ⟨some 7, ov (PTR gb2 0)⟩, ⟨some 8, ov (PTR gb2 0)⟩, ⟨some 9, ov (PTR gb2 (0 + 0))⟩, ⟨some 10, ov (HDR go4 0 (List.length x3) gc5)⟩, ⟨some 11, ov (PTR gb6 (0 + 92))⟩, ⟨some 12, ov (S (rL (rI .i64)) f1.Buckets)⟩, ⟨some 13, ov (S (rI .i64) (List.length f1.Buckets : Int))⟩, ⟨some 14, ov (S (rU UInt8) v7)⟩, ⟨some 15, ov (S (rL (rU UInt8)) ([v7] : (List UInt8)))⟩, ⟨some 16, ov (HDR (deo (γ 10 0)) 0 (List.length x8) (γ 10 1))⟩, ⟨some 17, ov (PTR gb2 0)⟩, ⟨some 18, ov (PTR gb2 (0 + 0))⟩, ⟨none, .one .any⟩])
     (rs := fun γ => [⟨cvar gb2 (zq21 go4 x3 gc5) ((), ()), none, (some 13), [4]⟩, ⟨cown go4 (rU UInt8) x3 0 gc5, none, (some 10), []⟩, ⟨cvar gb6 Zad f1, none, none, [6]⟩, ⟨cown (deo (γ 10 0)) (rU UInt8) x8 0 (γ 10 1), (some 10), none, []⟩, ⟨cvar gb2 (zq21 (deo (γ 10 0)) x8 (γ 10 1)) ((), ()), (some 13), none, []⟩])
     (afts := [[], [], [], [], [], [], [], [], [], [], [10, 11, 12, 13], [], [], []]) (js := [0, 0, 0]) Zcj (.cons rfl (.cons rfl .nil)) (fun _ => rfl)
     (by
      refine db 1 0 <| db 2 0 <| dS 3 (fun γ ρ B hb hd => Zap lb (tl hd 1 7) (fun e v h => by subst h; rfl)) <| dS 4 (fun γ ρ B hb hd => Zaa (off := 0) lb ZcW (tl hd 2 8)) <| dR 5 (fun γ ρ B hb hd => Zao.lk ⟨ρ, (cvar gb2 (zq21 go4 x3 gc5) ((), ())) :: B, _⟩ (ZaJ (j := 0) lb tS27 (tl hd 3 9) rfl (Comp.trans (Comp.self (zq21 go4 x3 gc5) ((), ())) (Comp.at' (Comp.inF (Comp.self (rW (HDR go4 0 (List.length x3) gc5)) ()) (lE rfl)) (by rfl : _ = 0)) (lE rfl)))) ?_
      refine dS 6 (fun γ ρ B hb hd => Zaa (off := 92) lb Zdj (.tmp (hb 3 _ rfl))) <| dR 7 (fun γ ρ B hb hd => Zao.lk ⟨ρ, (cvar gb6 Zad f1) :: B, _⟩ (Zam (j := 0) lb tS37 (tl hd 5 11) rfl (cT (ZaL f1) rfl) rfl rfl)) <| dS 8 (fun γ ρ B hb hd => ZaI lb tu37 (tl hd 6 12)) <| dS 9 (fun γ ρ B hb hd => ZcR lb tu3 tu5 (tl hd 7 13) hv7) <| dS 10 (fun γ ρ B hb hd => Zce (r := (rU UInt8)) lb tu27 tz5 tZ5 rfl (lE rfl) (.S rfl (tl hd 8 14) .nil) rfl) ?_
      refine ZaF.cons (j := 11) rfl (fun _ => rfl) (.runX (fun _ _ => rfl) (fun γ ρ B hb hd => ⟨.none, OpX.ghost (γ := Option Nat × Nat) (st' := fun q => setO ⟨ρ, (cown q.1 (rU UInt8) x8 0 q.2) :: B, _⟩ (some 16) (ov (HDR q.1 0 (List.length x8) q.2))) (fun q c => bif Nat.beq c 0 then eno q.1 else q.2) (Zbd (j := 0) lb tu27 tu27 rfl tB5 rfl (Nat.lt_of_lt_of_le Nat.zero_lt_one (lE rfl)) (Nat.lt_of_lt_of_le Nat.zero_lt_one (lE rfl))  rfl (tl hd 4 10) (tl hd 9 15) hv_x_8) (fun q => by obtain ⟨q0, q1⟩ := q; cases q0 <;> exact Imp.refl)⟩) (fun _ _ => rfl) (fun _ _ => rfl)) ?_
      refine dS 12 (fun γ ρ B hb hd => Zap lb (tl hd 0 6) (fun e v h => by subst h; rfl)) <| dS 13 (fun γ ρ B hb hd => Zaa (off := 0) lb ZcW (tl hd 11 17)) <| dR 14 (fun γ ρ B hb hd => Zao.at ⟨ρ, (cvar gb2 (zq21 go4 x3 gc5) ((), ())) :: B, _⟩ (setO ⟨ρ, (cvar gb2 (zq21 (deo (γ 10 0)) x8 (γ 10 1)) ((), ())) :: B, _⟩ _ _) (ZbN (j := 0) tS27 (tl hd 12 18) (tl hd 10 16) rfl ((UpdR.fst (UpdR.self (by rfl))).at (by change 0 = (0 + 0); omega)) rfl)) ?_
      exact ZaF.nil)
     (by decide +kernel) (fun _ => rfl) (fun _ => rfl) (fun _ => rfl) rfl
     (ρ' := fun γ => [(0, ov (PTR gb2 0)), (3, ov (PTR gb6 0))])
     (X' := fun γ => [cvar gb6 Zad f1, cown (deo (γ 10 0)) (rU UInt8) x8 0 (γ 10 1), cvar gb2 (zq21 (deo (γ 10 0)) x8 (γ 10 1)) ((), ())])
     (fun γ ρ hb hd => (.cons (hb 0 _ rfl) (.cons (hb 3 _ rfl) .nil))) (fun _ => rfl) (fun γ => ?_)
 generalize (deo (γ 10 0)) = go9
 generalize (γ 10 1) = gc10
 clear γ
 refine JQ.at ⟨[(0, ov (PTR gb2 0)), (3, ov (PTR gb6 0))], [cvar gb6 Zad f1, cown go9 (rU UInt8) x8 0 gc10, cvar gb2 (zq21 go9 x8 gc10) ((), ())], []⟩ <| JQ.then <| bI hm fun b22 hx1 hq1 => JC.seqJ (γ := Option Nat × Nat) (stj := fun q => ⟨[(0, ov (PTR gb2 0)), (3, ov (PTR gb6 0))], [cvar gb2 (rP (rW (HDR q.1 0 (List.length b22) q.2)) r0) ((), ()), cown q.1 (rU UInt8) b22 0 q.2, cvar gb6 Zad f1], []⟩) (fun q => ?_) ?_
 · obtain ⟨go23, gc24⟩ := q
   refine JC.at ⟨[(0, ov (PTR gb2 0)), (3, ov (PTR gb6 0))], [cvar gb2 (zq21 go23 b22 gc24) ((), ()), cown go23 (rU UInt8) b22 0 gc24, cvar gb6 Zad f1], []⟩ <| jr <| jmv rfl rfl <| jc (Zaa (off := 3) lb ZdJ tR) <| jc (Zam (j := 2) lb tS23 tR rfl (cT (ZaO f1) rfl) rfl rfl) <| bI hq1 fun x25 hv_x_25 hq1 => jx (Zak (js := [0, 0]) ld cl75 (Zdr k f1.Items b22 gb2 go23 gc24 x25 hv_x_25) .func (.cons tR (.cons tR .nil)) rfl) (fun q => ?_)
   obtain ⟨go26, gc27⟩ := q
   refine jn <| jr <| jmv rfl rfl <| jc (ZaB (j := 2) lb tA39 tR rfl (Comp.self Zad f1) rfl) <| bI hq1 fun x28 hv_x_28 hq1 => jx (Zak (js := [0, 0]) ld Zox (ZdY k f1 x25 gb2 go26 gc27 x28 hv_x_28) .func (.cons tR (.cons tR .nil)) rfl) (fun q => ?_)
   obtain ⟨go29, gc30⟩ := q
   refine jn <| JC.region <| jmv rfl rfl <| JL.sub ⟨[(3, ov (PTR gb6 0)), (45, ov (PTR gb2 0))], [cvar gb2 (zq21 go29 x28 gc30) ((), ()), cown go29 (rU UInt8) x28 0 gc30, cvar gb6 Zad f1], []⟩ (.cons rfl (.cons rfl .nil)) rfl rfl <| jc (Zaa (off := 93) lb ZfN tR) <| jc (Zam (j := 2) lb tS4 tR rfl (cT (ZbO f1) rfl) rfl rfl) <| bI hq1 fun x31 hv_x_31 hq1 => jx (Zak (js := [0, 0]) ld Zn5 (ZdU k f1.Reply x28 gb2 go29 gc30 x31 hv_x_31) .func (.cons tR (.cons tR .nil)) rfl) (fun q => ?_)
   obtain ⟨go32, gc33⟩ := q
   refine JL.nil ?_
   obtain rfl := so hq1
   exact JQ.done (js := [0, 0]) (ss := []) (go32, gc33) (.inr rfl) (.nil rfl) rfl .nil rfl rfl rfl
 refine jr <| jc (Zaa (off := 92) lb Zdj tR) <| jc (Zam (j := 0) lb tS37 tR rfl (cT (ZaL f1) rfl) rfl rfl) <| jc (ZaI lb tu37 tR) <| jc (ZaC lb .cI) <| jn <| JC.block <| JC.pre ?_ (JC.loop (γ := Option Nat × Nat) (stf := fun s q => ⟨[(0, ov (PTR gb2 0)), (3, ov (PTR gb6 0)), (20, ov (S (rL (rI .i64)) f1.Buckets)), (21, ov (S (rI .i64) (List.length f1.Buckets : Int))), (22, ov (S (rI .i64) s.2))], [cvar gb2 (rP (rW (HDR q.1 0 (List.length s.1) q.2)) r0) ((), ()), cown q.1 (rU UInt8) s.1 0 q.2, cvar gb6 Zad f1], []⟩) (q := (go9, gc10)) hx1 ?_)
 · exact (Imp.norm (js := [2, 1, 0]) rfl (.cons rfl (.cons rfl (.cons rfl (.cons rfl (.cons rfl .nil))))))
 intro s q x hx hr
 obtain ⟨b11, x12⟩ := s
 obtain ⟨go13, gc14⟩ := q
 change frame_writer_buckets.b1 k f1 b11 x12 = some x at hx
 unfold frame_writer_buckets.b1 at hx
 refine JC.at ⟨[(0, ov (PTR gb2 0)), (3, ov (PTR gb6 0)), (20, ov (S (rL (rI .i64)) f1.Buckets)), (21, ov (S (rI .i64) (List.length f1.Buckets : Int))), (22, ov (S (rI .i64) x12))], [cvar gb2 (zq21 go13 b11 gc14) ((), ()), cown go13 (rU UInt8) b11 0 gc14, cvar gb6 Zad f1], []⟩ <| jr <| lI hx fun v15 hv15 hx => jc (Zar lb tR tR (cs hv15)) <| jn <| JC.seq <| jif tR hx (fun hc3 hx => ?_) (fun hc3 hx => ?_)
 · refine JC.skip <| JQ.then <| JC.seq <| JC.block <| jr <| bI hx fun v16 hv16 hx => jc (Zau lb tu37 tz3 tR tR hv16) <| jc (Zbr lb tS3 rfl tR rfl) <| jc (Zac lb tR) <| jn <| JC.region <| jmv rfl rfl <| jmv rfl rfl <| jc (Zap lb tR (fun e v h => by subst h; rfl)) <| jc (Zaa (off := 0) lb ZcW tR) <| jc (ZaJ (j := 0) lb tS27 tR rfl (Comp.trans (Comp.self (zq21 go13 b11 gc14) ((), ())) (Comp.at' (Comp.inF (Comp.self (rW (HDR go13 0 (List.length b11) gc14)) ()) (lE rfl)) (by rfl : _ = 0)) (lE rfl))) <| jmv rfl rfl <| lI hx fun v17 hv17 hx => jc (ZcR lb tu3 tu5 tR hv17) <| jc (Zce (r := (rU UInt8)) lb tu27 tz5 tZ5 rfl (lE rfl) (.S rfl tR .nil) rfl) <| JL.sub ⟨[(0, ov (PTR gb2 0)), (3, ov (PTR gb6 0)), (20, ov (S (rL (rI .i64)) f1.Buckets)), (21, ov (S (rI .i64) (List.length f1.Buckets : Int))), (22, ov (S (rI .i64) x12)), (26, ov (PTR gb2 0)), (30, ov (HDR go13 0 (List.length b11) gc14)), (33, ov (S (rL (rU UInt8)) ([v17] : (List UInt8))))], [cvar gb2 (zq21 go13 b11 gc14) ((), ()), cown go13 (rU UInt8) b11 0 gc14, cvar gb6 Zad f1], []⟩ (.cons rfl (.cons rfl (.cons rfl (.cons rfl (.cons rfl (.cons rfl (.cons rfl (.cons rfl .nil)))))))) rfl rfl ?_
   refine bI hx fun x18 hv_x_18 hx => jx (Zbd (j := 1) lb tu27 tu27 rfl tB5 rfl (Nat.lt_of_lt_of_le Nat.zero_lt_one (lE rfl)) (Nat.lt_of_lt_of_le Nat.zero_lt_one (lE rfl))  rfl tR tR hv_x_18) (fun q => ?_)
   obtain ⟨go19, gc20⟩ := q
   refine jc (Zap lb tR (fun e v h => by subst h; rfl)) <| jc (Zaa (off := 0) lb ZcW tR) <| jc (ZbN (j := 0) tS27 tR tR rfl ((UpdR.fst (UpdR.self (by rfl))).at (by change 0 = (0 + 0); omega)) rfl) <| JL.nil <| JQ.outNB <| JQ.then <| JC.region <| lI hx fun v21 hv21 hx => jc (ZaX lb tR .cI (cs hv21)) <| jmv rfl rfl <| JL.nil ?_
   try obtain rfl := so hx
   exact JQ.next (go19, gc20) rfl (Imp.norm (js := [0, 0, 0]) rfl (.cons rfl (.cons rfl (.cons rfl (.cons rfl (.cons rfl .nil))))))
 refine JC.exit <| JQ.outX ?_
 try obtain rfl := so hx
 have ht := hr _ rfl
 have hq2 := cs ht
 clear hr ht
 refine JQ.outX <| JQ.here ?_
 try obtain rfl := so hq2
 exact JQ.join (go13, gc14) (Imp.norm (js := [0, 0, 0]) rfl (.cons rfl (.cons rfl .nil)))

end Go.Proofs.YtklnihlchhhhlaaGreat
