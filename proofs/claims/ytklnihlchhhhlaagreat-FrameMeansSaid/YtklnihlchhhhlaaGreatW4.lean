/- Walks. -/
import Derived.Test.YtklnihlchhhhlaaGreatT
import Derived.Test.YtklnihlchhhhlaaGreatW2
import Derived.Test.YtklnihlchhhhlaaGreatW3
namespace Go.Proofs.YtklnihlchhhhlaaGreat
open Go Fw
set_option linter.unusedVariables false
set_option maxRecDepth 100000
set_option maxHeartbeats 4000000

theorem ZiY (k : Nat) (r : (Vector UInt32 16)) (hm : crc_fours k = some r) : Sim Tryz.prog 141 [] [] (γ := Unit) (fun q => []) (fun q => .one (.val (A (rV 16 (rU UInt32)) r))) := by
 unfold crc_fours at hm
 refine Sim.of Tryz.func141 rfl rfl (lE rfl) (fun e0 w0 => ?_)
 refine JC.at ⟨[], [], []⟩ <| jr <| jx (Za8 lb ZnV Zow) fun gb1 => jn <| bI hm fun f20 hx1 hq1 => JC.seqJ (γ := Unit) (stj := fun _ => ⟨[(0, ov (PTR gb1 0))], [cvar gb1 (rV 16 (rU UInt32)) f20], []⟩) (fun _ => ?_) ?_
 · refine jr <| jc (ZaB (j := 0) lb Zl8 tR rfl (Comp.self (rV 16 (rU UInt32)) f20) rfl) <| jc (ZaM (j := 0) Zl8 tR tR rfl (UpdR.self (by rfl)) rfl) <| jn <| JC.ret ?_
   obtain rfl := so hq1
   exact JQ.done (js := []) (ss := [.val (A (rV 16 (rU UInt32)) f20)]) () (.inl rfl) (.nil rfl) rfl (.cons (.cellA (j := 0) Zl8 rfl rfl) .nil) rfl rfl rfl
 refine jr <| jc (ZaC lb (HasO.cU (x := (0 : UInt32)) rfl (by decide))) <| jn <| JC.block <| JC.pre ?_ (JC.loop (γ := Unit) (stf := fun s q => ⟨[(0, ov (PTR gb1 0)), (3, ov (S (rU UInt32) s.2))], [cvar gb1 (rV 16 (rU UInt32)) s.1], []⟩) (q := ()) hx1 ?_)
 · exact (Imp.norm (js := [0]) rfl (.cons rfl (.cons rfl .nil)))
 intro s q x hx hr
 obtain ⟨f2, x3⟩ := s
 obtain _ := q
 change crc_fours.b1 k f2 x3 = some x at hx
 unfold crc_fours.b1 at hx
 refine JC.at ⟨[(0, ov (PTR gb1 0)), (3, ov (S (rU UInt32) x3))], [cvar gb1 (rV 16 (rU UInt32)) f2], []⟩ <| jr <| lI hx fun v4 hv4 hx => jc (Zci lb tR (HasO.cU (x := (16 : UInt32)) rfl (by decide)) (cs hv4)) <| jn <| JC.seq <| jif tR hx (fun hc3 hx => ?_) (fun hc3 hx => ?_)
 · refine JC.skip <| JQ.then <| bI hx fun f18 hx4 hq4 => JC.seqJ (γ := Unit) (stj := fun _ => ⟨[(0, ov (PTR gb1 0)), (3, ov (S (rU UInt32) x3))], [cvar gb1 (rV 16 (rU UInt32)) f18], []⟩) (fun _ => ?_) ?_
   · refine JC.region <| lI hq4 fun v19 hv19 hq4 => jc (Zfu lb tR (HasO.cU (x := (1 : UInt32)) rfl (by decide)) (cs hv19)) <| jmv rfl rfl <| JL.nil ?_
     try obtain rfl := so hq4
     exact JQ.next () rfl (Imp.norm (js := [0]) rfl (.cons rfl (.cons rfl .nil)))
   refine JC.block <| jr <| jmv rfl rfl <| jc (Zac lb tR) <| jn <| jr <| jmv rfl rfl <| jc (Zac lb tR) <| jn <| bI hx4 fun x15 hx5 hq5 => JC.seqJ (γ := Unit) (stj := fun _ => ⟨[(0, ov (PTR gb1 0)), (1, ov (S (rU UInt32) x3)), (2, ov (S (rU UInt32) x15)), (3, ov (S (rU UInt32) x3))], [cvar gb1 (rV 16 (rU UInt32)) f2], []⟩) (fun _ => ?_) ?_
   · refine JC.region <| jmv rfl rfl <| jmv rfl rfl <| bI hq5 fun i16 hv_i_16 hq5 => jc (ZeH lb Znx tR tR hv_i_16) <| lI hq5 fun f17 hv_f_17 hq5 => jc (Zck (j := 0) tS84 tR tR rfl rfl (Upd.at (Comp.self (rV 16 (rU UInt32)) f2) i16.2 rfl (Upd.self (rV 16 (rU UInt32)) f2 _)).R hv_f_17) <| JL.nil <| JQ.outNB ?_
     try obtain rfl := so hq5
     exact JQ.join () (Imp.norm (js := [0]) rfl (.cons rfl (.cons rfl .nil)))
   refine jr <| jc (ZaC lb .cI) <| jn <| JC.block <| JC.pre ?_ (JC.loop (γ := Unit) (stf := fun s q => ⟨[(0, ov (PTR gb1 0)), (1, ov (S (rU UInt32) x3)), (2, ov (S (rU UInt32) s.1)), (3, ov (S (rU UInt32) x3)), (7, ov (S (rI .i64) s.2))], [cvar gb1 (rV 16 (rU UInt32)) f2], []⟩) (q := ()) hx5 ?_)
   · exact (Imp.norm (js := [0]) rfl (.cons rfl (.cons rfl (.cons rfl (.cons rfl (.cons rfl .nil))))))
   intro s q x hx hr
   obtain ⟨x5, x6⟩ := s
   obtain _ := q
   change crc_fours.b2 k x5 x6 = some x at hx
   unfold crc_fours.b2 at hx
   refine JC.at ⟨[(0, ov (PTR gb1 0)), (1, ov (S (rU UInt32) x3)), (2, ov (S (rU UInt32) x5)), (3, ov (S (rU UInt32) x3)), (7, ov (S (rI .i64) x6))], [cvar gb1 (rV 16 (rU UInt32)) f2], []⟩ <| jr <| lI hx fun v7 hv7 hx => jc (Zar lb tR .cI (cs hv7)) <| jn <| JC.seq <| jif tR hx (fun hc7 hx => ?_) (fun hc7 hx => ?_)
   · refine JC.skip <| JQ.then <| bI hx fun x13 hx8 hq8 => JC.seqJ (γ := Unit) (stj := fun _ => ⟨[(0, ov (PTR gb1 0)), (1, ov (S (rU UInt32) x3)), (2, ov (S (rU UInt32) x13)), (3, ov (S (rU UInt32) x3)), (7, ov (S (rI .i64) x6))], [cvar gb1 (rV 16 (rU UInt32)) f2], []⟩) (fun _ => ?_) ?_
     · refine JC.region <| lI hq8 fun v14 hv14 hq8 => jc (ZaX lb tR .cI (cs hv14)) <| jmv rfl rfl <| JL.nil ?_
       try obtain rfl := so hq8
       exact JQ.next () rfl (Imp.norm (js := [0]) rfl (.cons rfl (.cons rfl (.cons rfl (.cons rfl (.cons rfl .nil))))))
     refine JC.block <| jr <| jmv rfl rfl <| lI hx8 fun v8 hv8 hx8 => jc (Zfu lb tR (HasO.cU (x := (1 : UInt32)) rfl (by decide)) (cs hv8)) <| lI hx8 fun v9 hv9 hx8 => jc (Zci lb tR (HasO.cU (x := (1 : UInt32)) rfl (by decide)) (cs hv9)) <| jn <| jif tR hx8 (fun hc9 hx8 => ?_) (fun hc9 hx8 => ?_)
     · refine JC.region <| jmv rfl rfl <| lI hx8 fun v10 hv10 hx8 => jc (Zhz lb tR (HasO.cU (x := (1 : UInt64)) rfl (by decide)) hv10) <| lI hx8 fun v11 hv11 hx8 => jc (Zfu lb tR (HasO.cU (x := (2197175160 : UInt32)) rfl (by decide)) (cs hv11)) <| jc (Zac lb tR) <| JL.nil <| JQ.outNB ?_
       try obtain rfl := so hx8
       exact JQ.join () (Imp.norm (js := [0]) rfl (.cons rfl (.cons rfl (.cons rfl (.cons rfl (.cons rfl .nil))))))
     refine JC.region <| jmv rfl rfl <| lI hx8 fun v12 hv12 hx8 => jc (Zhz lb tR (HasO.cU (x := (1 : UInt64)) rfl (by decide)) hv12) <| jc (Zac lb tR) <| JL.nil <| JQ.outNB ?_
     try obtain rfl := so hx8
     exact JQ.join () (Imp.norm (js := [0]) rfl (.cons rfl (.cons rfl (.cons rfl (.cons rfl (.cons rfl .nil))))))
   refine JC.exit <| JQ.outX ?_
   try obtain rfl := so hx
   have ht := hr _ rfl
   have hq6 := cs ht
   clear hr ht
   refine JQ.outX <| JQ.here ?_
   try obtain rfl := so hq6
   exact JQ.join () (Imp.norm (js := [0]) rfl (.cons rfl (.cons rfl (.cons rfl (.cons rfl .nil)))))
 refine JC.exit <| JQ.outX ?_
 try obtain rfl := so hx
 have ht := hr _ rfl
 have hq2 := cs ht
 clear hr ht
 refine JQ.outX <| JQ.here ?_
 try obtain rfl := so hq2
 exact JQ.join () (Imp.norm (js := [0]) rfl (.cons rfl .nil))

theorem ZjS (k : Nat) (was1 : UInt32) (b_2 : (List UInt8)) (r : UInt32) (hm : crc_sum k was1 b_2 = some r) : Sim Tryz.prog 115 [S (rU UInt32) was1, S (rL (rU UInt8)) b_2] [] (γ := Unit) (fun q => []) (fun q => .one (.val (S (rU UInt32) r))) := by
 unfold crc_sum at hm
 refine Sim.of Tryz.func115 rfl rfl (lE rfl) (fun e0 w0 => ?_)
 refine JC.at ⟨[(0, ov (S (rU UInt32) was1)), (1, ov (S (rL (rU UInt8)) b_2))], [], []⟩ <| jr <| jc (Zac lb (HasO.cU (x := (0 : UInt32)) rfl (by decide))) <| jn <| jr <| bI hm fun v3 hv3 hm => jx (Zak (js := []) ld Zph (ZiY k v3 hv3) .func .nil rfl) fun _ => jmv rfl rfl <| lI hm fun v4 hv4 hm => jc (Zm0 lb tR hv4) <| jx (Za8 lb ZnV Zow) fun gb5 => jc (ZaM (j := 0) Zl8 tR tR rfl (UpdR.self (by rfl)) rfl) <| jc (Zac lb tR) <| jn ?_
 refine bI hm fun x23 hx1 hq1 => JC.seqJ (γ := Unit) (stj := fun _ => ⟨[(6, ov (S (rU UInt32) x23))], [], []⟩) (fun _ => ?_) ?_
 · refine jr <| jmv rfl rfl <| lI hq1 fun v24 hv24 hq1 => jc (Zm0 lb tR hv24) <| jc (Zac lb tR) <| jn <| JC.ret ?_
   obtain rfl := so hq1
   exact jd (.val (S (rU UInt32) v24)) rfl rfl rfl rfl rfl rfl
 refine jr <| jmv rfl rfl <| JL.sub ⟨[(5, ov (PTR gb5 0)), (6, ov (S (rU UInt32) v4)), (12, ov (S (rL (rU UInt8)) b_2))], [cvar gb5 (rV 16 (rU UInt32)) v3], []⟩ (.cons rfl (.cons rfl (.cons rfl .nil))) rfl rfl <| jc (ZaI lb tu27 tR) <| jc (ZaC lb .cI) <| jn <| JC.block <| JC.pre ?_ (JC.loop (γ := Unit) (stf := fun s q => ⟨[(5, ov (PTR gb5 0)), (6, ov (S (rU UInt32) s.1)), (12, ov (S (rL (rU UInt8)) b_2)), (13, ov (S (rI .i64) (List.length b_2 : Int))), (14, ov (S (rI .i64) s.2))], [cvar gb5 (rV 16 (rU UInt32)) v3], []⟩) (q := ()) hx1 ?_)
 · exact (Imp.norm (js := [0]) rfl (.cons rfl (.cons rfl (.cons rfl (.cons rfl (.cons rfl .nil))))))
 intro s q x hx hr
 obtain ⟨x6, x7⟩ := s
 obtain _ := q
 change crc_sum.b1 k b_2 v3 x6 x7 = some x at hx
 unfold crc_sum.b1 at hx
 refine JC.at ⟨[(5, ov (PTR gb5 0)), (6, ov (S (rU UInt32) x6)), (12, ov (S (rL (rU UInt8)) b_2)), (13, ov (S (rI .i64) (List.length b_2 : Int))), (14, ov (S (rI .i64) x7))], [cvar gb5 (rV 16 (rU UInt32)) v3], []⟩ <| jr <| lI hx fun v8 hv8 hx => jc (Zar lb tR tR (cs hv8)) <| jn <| JC.seq <| jif tR hx (fun hc3 hx => ?_) (fun hc3 hx => ?_)
 · refine JC.skip <| JQ.then <| JC.seq <| JC.block <| jr <| bI hx fun v9 hv9 hx => jc (Zau lb tu27 tz5 tR tR hv9) <| jc (Zbr lb tS5 rfl tR rfl) <| jc (Zac lb tR) <| jn <| jr <| jmv rfl rfl <| jmv rfl rfl <| lI hx fun v10 hv10 hx => jc (Zgv lb tu5 tu84 tR hv10) <| lI hx fun v11 hv11 hx => jc (Zfu lb tR tR (cs hv11)) <| jc (Zac lb tR) <| jn <| jr <| jmv rfl rfl ?_
   refine lI hx fun v12 hv12 hx => jc (Zfu lb tR (HasO.cU (x := (15 : UInt32)) rfl (by decide)) (cs hv12)) <| bI hx fun i13 hv_i_13 hx => jc (ZeH lb Znx tR tR hv_i_13) <| JL.sub ⟨[(5, ov (PTR gb5 0)), (6, ov (S (rU UInt32) v11)), (12, ov (S (rL (rU UInt8)) b_2)), (13, ov (S (rI .i64) (List.length b_2 : Int))), (14, ov (S (rI .i64) x7)), (24, ov (PTR gb5 (0 + i13.1 * 1)))], [cvar gb5 (rV 16 (rU UInt32)) v3], []⟩ (.cons rfl (.cons rfl (.cons rfl (.cons rfl (.cons rfl (.cons rfl .nil)))))) rfl rfl <| lI hx fun v14 hv14 hx => jc (Zam (j := 0) lb tS84 tR rfl (Comp.at (Comp.self (rV 16 (rU UInt32)) v3) i13.2 rfl) rfl hv14) <| jmv rfl rfl <| lI hx fun v15 hv15 hx => jc (Zhz lb tR (HasO.cU (x := (4 : UInt64)) rfl (by decide)) hv15) ?_
   refine lI hx fun v16 hv16 hx => jc (Zfu lb tR tR (cs hv16)) <| jc (Zac lb tR) <| jn <| JC.region <| jmv rfl rfl <| lI hx fun v17 hv17 hx => jc (Zfu lb tR (HasO.cU (x := (15 : UInt32)) rfl (by decide)) (cs hv17)) <| bI hx fun i18 hv_i_18 hx => jc (ZeH lb Znx tR tR hv_i_18) <| lI hx fun v19 hv19 hx => jc (Zam (j := 0) lb tS84 tR rfl (Comp.at (Comp.self (rV 16 (rU UInt32)) v3) i18.2 rfl) rfl hv19) <| jmv rfl rfl ?_
   obtain ⟨v20, hv20, hx⟩ := ZaT hx
   refine jc (Zhz lb tR (HasO.cU (x := (4 : UInt64)) rfl (by decide)) hv20) <| lI hx fun v21 hv21 hx => jc (Zfu lb tR tR (cs hv21)) <| JL.sub ⟨[(5, ov (PTR gb5 0)), (6, ov (S (rU UInt32) v16)), (12, ov (S (rL (rU UInt8)) b_2)), (13, ov (S (rI .i64) (List.length b_2 : Int))), (14, ov (S (rI .i64) x7)), (35, ov (S (rU UInt32) v21))], [cvar gb5 (rV 16 (rU UInt32)) v3], []⟩ (.cons rfl (.cons rfl (.cons rfl (.cons rfl (.cons rfl (.cons rfl .nil)))))) rfl rfl <| jc (Zac lb tR) <| JL.nil <| JQ.outNB <| JQ.then <| JC.region <| lI hx fun v22 hv22 hx => jc (ZaX lb tR .cI (cs hv22)) <| jmv rfl rfl <| JL.nil ?_
   try obtain rfl := so hx
   exact JQ.next () rfl (Imp.norm (js := [0]) rfl (.cons rfl (.cons rfl (.cons rfl (.cons rfl (.cons rfl .nil))))))
 refine JC.exit <| JQ.outX ?_
 try obtain rfl := so hx
 have ht := hr _ rfl
 have hq2 := cs ht
 clear hr ht
 refine JQ.outX <| JQ.here ?_
 try obtain rfl := so hq2
 exact jo rfl rfl rfl

theorem ZjV (k : Nat) (l1 : (List (List UInt8))) (r : UInt32) (hm : crc_Sum k l1 = some r) : Sim Tryz.prog 80 [S (rL (rL (rU UInt8))) l1] [] (γ := Unit) (fun q => []) (fun q => .one (.val (S (rU UInt32) r))) := by
 unfold crc_Sum at hm
 refine Sim.of Tryz.func80 rfl rfl (lE rfl) (fun e0 w0 => ?_)
 refine JC.at ⟨[(0, ov (S (rL (rL (rU UInt8))) l1))], [], []⟩ <| jr <| jc (Zac lb (HasO.cU (x := (0 : UInt32)) rfl (by decide))) <| jn <| bI hm fun s8 hx1 hq1 => JC.seqJ (γ := Unit) (stj := fun _ => ⟨[(2, ov (S (rU UInt32) s8))], [], []⟩) (fun _ => ?_) ?_
 · refine jr <| jmv rfl rfl <| jc (Zac lb tR) <| jn <| JC.ret ?_
   obtain rfl := so hq1
   exact jd (.val (S (rU UInt32) s8)) rfl rfl rfl rfl rfl rfl
 refine jr <| jmv rfl rfl <| jc (ZaI lb tu77 tR) <| jc (ZaC lb .cI) <| jn <| JC.block <| JC.pre ?_ (JC.loop (γ := Unit) (stf := fun s q => ⟨[(2, ov (S (rU UInt32) s.1)), (5, ov (S (rL (rL (rU UInt8))) l1)), (6, ov (S (rI .i64) (List.length l1 : Int))), (7, ov (S (rI .i64) s.2))], [], []⟩) (q := ()) hx1 ?_)
 · exact (Imp.norm (js := []) rfl (.cons rfl (.cons rfl (.cons rfl (.cons rfl .nil)))))
 intro s q x hx hr
 obtain ⟨s2, x3⟩ := s
 obtain _ := q
 change crc_Sum.b1 k l1 s2 x3 = some x at hx
 unfold crc_Sum.b1 at hx
 refine JC.at ⟨[(2, ov (S (rU UInt32) s2)), (5, ov (S (rL (rL (rU UInt8))) l1)), (6, ov (S (rI .i64) (List.length l1 : Int))), (7, ov (S (rI .i64) x3))], [], []⟩ <| jr <| lI hx fun v4 hv4 hx => jc (Zar lb tR tR (cs hv4)) <| jn <| JC.seq <| jif tR hx (fun hc3 hx => ?_) (fun hc3 hx => ?_)
 · refine JC.skip <| JQ.then <| JC.seq <| JC.block <| jr <| bI hx fun v5 hv5 hx => jc (Zau lb tu77 tz27 tR tR hv5) <| jc (Zbr lb tS27 rfl tR rfl) <| jc (Zac lb tR) <| jn <| JC.region <| jmv rfl rfl <| jmv rfl rfl <| bI hx fun v6 hv6 hx => jx (Zak (js := []) ld Zo0 (ZjS k s2 v5 v6 hv6) .func (.cons tR (.cons tR .nil)) rfl) fun _ => jc (Zac lb tR) <| JL.nil <| JQ.outNB ?_
   refine JQ.then <| JC.region <| lI hx fun v7 hv7 hx => jc (ZaX lb tR .cI (cs hv7)) <| jmv rfl rfl <| JL.nil ?_
   try obtain rfl := so hx
   exact JQ.next () rfl (Imp.norm (js := []) rfl (.cons rfl (.cons rfl (.cons rfl (.cons rfl .nil)))))
 refine JC.exit <| JQ.outX ?_
 try obtain rfl := so hx
 have ht := hr _ rfl
 have hq2 := cs ht
 clear hr ht
 refine JQ.outX <| JQ.here ?_
 try obtain rfl := so hq2
 exact jo rfl rfl rfl

theorem ZfF (k : Nat) (b_1 : (List UInt8)) (v2 : Int) (x4 : (List UInt8)) (gb3 : Nat) (go5 : Option Nat) (gc6 : Nat) (r : (List UInt8)) (hm : ZbL k b_1 v2 x4 = some r) : Sim Tryz.prog 78 [PTR gb3 0, S (rL (rU UInt8)) b_1, S (rI .i64) v2] [cvar gb3 (zq21 go5 x4 gc6) ((), ()), cown go5 (rU UInt8) x4 (List.length x4) gc6] (γ := Option Nat × Nat) (fun q => [cvar gb3 (rP (rW (HDR q.1 0 (List.length r) q.2)) r0) ((), ()), cown q.1 (rU UInt8) r (List.length r) q.2]) (fun q => .tup []) := by
 unfold ZbL at hm
 refine Sim.of Tryz.func78 rfl rfl (lE rfl) (fun e0 w0 => ?_)
 refine JC.at ⟨[(0, ov (PTR gb3 0)), (1, ov (S (rL (rU UInt8)) b_1)), (2, ov (S (rI .i64) v2))], [cvar gb3 (zq21 go5 x4 gc6) ((), ()), cown go5 (rU UInt8) x4 (List.length x4) gc6], []⟩ <| JC.region <| jmv rfl rfl <| jmv rfl rfl <| jc (Zap lb tR (fun e v h => by subst h; rfl)) <| jc (Zaa (off := 0) lb ZcW tR) <| jc (ZaJ (j := 0) lb tS27 tR rfl (Comp.trans (Comp.self (zq21 go5 x4 gc6) ((), ())) (Comp.at' (Comp.inF (Comp.self (rW (HDR go5 0 (List.length x4) gc6)) ()) (lE rfl)) (by rfl : _ = 0)) (lE rfl))) <| jmv rfl rfl <| bI hm fun x7 hv_x_7 hm => jx (Zbd (j := 1) lb tu27 tu27 rfl tB5 rfl (Nat.lt_of_lt_of_le Nat.zero_lt_one (lE rfl)) (Nat.lt_of_lt_of_le Nat.zero_lt_one (lE rfl))  rfl tR tR hv_x_7) (fun q => ?_)
 obtain ⟨go8, gc9⟩ := q
 refine jc (Zap lb tR (fun e v h => by subst h; rfl)) <| jc (Zaa (off := 0) lb ZcW tR) <| jc (ZbN (j := 0) tS27 tR tR rfl ((UpdR.fst (UpdR.self (by rfl))).at (by change 0 = (0 + 0); omega)) rfl) <| JL.sub ⟨[], [cvar gb3 (zq21 go8 x7 gc9) ((), ()), cown go8 (rU UInt8) x7 (List.length x4) gc9], []⟩ .nil rfl rfl <| JL.nil ?_
 obtain rfl := so hm
 exact JQ.pre (Imp.frz (j := 1) rfl ImpK.refl) <| JQ.done (js := [0, 0]) (ss := []) (go8, gc9) (.inr rfl) (.nil rfl) rfl .nil rfl rfl rfl

theorem Ze3 (k : Nat) (f1 : Zai) (r : (List UInt8)) (hm : Zcp k f1 = some r) : Sim Tryz.prog 27 [A Zad f1] [] (γ := Option Nat × Nat) (fun q => [cown q.1 (rU UInt8) r (List.length r) q.2]) (fun q => .one (.val (HDR q.1 0 (List.length r) q.2))) := by
 unfold Zcp at hm
 refine Sim.of Tryz.func27 rfl rfl (lE rfl) (fun e0 w0 => ?_)
 refine JC.at ⟨[(0, ov (A Zad f1))], [], []⟩ <| jr <| jx (ZaZ lb tR) fun gb2 => jc (Zac lb HasO.nilH) <| jn <| jr <| jc (Zaa (off := 0) lb Zgg tR) <| jc (Zam (j := 0) lb tS22 tR rfl (cT (Za4 f1) rfl) rfl rfl) <| lI hm fun v3 hv3 hm => jc (ZcR lb tu22 tu5 tR hv3) <| jc (Zaa (off := 1) lb ZgR tR) <| jc (Zam (j := 0) lb tS3 tR rfl (cT (Zba f1) rfl) rfl rfl) <| lI hm fun v4 hv4 hm => jc (ZcR lb tu3 tu5 tR hv4) <| jc (Zaa (off := 2) lb ZgC tR) <| jc (Zam (j := 0) lb tS3 tR rfl (cT (Zbt f1) rfl) rfl rfl) <| JL.sub ⟨[(1, ov (PTR gb2 0)), (6, ov (S (rU UInt8) v3)), (9, ov (S (rU UInt8) v4)), (11, ov (S (rI .i64) f1.To))], [cvar gb2 Zad f1], []⟩ (.cons rfl (.cons rfl (.cons rfl (.cons rfl .nil)))) rfl rfl ?_
 refine lI hm fun v5 hv5 hm => jc (ZcR lb tu3 tu5 tR hv5) <| jx (ZgI (r := (rU UInt8)) lb tu27 tz5 tZ5 rfl (lE rfl) (.S rfl tR (.S rfl tR (.S rfl tR .nil))) rfl) fun gb6 => jc (Zbl lb ZoY Zpm ZoK (.S (off := 0) (s := rW (HDR (some gb6) 0 (List.length ([v3, v4, v5] : (List UInt8))) (3))) (u := ()) rfl (HasO.wk (q := S (rW (HDR (some gb6) 0 (List.length ([v3, v4, v5] : (List UInt8))) (3))) ()) tR wkV) rfl ((UpdR.fst (UpdR.self (by rfl))).at (by rfl)) .nil) rfl) <| jx (ZaZ lb tR) fun gb7 => jc (Zac lb tR) <| jn <| bI hm fun b14 hx1 hq1 => JC.seqJ (γ := Option Nat × Nat) (stj := fun q => ⟨[(3, ov (PTR gb7 0))], [cvar gb7 (rP (rW (HDR q.1 0 (List.length b14) q.2)) r0) ((), ()), cown q.1 (rU UInt8) b14 0 q.2], []⟩) (fun q => ?_) ?_
 · obtain ⟨go15, gc16⟩ := q
   refine JC.at ⟨[(3, ov (PTR gb7 0))], [cvar gb7 (zq21 go15 b14 gc16) ((), ()), cown go15 (rU UInt8) b14 0 gc16], []⟩ <| jr <| jmv rfl rfl <| jmv rfl rfl <| jc (Zap lb tR (fun e v h => by subst h; rfl)) <| jc (Zaa (off := 0) lb ZcW tR) <| jc (ZaJ (j := 0) lb tS27 tR rfl (Comp.trans (Comp.self (zq21 go15 b14 gc16) ((), ())) (Comp.at' (Comp.inF (Comp.self (rW (HDR go15 0 (List.length b14) gc16)) ()) (lE rfl)) (by rfl : _ = 0)) (lE rfl))) <| JL.pre (Imp.frz (j := 1) rfl (ImpK.slotH (s := 28) rfl (ImpK.var (j := 0) (q := (zq22 go15 b14 gc16)) (y := ((), ())) rfl (Wk.pair Wk.own Wk.refl) ImpK.refl))) <| jc (Zce (r := (rL (rU UInt8))) lb tu77 tz27 tZ27 rfl (lE rfl) (.S rfl (HasO.wk tR wkHL) .nil) rfl) <| bI hq1 fun v17 hv17 hq1 => jx (Zak (js := []) ld cl80 (ZjV k ([b14] : (List (List UInt8))) v17 hv17) .func (.cons tR .nil) rfl) fun _ => lI hq1 fun v18 hv18 hq1 => jc (Zgv lb tu84 tu24 tR hv18) ?_
   obtain ⟨⟨v19, v20⟩, hv19, hq1⟩ := Zaz hq1
   refine jx (Zak (js := []) ld cl79 (ZcM k v18 (4 : Int) (v19, v20) hv19) .func (.cons tR (.cons .cI .nil)) rfl) (fun q => ?_)
   obtain ⟨go21, gc22⟩ := q
   refine JL.sub ⟨[(3, ov (PTR gb7 0)), (24, ov (PTR gb7 0)), (32, .tup [.val (HDR go21 0 (List.length v19) gc22), .val (S (rI .i64) v20)])], [cown go21 (rU UInt8) v19 0 gc22, cvar gb7 (zq22 go15 b14 gc16) ((), ()), cown go15 (rU UInt8) b14 (List.length b14) gc16], []⟩ (.cons rfl (.cons rfl (.cons rfl .nil))) rfl rfl <| jc (Zaw (i := 0) lb tR rfl) <| jc (Zaw (i := 1) lb tR rfl) <| bI hq1 fun x23 hv_x_23 hq1 => JL.pre (Imp.frz (j := 0) rfl (ImpK.tupAt (s := 32) (i := 0) (q := HL go21 (rU UInt8) v19 gc22) rfl rfl Zgy (ImpK.slotH (s := 33) rfl ImpK.refl))) <| JL.pre (Imp.var (j := 1) (q := (zq21 go15 b14 gc16)) (y := ((), ())) rfl (Wk.pair Wk.hh Wk.refl)) ?_
   refine jx (Zak (js := [1, 1]) ld cl78 (ZfF k v19 v20 b14 gb7 go15 gc16 x23 hv_x_23) .func (.cons tR (.cons (HasO.wk tR wkHL) (.cons tR .nil))) rfl) (fun q => ?_)
   obtain ⟨go24, gc25⟩ := q
   refine JL.nrm ⟨[(3, ov (PTR gb7 0))], [cvar gb7 (zq21 go24 x23 gc25) ((), ()), cown go24 (rU UInt8) x23 (List.length x23) gc25], []⟩ [0, 0] rfl (.cons rfl .nil) rfl <| jn <| jr <| jmv rfl rfl <| jc (Zap lb tR (fun e v h => by subst h; rfl)) <| jc (Zaa (off := 0) lb ZcW tR) <| jc (ZaJ (j := 0) lb tS27 tR rfl (Comp.trans (Comp.self (zq21 go24 x23 gc25) ((), ())) (Comp.at' (Comp.inF (Comp.self (rW (HDR go24 0 (List.length x23) gc25)) ()) (lE rfl)) (by rfl : _ = 0)) (lE rfl))) <| jc (Zac lb tR) <| jn <| JC.ret ?_
   obtain rfl := so hq1
   exact JQ.done (js := [1]) (ss := [.val (HDR go24 0 (List.length x23) gc25)]) (go24, gc25) (.inl rfl) (.nil rfl) rfl (.cons (.tmp rfl) .nil) rfl rfl rfl
 refine bI hx1 fun v8 hv8 hx1 => lI hx1 fun v10 hv10 hx1 => ?_
 obtain ⟨x11, hv_x_11, hx1⟩ := Zaz hx1
 refine JC.anyF (base := [(1, ov (PTR gb2 0)), (3, ov (PTR gb7 0))])
     (fs := fun γ => [⟨some 16, ov (MPV (deo (γ 0 0)))⟩, ⟨some 17, ov (PTR gb2 (0 + 0))⟩, ⟨some 18, ov (S (rI .i64) f1.Kind)⟩, ⟨some 19, ov (A ZaG v10)⟩, ⟨some 20, ov (S rFn v10.write)⟩, ⟨some 21, ov (PTR gb7 0)⟩, ⟨some 22, ov (A Zad f1)⟩, ⟨some 23, .tup []⟩])
     (rs := fun γ => [⟨cvar gb2 Zad f1, none, none, [2, 6]⟩, ⟨cown (some gb6) (rU UInt8) ([v3, v4, v5] : (List UInt8)) 0 (3), none, (some 7), []⟩, ⟨cvar gb7 (zq20 gb6 v3 v4 v5) ((), ()), none, (some 7), []⟩, ⟨cmap (deo (γ 0 0)) (S (rI .i64)) (A ZaG) (some (v8)), (some 0), none, [3]⟩, ⟨cvar gb7 (zq21 (deo (γ 7 0)) x11 (γ 7 1)) ((), ()), (some 7), none, []⟩, ⟨cown (deo (γ 7 0)) (rU UInt8) x11 0 (γ 7 1), (some 7), none, []⟩])
     (afts := [[0, 3, 4, 7], [], [], [], [], [], [], [7]]) (js := [0, 0, 0]) Zcj (.cons rfl (.cons rfl .nil)) (fun _ => rfl)
     (by
      refine ZaF.cons (j := 1) rfl (fun _ => rfl) (.runX (fun _ _ => rfl) (fun γ ρ B hb hd => ⟨.none, OpX.ghost (γ := Option Nat) (st' := fun q => setO ⟨ρ, (cmap q (S (rI .i64)) (A ZaG) (some (v8))) :: B, _⟩ (some 16) (ov (MPV q))) (fun q c => eno q) (Zak (js := []) ld cl54 (ZfV k v8 hv8) .func .nil rfl) (fun q => by cases q <;> exact Imp.refl)⟩) (fun _ _ => rfl) (fun _ _ => rfl)) ?_
      refine dS 2 (fun γ ρ B hb hd => Zaa (off := 0) lb Zgg (.tmp (hb 1 _ rfl))) <| dR 3 (fun γ ρ B hb hd => Zao.lk ⟨ρ, (cvar gb2 Zad f1) :: B, _⟩ (Zam (j := 0) lb tS22 (tl hd 1 17) rfl (cT (Za4 f1) rfl) rfl rfl)) <| dR 4 (fun γ ρ B hb hd => Zao.lk ⟨ρ, (cmap (deo (γ 0 0)) (S (rI .i64)) (A ZaG) (some (v8))) :: B, _⟩ (ZlU (z0 := (Zaf.mk (none : Option Nat) (none : Option Nat))) (j := 0) lb tu97 ky22 tZ95 (fun e => ⟨_, rfl, zv95 e⟩) rfl (tl hd 0 16) (tl hd 2 18) hv10)) <| dS 5 (fun γ ρ B hb hd => ZkI lb Zou (tl hd 3 19) (ZfY v10) rfl rfl) <| db 6 3 ?_
      refine dR 7 (fun γ ρ B hb hd => Zao.lk ⟨ρ, (cvar gb2 Zad f1) :: B, _⟩ (ZaB (j := 0) lb tA39 (.tmp (hb 1 _ rfl)) rfl (Comp.self Zad f1) rfl)) ?_
      refine ZaF.cons (j := 8) rfl (fun _ => rfl) (.runX (fun _ _ => rfl) (fun γ ρ B hb hd => ⟨.none, OpX.ghost (γ := Option Nat × Nat) (st' := fun q => setO ⟨ρ, (cvar gb7 (zq21 q.1 x11 q.2) ((), ())) :: (cown q.1 (rU UInt8) x11 0 q.2) :: B, _⟩ (some 23) (.tup [])) (fun q c => bif Nat.beq c 0 then eno q.1 else q.2) ((Zgu hv_x_11 (fun hc hv_x_11 => Zak (js := [1, 0]) ld cl92 (Ze9 k f1 ([v3, v4, v5] : (List UInt8)) gb7 (some gb6) (3) x11 hv_x_11) (HasO.wk (q := CLO 92 []) (tl hd 4 20) (Zg1 hc)) (.cons (tl hd 5 21) (.cons (tl hd 6 22) .nil)) rfl) (fun hz1 => (Zgu hz1 (fun hc hv_x_11 => Zak (js := [1, 0]) ld cl94 (ZfD k f1 ([v3, v4, v5] : (List UInt8)) gb7 (some gb6) (3) x11 hv_x_11) (HasO.wk (q := CLO 94 []) (tl hd 4 20) (Zg1 hc)) (.cons (tl hd 5 21) (.cons (tl hd 6 22) .nil)) rfl) (fun hz2 => (Zgu hz2 (fun hc hv_x_11 => Zak (js := [1, 0]) ld cl96 (ZfQ k f1 ([v3, v4, v5] : (List UInt8)) gb7 (some gb6) (3) x11 hv_x_11) (HasO.wk (q := CLO 96 []) (tl hd 4 20) (Zg1 hc)) (.cons (tl hd 5 21) (.cons (tl hd 6 22) .nil)) rfl) (fun hz3 => (Zgu hz3 (fun hc hv_x_11 => Zak (js := [1, 0]) ld cl98 (ZfG k f1 ([v3, v4, v5] : (List UInt8)) gb7 (some gb6) (3) x11 hv_x_11) (HasO.wk (q := CLO 98 []) (tl hd 4 20) (Zg1 hc)) (.cons (tl hd 5 21) (.cons (tl hd 6 22) .nil)) rfl) (fun hz4 => (Zgu hz4 (fun hc hv_x_11 => Zak (js := [1, 0]) ld Zpf (ZfR k f1 ([v3, v4, v5] : (List UInt8)) gb7 (some gb6) (3) x11 hv_x_11) (HasO.wk (q := CLO 100 []) (tl hd 4 20) (Zg1 hc)) (.cons (tl hd 5 21) (.cons (tl hd 6 22) .nil)) rfl) (fun hz5 => (Zgu hz5 (fun hc hv_x_11 => Zak (js := [1, 0]) ld ZoZ (Zfi k f1 ([v3, v4, v5] : (List UInt8)) gb7 (some gb6) (3) x11 hv_x_11) (HasO.wk (q := CLO 102 []) (tl hd 4 20) (Zg1 hc)) (.cons (tl hd 5 21) (.cons (tl hd 6 22) .nil)) rfl) (fun hz6 => (Zgu hz6 (fun hc hv_x_11 => Zak (js := [1, 0]) ld Zpi (Ze0 k f1 ([v3, v4, v5] : (List UInt8)) gb7 (some gb6) (3) x11 hv_x_11) (HasO.wk (q := CLO 104 []) (tl hd 4 20) (Zg1 hc)) (.cons (tl hd 5 21) (.cons (tl hd 6 22) .nil)) rfl) (fun hz7 => (Zo5 hz7)))))))))))))))) (fun q => by obtain ⟨q0, q1⟩ := q; cases q0 <;> exact Imp.refl)⟩) (fun _ _ => rfl) (fun _ _ => rfl)) ?_
      exact ZaF.nil)
     (by decide +kernel) (fun _ => rfl) (fun _ => rfl) (fun _ => rfl) rfl
     (ρ' := fun γ => [(3, ov (PTR gb7 0))])
     (X' := fun γ => [cvar gb2 Zad f1, cmap (deo (γ 0 0)) (S (rI .i64)) (A ZaG) (some (v8)), cvar gb7 (zq21 (deo (γ 7 0)) x11 (γ 7 1)) ((), ()), cown (deo (γ 7 0)) (rU UInt8) x11 0 (γ 7 1)])
     (fun γ ρ hb hd => (.cons (hb 3 _ rfl) .nil)) (fun _ => rfl) (fun γ => ?_)
 generalize (deo (γ 0 0)) = go9
 generalize (deo (γ 7 0)) = go12
 generalize (γ 7 1) = gc13
 clear γ
 refine JQ.at ⟨[(3, ov (PTR gb7 0))], [cvar gb2 Zad f1, cmap go9 (S (rI .i64)) (A ZaG) (some (v8)), cvar gb7 (zq21 go12 x11 gc13) ((), ()), cown go12 (rU UInt8) x11 0 gc13], []⟩ ?_
 try obtain rfl := so hx1
 exact JQ.join (go12, gc13) (Imp.norm (js := [2, 2]) rfl (.cons rfl .nil))

theorem ZeW (k : Nat) (f1 : Zai) (r : (List UInt8) × Int) (hm : ZcP k f1 = some r) : Sim Tryz.prog 10 [A Zad f1] [] (γ := Option Nat × Nat) (fun q => [cown q.1 (rU UInt8) r.1 (List.length r.1) q.2]) (fun q => .tup [.val (HDR q.1 0 (List.length r.1) q.2), .val (S (rI .i64) r.2)]) := by
 unfold ZcP at hm
 refine Sim.of Tryz.func10 rfl rfl (lE rfl) (fun e0 w0 => ?_)
 refine JC.at ⟨[(0, ov (A Zad f1))], [], []⟩ <| jr <| jx (ZaZ lb tR) fun gb2 => jc (Zac lb HasO.nilH) <| jc (Zac lb .cI) <| jn <| JC.seq <| jr <| jc (ZaB (j := 0) lb tA39 tR rfl (Comp.self Zad f1) rfl) <| bI hm fun v3 hv3 hm => jx (Zak (js := []) ld cl11 (Zfn k f1 v3 hv3) .func (.cons tR .nil) rfl) fun _ => lI hm fun v4 hv4 hm => jc (ZbU lb tR hv4) <| jn ?_
 refine jif tR hm (fun hc1 hm => ?_) (fun hc1 hm => ?_)
 · refine jr <| jc (Zac lb HasO.nilH) <| jc (Zac lb .cI) <| jn <| JC.ret <| JQ.outR ?_
   obtain rfl := so hm
   exact JQ.pre (Imp.nilown (rU UInt8)) <| JQ.pre (Imp.frz (j := 1) rfl ImpK.refl) <| JQ.done (js := [1]) (ss := [.val (HDR none 0 (List.length ([] : (List UInt8))) (0)), .val (S (rI .i64) (2 : Int))]) (none, 0) (.inl rfl) (.nil rfl) rfl (.cons (.tmp rfl) (.cons (.tmp rfl) .nil)) rfl rfl rfl
 refine JC.skip <| JQ.then <| jr <| jc (ZaB (j := 0) lb tA39 tR rfl (Comp.self Zad f1) rfl) <| bI hm fun v5 hv5 hm => jx (Zak (js := []) ld cl27 (Ze3 k f1 v5 hv5) .func (.cons tR .nil) rfl) (fun q => ?_)
 obtain ⟨go6, gc7⟩ := q
 refine JL.nrm ⟨[(2, ov (HDR none 0 0 0)), (3, ov (S (rI .i64) (0 : Int))), (8, ov (HDR go6 0 (List.length v5) gc7))], [cown go6 (rU UInt8) v5 (List.length v5) gc7], []⟩ [0] rfl (.cons rfl (.cons rfl (.cons rfl .nil))) rfl <| jc (Zac lb tR) <| jc (Zac lb .cI) <| jn <| JC.ret ?_
 obtain rfl := so hm
 exact JQ.done (js := [0]) (ss := [.val (HDR go6 0 (List.length v5) gc7), .val (S (rI .i64) (0 : Int))]) (go6, gc7) (.inl rfl) (.nil rfl) rfl (.cons (.tmp rfl) (.cons (.tmp rfl) .nil)) rfl rfl rfl

theorem ZeK (k : Nat) (s1 : (List UInt8)) (r : (List UInt8)) (hm : ZbW k s1 = some r) : Sim Tryz.prog 89 [S (rL (rU UInt8)) s1] [] (γ := Option Nat × Nat) (fun q => [cown q.1 (rU UInt8) r 0 q.2]) (fun q => .one (.val (HDR q.1 0 (List.length r) q.2))) := by
 unfold ZbW at hm
 refine Sim.of Tryz.func89 rfl rfl (lE rfl) (fun e0 w0 => ?_)
 refine JC.at ⟨[(0, ov (S (rL (rU UInt8)) s1))], [], []⟩ <| jr <| jc (Zac lb HasO.nilH) <| jn <| JC.seq <| jr <| jmv rfl rfl <| JL.consX rfl (Zkj (neg := false) (ltB rfl) tu27 tR HasO.nilH) (fun q => ?_)
 obtain ⟨hb1, hb1_⟩ := q
 cases hb1
 · refine jn <| JC.condF tR rfl <| JC.skip <| JQ.then <| jr <| jx (ZgI (r := (rU UInt8)) lb tu27 tz5 tZ5 rfl (lE rfl) .nil rfl) fun gb2 => jmv rfl rfl <| bI hm fun x3 hv_x_3 hm => jx (Zbd (j := 0) lb tu27 tu27 rfl tB5 rfl (Nat.lt_of_lt_of_le Nat.zero_lt_one (lE rfl)) (Nat.lt_of_lt_of_le Nat.zero_lt_one (lE rfl))  rfl tR tR hv_x_3) (fun q => ?_)
   obtain ⟨go4, gc5⟩ := q
   refine jc (Zac lb tR) <| jn <| JC.ret ?_
   obtain rfl := so hm
   exact JQ.done (js := [0]) (ss := [.val (HDR go4 0 (List.length x3) gc5)]) (go4, gc5) (.inl rfl) (.nil rfl) rfl (.cons (.tmp rfl) .nil) rfl rfl rfl
 replace hm := nilK hm (show _ = (
       some ([] : (List UInt8))
       ) by simp [hb1_ rfl, subL, apL])
 refine jn <| JC.condT tR rfl <| jr <| jc (Zac lb HasO.nilH) <| jn <| JC.ret <| JQ.outR ?_
 obtain rfl := so hm
 exact JQ.pre (Imp.nilown (rU UInt8)) <| JQ.done (js := [0]) (ss := [.val (HDR none 0 (List.length ([] : (List UInt8))) (0))]) (none, 0) (.inl rfl) (.nil rfl) rfl (.cons (.tmp rfl) .nil) rfl rfl rfl

theorem ZdH (k : Nat) (b_1 : (List UInt8)) (r : (List UInt8)) (hm : ZcA k b_1 = some r) : Sim Tryz.prog 52 [S (rL (rU UInt8)) b_1] [] (γ := Nat × Option Nat × Nat) (fun q => [cvar q.1 (rP (rW (HDR q.2.1 0 (List.length r) q.2.2)) (rP rB (rP rB r0))) ((), (true, (true, ()))), cown q.2.1 (rU UInt8) r 0 q.2.2]) (fun q => .one (.val (PTR q.1 0))) := by
 unfold ZcA at hm
 refine Sim.of Tryz.func52 rfl rfl (lE rfl) (fun e0 w0 => ?_)
 refine JC.at ⟨[(0, ov (S (rL (rU UInt8)) b_1))], [], []⟩ <| jr <| jc (Zac lb (HasO.const (p := PTO none) fun _ => rfl)) <| jn <| jr <| jmv rfl rfl <| bI hm fun v2 hv2 hm => jx (Zak (js := []) ld cl89 (ZeK k b_1 v2 hv2) .func (.cons tR .nil) rfl) (fun q => ?_)
 obtain ⟨go3, gc4⟩ := q
 refine jc (Zbl lb ZnF ZnA Zm1 (.S (off := 0) (s := rW (HDR go3 0 (List.length v2) gc4)) (u := ()) rfl (HasO.wk (q := S (rW (HDR go3 0 (List.length v2) gc4)) ()) tR wkV) rfl ((UpdR.fst (UpdR.self (by rfl))).at (by rfl)) (.S (off := 1) rfl .cB rfl ((UpdR.snd (UpdR.fst (UpdR.self (by rfl)))).at (by rfl)) (.S (off := 2) rfl .cB rfl ((UpdR.snd (UpdR.snd (UpdR.fst (UpdR.self (by rfl))))).at (by rfl)) .nil))) rfl) <| jx (ZaZ lb tR) fun gb5 => jc (Zac lb tR) <| jn <| JC.ret ?_
 obtain rfl := so hm
 exact JQ.done (js := [1, 0]) (ss := [.val (PTR gb5 0)]) (gb5, go3, gc4) (.inl rfl) (.nil rfl) rfl (.cons (.tmp rfl) .nil) rfl rfl rfl

theorem Zfy (k : Nat) (is1 : Bool) (made2 : Bool) (x4 : (List UInt8)) (gb3 : Nat) (go5 : Option Nat) (gc6 : Nat) (r : Bool) (hm : ZbZ k is1 made2 x4 = some r) : Sim Tryz.prog 122 [PTR gb3 0] [cvar gb3 (zq26 go5 x4 gc6) ((), (is1, (made2, ()))), cown go5 (rU UInt8) x4 0 gc6] (γ := Unit) (fun q => [cvar gb3 (zq26 go5 x4 gc6) ((), (is1, (made2, ()))), cown go5 (rU UInt8) x4 0 gc6]) (fun q => .one (.val (S rB r))) := by
 unfold ZbZ at hm
 refine Sim.of Tryz.func122 rfl rfl (lE rfl) (fun e0 w0 => ?_)
 refine JC.at ⟨[(0, ov (PTR gb3 0))], [cvar gb3 (zq26 go5 x4 gc6) ((), (is1, (made2, ()))), cown go5 (rU UInt8) x4 0 gc6], []⟩ <| jr <| jc (Zac lb .cB) <| jn <| bI hm fun x8 hx1 hq1 => JC.seqJ (γ := Unit) (stj := fun _ => ⟨[(2, ov (S rB x8))], [cvar gb3 (zq26 go5 x4 gc6) ((), (is1, (made2, ()))), cown go5 (rU UInt8) x4 0 gc6], []⟩) (fun _ => ?_) ?_
 · refine JC.ret ?_
   obtain rfl := so hq1
   exact JQ.done (js := [0, 0]) (ss := [.val (S rB x8)]) () (.inl rfl) (.nil rfl) rfl (.cons (.tmp rfl) .nil) rfl rfl rfl
 refine JC.region <| jmv rfl rfl <| jc (ZjF (neg := false) lb tu87 tR (HasO.const (p := PTO none) fun _ => rfl)) <| jmv rfl rfl <| JL.run (.yes rfl (ltB rfl) rfl rfl) (ZaC lb tR) <| JL.run (.yes rfl (ltB rfl) rfl rfl) (Zap lb tR (fun e v h => by subst h; rfl)) <| JL.run (.yes rfl (ltB rfl) rfl rfl) (Zaa (off := 1) lb Zk5 tR) <| JL.run (.yes rfl (ltB rfl) rfl rfl) (Zam (j := 0) lb tS4 tR rfl (Comp.trans (Comp.self (zq26 go5 x4 gc6) ((), (is1, (made2, ())))) (Comp.at' (Comp.inS (Comp.inF (Comp.self rB is1) (lE rfl))) (by rfl : _ = 1)) (lE rfl)) rfl rfl) <| lI hx1 fun v7 hv7 hx1 => JL.run (.yes rfl (ltB rfl) rfl rfl) (ZbU lb tR hv7) <| jc (Za6 lb tR rfl tR) <| jc (Zac lb tR) <| JL.nil ?_
 try obtain rfl := so hx1
 refine JQ.pre (Imp.var (j := 0) (q := (zq26 go5 x4 gc6)) (y := ((), (is1, (made2, ())))) rfl Wk.refl) ?_
 exact JQ.join () (Imp.norm (js := [0, 0]) rfl (.cons rfl .nil))

theorem Zd8 (k : Nat) (n1 : Int) (is2 : Bool) (made3 : Bool) (x5 : (List UInt8)) (gb4 : Nat) (go6 : Option Nat) (gc7 : Nat) (r : (List UInt8) × Bool × (List UInt8) × Bool × Bool) (hm : Zbp k n1 is2 made3 x5 = some r) : Sim Tryz.prog 90 [PTR gb4 0, S (rI .i64) n1] [cvar gb4 (zq26 go6 x5 gc7) ((), (is2, (made3, ()))), cown go6 (rU UInt8) x5 0 gc7] (γ := Unit) (fun q => [cvar gb4 (rP (rL (rU UInt8)) (rP rB (rP rB r0))) (r.2.2.1, (r.2.2.2.1, (r.2.2.2.2, ()))), cown go6 (rU UInt8) x5 (List.length x5) gc7]) (fun q => .tup [.val (S (rL (rU UInt8)) r.1), .val (S rB r.2.1)]) := by
 unfold Zbp at hm
 refine Sim.of Tryz.func90 rfl rfl (lE rfl) (fun e0 w0 => ?_)
 refine JC.at ⟨[(0, ov (PTR gb4 0)), (1, ov (S (rI .i64) n1))], [cvar gb4 (zq26 go6 x5 gc7) ((), (is2, (made3, ()))), cown go6 (rU UInt8) x5 0 gc7], []⟩ <| jr <| jc (Zac lb HasO.nilH) <| jc (Zac lb .cB) <| jn <| JC.seq <| JC.block <| jr <| jmv rfl rfl <| bI hm fun v8 hv8 hm => jx (Zak (js := [0, 0]) ld ZiI (Zfy k is2 made3 x5 gb4 go6 gc7 v8 hv8) .func (.cons tR .nil) rfl) fun _ => jc (Zac lb tR) <| jn <| jif tR hm (fun hc1 hm => ?_) (fun hc1 hm => ?_)
 · refine jr <| jc (Zac lb HasO.nilH) <| jc (Zac lb .cB) <| jn <| JC.ret <| JQ.outRB <| JQ.outR ?_
   obtain rfl := so hm
   refine JQ.pre (Imp.slot (s := 4) (q := S (rL (rU UInt8)) ([] : (List UInt8))) rfl ZkF) <| JQ.pre (Imp.frz (j := 1) rfl (ImpK.var (j := 0) (q := (zq28 go6 x5 gc7)) (y := ((), (is2, (made3, ())))) rfl (Wk.pair Wk.own (Wk.pair Wk.refl (Wk.pair Wk.refl Wk.refl))) ImpK.refl)) <| JQ.pre (Imp.var (j := 0) (q := (rP (rL (rU UInt8)) (rP rB (rP rB r0)))) (y := (x5, (is2, (made3, ())))) rfl (Wk.pair Wk.hl (Wk.pair Wk.refl (Wk.pair Wk.refl Wk.refl)))) ?_
   exact JQ.done (js := [0, 0]) (ss := [.val (S (rL (rU UInt8)) ([] : (List UInt8))), .val (S rB false)]) () (.inl rfl) (.nil rfl) rfl (.cons (.tmp rfl) (.cons (.tmp rfl) .nil)) rfl rfl rfl
 refine bI hm fun x11 hx2 hq2 => JC.seqJ (γ := Unit) (stj := fun _ => ⟨[(0, ov (PTR gb4 0)), (1, ov (S (rI .i64) n1)), (10, ov (S rB x11))], [cvar gb4 (zq26 go6 x5 gc7) ((), (is2, (made3, ()))), cown go6 (rU UInt8) x5 0 gc7], []⟩) (fun _ => ?_) ?_
 · refine jif tR hq2 (fun hc9 hq2 => ?_) (fun hc9 hq2 => ?_)
   · refine jr <| jmv rfl rfl <| jc (Zbl lb ZnF ZnA Zm1 (.S (off := 2) rfl .cB rfl ((UpdR.snd (UpdR.snd (UpdR.fst (UpdR.self (by rfl))))).at (by rfl)) .nil) rfl) <| jc (Zap lb tR (fun e v h => by subst h; rfl)) <| jc (ZaM (j := 0) Zn1 tR tR rfl (UpdR.self (by rfl)) rfl) <| jn <| jr <| jc (Zac lb HasO.nilH) <| jc (Zac lb .cB) <| jn <| JC.ret <| JQ.outRB <| JQ.outR ?_
     obtain rfl := so hq2
     refine JQ.pre (Imp.slot (s := 4) (q := S (rL (rU UInt8)) ([] : (List UInt8))) rfl ZkF) <| JQ.pre (Imp.frz (j := 1) rfl ImpK.refl) <| JQ.pre (Imp.var (j := 0) (q := (rP (rL (rU UInt8)) (rP rB (rP rB r0)))) (y := (([] : (List UInt8)), (false, (true, ())))) rfl (Wk.pair Wk.nil (Wk.pair Wk.refl (Wk.pair Wk.refl Wk.refl)))) ?_
     exact JQ.done (js := [0, 0]) (ss := [.val (S (rL (rU UInt8)) ([] : (List UInt8))), .val (S rB false)]) () (.inl rfl) (.nil rfl) rfl (.cons (.tmp rfl) (.cons (.tmp rfl) .nil)) rfl rfl rfl
   refine JC.skip <| JQ.outNB <| JQ.then <| jr <| jmv rfl rfl <| jc (Zap lb tR (fun e v h => by subst h; rfl)) <| jc (Zaa (off := 0) lb ZeN tR) <| jc (ZaJ (j := 0) lb tS27 tR rfl (Comp.trans (Comp.self (zq26 go6 x5 gc7) ((), (is2, (made3, ())))) (Comp.at' (Comp.inF (Comp.self (rW (HDR go6 0 (List.length x5) gc7)) ()) (lE rfl)) (by rfl : _ = 0)) (lE rfl))) <| jmv rfl rfl <| jmv rfl rfl <| bI hq2 fun v12 hv12 hq2 => JL.pre (Imp.frz (j := 1) rfl (ImpK.slotH (s := 28) rfl (ImpK.var (j := 0) (q := (zq28 go6 x5 gc7)) (y := ((), (is2, (made3, ())))) rfl (Wk.pair Wk.own (Wk.pair Wk.refl (Wk.pair Wk.refl Wk.refl))) ImpK.refl))) <| jc (Zh4 lb tu27 tz5 (HasO.wk tR wkHL) .none (.some tR) (.some tR) hv12) <| jc (Zac lb tR) <| jn <| jr <| jmv rfl rfl <| jmv rfl rfl <| JL.sub ⟨[(1, ov (S (rI .i64) n1)), (6, ov (S (rLc (rU UInt8)) v12)), (32, ov (PTR gb4 0)), (33, ov (PTR gb4 0))], [cvar gb4 (zq28 go6 x5 gc7) ((), (is2, (made3, ()))), cown go6 (rU UInt8) x5 (List.length x5) gc7], []⟩ (.cons rfl (.cons rfl (.cons rfl (.cons rfl .nil)))) rfl rfl ?_
   refine jc (Zap lb tR (fun e v h => by subst h; rfl)) <| jc (Zaa (off := 0) lb ZeN tR) <| jc (ZaJ (j := 0) lb tS27 tR rfl (Comp.trans (Comp.self (zq28 go6 x5 gc7) ((), (is2, (made3, ())))) (Comp.at' (Comp.inF (Comp.self (rW (HL go6 (rU UInt8) x5 gc7)) ()) (lE rfl)) (by rfl : _ = 0)) (lE rfl))) <| jmv rfl rfl <| bI hq2 fun v13 hv13 hq2 => jc (Zhh lb tu27 tz5 (HasO.wk tR wkHL) (.some tR) .none hv13) <| jc (Zap lb tR (fun e v h => by subst h; rfl)) <| jc (Zaa (off := 0) lb ZeN tR) <| jc (Zck (j := 0) tS27 tR tR rfl rfl ((UpdR.fst (UpdR.self (by rfl))).at (by change 0 = (0 + 0); omega)) rfl) <| jn <| jr <| jmv rfl rfl <| jc (Zac lb tR) <| JL.sub ⟨[(4, ov (S (rLc (rU UInt8)) v12))], [cvar gb4 (rP (rL (rU UInt8)) (rP rB (rP rB r0))) (v13, (is2, (made3, ()))), cown go6 (rU UInt8) x5 (List.length x5) gc7], []⟩ (.cons rfl .nil) rfl rfl <| jc (Zac lb .cB) <| jn <| JC.ret ?_
   obtain rfl := so hq2
   exact JQ.pre (Imp.slotS (s := 4) rfl Wk.clip) <| JQ.done (js := [0, 0]) (ss := [.val (S (rL (rU UInt8)) v12), .val (S rB true)]) () (.inl rfl) (.nil rfl) rfl (.cons (.tmp rfl) (.cons (.tmp rfl) .nil)) rfl rfl rfl
 refine JC.region <| jmv rfl rfl <| lI hx2 fun v9 hv9 hx2 => jc (Zar lb tR .cI (cs hv9)) <| jmv rfl rfl <| jF (ov (S (rI .i64) n1)) rfl rfl rfl rfl (fun hq3 => ZaC lb tR) <| jF (ov (PTR gb4 0)) rfl rfl rfl rfl (fun hq_4 => ZaC lb tR) <| JL.sub ⟨[(0, ov (PTR gb4 0)), (1, ov (S (rI .i64) n1)), (13, ov (S rB v9)), (14, bif (!v9) then ov (S (rI .i64) n1) else .one .und), (15, bif (!v9) then ov (PTR gb4 0) else .one .und)], [cvar gb4 (zq26 go6 x5 gc7) ((), (is2, (made3, ()))), cown go6 (rU UInt8) x5 0 gc7], []⟩ (.cons rfl (.cons rfl (.cons rfl (.cons rfl (.cons rfl .nil))))) rfl rfl <| jF (ov (PTR gb4 0)) rfl rfl rfl rfl (fun hq_5 => Zap lb (HasO.cnd tR (notT (notF hq_5))) (fun e v h => by subst h; rfl)) <| jF (ov (PTR gb4 (0 + 0))) rfl rfl rfl rfl (fun hq_6 => Zaa (off := 0) lb ZeN (HasO.cnd tR (notT (notF hq_6)))) ?_
 rcases ZcY hx2 with ⟨hc8, hx2⟩ | ⟨hc8, hx2⟩
 · refine jk rfl hc8 <| jk rfl hc8 <| jk rfl hc8 <| jc (Zdf lb tR hc8 .cB) <| jc (Zac lb tR) <| JL.nil ?_
   try obtain rfl := so hx2
   exact JQ.join () (Imp.norm (js := [0, 0]) rfl (.cons rfl (.cons rfl (.cons rfl .nil))))
 refine JL.run (.yes rfl (ltB rfl) rfl hc8) (ZaJ (j := 0) lb tS27 (HasO.cnd tR (notT hc8)) rfl (Comp.trans (Comp.self (zq26 go6 x5 gc7) ((), (is2, (made3, ())))) (Comp.at' (Comp.inF (Comp.self (rW (HDR go6 0 (List.length x5) gc7)) ()) (lE rfl)) (by rfl : _ = 0)) (lE rfl))) <| JL.run (.yes rfl (ltB rfl) rfl hc8) (Zhe lb tu27 tR) <| lI hx2 fun v10 hv10 hx2 => JL.run (.yes rfl (ltB rfl) rfl hc8) (Zar lb (HasO.cnd tR (notT hc8)) tR (cs hv10)) <| jc (Za6 lb tR hc8 tR) <| jc (Zac lb tR) <| JL.nil ?_
 try obtain rfl := so hx2
 exact JQ.join () (Imp.norm (js := [0, 0]) rfl (.cons rfl (.cons rfl (.cons rfl .nil))))

theorem Zhp (k : Nat) (b_1 : (List UInt8)) (r : UInt64 × Int) (hm : wire_Get k b_1 = some r) : Sim Tryz.prog 91 [S (rL (rU UInt8)) b_1] [] (γ := Unit) (fun q => []) (fun q => .tup [.val (S (rU UInt64) r.1), .val (S (rI .i64) r.2)]) := by
 unfold wire_Get at hm
 refine Sim.of Tryz.func91 rfl rfl (lE rfl) (fun e0 w0 => ?_)
 refine JC.at ⟨[(0, ov (S (rL (rU UInt8)) b_1))], [], []⟩ <| jr <| jc (Zac lb (HasO.cU (x := (0 : UInt64)) rfl (by decide))) <| jc (Zac lb .cI) <| jn <| JC.seq <| bI hm fun x5 hx1 hq1 => JC.seqJ (γ := Unit) (stj := fun _ => ⟨[(0, ov (S (rL (rU UInt8)) b_1)), (14, ov (S rB x5))], [], []⟩) (fun _ => ?_) ?_
 · refine jif tR hq1 (fun hc6 hq1 => ?_) (fun hc6 hq1 => ?_)
   · refine jr <| jc (Zac lb (HasO.cU (x := (0 : UInt64)) rfl (by decide))) <| jc (Zac lb .cI) <| jn <| JC.ret <| JQ.outR ?_
     obtain rfl := so hq1
     exact JQ.done (js := []) (ss := [.val (S (rU UInt64) (0 : UInt64)), .val (S (rI .i64) (2 : Int))]) () (.inl rfl) (.nil rfl) rfl (.cons (.tmp rfl) (.cons (.tmp rfl) .nil)) rfl rfl rfl
   refine JC.skip <| JQ.then <| jr <| jc (Zac lb (HasO.cU (x := (0 : UInt64)) rfl (by decide))) <| jn <| bI hq1 fun n14 hx7 hq7 => JC.seqJ (γ := Unit) (stj := fun _ => ⟨[(4, ov (S (rU UInt64) n14))], [], []⟩) (fun _ => ?_) ?_
   · refine jr <| jmv rfl rfl <| jc (Zac lb tR) <| jc (Zac lb .cI) <| jn <| JC.ret ?_
     obtain rfl := so hq7
     exact JQ.done (js := []) (ss := [.val (S (rU UInt64) n14), .val (S (rI .i64) (0 : Int))]) () (.inl rfl) (.nil rfl) rfl (.cons (.tmp rfl) (.cons (.tmp rfl) .nil)) rfl rfl rfl
   refine jr <| jmv rfl rfl <| jc (ZaI lb tu27 tR) <| jc (ZaC lb .cI) <| jn <| JC.block <| JC.pre ?_ (JC.loop (γ := Unit) (stf := fun s q => ⟨[(4, ov (S (rU UInt64) s.1)), (15, ov (S (rL (rU UInt8)) b_1)), (16, ov (S (rI .i64) (List.length b_1 : Int))), (17, ov (S (rI .i64) s.2))], [], []⟩) (q := ()) hx7 ?_)
   · exact (Imp.norm (js := []) rfl (.cons rfl (.cons rfl (.cons rfl (.cons rfl .nil)))))
   intro s q x hx hr
   obtain ⟨n6, x7⟩ := s
   obtain _ := q
   change wire_Get.b1 k b_1 n6 x7 = some x at hx
   unfold wire_Get.b1 at hx
   refine JC.at ⟨[(4, ov (S (rU UInt64) n6)), (15, ov (S (rL (rU UInt8)) b_1)), (16, ov (S (rI .i64) (List.length b_1 : Int))), (17, ov (S (rI .i64) x7))], [], []⟩ <| jr <| lI hx fun v8 hv8 hx => jc (Zar lb tR tR (cs hv8)) <| jn <| JC.seq <| jif tR hx (fun hc9 hx => ?_) (fun hc9 hx => ?_)
   · refine JC.skip <| JQ.then <| JC.seq <| JC.block <| jr <| bI hx fun v9 hv9 hx => jc (Zau lb tu27 tz5 tR tR hv9) <| jc (Zbr lb tS5 rfl tR rfl) <| jc (Zac lb tR) <| jn <| JC.region <| jmv rfl rfl <| lI hx fun v10 hv10 hx => jc (Zkn lb tR (HasO.cU (x := (8 : UInt64)) rfl (by decide)) hv10) <| jmv rfl rfl <| lI hx fun v11 hv11 hx => jc (Zgv lb tu5 tu24 tR hv11) ?_
     refine lI hx fun v12 hv12 hx => jc (Zfu lb tR tR (cs hv12)) <| jc (Zac lb tR) <| JL.nil <| JQ.outNB <| JQ.then <| JC.region <| lI hx fun v13 hv13 hx => jc (ZaX lb tR .cI (cs hv13)) <| jmv rfl rfl <| JL.sub ⟨[(4, ov (S (rU UInt64) v12)), (15, ov (S (rL (rU UInt8)) b_1)), (16, ov (S (rI .i64) (List.length b_1 : Int))), (17, ov (S (rI .i64) v13))], [], []⟩ (.cons rfl (.cons rfl (.cons rfl (.cons rfl .nil)))) rfl rfl <| JL.nil ?_
     try obtain rfl := so hx
     exact JQ.next () rfl (Imp.norm (js := []) rfl (.cons rfl (.cons rfl (.cons rfl (.cons rfl .nil)))))
   refine JC.exit <| JQ.outX ?_
   try obtain rfl := so hx
   have ht := hr _ rfl
   have hq8 := cs ht
   clear hr ht
   refine JQ.outX <| JQ.here ?_
   try obtain rfl := so hq8
   exact jo rfl rfl rfl
 refine JC.region <| jmv rfl rfl <| jc (ZaI lb tu27 tR) <| lI hx1 fun v2 hv2 hx1 => jc (Zar lb tR .cI (cs hv2)) <| jmv rfl rfl <| jF (ov (S (rL (rU UInt8)) b_1)) rfl rfl rfl rfl (fun hq_2 => ZaC lb tR) <| jF (ov (S (rI .i64) (List.length b_1 : Int))) rfl rfl rfl rfl (fun hq3 => ZaI lb tu27 (HasO.cnd tR (notT (notF hq3)))) <| lI hx1 fun v3 hv3 hx1 => jF (ov (S rB v3)) rfl rfl rfl rfl (fun hq_4 => Zar lb (HasO.cnd tR (notT (notF hq_4))) .cI (cs hv3)) <| lI hx1 fun v4 hv4 hx1 => jc (Zas lb tR (fun hb5 => .cB) (fun hb5 => (HasO.cnd tR (notT hb5))) hv4) <| JL.nil ?_
 try obtain rfl := so hx1
 exact JQ.join () (Imp.norm (js := []) rfl (.cons rfl (.cons rfl .nil)))

theorem ZcX (k : Nat) (size1 : Int) (is2 : Bool) (made3 : Bool) (x5 : (List UInt8)) (gb4 : Nat) (go6 : Option Nat) (gc7 : Nat) (r : UInt64 × Zag) (hm : ZaV k size1 is2 made3 x5 = some r) : Sim Tryz.prog 53 [PTR gb4 0, S (rI .i64) size1] [cvar gb4 (zq26 go6 x5 gc7) ((), (is2, (made3, ()))), cown go6 (rU UInt8) x5 0 gc7] (γ := Unit) (fun q => [cvar gb4 Zab r.2, cown go6 (rU UInt8) x5 (List.length x5) gc7]) (fun q => .one (.val (S (rU UInt64) r.1))) := by
 unfold ZaV at hm
 refine Sim.of Tryz.func53 rfl rfl (lE rfl) (fun e0 w0 => ?_)
 refine JC.at ⟨[(0, ov (PTR gb4 0)), (1, ov (S (rI .i64) size1))], [cvar gb4 (zq26 go6 x5 gc7) ((), (is2, (made3, ()))), cown go6 (rU UInt8) x5 0 gc7], []⟩ <| jr <| jc (Zac lb (HasO.cU (x := (0 : UInt64)) rfl (by decide))) <| jn <| bI hm fun size12 hx1 hq1 => JC.seqJ (γ := Unit) (stj := fun _ => ⟨[(0, ov (PTR gb4 0)), (1, ov (S (rI .i64) size12))], [cvar gb4 (zq26 go6 x5 gc7) ((), (is2, (made3, ()))), cown go6 (rU UInt8) x5 0 gc7], []⟩) (fun _ => ?_) ?_
 · refine jr <| jmv rfl rfl <| jmv rfl rfl ?_
   obtain ⟨⟨v13, v14, x15, x16, x17⟩, hv13, hq1⟩ := Zaz hq1
   refine jx (Zak (js := [0, 0]) ld cl90 (Zd8 k size12 is2 made3 x5 gb4 go6 gc7 (v13, v14, x15, x16, x17) hv13) .func (.cons tR (.cons tR .nil)) rfl) fun _ => jmv rfl rfl <| jc (Zaw (i := 0) lb tR rfl) <| jc (Zaw (i := 1) lb tR rfl) <| jc (Zac lb tR) <| jc (Zac lb tR) <| jn <| jr <| jmv rfl rfl ?_
   obtain ⟨⟨v18, v19⟩, hv18, hq1⟩ := Zaz hq1
   refine jx (Zak (js := []) ld cl91 (Zhp k v13 (v18, v19) hv18) .func (.cons tR .nil) rfl) fun _ => JL.sub ⟨[(23, .tup [.val (S (rU UInt64) v18), .val (S (rI .i64) v19)])], [cvar gb4 (rP (rL (rU UInt8)) (rP rB (rP rB r0))) (x15, (x16, (x17, ()))), cown go6 (rU UInt8) x5 (List.length x5) gc7], []⟩ (.cons rfl .nil) rfl rfl <| jmv rfl rfl <| jc (Zaw (i := 0) lb tR rfl) <| jc (Zaw (i := 1) lb tR rfl) <| jc (Zac lb tR) <| jc (Zac lb tR) <| jn <| jr <| jmv rfl rfl <| jc (Zac lb tR) <| jn <| JC.ret ?_
   obtain rfl := so hq1
   refine JQ.pre (Imp.var (j := 0) (q := Zab) (y := (Zag.mk x15 x16 x17)) rfl (Wk.st Wk.refl)) ?_
   exact JQ.done (js := [0, 0]) (ss := [.val (S (rU UInt64) v18)]) () (.inl rfl) (.nil rfl) rfl (.cons (.tmp rfl) .nil) rfl rfl rfl
 refine bI hx1 fun x11 hx2 hq2 => JC.seqJ (γ := Unit) (stj := fun _ => ⟨[(0, ov (PTR gb4 0)), (1, ov (S (rI .i64) size1)), (14, ov (S rB x11))], [cvar gb4 (zq26 go6 x5 gc7) ((), (is2, (made3, ()))), cown go6 (rU UInt8) x5 0 gc7], []⟩) (fun _ => ?_) ?_
 · refine jif tR hq2 (fun hc6 hq2 => ?_) (fun hc6 hq2 => ?_)
   · refine JC.region <| jc (Zac lb .cI) <| JL.nil ?_
     try obtain rfl := so hq2
     exact JQ.join () (Imp.norm (js := [0, 0]) rfl (.cons rfl (.cons rfl .nil)))
   refine JC.skip ?_
   try obtain rfl := so hq2
   exact JQ.join () (Imp.norm (js := [0, 0]) rfl (.cons rfl (.cons rfl .nil)))
 refine JC.region <| jmv rfl rfl <| lI hx2 fun v8 hv8 hx2 => jc (Zar lb tR .cI (cs hv8)) <| jmv rfl rfl <| jF (ov (S (rI .i64) size1)) rfl rfl rfl rfl (fun hq3 => ZaC lb tR) <| lI hx2 fun v9 hv9 hx2 => jF (ov (S rB v9)) rfl rfl rfl rfl (fun hq_4 => Zar lb (HasO.cnd tR (notT (notF hq_4))) .cI (cs hv9)) <| lI hx2 fun v10 hv10 hx2 => jc (Zas lb tR (fun hb5 => .cB) (fun hb5 => (HasO.cnd tR (notT hb5))) hv10) <| JL.nil ?_
 try obtain rfl := so hx2
 refine JQ.pre (Imp.var (j := 0) (q := (zq26 go6 x5 gc7)) (y := ((), (is2, (made3, ())))) rfl Wk.refl) ?_
 exact JQ.join () (Imp.norm (js := [0, 0]) rfl (.cons rfl (.cons rfl (.cons rfl .nil))))

theorem Za1 (k : Nat) (r1 : Zag) (gb2 : Nat) (r : Bool) (hm : ZaH k r1 = some r) : Sim Tryz.prog 122 [PTR gb2 0] [cvar gb2 Zab r1] (γ := Unit) (fun q => [cvar gb2 Zab r1]) (fun q => .one (.val (S rB r))) := by
 unfold ZaH at hm
 refine Sim.of Tryz.func122 rfl rfl (lE rfl) (fun e0 w0 => ?_)
 refine JC.at ⟨[(0, ov (PTR gb2 0))], [cvar gb2 Zab r1], []⟩ <| jr <| jc (Zac lb .cB) <| jn <| bI hm fun x4 hx1 hq1 => JC.seqJ (γ := Unit) (stj := fun _ => ⟨[(2, ov (S rB x4))], [cvar gb2 Zab r1], []⟩) (fun _ => ?_) ?_
 · refine JC.ret ?_
   obtain rfl := so hq1
   exact JQ.done (js := [0]) (ss := [.val (S rB x4)]) () (.inl rfl) (.nil rfl) rfl (.cons (.tmp rfl) .nil) rfl rfl rfl
 refine JC.region <| jmv rfl rfl <| jc (ZjF (neg := false) lb tu87 tR (HasO.const (p := PTO none) fun _ => rfl)) <| jmv rfl rfl <| JL.run (.yes rfl (ltB rfl) rfl rfl) (ZaC lb tR) <| JL.run (.yes rfl (ltB rfl) rfl rfl) (Zap lb tR (fun e v h => by subst h; rfl)) <| JL.run (.yes rfl (ltB rfl) rfl rfl) (Zaa (off := 1) lb Zk5 tR) <| JL.run (.yes rfl (ltB rfl) rfl rfl) (Zam (j := 0) lb tS4 tR rfl (cT (Zgt r1) rfl) rfl rfl) <| lI hx1 fun v3 hv3 hx1 => JL.run (.yes rfl (ltB rfl) rfl rfl) (ZbU lb tR hv3) <| jc (Za6 lb tR rfl tR) <| jc (Zac lb tR) <| JL.nil ?_
 try obtain rfl := so hx1
 exact JQ.join () (Imp.norm (js := [0]) rfl (.cons rfl .nil))

theorem Zcf (k : Nat) (n1 : Int) (r2 : Zag) (gb3 : Nat) (r : (List UInt8) × Bool × Zag) (hm : ZaW k n1 r2 = some r) : Sim Tryz.prog 90 [PTR gb3 0, S (rI .i64) n1] [cvar gb3 Zab r2] (γ := Unit) (fun q => [cvar gb3 Zab r.2.2]) (fun q => .tup [.val (S (rL (rU UInt8)) r.1), .val (S rB r.2.1)]) := by
 unfold ZaW at hm
 refine Sim.of Tryz.func90 rfl rfl (lE rfl) (fun e0 w0 => ?_)
 refine JC.at ⟨[(0, ov (PTR gb3 0)), (1, ov (S (rI .i64) n1))], [cvar gb3 Zab r2], []⟩ <| jr <| jc (Zac lb HasO.nilH) <| jc (Zac lb .cB) <| jn <| JC.seq <| JC.block <| jr <| jmv rfl rfl <| bI hm fun v4 hv4 hm => jx (Zak (js := [0]) ld ZiI (Za1 k r2 gb3 v4 hv4) .func (.cons tR .nil) rfl) fun _ => jc (Zac lb tR) <| jn <| jif tR hm (fun hc1 hm => ?_) (fun hc1 hm => ?_)
 · refine jr <| jc (Zac lb HasO.nilH) <| jc (Zac lb .cB) <| jn <| JC.ret <| JQ.outRB <| JQ.outR ?_
   obtain rfl := so hm
   exact JQ.pre (Imp.slot (s := 4) (q := S (rL (rU UInt8)) ([] : (List UInt8))) rfl ZkF) <| JQ.done (js := [0]) (ss := [.val (S (rL (rU UInt8)) ([] : (List UInt8))), .val (S rB false)]) () (.inl rfl) (.nil rfl) rfl (.cons (.tmp rfl) (.cons (.tmp rfl) .nil)) rfl rfl rfl
 refine bI hm fun x8 hx2 hq2 => JC.seqJ (γ := Unit) (stj := fun _ => ⟨[(0, ov (PTR gb3 0)), (1, ov (S (rI .i64) n1)), (10, ov (S rB x8))], [cvar gb3 Zab r2], []⟩) (fun _ => ?_) ?_
 · refine jif tR hq2 (fun hc11 hq2 => ?_) (fun hc11 hq2 => ?_)
   · refine jr <| jmv rfl rfl <| jc (Zbl lb ZnF ZnA Zm1 (.S (off := 2) rfl .cB rfl ((UpdR.snd (UpdR.snd (UpdR.fst (UpdR.self (by rfl))))).at (by rfl)) .nil) rfl) <| jc (Zap lb tR (fun e v h => by subst h; rfl)) <| jc (ZaM (j := 0) Zn1 tR tR rfl (UpdR.self (by rfl)) rfl) <| jn <| jr <| jc (Zac lb HasO.nilH) <| jc (Zac lb .cB) <| jn <| JC.ret <| JQ.outRB <| JQ.outR ?_
     obtain rfl := so hq2
     refine JQ.pre (Imp.slot (s := 4) (q := S (rL (rU UInt8)) ([] : (List UInt8))) rfl ZkF) <| JQ.pre (Imp.var (j := 0) (q := Zab) (y := (Zag.mk ([] : (List UInt8)) false true)) rfl (Wk.st (Wk.pair Wk.nil (Wk.pair Wk.refl (Wk.pair Wk.refl Wk.refl))))) ?_
     exact JQ.done (js := [0]) (ss := [.val (S (rL (rU UInt8)) ([] : (List UInt8))), .val (S rB false)]) () (.inl rfl) (.nil rfl) rfl (.cons (.tmp rfl) (.cons (.tmp rfl) .nil)) rfl rfl rfl
   refine JC.skip <| JQ.outNB <| JQ.then <| jr <| jmv rfl rfl <| jc (Zap lb tR (fun e v h => by subst h; rfl)) <| jc (Zaa (off := 0) lb ZeN tR) <| jc (Zam (j := 0) lb tS27 tR rfl (cT (ZbX r2) rfl) rfl rfl) <| jmv rfl rfl <| jmv rfl rfl <| bI hq2 fun v9 hv9 hq2 => jc (Zh4 lb tu27 tz5 tR .none (.some tR) (.some tR) hv9) <| jc (Zac lb tR) <| jn <| jr <| jmv rfl rfl <| jmv rfl rfl <| jc (Zap lb tR (fun e v h => by subst h; rfl)) <| jc (Zaa (off := 0) lb ZeN tR) <| JL.sub ⟨[(1, ov (S (rI .i64) n1)), (6, ov (S (rLc (rU UInt8)) v9)), (32, ov (PTR gb3 0)), (35, ov (PTR gb3 (0 + 0)))], [cvar gb3 Zab r2], []⟩ (.cons rfl (.cons rfl (.cons rfl (.cons rfl .nil)))) rfl rfl <| jc (Zam (j := 0) lb tS27 tR rfl (cT (ZbX r2) rfl) rfl rfl) <| jmv rfl rfl ?_
   refine bI hq2 fun v10 hv10 hq2 => jc (Zhh lb tu27 tz5 tR (.some tR) .none hv10) <| jc (Zap lb tR (fun e v h => by subst h; rfl)) <| jc (Zaa (off := 0) lb ZeN tR) <| lI hq2 fun x11 hv_x_11 hq2 => jc (Zck (j := 0) tS27 tR tR rfl rfl (Upd.trans (Comp.self Zab r2) (Upd.self Zab r2 _) (Zf9 r2 v10)).R hv_x_11) <| jn <| jr <| jmv rfl rfl <| jc (Zac lb tR) <| jc (Zac lb .cB) <| jn <| JC.ret ?_
   obtain rfl := so hq2
   exact JQ.pre (Imp.slotS (s := 4) rfl Wk.clip) <| JQ.done (js := [0]) (ss := [.val (S (rL (rU UInt8)) v9), .val (S rB true)]) () (.inl rfl) (.nil rfl) rfl (.cons (.tmp rfl) (.cons (.tmp rfl) .nil)) rfl rfl rfl
 refine JC.region <| jmv rfl rfl <| lI hx2 fun v5 hv5 hx2 => jc (Zar lb tR .cI (cs hv5)) <| jmv rfl rfl <| jF (ov (S (rI .i64) n1)) rfl rfl rfl rfl (fun hq3 => ZaC lb tR) <| jF (ov (PTR gb3 0)) rfl rfl rfl rfl (fun hq_4 => ZaC lb tR) <| JL.sub ⟨[(0, ov (PTR gb3 0)), (1, ov (S (rI .i64) n1)), (13, ov (S rB v5)), (14, bif (!v5) then ov (S (rI .i64) n1) else .one .und), (15, bif (!v5) then ov (PTR gb3 0) else .one .und)], [cvar gb3 Zab r2], []⟩ (.cons rfl (.cons rfl (.cons rfl (.cons rfl (.cons rfl .nil))))) rfl rfl <| jF (ov (PTR gb3 0)) rfl rfl rfl rfl (fun hq_5 => Zap lb (HasO.cnd tR (notT (notF hq_5))) (fun e v h => by subst h; rfl)) <| jF (ov (PTR gb3 (0 + 0))) rfl rfl rfl rfl (fun hq_6 => Zaa (off := 0) lb ZeN (HasO.cnd tR (notT (notF hq_6)))) <| jF (ov (S (rL (rU UInt8)) r2.rest)) rfl rfl rfl rfl (fun hq_7 => Zam (j := 0) lb tS27 (HasO.cnd tR (notT (notF hq_7))) rfl (cT (ZbX r2) rfl) rfl rfl) ?_
 refine jF (ov (S (rI .i64) (List.length r2.rest : Int))) rfl rfl rfl rfl (fun hq_8 => ZaI lb tu27 (HasO.cnd tR (notT (notF hq_8)))) <| lI hx2 fun v6 hv6 hx2 => jF (ov (S rB v6)) rfl rfl rfl rfl (fun hq9 => Zar lb (HasO.cnd tR (notT (notF hq9))) (HasO.cnd tR (notT (notF hq9))) (cs hv6)) <| lI hx2 fun v7 hv7 hx2 => jc (Zas lb tR (fun hb10 => .cB) (fun hb10 => (HasO.cnd tR (notT hb10))) hv7) <| jc (Zac lb tR) <| JL.nil ?_
 try obtain rfl := so hx2
 exact JQ.join () (Imp.norm (js := [0]) rfl (.cons rfl (.cons rfl (.cons rfl .nil))))

theorem ZaD (k : Nat) (size1 : Int) (r2 : Zag) (gb3 : Nat) (r : UInt64 × Zag) (hm : Zay k size1 r2 = some r) : Sim Tryz.prog 53 [PTR gb3 0, S (rI .i64) size1] [cvar gb3 Zab r2] (γ := Unit) (fun q => [cvar gb3 Zab r.2]) (fun q => .one (.val (S (rU UInt64) r.1))) := by
 unfold Zay at hm
 refine Sim.of Tryz.func53 rfl rfl (lE rfl) (fun e0 w0 => ?_)
 refine JC.at ⟨[(0, ov (PTR gb3 0)), (1, ov (S (rI .i64) size1))], [cvar gb3 Zab r2], []⟩ <| jr <| jc (Zac lb (HasO.cU (x := (0 : UInt64)) rfl (by decide))) <| jn <| bI hm fun size8 hx1 hq1 => JC.seqJ (γ := Unit) (stj := fun _ => ⟨[(0, ov (PTR gb3 0)), (1, ov (S (rI .i64) size8))], [cvar gb3 Zab r2], []⟩) (fun _ => ?_) ?_
 · refine jr <| jmv rfl rfl <| jmv rfl rfl ?_
   obtain ⟨⟨v9, v10, x11⟩, hv9, hq1⟩ := Zaz hq1
   refine jx (Zak (js := [0]) ld cl90 (Zcf k size8 r2 gb3 (v9, v10, x11) hv9) .func (.cons tR (.cons tR .nil)) rfl) fun _ => jmv rfl rfl <| jc (Zaw (i := 0) lb tR rfl) <| jc (Zaw (i := 1) lb tR rfl) <| jc (Zac lb tR) <| jc (Zac lb tR) <| jn <| jr <| jmv rfl rfl ?_
   obtain ⟨⟨v12, v13⟩, hv12, hq1⟩ := Zaz hq1
   refine jx (Zak (js := []) ld cl91 (Zhp k v9 (v12, v13) hv12) .func (.cons tR .nil) rfl) fun _ => JL.sub ⟨[(23, .tup [.val (S (rU UInt64) v12), .val (S (rI .i64) v13)])], [cvar gb3 Zab x11], []⟩ (.cons rfl .nil) rfl rfl <| jmv rfl rfl <| jc (Zaw (i := 0) lb tR rfl) <| jc (Zaw (i := 1) lb tR rfl) <| jc (Zac lb tR) <| jc (Zac lb tR) <| jn <| jr <| jmv rfl rfl <| jc (Zac lb tR) <| jn <| JC.ret ?_
   obtain rfl := so hq1
   exact JQ.done (js := [0]) (ss := [.val (S (rU UInt64) v12)]) () (.inl rfl) (.nil rfl) rfl (.cons (.tmp rfl) .nil) rfl rfl rfl
 refine bI hx1 fun x7 hx2 hq2 => JC.seqJ (γ := Unit) (stj := fun _ => ⟨[(0, ov (PTR gb3 0)), (1, ov (S (rI .i64) size1)), (14, ov (S rB x7))], [cvar gb3 Zab r2], []⟩) (fun _ => ?_) ?_
 · refine jif tR hq2 (fun hc6 hq2 => ?_) (fun hc6 hq2 => ?_)
   · refine JC.region <| jc (Zac lb .cI) <| JL.nil ?_
     try obtain rfl := so hq2
     exact JQ.join () (Imp.norm (js := [0]) rfl (.cons rfl (.cons rfl .nil)))
   refine JC.skip ?_
   try obtain rfl := so hq2
   exact JQ.join () (Imp.norm (js := [0]) rfl (.cons rfl (.cons rfl .nil)))
 refine JC.region <| jmv rfl rfl <| lI hx2 fun v4 hv4 hx2 => jc (Zar lb tR .cI (cs hv4)) <| jmv rfl rfl <| jF (ov (S (rI .i64) size1)) rfl rfl rfl rfl (fun hq3 => ZaC lb tR) <| lI hx2 fun v5 hv5 hx2 => jF (ov (S rB v5)) rfl rfl rfl rfl (fun hq_4 => Zar lb (HasO.cnd tR (notT (notF hq_4))) .cI (cs hv5)) <| lI hx2 fun v6 hv6 hx2 => jc (Zas lb tR (fun hb5 => .cB) (fun hb5 => (HasO.cnd tR (notT hb5))) hv6) <| JL.nil ?_
 try obtain rfl := so hx2
 exact JQ.join () (Imp.norm (js := [0]) rfl (.cons rfl (.cons rfl (.cons rfl .nil))))

theorem ZdK (k : Nat) (Kind1 : Int) (From2 : Int) (To3 : Int) (ID4 : Zah) (Topic5 : (List UInt8)) (Past6 : (Vector UInt64 16)) (Past7 : (Vector UInt64 16)) (Seen8 : (Vector UInt64 16)) (Hash9 : (Vector UInt8 32)) (Reply10 : Bool) (x12 : Zag) (gb11 : Nat) (gb13 : Nat) (r : Int × Zag) (hm : ZbA k Kind1 From2 To3 ID4 Topic5 Past6 Past7 Seen8 Hash9 Reply10 x12 = some r) : Sim Tryz.prog 123 [PTR gb11 0] [zq32 gb11 gb13 Kind1 From2 To3 ID4 Topic5 Past6 Past7 Seen8 Hash9 Reply10, cvar gb13 Zab x12] (γ := Unit) (fun q => [zq32 gb11 gb13 Kind1 From2 To3 ID4 Topic5 Past6 Past7 Seen8 Hash9 Reply10, cvar gb13 Zab r.2]) (fun q => .one (.val (S (rI .i64) r.1))) := by
 unfold ZbA at hm
 refine Sim.of Tryz.func123 rfl rfl (lE rfl) (fun e0 w0 => ?_)
 refine JC.at ⟨[(0, ov (PTR gb11 0))], [zq32 gb11 gb13 Kind1 From2 To3 ID4 Topic5 Past6 Past7 Seen8 Hash9 Reply10, cvar gb13 Zab x12], []⟩ <| jr <| jc (Zac lb .cI) <| jn <| jr <| jmv rfl rfl <| jc (Zap lb tR (fun e v h => by subst h; rfl)) <| jc (Zaa (off := 0) lb Zb2 tR) <| jc (ZaJ (j := 0) lb tS87 tR rfl (Comp.trans (Comp.self (zq27 gb13) (zq31 Kind1 From2 To3 ID4 Topic5 Past6 Past7 Seen8 Hash9 Reply10)) (Comp.at' (Comp.inF (Comp.self (rW (PTR gb13 0)) ()) (lE rfl)) (by rfl : _ = 0)) (lE rfl))) ?_
 obtain ⟨⟨v14, x15⟩, hv14, hm⟩ := Zaz hm
 refine jx (Zak (js := [1]) ld cl53 (ZaD k (2 : Int) x12 gb13 (v14, x15) hv14) .func (.cons tR (.cons .cI .nil)) rfl) fun _ => lI hm fun v16 hv16 hm => jc (Zcn lb tu24 tu3 tR hv16) <| jc (Zac lb tR) <| jn <| JC.ret ?_
 obtain rfl := so hm
 exact JQ.done (js := [1, 0]) (ss := [.val (S (rI .i64) v16)]) () (.inl rfl) (.nil rfl) rfl (.cons (.tmp rfl) .nil) rfl rfl rfl

theorem ZcO (k : Nat) (r1 : Zag) (gb2 : Nat) (r : Zah × Zag) (hm : ZbD k r1 = some r) : Sim Tryz.prog 135 [PTR gb2 0] [cvar gb2 Zab r1] (γ := Unit) (fun q => [cvar gb2 Zab r.2]) (fun q => .one (.val (A Zae r.1))) := by
 unfold ZbD at hm
 refine Sim.of Tryz.func135 rfl rfl (lE rfl) (fun e0 w0 => ?_)
 refine JC.at ⟨[(0, ov (PTR gb2 0))], [cvar gb2 Zab r1], []⟩ <| jr <| jx (Za8 lb tZ26 zr26) fun gb3 => jn <| jr <| jmv rfl rfl ?_
 obtain ⟨⟨v4, v5, x6⟩, hv4, hm⟩ := Zaz hm
 refine jx (Zak (js := [0]) ld cl90 (Zcf k (9 : Int) r1 gb2 (v4, v5, x6) hv4) .func (.cons tR (.cons .cI .nil)) rfl) fun _ => jmv rfl rfl <| jc (Zaw (i := 0) lb tR rfl) <| jc (Zaw (i := 1) lb tR rfl) <| jc (Zac lb tR) <| jc (Zac lb tR) <| JL.sub ⟨[(2, ov (PTR gb3 0)), (3, ov (S (rL (rU UInt8)) v4))], [cvar gb2 Zab x6, cvar gb3 Zae (Zah.mk (0 : Int) (0 : UInt64))], []⟩ (.cons rfl (.cons rfl .nil)) rfl rfl <| jn <| jr <| jmv rfl rfl <| bI hm fun v7 hv7 hm => jx (Zak (js := []) ld cl52 (ZdH k v4 v7 hv7) .func (.cons tR .nil) rfl) (fun q => ?_)
 obtain ⟨gb8, go9, gc10⟩ := q
 refine jc (Zac lb tR) <| jn <| jr <| jmv rfl rfl ?_
 obtain ⟨⟨v11, x12⟩, hv11, hm⟩ := Zaz hm
 refine jx (Zak (js := [0, 0]) ld cl53 (ZcX k (1 : Int) true true v7 gb8 go9 gc10 (v11, x12) hv11) .func (.cons tR (.cons .cI .nil)) rfl) fun _ => lI hm fun v13 hv13 hm => jc (Zcn lb tu24 tu3 tR hv13) <| jmv rfl rfl ?_
 obtain ⟨⟨v14, x15⟩, hv14, hm⟩ := Zaz hm
 refine jx (Zak (js := [0]) ld cl53 (ZaD k (8 : Int) x12 gb8 (v14, x15) hv14) .func (.cons tR (.cons .cI .nil)) rfl) fun _ => JL.nrm ⟨[(2, ov (PTR gb3 0)), (15, ov (S (rI .i64) v13)), (17, ov (S (rU UInt64) v14))], [cvar gb2 Zab x6, cvar gb3 Zae (Zah.mk (0 : Int) (0 : UInt64))], []⟩ [2, 2] rfl (.cons rfl (.cons rfl (.cons rfl .nil))) rfl <| jc (Zbl lb tZ26 zs26 tp26 (.S (off := 0) rfl tR rfl ((UpdR.fst (UpdR.self (by rfl))).at (by rfl)) (.S (off := 1) rfl tR rfl ((UpdR.snd (UpdR.fst (UpdR.self (by rfl)))).at (by rfl)) .nil)) rfl) <| jc (ZaM (j := 1) tA26 tR tR rfl (UpdR.self (by rfl)) rfl) <| jn <| JC.ret ?_
 obtain rfl := so hm
 refine JQ.pre (Imp.var (j := 1) (q := Zae) (y := (Zah.mk v13 v14)) rfl (Wk.st Wk.refl)) ?_
 exact JQ.done (js := [0]) (ss := [.val (A Zae (Zah.mk v13 v14))]) () (.inl rfl) (.nil rfl) rfl (.cons (.cellA (j := 1) tA26 rfl rfl) .nil) rfl rfl rfl

theorem Zc4 (k : Nat) (n1 : Int) (r2 : Zag) (gb3 : Nat) (r : (List UInt8) × Zag) (hm : Zbu k n1 r2 = some r) : Sim Tryz.prog 128 [PTR gb3 0, S (rI .i64) n1] [cvar gb3 Zab r2] (γ := Unit) (fun q => [cvar gb3 Zab r.2]) (fun q => .one (.val (S (rL (rU UInt8)) r.1))) := by
 unfold Zbu at hm
 refine Sim.of Tryz.func128 rfl rfl (lE rfl) (fun e0 w0 => ?_)
 refine JC.at ⟨[(0, ov (PTR gb3 0)), (1, ov (S (rI .i64) n1))], [cvar gb3 Zab r2], []⟩ <| jr <| jc (Zac lb HasO.nilH) <| jn <| jr <| jmv rfl rfl <| jmv rfl rfl ?_
 obtain ⟨⟨v4, v5, x6⟩, hv4, hm⟩ := Zaz hm
 refine jx (Zak (js := [0]) ld cl90 (Zcf k n1 r2 gb3 (v4, v5, x6) hv4) .func (.cons tR (.cons tR .nil)) rfl) fun _ => jmv rfl rfl <| jc (Zaw (i := 0) lb tR rfl) <| jc (Zaw (i := 1) lb tR rfl) <| jc (Zac lb tR) <| jc (Zac lb tR) <| jn <| jr <| jmv rfl rfl <| JL.sub ⟨[(4, ov (HDR none 0 0 0)), (13, ov (S (rL (rU UInt8)) v4))], [cvar gb3 Zab x6], []⟩ (.cons rfl (.cons rfl .nil)) rfl rfl <| jc (Zac lb tR) <| jn <| JC.ret ?_
 obtain rfl := so hm
 exact JQ.done (js := [0]) (ss := [.val (S (rL (rU UInt8)) v4)]) () (.inl rfl) (.nil rfl) rfl (.cons (.tmp rfl) .nil) rfl rfl rfl

theorem Zbw (k : Nat) (r1 : Zag) (gb2 : Nat) (r : (List UInt8) × Zag) (hm : Za3 k r1 = some r) : Sim Tryz.prog 144 [PTR gb2 0] [cvar gb2 Zab r1] (γ := Unit) (fun q => [cvar gb2 Zab r.2]) (fun q => .one (.val (S (rL (rU UInt8)) r.1))) := by
 unfold Za3 at hm
 refine Sim.of Tryz.func144 rfl rfl (lE rfl) (fun e0 w0 => ?_)
 refine JC.at ⟨[(0, ov (PTR gb2 0))], [cvar gb2 Zab r1], []⟩ <| jr <| jc (Zac lb HasO.nilH) <| jn <| jr <| jmv rfl rfl <| jmv rfl rfl ?_
 obtain ⟨⟨v3, x4⟩, hv3, hm⟩ := Zaz hm
 refine jx (Zak (js := [0]) ld cl53 (ZaD k (2 : Int) r1 gb2 (v3, x4) hv3) .func (.cons tR (.cons .cI .nil)) rfl) fun _ => lI hm fun v5 hv5 hm => jc (Zcn lb tu24 tu3 tR hv5) ?_
 obtain ⟨⟨v6, x7⟩, hv6, hm⟩ := Zaz hm
 refine jx (Zak (js := [0]) ld Znz (Zc4 k v5 x4 gb2 (v6, x7) hv6) .func (.cons tR (.cons tR .nil)) rfl) fun _ => jc (Zac lb tR) <| jn <| JC.ret ?_
 obtain rfl := so hm
 exact JQ.done (js := [0]) (ss := [.val (S (rL (rU UInt8)) v6)]) () (.inl rfl) (.nil rfl) rfl (.cons (.tmp rfl) .nil) rfl rfl rfl

theorem ZfO (k : Nat) (Kind1 : Int) (From2 : Int) (To3 : Int) (ID4 : Zah) (Topic5 : (List UInt8)) (Past6 : (Vector UInt64 16)) (Past7 : (Vector UInt64 16)) (Seen8 : (Vector UInt64 16)) (Hash9 : (Vector UInt8 32)) (Reply10 : Bool) (x12 : Zag) (gb11 : Nat) (gb13 : Nat) (r : Zal × Zag) (hm : ZbJ k Kind1 From2 To3 ID4 Topic5 Past6 Past7 Seen8 Hash9 Reply10 x12 = some r) : Sim Tryz.prog 125 [PTR gb11 0] [zq32 gb11 gb13 Kind1 From2 To3 ID4 Topic5 Past6 Past7 Seen8 Hash9 Reply10, cvar gb13 Zab x12] (γ := Unit) (fun q => [zq32 gb11 gb13 Kind1 From2 To3 ID4 Topic5 Past6 Past7 Seen8 Hash9 Reply10, cvar gb13 Zab r.2]) (fun q => .one (.val (A Zaj r.1))) := by
 unfold ZbJ at hm
 refine Sim.of Tryz.func125 rfl rfl (lE rfl) (fun e0 w0 => ?_)
 refine JC.at ⟨[(0, ov (PTR gb11 0))], [zq32 gb11 gb13 Kind1 From2 To3 ID4 Topic5 Past6 Past7 Seen8 Hash9 Reply10, cvar gb13 Zab x12], []⟩ <| jr <| jx (Za8 lb tZ62 zr62) fun gb14 => jn <| JC.seq ?_
 obtain ⟨⟨v15, x16⟩, hv15, hm⟩ := Zaz hm
 obtain ⟨⟨v17, x18⟩, hv17, hm⟩ := Zaz hm
 obtain ⟨v19, hv19, hm⟩ := ZaT hm
 refine JC.anyF (base := [(0, ov (PTR gb11 0)), (2, ov (PTR gb14 0))])
     (fs := fun γ => [⟨some 4, ov (PTR gb11 0)⟩, ⟨some 5, ov (PTR gb11 0)⟩, ⟨some 6, ov (PTR gb11 (0 + 0))⟩, ⟨some 7, ov (PTR gb13 0)⟩, ⟨some 8, ov (A Zae v15)⟩, ⟨some 9, ov (PTR gb11 0)⟩, ⟨some 10, ov (PTR gb11 0)⟩, ⟨some 11, ov (PTR gb11 (0 + 0))⟩, ⟨some 12, ov (PTR gb13 0)⟩, ⟨some 13, ov (S (rU UInt64) v17)⟩, ⟨some 14, ov (S rB v19)⟩, ⟨some 15, ov (A zq35 (zq37 v15 v19))⟩, ⟨some 3, ov (PTR (γ 12 0) 0)⟩, ⟨none, .one .any⟩])
     (rs := fun γ => [⟨zq32 gb11 gb13 Kind1 From2 To3 ID4 Topic5 Past6 Past7 Seen8 Hash9 Reply10, none, none, [3, 8]⟩, ⟨cvar gb13 Zab x12, none, (some 4), []⟩, ⟨zq33 gb14, none, none, []⟩, ⟨cvar gb13 Zab x16, (some 4), (some 9), []⟩, ⟨cvar gb13 Zab x18, (some 9), none, []⟩, ⟨zq33 (γ 12 0), (some 12), (some 13), []⟩, ⟨cvar (γ 12 0) zq35 (zq37 v15 v19), (some 13), none, []⟩])
     (afts := [[], [], [], [], [], [], [], [], [], [], [], [], [12, 13], []]) (js := [0, 0, 0]) Zcj (.cons rfl (.cons rfl .nil)) (fun _ => rfl)
     (by
      refine db 1 0 <| dS 2 (fun γ ρ B hb hd => Zap lb (tl hd 0 4) (fun e v h => by subst h; rfl)) <| dS 3 (fun γ ρ B hb hd => Zaa (off := 0) lb Zb2 (tl hd 1 5)) <| dR 4 (fun γ ρ B hb hd => Zao.lk ⟨ρ, (zq32 gb11 gb13 Kind1 From2 To3 ID4 Topic5 Past6 Past7 Seen8 Hash9 Reply10) :: B, _⟩ (ZaJ (j := 0) lb tS87 (tl hd 2 6) rfl (Comp.trans (Comp.self (zq27 gb13) (zq31 Kind1 From2 To3 ID4 Topic5 Past6 Past7 Seen8 Hash9 Reply10)) (Comp.at' (Comp.inF (Comp.self (rW (PTR gb13 0)) ()) (lE rfl)) (by rfl : _ = 0)) (lE rfl)))) <| dR 5 (fun γ ρ B hb hd => Zao.at ⟨ρ, (cvar gb13 Zab x12) :: B, _⟩ (setO ⟨ρ, (cvar gb13 Zab x16) :: B, _⟩ _ _) ((Zak (js := [0]) ld Zll (ZcO k x12 gb13 (v15, x16) hv15) .func (.cons (tl hd 3 7) .nil) rfl).post (fun _ => Imp.refl))) ?_
      refine db 6 0 <| dS 7 (fun γ ρ B hb hd => Zap lb (tl hd 5 9) (fun e v h => by subst h; rfl)) <| dS 8 (fun γ ρ B hb hd => Zaa (off := 0) lb Zb2 (tl hd 6 10)) <| dR 9 (fun γ ρ B hb hd => Zao.lk ⟨ρ, (zq32 gb11 gb13 Kind1 From2 To3 ID4 Topic5 Past6 Past7 Seen8 Hash9 Reply10) :: B, _⟩ (ZaJ (j := 0) lb tS87 (tl hd 7 11) rfl (Comp.trans (Comp.self (zq27 gb13) (zq31 Kind1 From2 To3 ID4 Topic5 Past6 Past7 Seen8 Hash9 Reply10)) (Comp.at' (Comp.inF (Comp.self (rW (PTR gb13 0)) ()) (lE rfl)) (by rfl : _ = 0)) (lE rfl)))) <| dR 10 (fun γ ρ B hb hd => Zao.at ⟨ρ, (cvar gb13 Zab x16) :: B, _⟩ (setO ⟨ρ, (cvar gb13 Zab x18) :: B, _⟩ _ _) ((Zak (js := [0]) ld cl53 (ZaD k (1 : Int) x16 gb13 (v17, x18) hv17) .func (.cons (tl hd 8 12) (.cons .cI .nil)) rfl).post (fun _ => Imp.refl))) ?_
      refine dS 11 (fun γ ρ B hb hd => Zci lb (tl hd 9 13) (HasO.cU (x := (0 : UInt64)) rfl (by decide)) (cs hv19)) <| dS 12 (fun γ ρ B hb hd => Zbl lb tZ62 zs62 tp62 (.A (off := 0) rfl (tl hd 4 8) ((UpdR.fst (UpdR.self (by rfl))).at (by rfl)) (.S (off := 4) rfl (tl hd 10 14) rfl ((UpdR.snd (UpdR.snd (UpdR.fst (UpdR.self (by rfl))))).at (by rfl)) .nil)) rfl) ?_
      refine ZaF.cons (j := 13) rfl (fun _ => rfl) (.runX (fun _ _ => rfl) (fun γ ρ B hb hd => ⟨.none, OpX.ghost (γ := Nat) (st' := fun q => setO ⟨ρ, (zq33 q) :: B, _⟩ (some 3) (ov (PTR q 0))) (fun q c => q) (OpX.front (Za8 lb tZ62 zr62)) (fun q => Imp.refl)⟩) (fun _ _ => rfl) (fun _ _ => rfl)) ?_
      refine dR 14 (fun γ ρ B hb hd => Zao.at ⟨ρ, (zq33 (γ 12 0)) :: B, _⟩ (setO ⟨ρ, (cvar (γ 12 0) zq35 (zq37 v15 v19)) :: B, _⟩ _ _) (ZaM (j := 0) tA62 (tl hd 12 3) (tl hd 11 15) rfl (UpdR.self (by rfl)) rfl)) ?_
      exact ZaF.nil)
     (by decide +kernel) (fun _ => rfl) (fun _ => rfl) (fun _ => rfl) rfl
     (ρ' := fun γ => [(0, ov (PTR gb11 0)), (2, ov (PTR gb14 0)), (3, ov (PTR (γ 12 0) 0))])
     (X' := fun γ => [zq32 gb11 gb13 Kind1 From2 To3 ID4 Topic5 Past6 Past7 Seen8 Hash9 Reply10, zq33 gb14, cvar gb13 Zab x18, cvar (γ 12 0) zq35 (zq37 v15 v19)])
     (fun γ ρ hb hd => (.cons (hb 0 _ rfl) (.cons (hb 2 _ rfl) (.cons (hdq hd 12 3 rfl) .nil)))) (fun _ => rfl) (fun γ => ?_)
 generalize (γ 12 0) = gb20
 clear γ
 refine JQ.at ⟨[(0, ov (PTR gb11 0)), (2, ov (PTR gb14 0)), (3, ov (PTR gb20 0))], [zq32 gb11 gb13 Kind1 From2 To3 ID4 Topic5 Past6 Past7 Seen8 Hash9 Reply10, zq33 gb14, cvar gb13 Zab x18, cvar gb20 zq35 (zq37 v15 v19)], []⟩ <| JQ.then ?_
 obtain ⟨⟨i26, x27⟩, hx1, hq1⟩ := Zaz hm
 refine JC.seqJ (γ := Unit) (stj := fun _ => ⟨[(2, ov (PTR gb14 0)), (3, ov (PTR gb20 0))], [zq33 gb14, cvar gb20 Zaj i26, zq32 gb11 gb13 Kind1 From2 To3 ID4 Topic5 Past6 Past7 Seen8 Hash9 Reply10, cvar gb13 Zab x27], []⟩) (fun _ => ?_) ?_
 · refine jr <| jc (ZaB (j := 1) lb tA62 tR rfl (Comp.self Zaj i26) rfl) <| jc (ZaM (j := 0) tA62 tR tR rfl (UpdR.self (by rfl)) rfl) <| jn <| JC.ret ?_
   obtain rfl := so hq1
   exact JQ.done (js := [2, 2]) (ss := [.val (A Zaj i26)]) () (.inl rfl) (.nil rfl) rfl (.cons (.cellA (j := 0) tA62 rfl rfl) .nil) rfl rfl rfl
 refine jr <| jc (Zaa (off := 4) lb Zjm tR) <| jc (Zam (j := 3) lb tS4 tR rfl (Comp.trans (Comp.self zq35 (zq37 v15 v19)) (Comp.at' (Comp.inS (Comp.inS (Comp.inF (Comp.self rB v19) (lE rfl)))) (by rfl : _ = 4)) (lE rfl)) rfl rfl) <| lI hx1 fun v21 hv21 hx1 => jc (ZbU lb tR hv21) <| jn <| jif tR hx1 (fun hc2 hx1 => ?_) (fun hc2 hx1 => ?_)
 · obtain ⟨⟨v22, x23⟩, hv22, hx1⟩ := Zaz hx1
   obtain ⟨⟨v24, x25⟩, hv24, hx1⟩ := Zaz hx1
   refine JC.anyF (base := [(0, ov (PTR gb11 0)), (2, ov (PTR gb14 0)), (3, ov (PTR gb20 0))])
       (fs := fun γ => [⟨some 19, ov (PTR gb11 0)⟩, ⟨some 20, ov (PTR gb11 0)⟩, ⟨some 21, ov (PTR gb11 (0 + 0))⟩, ⟨some 22, ov (PTR gb13 0)⟩, ⟨some 23, ov (S (rL (rU UInt8)) v22)⟩, ⟨some 24, ov (S rS v22)⟩, ⟨some 25, ov (PTR gb11 0)⟩, ⟨some 26, ov (PTR gb11 0)⟩, ⟨some 27, ov (PTR gb11 (0 + 0))⟩, ⟨some 28, ov (PTR gb13 0)⟩, ⟨some 29, ov (S (rL (rU UInt8)) v24)⟩, ⟨some 30, ov (S rS v24)⟩, ⟨some 31, ov (A (rP rS (rP rS r0)) (v22, (v24, ())))⟩, ⟨some 32, ov (PTR gb20 (0 + 2))⟩, ⟨none, .one .any⟩])
       (rs := fun γ => [⟨zq32 gb11 gb13 Kind1 From2 To3 ID4 Topic5 Past6 Past7 Seen8 Hash9 Reply10, none, none, [3, 9]⟩, ⟨zq33 gb14, none, none, []⟩, ⟨cvar gb13 Zab x18, none, (some 4), []⟩, ⟨cvar gb20 zq35 (zq37 v15 v19), none, (some 14), []⟩, ⟨cvar gb13 Zab x23, (some 4), (some 10), []⟩, ⟨cvar gb13 Zab x25, (some 10), none, []⟩, ⟨cvar gb20 zq39 (v15, ((v22, (v24, ())), (v19, ()))), (some 14), none, []⟩])
       (afts := nn 15) (js := [0, 0, 0, 0]) Zcj (.cons rfl (.cons rfl (.cons rfl .nil))) (fun _ => rfl)
       (by
      refine db 1 0 <| dS 2 (fun γ ρ B hb hd => Zap lb (tl hd 0 19) (fun e v h => by subst h; rfl)) <| dS 3 (fun γ ρ B hb hd => Zaa (off := 0) lb Zb2 (tl hd 1 20)) <| dR 4 (fun γ ρ B hb hd => Zao.lk ⟨ρ, (zq32 gb11 gb13 Kind1 From2 To3 ID4 Topic5 Past6 Past7 Seen8 Hash9 Reply10) :: B, _⟩ (ZaJ (j := 0) lb tS87 (tl hd 2 21) rfl (Comp.trans (Comp.self (zq27 gb13) (zq31 Kind1 From2 To3 ID4 Topic5 Past6 Past7 Seen8 Hash9 Reply10)) (Comp.at' (Comp.inF (Comp.self (rW (PTR gb13 0)) ()) (lE rfl)) (by rfl : _ = 0)) (lE rfl)))) <| dR 5 (fun γ ρ B hb hd => Zao.at ⟨ρ, (cvar gb13 Zab x18) :: B, _⟩ (setO ⟨ρ, (cvar gb13 Zab x23) :: B, _⟩ _ _) ((Zak (js := [0]) ld Zjz (Zbw k x18 gb13 (v22, x23) hv22) .func (.cons (tl hd 3 22) .nil) rfl).post (fun _ => Imp.refl))) ?_
      refine dS 6 (fun γ ρ B hb hd => ZdD lb tu27 tu5 tu9 (tl hd 4 23)) <| db 7 0 <| dS 8 (fun γ ρ B hb hd => Zap lb (tl hd 6 25) (fun e v h => by subst h; rfl)) <| dS 9 (fun γ ρ B hb hd => Zaa (off := 0) lb Zb2 (tl hd 7 26)) <| dR 10 (fun γ ρ B hb hd => Zao.lk ⟨ρ, (zq32 gb11 gb13 Kind1 From2 To3 ID4 Topic5 Past6 Past7 Seen8 Hash9 Reply10) :: B, _⟩ (ZaJ (j := 0) lb tS87 (tl hd 8 27) rfl (Comp.trans (Comp.self (zq27 gb13) (zq31 Kind1 From2 To3 ID4 Topic5 Past6 Past7 Seen8 Hash9 Reply10)) (Comp.at' (Comp.inF (Comp.self (rW (PTR gb13 0)) ()) (lE rfl)) (by rfl : _ = 0)) (lE rfl)))) ?_
      refine dR 11 (fun γ ρ B hb hd => Zao.at ⟨ρ, (cvar gb13 Zab x23) :: B, _⟩ (setO ⟨ρ, (cvar gb13 Zab x25) :: B, _⟩ _ _) ((Zak (js := [0]) ld Zjz (Zbw k x23 gb13 (v24, x25) hv24) .func (.cons (tl hd 9 28) .nil) rfl).post (fun _ => Imp.refl))) <| dS 12 (fun γ ρ B hb hd => ZdD lb tu27 tu5 tu9 (tl hd 10 29)) <| dS 13 (fun γ ρ B hb hd => Zbl lb tZ60 zs60 tp60 (.S (off := 0) rfl (tl hd 5 24) rfl ((UpdR.fst (UpdR.self (by rfl))).at (by rfl)) (.S (off := 1) rfl (tl hd 11 30) rfl ((UpdR.snd (UpdR.fst (UpdR.self (by rfl)))).at (by rfl)) .nil)) rfl) <| dS 14 (fun γ ρ B hb hd => Zaa (off := 2) lb ZgH (.tmp (hb 3 _ rfl))) <| dR 15 (fun γ ρ B hb hd => Zao.at ⟨ρ, (cvar gb20 zq35 (zq37 v15 v19)) :: B, _⟩ (setO ⟨ρ, (cvar gb20 zq39 (v15, ((v22, (v24, ())), (v19, ())))) :: B, _⟩ _ _) (ZaM (j := 0) tA60 (tl hd 13 32) (tl hd 12 31) rfl ((UpdR.snd (UpdR.fst (UpdR.self (by rfl)))).at (by change (2 + 0) = (0 + 2); omega)) rfl)) ?_
      exact ZaF.nil)
       (by decide +kernel) (fun _ => rfl) (fun _ => rfl) (fun _ => rfl) rfl
       (ρ' := fun γ => [(2, ov (PTR gb14 0)), (3, ov (PTR gb20 0))])
       (X' := fun γ => [zq32 gb11 gb13 Kind1 From2 To3 ID4 Topic5 Past6 Past7 Seen8 Hash9 Reply10, zq33 gb14, cvar gb13 Zab x25, cvar gb20 zq39 (v15, ((v22, (v24, ())), (v19, ())))])
       (fun γ ρ hb hd => (.cons (hb 2 _ rfl) (.cons (hb 3 _ rfl) .nil))) (fun _ => rfl) (fun γ => ?_)
   refine JQ.at ⟨[(2, ov (PTR gb14 0)), (3, ov (PTR gb20 0))], [zq32 gb11 gb13 Kind1 From2 To3 ID4 Topic5 Past6 Past7 Seen8 Hash9 Reply10, zq33 gb14, cvar gb13 Zab x25, cvar gb20 zq39 (v15, ((v22, (v24, ())), (v19, ())))], []⟩ ?_
   have hz := Option.some.inj hx1
   replace hz := Prod.mk.inj hz
   obtain ⟨hz_a, hz⟩ := hz
   first | subst hz_a | clear hz_a
   first | subst hz | clear hz
   refine JQ.pre (Imp.var (j := 3) (q := Zaj) (y := (Zal.mk v15 (Zbs.mk v22 v24) v19)) rfl (Wk.st (Wk.pair Wk.refl (Wk.pair (Wk.st Wk.refl) (Wk.pair Wk.refl Wk.refl))))) ?_
   exact JQ.join () (Imp.norm (js := [1, 2, 0, 0]) rfl (.cons rfl (.cons rfl .nil)))
 refine JC.skip ?_
 have hz := Option.some.inj hx1
 replace hz := Prod.mk.inj hz
 obtain ⟨hz_a, hz⟩ := hz
 first | subst hz_a | clear hz_a
 first | subst hz | clear hz
 refine JQ.pre (Imp.var (j := 3) (q := Zaj) (y := (Zal.mk v15 ((Zal.mk (Zah.mk (0 : Int) (0 : UInt64)) (Zbs.mk ([] : (List UInt8)) ([] : (List UInt8))) false).Key) v19)) rfl (Wk.st Wk.refl)) ?_
 exact JQ.join () (Imp.norm (js := [1, 2, 0, 0]) rfl (.cons rfl (.cons rfl .nil)))

theorem Zfz (k : Nat) (n1 : Int) (r2 : Zag) (Kind4 : Int) (From5 : Int) (To6 : Int) (ID7 : Zah) (Topic8 : (List UInt8)) (Past9 : (Vector UInt64 16)) (Past10 : (Vector UInt64 16)) (Seen11 : (Vector UInt64 16)) (Hash12 : (Vector UInt8 32)) (Reply13 : Bool) (gb3 : Nat) (gb14 : Nat) (r : (List Zal) × Zag) (hm : frame_listapi_Item k n1 r2 Kind4 From5 To6 ID7 Topic8 Past9 Past10 Seen11 Hash12 Reply13 = some r) : Sim Tryz.prog 124 [PTR gb3 0, S (rI .i64) n1, BND 125 [PTR gb14 0]] [cvar gb3 Zab r2, zq32 gb14 gb3 Kind4 From5 To6 ID7 Topic8 Past9 Past10 Seen11 Hash12 Reply13] (γ := Option Nat × Nat) (fun q => [cown q.1 Zaj r.1 0 q.2, cvar gb3 Zab r.2, zq32 gb14 gb3 Kind4 From5 To6 ID7 Topic8 Past9 Past10 Seen11 Hash12 Reply13]) (fun q => .one (.val (HDR q.1 0 (List.length r.1) q.2))) := by
 unfold frame_listapi_Item at hm
 refine Sim.of Tryz.func124 rfl rfl (lE rfl) (fun e0 w0 => ?_)
 refine JC.at ⟨[(0, ov (PTR gb3 0)), (1, ov (S (rI .i64) n1)), (2, ov (BND 125 [PTR gb14 0]))], [cvar gb3 Zab r2, zq32 gb14 gb3 Kind4 From5 To6 ID7 Topic8 Past9 Past10 Seen11 Hash12 Reply13], []⟩ <| jr <| jc (Zac lb HasO.nilH) <| jn <| jr <| jc (Zac lb HasO.nilH) <| jn <| bI hm fun tv1 hx1 hq1 => JC.seqK (α := (List Zal) × Zag) (γ := Option Nat × Nat) (stj := fun v q => ⟨[(7, ov (HDR q.1 0 (List.length v.1) q.2))], [cown q.1 Zaj v.1 0 q.2, cvar gb3 Zab v.2, zq32 gb14 gb3 Kind4 From5 To6 ID7 Topic8 Past9 Past10 Seen11 Hash12 Reply13], []⟩) (p := fun v => tv1 = (.inl v)) (fun v q hv => ?_) ?_
 · subst hv
   obtain ⟨l32, x33⟩ := v
   obtain ⟨go34, gc35⟩ := q
   dsimp only at hq1
   refine JC.at ⟨[(7, ov (HDR go34 0 (List.length l32) gc35))], [cown go34 Zaj l32 0 gc35, cvar gb3 Zab x33, zq32 gb14 gb3 Kind4 From5 To6 ID7 Topic8 Past9 Past10 Seen11 Hash12 Reply13], []⟩ <| jr <| jmv rfl rfl <| jc (Zac lb tR) <| jn <| JC.ret ?_
   obtain rfl := so hq1
   exact JQ.done (js := [0, 0, 0]) (ss := [.val (HDR go34 0 (List.length l32) gc35)]) (go34, gc35) (.inl rfl) (.nil rfl) rfl (.cons (.tmp rfl) .nil) rfl rfl rfl
 refine jr <| jmv rfl rfl <| jc (ZaC lb .cI) <| jn <| JC.block <| bI hx1 fun tv2 hL2 hq2 => JC.pre (Imp.nilown Zaj) <| JC.pre ?_ (JC.loop (γ := Option Nat × Nat) (stf := fun s q => ⟨[(0, ov (PTR gb3 0)), (2, ov (BND 125 [PTR gb14 0])), (7, ov (HDR q.1 0 (List.length s.2.1) q.2)), (8, ov (S (rI .i64) n1)), (9, ov (S (rI .i64) s.2.2))], [cvar gb3 Zab s.1, zq32 gb14 gb3 Kind4 From5 To6 ID7 Topic8 Past9 Past10 Seen11 Hash12 Reply13, cown q.1 Zaj s.2.1 0 q.2], []⟩) (q := (none, 0)) hL2 ?_)
 · exact (Imp.norm (js := [0, 0, 0]) rfl (.cons rfl (.cons rfl (.cons rfl (.cons rfl (.cons rfl .nil))))))
 intro s q x hx hr
 obtain ⟨r15, l16, x17⟩ := s
 obtain ⟨go18, gc19⟩ := q
 change frame_listapi_Item.b1 k n1 Kind4 From5 To6 ID7 Topic8 Past9 Past10 Seen11 Hash12 Reply13 r15 l16 x17 = some x at hx
 unfold frame_listapi_Item.b1 at hx
 refine JC.at ⟨[(0, ov (PTR gb3 0)), (2, ov (BND 125 [PTR gb14 0])), (7, ov (HDR go18 0 (List.length l16) gc19)), (8, ov (S (rI .i64) n1)), (9, ov (S (rI .i64) x17))], [cvar gb3 Zab r15, zq32 gb14 gb3 Kind4 From5 To6 ID7 Topic8 Past9 Past10 Seen11 Hash12 Reply13, cown go18 Zaj l16 0 gc19], []⟩ <| jr <| lI hx fun v20 hv20 hx => jc (Zar lb tR tR (cs hv20)) <| jn <| JC.seq <| jif tR hx (fun hc3 hx => ?_) (fun hc3 hx => ?_)
 · refine JC.skip <| JQ.then <| JC.seq <| JC.block <| JC.seq <| jr <| jmv rfl rfl <| bI hx fun v21 hv21 hx => jx (Zak (js := [0]) ld ZiI (Za1 k r15 gb3 v21 hv21) .func (.cons tR .nil) rfl) fun _ => jn <| jif tR hx (fun hc4 hx => ?_) (fun hc4 hx => ?_)
   · refine jr <| jc (Zac lb HasO.nilH) <| jn <| JC.ret <| JQ.outR <| JQ.outRB <| JQ.outR ?_
     try obtain rfl := so hx
     try obtain rfl := hr _ rfl
     dsimp only at hq2
     refine JQ.outR <| JQ.outRB ?_
     try obtain rfl := so hq2
     dsimp only at hq1
     refine JQ.outR ?_
     obtain rfl := so hq1
     exact JQ.pre (Imp.nilown Zaj) <| JQ.done (js := [3, 0, 0]) (ss := [.val (HDR none 0 (List.length ([] : (List Zal))) (0))]) (none, 0) (.inl rfl) (.nil rfl) rfl (.cons (.tmp rfl) .nil) rfl rfl rfl
   refine JC.skip <| JQ.then <| JC.region <| jmv rfl rfl <| jmv rfl rfl ?_
   obtain ⟨⟨v22, x23⟩, hv22, hx⟩ := Zaz hx
   refine jx (Zhy (js := [1, 0]) ld Zn0 (ZfO k Kind4 From5 To6 ID7 Topic8 Past9 Past10 Seen11 Hash12 Reply13 r15 gb14 gb3 (v22, x23) hv22) tR .nil rfl) fun _ => jc (Zce (r := Zaj) lb tu23 tz62 tZ62 rfl (lE rfl) (.A tR .nil) rfl) <| bI hx fun l24 hv_l_24 hx => jx (Zbd (j := 2) lb tu23 tu23 rfl tB62 rfl (Nat.lt_of_lt_of_le Nat.zero_lt_one (lE rfl)) (Nat.lt_of_lt_of_le Nat.zero_lt_one (lE rfl))  rfl tR tR hv_l_24) (fun q => ?_)
   obtain ⟨go25, gc26⟩ := q
   refine JL.sub ⟨[(0, ov (PTR gb3 0)), (2, ov (BND 125 [PTR gb14 0])), (8, ov (S (rI .i64) n1)), (9, ov (S (rI .i64) x17)), (17, ov (HDR go25 0 (List.length l24) gc26))], [zq32 gb14 gb3 Kind4 From5 To6 ID7 Topic8 Past9 Past10 Seen11 Hash12 Reply13, cvar gb3 Zab x23, cown go25 Zaj l24 0 gc26], []⟩ (.cons rfl (.cons rfl (.cons rfl (.cons rfl (.cons rfl .nil))))) rfl rfl <| jc (Zac lb tR) <| JL.nil <| JQ.outNB <| JQ.then <| JC.region <| lI hx fun v27 hv27 hx => jc (ZaX lb tR .cI (cs hv27)) <| jmv rfl rfl <| JL.nil ?_
   try obtain rfl := so hx
   exact JQ.next (go25, gc26) rfl (Imp.norm (js := [1, 0, 0]) rfl (.cons rfl (.cons rfl (.cons rfl (.cons rfl (.cons rfl .nil))))))
 refine JC.exit <| JQ.outX ?_
 try obtain rfl := so hx
 try obtain rfl := hr _ rfl
 dsimp only at hq2
 refine JQ.outX <| JQ.here ?_
 try obtain rfl := so hq2
 exact JQ.joinK (l16, r15) (go18, gc19) rfl (Imp.norm (js := [2, 0, 0]) rfl (.cons rfl .nil))

end Go.Proofs.YtklnihlchhhhlaaGreat
