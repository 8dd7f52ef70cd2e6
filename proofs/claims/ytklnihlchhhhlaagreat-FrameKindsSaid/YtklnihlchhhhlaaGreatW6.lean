/- Walks. -/
import Derived.Test.YtklnihlchhhhlaaGreatT
import Derived.Test.YtklnihlchhhhlaaGreatW4
import Derived.Test.YtklnihlchhhhlaaGreatW5
namespace Go.Proofs.YtklnihlchhhhlaaGreat
open Go Fw
set_option linter.unusedVariables false
set_option maxRecDepth 100000
set_option maxHeartbeats 4000000

theorem ZiY (k : Nat) (r : (Vector UInt32 16)) (hm : crc_fours k = some r) : Sim Tryz.prog 141 [] [] (γ := Unit) (fun q => []) (fun q => .one (.val (A (rV 16 (rU UInt32)) r))) := by
 unfold crc_fours at hm
 refine Sim.of Tryz.func141 rfl rfl (lE rfl) (fun e0 w0 => ?_)
 refine JC.at ⟨[], [], []⟩ <| jr <| jx (Zbh lb Znh Znz) fun gb_1 => jn <| bI hm fun f_20 hx1 hq1 => JC.seqJ (γ := Unit) (stj := fun _ => ⟨[(0, ov (PTR gb_1 0))], [cvar gb_1 (rV 16 (rU UInt32)) f_20], []⟩) (fun _ => ?_) ?_
 · refine jr <| jc (Zaw (j := 0) lb Zl7 tR rfl (Comp.self (rV 16 (rU UInt32)) f_20) rfl) <| jc (ZaP (j := 0) Zl7 tR tR rfl (UpdR.self (by rfl)) rfl) <| jn <| JC.ret ?_
   obtain rfl := so hq1
   exact JQ.done (js := []) (ss := [.val (A (rV 16 (rU UInt32)) f_20)]) () (.inl rfl) (.nil rfl) rfl (.cons (.cellA (j := 0) Zl7 rfl rfl) .nil) rfl rfl rfl
 refine jr <| jc (Zax lb (HasO.cU (x := (0 : UInt32)) rfl (by decide))) <| jn <| JC.block <| JC.pre ?_ (JC.loop (γ := Unit) (stf := fun s q => ⟨[(0, ov (PTR gb_1 0)), (3, ov (S (rU UInt32) s.2))], [cvar gb_1 (rV 16 (rU UInt32)) s.1], []⟩) (q := ()) hx1 ?_)
 · exact (Imp.norm (js := [0]) rfl (.cons rfl (.cons rfl .nil)))
 intro s q x hx hr
 obtain ⟨f_2, x_3⟩ := s
 obtain _ := q
 change crc_fours.b1 k f_2 x_3 = some x at hx
 unfold crc_fours.b1 at hx
 refine JC.at ⟨[(0, ov (PTR gb_1 0)), (3, ov (S (rU UInt32) x_3))], [cvar gb_1 (rV 16 (rU UInt32)) f_2], []⟩ <| jr <| lI hx fun v4 hv_4 hx => jc (ZbH lb tR (HasO.cU (x := (16 : UInt32)) rfl (by decide)) (cs hv_4)) <| jn <| JC.seq <| jif tR hx (fun hc3 hx => ?_) (fun hc3 hx => ?_)
 · refine JC.skip <| JQ.then <| bI hx fun f_18 hx4 hq4 => JC.seqJ (γ := Unit) (stj := fun _ => ⟨[(0, ov (PTR gb_1 0)), (3, ov (S (rU UInt32) x_3))], [cvar gb_1 (rV 16 (rU UInt32)) f_18], []⟩) (fun _ => ?_) ?_
   · refine JC.region <| lI hq4 fun v19 hv_19 hq4 => jc (Zfb lb tR (HasO.cU (x := (1 : UInt32)) rfl (by decide)) (cs hv_19)) <| jmv rfl rfl <| JL.nil ?_
     try obtain rfl := so hq4
     exact JQ.next () rfl (Imp.norm (js := [0]) rfl (.cons rfl (.cons rfl .nil)))
   refine JC.block <| jr <| jmv rfl rfl <| jc (Zab lb tR) <| jn <| jr <| jmv rfl rfl <| jc (Zab lb tR) <| jn <| bI hx4 fun x_15 hx5 hq5 => JC.seqJ (γ := Unit) (stj := fun _ => ⟨[(0, ov (PTR gb_1 0)), (1, ov (S (rU UInt32) x_3)), (2, ov (S (rU UInt32) x_15)), (3, ov (S (rU UInt32) x_3))], [cvar gb_1 (rV 16 (rU UInt32)) f_2], []⟩) (fun _ => ?_) ?_
   · refine JC.region <| jmv rfl rfl <| jmv rfl rfl <| bI hq5 fun i_16 hv_i_16 hq5 => jc (ZeU lb Zmv tR tR hv_i_16) <| lI hq5 fun f_17 hv_f_17 hq5 => jc (ZbX (j := 0) tS84 tR tR rfl rfl (Upd.at (Comp.self (rV 16 (rU UInt32)) f_2) i_16.2 rfl (Upd.self (rV 16 (rU UInt32)) f_2 _)).R hv_f_17) <| JL.nil <| JQ.outNB ?_
     try obtain rfl := so hq5
     exact JQ.join () (Imp.norm (js := [0]) rfl (.cons rfl (.cons rfl .nil)))
   refine jr <| jc (Zax lb .cI) <| jn <| JC.block <| JC.pre ?_ (JC.loop (γ := Unit) (stf := fun s q => ⟨[(0, ov (PTR gb_1 0)), (1, ov (S (rU UInt32) x_3)), (2, ov (S (rU UInt32) s.1)), (3, ov (S (rU UInt32) x_3)), (7, ov (S (rI .i64) s.2))], [cvar gb_1 (rV 16 (rU UInt32)) f_2], []⟩) (q := ()) hx5 ?_)
   · exact (Imp.norm (js := [0]) rfl (.cons rfl (.cons rfl (.cons rfl (.cons rfl (.cons rfl .nil))))))
   intro s q x hx hr
   obtain ⟨x_5, x_6⟩ := s
   obtain _ := q
   change crc_fours.b2 k x_5 x_6 = some x at hx
   unfold crc_fours.b2 at hx
   refine JC.at ⟨[(0, ov (PTR gb_1 0)), (1, ov (S (rU UInt32) x_3)), (2, ov (S (rU UInt32) x_5)), (3, ov (S (rU UInt32) x_3)), (7, ov (S (rI .i64) x_6))], [cvar gb_1 (rV 16 (rU UInt32)) f_2], []⟩ <| jr <| lI hx fun v7 hv_7 hx => jc (Zaq lb tR .cI (cs hv_7)) <| jn <| JC.seq <| jif tR hx (fun hc7 hx => ?_) (fun hc7 hx => ?_)
   · refine JC.skip <| JQ.then <| bI hx fun x_13 hx8 hq8 => JC.seqJ (γ := Unit) (stj := fun _ => ⟨[(0, ov (PTR gb_1 0)), (1, ov (S (rU UInt32) x_3)), (2, ov (S (rU UInt32) x_13)), (3, ov (S (rU UInt32) x_3)), (7, ov (S (rI .i64) x_6))], [cvar gb_1 (rV 16 (rU UInt32)) f_2], []⟩) (fun _ => ?_) ?_
     · refine JC.region <| lI hq8 fun v14 hv_14 hq8 => jc (ZaY lb tR .cI (cs hv_14)) <| jmv rfl rfl <| JL.nil ?_
       try obtain rfl := so hq8
       exact JQ.next () rfl (Imp.norm (js := [0]) rfl (.cons rfl (.cons rfl (.cons rfl (.cons rfl (.cons rfl .nil))))))
     refine JC.block <| jr <| jmv rfl rfl <| lI hx8 fun v8 hv_8 hx8 => jc (Zfb lb tR (HasO.cU (x := (1 : UInt32)) rfl (by decide)) (cs hv_8)) <| lI hx8 fun v9 hv_9 hx8 => jc (ZbH lb tR (HasO.cU (x := (1 : UInt32)) rfl (by decide)) (cs hv_9)) <| jn <| jif tR hx8 (fun hc9 hx8 => ?_) (fun hc9 hx8 => ?_)
     · refine JC.region <| jmv rfl rfl <| lI hx8 fun v10 hv_10 hx8 => jc (Zht lb tR (HasO.cU (x := (1 : UInt64)) rfl (by decide)) hv_10) <| lI hx8 fun v11 hv_11 hx8 => jc (Zfb lb tR (HasO.cU (x := (2197175160 : UInt32)) rfl (by decide)) (cs hv_11)) <| jc (Zab lb tR) <| JL.nil <| JQ.outNB ?_
       try obtain rfl := so hx8
       exact JQ.join () (Imp.norm (js := [0]) rfl (.cons rfl (.cons rfl (.cons rfl (.cons rfl (.cons rfl .nil))))))
     refine JC.region <| jmv rfl rfl <| lI hx8 fun v12 hv_12 hx8 => jc (Zht lb tR (HasO.cU (x := (1 : UInt64)) rfl (by decide)) hv_12) <| jc (Zab lb tR) <| JL.nil <| JQ.outNB ?_
     try obtain rfl := so hx8
     exact JQ.join () (Imp.norm (js := [0]) rfl (.cons rfl (.cons rfl (.cons rfl (.cons rfl (.cons rfl .nil))))))
   refine JC.exit <| JQ.outX ?_
   try obtain rfl := so hx
   have ht := hr _ rfl
   have hq6 := cs ht
   clear hr ht
   refine JQ.outX <| JQ.here ?_
   try obtain rfl := so hq6
   exact JQ.join () (Imp.norm (js := [0]) rfl (.cons rfl (.cons rfl (.cons rfl (.cons rfl .nil)))))
 refine JC.exit <| JQ.outX ?_
 try obtain rfl := so hx
 have ht := hr _ rfl
 have hq2 := cs ht
 clear hr ht
 refine JQ.outX <| JQ.here ?_
 try obtain rfl := so hq2
 exact JQ.join () (Imp.norm (js := [0]) rfl (.cons rfl .nil))

theorem ZjM (k : Nat) (was_1 : UInt32) (b_2 : (List UInt8)) (r : UInt32) (hm : crc_sum k was_1 b_2 = some r) : Sim Tryz.prog 115 [S (rU UInt32) was_1, S (rL (rU UInt8)) b_2] [] (γ := Unit) (fun q => []) (fun q => .one (.val (S (rU UInt32) r))) := by
 unfold crc_sum at hm
 refine Sim.of Tryz.func115 rfl rfl (lE rfl) (fun e0 w0 => ?_)
 refine JC.at ⟨[(0, ov (S (rU UInt32) was_1)), (1, ov (S (rL (rU UInt8)) b_2))], [], []⟩ <| jr <| jc (Zab lb (HasO.cU (x := (0 : UInt32)) rfl (by decide))) <| jn <| jr <| bI hm fun v3 hv_3 hm => jx (Zak (js := []) ld ZnX (ZiY k v3 hv_3) .func .nil rfl) fun _ => jmv rfl rfl <| lI hm fun v4 hv_4 hm => jc (Zmj lb tR hv_4) <| jx (Zbh lb Znh Znz) fun gb_5 => jc (ZaP (j := 0) Zl7 tR tR rfl (UpdR.self (by rfl)) rfl) <| jc (Zab lb tR) <| jn ?_
 refine bI hm fun x_23 hx1 hq1 => JC.seqJ (γ := Unit) (stj := fun _ => ⟨[(6, ov (S (rU UInt32) x_23))], [], []⟩) (fun _ => ?_) ?_
 · refine jr <| jmv rfl rfl <| lI hq1 fun v24 hv_24 hq1 => jc (Zmj lb tR hv_24) <| jc (Zab lb tR) <| jn <| JC.ret ?_
   obtain rfl := so hq1
   exact jd (.val (S (rU UInt32) v24)) rfl rfl rfl rfl rfl rfl
 refine jr <| jmv rfl rfl <| JL.sub ⟨[(5, ov (PTR gb_5 0)), (6, ov (S (rU UInt32) v4)), (12, ov (S (rL (rU UInt8)) b_2))], [cvar gb_5 (rV 16 (rU UInt32)) v3], []⟩ (.cons rfl (.cons rfl (.cons rfl .nil))) rfl rfl <| jc (ZaE lb tu27 tR) <| jc (Zax lb .cI) <| jn <| JC.block <| JC.pre ?_ (JC.loop (γ := Unit) (stf := fun s q => ⟨[(5, ov (PTR gb_5 0)), (6, ov (S (rU UInt32) s.1)), (12, ov (S (rL (rU UInt8)) b_2)), (13, ov (S (rI .i64) (List.length b_2 : Int))), (14, ov (S (rI .i64) s.2))], [cvar gb_5 (rV 16 (rU UInt32)) v3], []⟩) (q := ()) hx1 ?_)
 · exact (Imp.norm (js := [0]) rfl (.cons rfl (.cons rfl (.cons rfl (.cons rfl (.cons rfl .nil))))))
 intro s q x hx hr
 obtain ⟨x_6, x_7⟩ := s
 obtain _ := q
 change crc_sum.b1 k b_2 v3 x_6 x_7 = some x at hx
 unfold crc_sum.b1 at hx
 refine JC.at ⟨[(5, ov (PTR gb_5 0)), (6, ov (S (rU UInt32) x_6)), (12, ov (S (rL (rU UInt8)) b_2)), (13, ov (S (rI .i64) (List.length b_2 : Int))), (14, ov (S (rI .i64) x_7))], [cvar gb_5 (rV 16 (rU UInt32)) v3], []⟩ <| jr <| lI hx fun v8 hv_8 hx => jc (Zaq lb tR tR (cs hv_8)) <| jn <| JC.seq <| jif tR hx (fun hc3 hx => ?_) (fun hc3 hx => ?_)
 · refine JC.skip <| JQ.then <| JC.seq <| JC.block <| jr <| bI hx fun v9 hv_9 hx => jc (Zau lb tu27 tz5 tR tR hv_9) <| jc (Zbe lb tS5 rfl tR rfl) <| jc (Zab lb tR) <| jn <| jr <| jmv rfl rfl <| jmv rfl rfl <| lI hx fun v10 hv_10 hx => jc (ZgE lb tu5 tu84 tR hv_10) <| lI hx fun v11 hv_11 hx => jc (Zfb lb tR tR (cs hv_11)) <| jc (Zab lb tR) <| jn <| jr <| jmv rfl rfl ?_
   refine lI hx fun v12 hv_12 hx => jc (Zfb lb tR (HasO.cU (x := (15 : UInt32)) rfl (by decide)) (cs hv_12)) <| bI hx fun i_13 hv_i_13 hx => jc (ZeU lb Zmv tR tR hv_i_13) <| JL.sub ⟨[(5, ov (PTR gb_5 0)), (6, ov (S (rU UInt32) v11)), (12, ov (S (rL (rU UInt8)) b_2)), (13, ov (S (rI .i64) (List.length b_2 : Int))), (14, ov (S (rI .i64) x_7)), (24, ov (PTR gb_5 (0 + i_13.1 * 1)))], [cvar gb_5 (rV 16 (rU UInt32)) v3], []⟩ (.cons rfl (.cons rfl (.cons rfl (.cons rfl (.cons rfl (.cons rfl .nil)))))) rfl rfl <| lI hx fun v14 hv_14 hx => jc (Zai (j := 0) lb tS84 tR rfl (Comp.at (Comp.self (rV 16 (rU UInt32)) v3) i_13.2 rfl) rfl hv_14) <| jmv rfl rfl <| lI hx fun v15 hv_15 hx => jc (Zht lb tR (HasO.cU (x := (4 : UInt64)) rfl (by decide)) hv_15) ?_
   refine lI hx fun v16 hv_16 hx => jc (Zfb lb tR tR (cs hv_16)) <| jc (Zab lb tR) <| jn <| JC.region <| jmv rfl rfl <| lI hx fun v17 hv_17 hx => jc (Zfb lb tR (HasO.cU (x := (15 : UInt32)) rfl (by decide)) (cs hv_17)) <| bI hx fun i_18 hv_i_18 hx => jc (ZeU lb Zmv tR tR hv_i_18) <| lI hx fun v19 hv_19 hx => jc (Zai (j := 0) lb tS84 tR rfl (Comp.at (Comp.self (rV 16 (rU UInt32)) v3) i_18.2 rfl) rfl hv_19) <| jmv rfl rfl ?_
   obtain ⟨v20, hv_20, hx⟩ := ZaQ hx
   refine jc (Zht lb tR (HasO.cU (x := (4 : UInt64)) rfl (by decide)) hv_20) <| lI hx fun v21 hv_21 hx => jc (Zfb lb tR tR (cs hv_21)) <| JL.sub ⟨[(5, ov (PTR gb_5 0)), (6, ov (S (rU UInt32) v16)), (12, ov (S (rL (rU UInt8)) b_2)), (13, ov (S (rI .i64) (List.length b_2 : Int))), (14, ov (S (rI .i64) x_7)), (35, ov (S (rU UInt32) v21))], [cvar gb_5 (rV 16 (rU UInt32)) v3], []⟩ (.cons rfl (.cons rfl (.cons rfl (.cons rfl (.cons rfl (.cons rfl .nil)))))) rfl rfl <| jc (Zab lb tR) <| JL.nil <| JQ.outNB <| JQ.then <| JC.region <| lI hx fun v22 hv_22 hx => jc (ZaY lb tR .cI (cs hv_22)) <| jmv rfl rfl <| JL.nil ?_
   try obtain rfl := so hx
   exact JQ.next () rfl (Imp.norm (js := [0]) rfl (.cons rfl (.cons rfl (.cons rfl (.cons rfl (.cons rfl .nil))))))
 refine JC.exit <| JQ.outX ?_
 try obtain rfl := so hx
 have ht := hr _ rfl
 have hq2 := cs ht
 clear hr ht
 refine JQ.outX <| JQ.here ?_
 try obtain rfl := so hq2
 exact jo rfl rfl rfl

theorem ZjF (k : Nat) (l_1 : (List (List UInt8))) (r : UInt32) (hm : crc_Sum k l_1 = some r) : Sim Tryz.prog 80 [S (rL (rL (rU UInt8))) l_1] [] (γ := Unit) (fun q => []) (fun q => .one (.val (S (rU UInt32) r))) := by
 unfold crc_Sum at hm
 refine Sim.of Tryz.func80 rfl rfl (lE rfl) (fun e0 w0 => ?_)
 refine JC.at ⟨[(0, ov (S (rL (rL (rU UInt8))) l_1))], [], []⟩ <| jr <| jc (Zab lb (HasO.cU (x := (0 : UInt32)) rfl (by decide))) <| jn <| bI hm fun s_8 hx1 hq1 => JC.seqJ (γ := Unit) (stj := fun _ => ⟨[(2, ov (S (rU UInt32) s_8))], [], []⟩) (fun _ => ?_) ?_
 · refine jr <| jmv rfl rfl <| jc (Zab lb tR) <| jn <| JC.ret ?_
   obtain rfl := so hq1
   exact jd (.val (S (rU UInt32) s_8)) rfl rfl rfl rfl rfl rfl
 refine jr <| jmv rfl rfl <| jc (ZaE lb tu77 tR) <| jc (Zax lb .cI) <| jn <| JC.block <| JC.pre ?_ (JC.loop (γ := Unit) (stf := fun s q => ⟨[(2, ov (S (rU UInt32) s.1)), (5, ov (S (rL (rL (rU UInt8))) l_1)), (6, ov (S (rI .i64) (List.length l_1 : Int))), (7, ov (S (rI .i64) s.2))], [], []⟩) (q := ()) hx1 ?_)
 · exact (Imp.norm (js := []) rfl (.cons rfl (.cons rfl (.cons rfl (.cons rfl .nil)))))
 intro s q x hx hr
 obtain ⟨s_2, x_3⟩ := s
 obtain _ := q
 change crc_Sum.b1 k l_1 s_2 x_3 = some x at hx
 unfold crc_Sum.b1 at hx
 refine JC.at ⟨[(2, ov (S (rU UInt32) s_2)), (5, ov (S (rL (rL (rU UInt8))) l_1)), (6, ov (S (rI .i64) (List.length l_1 : Int))), (7, ov (S (rI .i64) x_3))], [], []⟩ <| jr <| lI hx fun v4 hv_4 hx => jc (Zaq lb tR tR (cs hv_4)) <| jn <| JC.seq <| jif tR hx (fun hc3 hx => ?_) (fun hc3 hx => ?_)
 · refine JC.skip <| JQ.then <| JC.seq <| JC.block <| jr <| bI hx fun v5 hv_5 hx => jc (Zau lb tu77 tz27 tR tR hv_5) <| jc (Zbe lb tS27 rfl tR rfl) <| jc (Zab lb tR) <| jn <| JC.region <| jmv rfl rfl <| jmv rfl rfl <| bI hx fun v6 hv_6 hx => jx (Zak (js := []) ld Zn5 (ZjM k s_2 v5 v6 hv_6) .func (.cons tR (.cons tR .nil)) rfl) fun _ => jc (Zab lb tR) <| JL.nil <| JQ.outNB ?_
   refine JQ.then <| JC.region <| lI hx fun v7 hv_7 hx => jc (ZaY lb tR .cI (cs hv_7)) <| jmv rfl rfl <| JL.nil ?_
   try obtain rfl := so hx
   exact JQ.next () rfl (Imp.norm (js := []) rfl (.cons rfl (.cons rfl (.cons rfl (.cons rfl .nil)))))
 refine JC.exit <| JQ.outX ?_
 try obtain rfl := so hx
 have ht := hr _ rfl
 have hq2 := cs ht
 clear hr ht
 refine JQ.outX <| JQ.here ?_
 try obtain rfl := so hq2
 exact jo rfl rfl rfl

theorem ZfH (k : Nat) (b_1 : (List UInt8)) (v2 : Int) (x_4 : (List UInt8)) (gb_3 : Nat) (go_5 : Option Nat) (gc_6 : Nat) (r : (List UInt8)) (hm : ZbC k b_1 v2 x_4 = some r) : Sim Tryz.prog 78 [PTR gb_3 0, S (rL (rU UInt8)) b_1, S (rI .i64) v2] [cvar gb_3 (zq23 go_5 x_4 gc_6) ((), ()), cown go_5 (rU UInt8) x_4 (List.length x_4) gc_6] (γ := Option Nat × Nat) (fun q => [cvar gb_3 (rP (rW (HDR q.1 0 (List.length r) q.2)) r0) ((), ()), cown q.1 (rU UInt8) r (List.length r) q.2]) (fun q => .tup []) := by
 unfold ZbC at hm
 refine Sim.of Tryz.func78 rfl rfl (lE rfl) (fun e0 w0 => ?_)
 refine JC.at ⟨[(0, ov (PTR gb_3 0)), (1, ov (S (rL (rU UInt8)) b_1)), (2, ov (S (rI .i64) v2))], [cvar gb_3 (zq23 go_5 x_4 gc_6) ((), ()), cown go_5 (rU UInt8) x_4 (List.length x_4) gc_6], []⟩ <| JC.region <| jmv rfl rfl <| jmv rfl rfl <| jc (Zas lb tR (fun e v h => by subst h; rfl)) <| jc (Zaa (off := 0) lb ZcB tR) <| jc (ZaM (j := 0) lb tS27 tR rfl (Comp.trans (Comp.self (zq23 go_5 x_4 gc_6) ((), ())) (Comp.at' (Comp.inF (Comp.self (rW (HDR go_5 0 (List.length x_4) gc_6)) ()) (lE rfl)) (by rfl : _ = 0)) (lE rfl))) <| jmv rfl rfl <| bI hm fun x_7 hv_x_7 hm => jx (Zbp (j := 1) lb tu27 tu27 rfl tB5 rfl (Nat.lt_of_lt_of_le Nat.zero_lt_one (lE rfl)) (Nat.lt_of_lt_of_le Nat.zero_lt_one (lE rfl))  rfl tR tR hv_x_7) (fun q => ?_)
 obtain ⟨go_8, gc_9⟩ := q
 refine jc (Zas lb tR (fun e v h => by subst h; rfl)) <| jc (Zaa (off := 0) lb ZcB tR) <| jc (ZbD (j := 0) tS27 tR tR rfl ((UpdR.fst (UpdR.self (by rfl))).at (by change 0 = (0 + 0); omega)) rfl) <| JL.sub ⟨[], [cvar gb_3 (zq23 go_8 x_7 gc_9) ((), ()), cown go_8 (rU UInt8) x_7 (List.length x_4) gc_9], []⟩ .nil rfl rfl <| JL.nil ?_
 obtain rfl := so hm
 exact JQ.pre (Imp.frz (j := 1) rfl ImpK.refl) <| JQ.done (js := [0, 0]) (ss := []) (go_8, gc_9) (.inr rfl) (.nil rfl) rfl .nil rfl rfl rfl

theorem Zfd (k : Nat) (f_1 : Zah) (r : (List UInt8)) (hm : Zct k f_1 = some r) : Sim Tryz.prog 27 [A Zae f_1] [] (γ := Option Nat × Nat) (fun q => [cown q.1 (rU UInt8) r (List.length r) q.2]) (fun q => .one (.val (HDR q.1 0 (List.length r) q.2))) := by
 unfold Zct at hm
 refine Sim.of Tryz.func27 rfl rfl (lE rfl) (fun e0 w0 => ?_)
 refine JC.at ⟨[(0, ov (A Zae f_1))], [], []⟩ <| jr <| jx (ZaX lb tR) fun gb_2 => jc (Zab lb HasO.nilH) <| jn <| jr <| jc (Zaa (off := 0) lb Zeu tR) <| jc (Zai (j := 0) lb tS22 tR rfl (cT (ZaS f_1) rfl) rfl rfl) <| lI hm fun v3 hv_3 hm => jc (ZcN lb tu22 tu5 tR hv_3) <| jc (Zaa (off := 1) lb Zgb tR) <| jc (Zai (j := 0) lb tS3 tR rfl (cT (Za5 f_1) rfl) rfl rfl) <| lI hm fun v4 hv_4 hm => jc (ZcN lb tu3 tu5 tR hv_4) <| jc (Zaa (off := 2) lb Zf9 tR) <| jc (Zai (j := 0) lb tS3 tR rfl (cT (Zbj f_1) rfl) rfl rfl) <| JL.sub ⟨[(1, ov (PTR gb_2 0)), (6, ov (S (rU UInt8) v3)), (9, ov (S (rU UInt8) v4)), (11, ov (S (rI .i64) f_1.To))], [cvar gb_2 Zae f_1], []⟩ (.cons rfl (.cons rfl (.cons rfl (.cons rfl .nil)))) rfl rfl ?_
 refine lI hm fun v5 hv_5 hm => jc (ZcN lb tu3 tu5 tR hv_5) <| jx (ZgH (r := (rU UInt8)) lb tu27 tz5 tZ5 rfl (lE rfl) (.S rfl tR (.S rfl tR (.S rfl tR .nil))) rfl) fun gb_6 => jc (Za9 lb Zoe Zob Zog (.S (off := 0) (s := rW (HDR (some gb_6) 0 (List.length ([v3, v4, v5] : (List UInt8))) (3))) (u := ()) rfl (HasO.wk (q := S (rW (HDR (some gb_6) 0 (List.length ([v3, v4, v5] : (List UInt8))) (3))) ()) tR wkV) rfl ((UpdR.fst (UpdR.self (by rfl))).at (by rfl)) .nil) rfl) <| jx (ZaX lb tR) fun gb_7 => jc (Zab lb tR) <| jn <| bI hm fun b_14 hx1 hq1 => JC.seqJ (γ := Option Nat × Nat) (stj := fun q => ⟨[(3, ov (PTR gb_7 0))], [cvar gb_7 (rP (rW (HDR q.1 0 (List.length b_14) q.2)) r0) ((), ()), cown q.1 (rU UInt8) b_14 0 q.2], []⟩) (fun q => ?_) ?_
 · obtain ⟨go_15, gc_16⟩ := q
   refine JC.at ⟨[(3, ov (PTR gb_7 0))], [cvar gb_7 (zq23 go_15 b_14 gc_16) ((), ()), cown go_15 (rU UInt8) b_14 0 gc_16], []⟩ <| jr <| jmv rfl rfl <| jmv rfl rfl <| jc (Zas lb tR (fun e v h => by subst h; rfl)) <| jc (Zaa (off := 0) lb ZcB tR) <| jc (ZaM (j := 0) lb tS27 tR rfl (Comp.trans (Comp.self (zq23 go_15 b_14 gc_16) ((), ())) (Comp.at' (Comp.inF (Comp.self (rW (HDR go_15 0 (List.length b_14) gc_16)) ()) (lE rfl)) (by rfl : _ = 0)) (lE rfl))) <| JL.pre (Imp.frz (j := 1) rfl (ImpK.slotH (s := 28) rfl (ImpK.var (j := 0) (q := (zq24 go_15 b_14 gc_16)) (y := ((), ())) rfl (Wk.pair Wk.own Wk.refl) ImpK.refl))) <| jc (Zca (r := (rL (rU UInt8))) lb tu77 tz27 tZ27 rfl (lE rfl) (.S rfl (HasO.wk tR wkHL) .nil) rfl) <| bI hq1 fun v17 hv_17 hq1 => jx (Zak (js := []) ld cl80 (ZjF k ([b_14] : (List (List UInt8))) v17 hv_17) .func (.cons tR .nil) rfl) fun _ => lI hq1 fun v18 hv_18 hq1 => jc (ZgE lb tu84 tu24 tR hv_18) ?_
   obtain ⟨⟨v19, v20⟩, hv_19, hq1⟩ := Zay hq1
   refine jx (Zak (js := []) ld cl79 (Zcq k v18 (4 : Int) (v19, v20) hv_19) .func (.cons tR (.cons .cI .nil)) rfl) (fun q => ?_)
   obtain ⟨go_21, gc_22⟩ := q
   refine JL.sub ⟨[(3, ov (PTR gb_7 0)), (24, ov (PTR gb_7 0)), (32, .tup [.val (HDR go_21 0 (List.length v19) gc_22), .val (S (rI .i64) v20)])], [cown go_21 (rU UInt8) v19 0 gc_22, cvar gb_7 (zq24 go_15 b_14 gc_16) ((), ()), cown go_15 (rU UInt8) b_14 (List.length b_14) gc_16], []⟩ (.cons rfl (.cons rfl (.cons rfl .nil))) rfl rfl <| jc (Zaz (i := 0) lb tR rfl) <| jc (Zaz (i := 1) lb tR rfl) <| bI hq1 fun x_23 hv_x_23 hq1 => JL.pre (Imp.frz (j := 0) rfl (ImpK.tupAt (s := 32) (i := 0) (q := HL go_21 (rU UInt8) v19 gc_22) rfl rfl ZgK (ImpK.slotH (s := 33) rfl ImpK.refl))) <| JL.pre (Imp.var (j := 1) (q := (zq23 go_15 b_14 gc_16)) (y := ((), ())) rfl (Wk.pair Wk.hh Wk.refl)) ?_
   refine jx (Zak (js := [1, 1]) ld cl78 (ZfH k v19 v20 b_14 gb_7 go_15 gc_16 x_23 hv_x_23) .func (.cons tR (.cons (HasO.wk tR wkHL) (.cons tR .nil))) rfl) (fun q => ?_)
   obtain ⟨go_24, gc_25⟩ := q
   refine JL.nrm ⟨[(3, ov (PTR gb_7 0))], [cvar gb_7 (zq23 go_24 x_23 gc_25) ((), ()), cown go_24 (rU UInt8) x_23 (List.length x_23) gc_25], []⟩ [0, 0] rfl (.cons rfl .nil) rfl <| jn <| jr <| jmv rfl rfl <| jc (Zas lb tR (fun e v h => by subst h; rfl)) <| jc (Zaa (off := 0) lb ZcB tR) <| jc (ZaM (j := 0) lb tS27 tR rfl (Comp.trans (Comp.self (zq23 go_24 x_23 gc_25) ((), ())) (Comp.at' (Comp.inF (Comp.self (rW (HDR go_24 0 (List.length x_23) gc_25)) ()) (lE rfl)) (by rfl : _ = 0)) (lE rfl))) <| jc (Zab lb tR) <| jn <| JC.ret ?_
   obtain rfl := so hq1
   exact JQ.done (js := [1]) (ss := [.val (HDR go_24 0 (List.length x_23) gc_25)]) (go_24, gc_25) (.inl rfl) (.nil rfl) rfl (.cons (.tmp rfl) .nil) rfl rfl rfl
 refine bI hx1 fun v8 hv_8 hx1 => lI hx1 fun v10 hv_10 hx1 => ?_
 obtain ⟨x_11, hv_x_11, hx1⟩ := Zay hx1
 refine JC.anyF (base := [(1, ov (PTR gb_2 0)), (3, ov (PTR gb_7 0))])
     (fs := fun γ => [⟨some 16, ov (MPV (deo (γ 0 0)))⟩, ⟨some 17, ov (PTR gb_2 (0 + 0))⟩, ⟨some 18, ov (S (rI .i64) f_1.Kind)⟩, ⟨some 19, ov (A ZaI v10)⟩, ⟨some 20, ov (S rFn v10.write)⟩, ⟨some 21, ov (PTR gb_7 0)⟩, ⟨some 22, ov (A Zae f_1)⟩, ⟨some 23, .tup []⟩])
     (rs := fun γ => [⟨cvar gb_2 Zae f_1, none, none, [2, 6]⟩, ⟨cown (some gb_6) (rU UInt8) ([v3, v4, v5] : (List UInt8)) 0 (3), none, (some 7), []⟩, ⟨cvar gb_7 (zq22 gb_6 v3 v4 v5) ((), ()), none, (some 7), []⟩, ⟨cmap (deo (γ 0 0)) (S (rI .i64)) (A ZaI) (some (v8)), (some 0), none, [3]⟩, ⟨cvar gb_7 (zq23 (deo (γ 7 0)) x_11 (γ 7 1)) ((), ()), (some 7), none, []⟩, ⟨cown (deo (γ 7 0)) (rU UInt8) x_11 0 (γ 7 1), (some 7), none, []⟩])
     (afts := [[0, 3, 4, 7], [], [], [], [], [], [], [7]]) (js := [0, 0, 0]) ZbT (.cons rfl (.cons rfl .nil)) (fun _ => rfl)
     (by
      refine ZaG.cons (j := 1) rfl (fun _ => rfl) (.runX (fun _ _ => rfl) (fun γ ρ B hb hd => ⟨.none, OpX.ghost (γ := Option Nat) (st' := fun q => setO ⟨ρ, (cmap q (S (rI .i64)) (A ZaI) (some (v8))) :: B, _⟩ (some 16) (ov (MPV q))) (fun q c => eno q) (Zak (js := []) ld cl54 (ZfS k v8 hv_8) .func .nil rfl) (fun q => by cases q <;> exact Imp.refl)⟩) (fun _ _ => rfl) (fun _ _ => rfl)) ?_
      refine dS 2 (fun γ ρ B hb hd => Zaa (off := 0) lb Zeu (.tmp (hb 1 _ rfl))) <| dR 3 (fun γ ρ B hb hd => Zan.lk ⟨ρ, (cvar gb_2 Zae f_1) :: B, _⟩ (Zai (j := 0) lb tS22 (tl hd 1 17) rfl (cT (ZaS f_1) rfl) rfl rfl)) <| dR 4 (fun γ ρ B hb hd => Zan.lk ⟨ρ, (cmap (deo (γ 0 0)) (S (rI .i64)) (A ZaI) (some (v8))) :: B, _⟩ (ZkL (z0 := (Zal.mk (none : Option Nat) (none : Option Nat))) (j := 0) lb tu97 ky22 tZ95 (fun e => ⟨_, rfl, zv95 e⟩) rfl (tl hd 0 16) (tl hd 2 18) hv_10)) <| dS 5 (fun γ ρ B hb hd => Zkn lb Zm3 (tl hd 3 19) (ZfU v10) rfl rfl) <| db 6 3 ?_
      refine dR 7 (fun γ ρ B hb hd => Zan.lk ⟨ρ, (cvar gb_2 Zae f_1) :: B, _⟩ (Zaw (j := 0) lb tA39 (.tmp (hb 1 _ rfl)) rfl (Comp.self Zae f_1) rfl)) ?_
      refine ZaG.cons (j := 8) rfl (fun _ => rfl) (.runX (fun _ _ => rfl) (fun γ ρ B hb hd => ⟨.none, OpX.ghost (γ := Option Nat × Nat) (st' := fun q => setO ⟨ρ, (cvar gb_7 (zq23 q.1 x_11 q.2) ((), ())) :: (cown q.1 (rU UInt8) x_11 0 q.2) :: B, _⟩ (some 23) (.tup [])) (fun q c => bif Nat.beq c 0 then eno q.1 else q.2) ((Zgo hv_x_11 (fun hc hv_x_11 => Zak (js := [1, 0]) ld cl92 (Ze4 k f_1 ([v3, v4, v5] : (List UInt8)) gb_7 (some gb_6) (3) x_11 hv_x_11) (HasO.wk (q := CLO 92 []) (tl hd 4 20) (ZgS hc)) (.cons (tl hd 5 21) (.cons (tl hd 6 22) .nil)) rfl) (fun hz1 => (Zgo hz1 (fun hc hv_x_11 => Zak (js := [1, 0]) ld cl94 (ZfI k f_1 ([v3, v4, v5] : (List UInt8)) gb_7 (some gb_6) (3) x_11 hv_x_11) (HasO.wk (q := CLO 94 []) (tl hd 4 20) (ZgS hc)) (.cons (tl hd 5 21) (.cons (tl hd 6 22) .nil)) rfl) (fun hz2 => (Zgo hz2 (fun hc hv_x_11 => Zak (js := [1, 0]) ld cl96 (ZfJ k f_1 ([v3, v4, v5] : (List UInt8)) gb_7 (some gb_6) (3) x_11 hv_x_11) (HasO.wk (q := CLO 96 []) (tl hd 4 20) (ZgS hc)) (.cons (tl hd 5 21) (.cons (tl hd 6 22) .nil)) rfl) (fun hz3 => (Zgo hz3 (fun hc hv_x_11 => Zak (js := [1, 0]) ld cl98 (ZfB k f_1 ([v3, v4, v5] : (List UInt8)) gb_7 (some gb_6) (3) x_11 hv_x_11) (HasO.wk (q := CLO 98 []) (tl hd 4 20) (ZgS hc)) (.cons (tl hd 5 21) (.cons (tl hd 6 22) .nil)) rfl) (fun hz4 => (Zgo hz4 (fun hc hv_x_11 => Zak (js := [1, 0]) ld Zoo (ZfL k f_1 ([v3, v4, v5] : (List UInt8)) gb_7 (some gb_6) (3) x_11 hv_x_11) (HasO.wk (q := CLO 100 []) (tl hd 4 20) (ZgS hc)) (.cons (tl hd 5 21) (.cons (tl hd 6 22) .nil)) rfl) (fun hz5 => (Zgo hz5 (fun hc hv_x_11 => Zak (js := [1, 0]) ld Zn3 (Zfs k f_1 ([v3, v4, v5] : (List UInt8)) gb_7 (some gb_6) (3) x_11 hv_x_11) (HasO.wk (q := CLO 102 []) (tl hd 4 20) (ZgS hc)) (.cons (tl hd 5 21) (.cons (tl hd 6 22) .nil)) rfl) (fun hz6 => (Zgo hz6 (fun hc hv_x_11 => Zak (js := [1, 0]) ld ZnW (Ze3 k f_1 ([v3, v4, v5] : (List UInt8)) gb_7 (some gb_6) (3) x_11 hv_x_11) (HasO.wk (q := CLO 104 []) (tl hd 4 20) (ZgS hc)) (.cons (tl hd 5 21) (.cons (tl hd 6 22) .nil)) rfl) (fun hz7 => (ZnU hz7)))))))))))))))) (fun q => by obtain ⟨q0, q1⟩ := q; cases q0 <;> exact Imp.refl)⟩) (fun _ _ => rfl) (fun _ _ => rfl)) ?_
      exact ZaG.nil)
     (by decide +kernel) (fun _ => rfl) (fun _ => rfl) (fun _ => rfl) rfl
     (ρ' := fun γ => [(3, ov (PTR gb_7 0))])
     (X' := fun γ => [cvar gb_2 Zae f_1, cmap (deo (γ 0 0)) (S (rI .i64)) (A ZaI) (some (v8)), cvar gb_7 (zq23 (deo (γ 7 0)) x_11 (γ 7 1)) ((), ()), cown (deo (γ 7 0)) (rU UInt8) x_11 0 (γ 7 1)])
     (fun γ ρ hb hd => (.cons (hb 3 _ rfl) .nil)) (fun _ => rfl) (fun γ => ?_)
 generalize (deo (γ 0 0)) = go_9
 generalize (deo (γ 7 0)) = go_12
 generalize (γ 7 1) = gc_13
 clear γ
 refine JQ.at ⟨[(3, ov (PTR gb_7 0))], [cvar gb_2 Zae f_1, cmap go_9 (S (rI .i64)) (A ZaI) (some (v8)), cvar gb_7 (zq23 go_12 x_11 gc_13) ((), ()), cown go_12 (rU UInt8) x_11 0 gc_13], []⟩ ?_
 try obtain rfl := so hx1
 exact JQ.join (go_12, gc_13) (Imp.norm (js := [2, 2]) rfl (.cons rfl .nil))

theorem ZeW (k : Nat) (f_1 : Zah) (r : (List UInt8) × Int) (hm : Zcr k f_1 = some r) : Sim Tryz.prog 10 [A Zae f_1] [] (γ := Option Nat × Nat) (fun q => [cown q.1 (rU UInt8) r.1 (List.length r.1) q.2]) (fun q => .tup [.val (HDR q.1 0 (List.length r.1) q.2), .val (S (rI .i64) r.2)]) := by
 unfold Zcr at hm
 refine Sim.of Tryz.func10 rfl rfl (lE rfl) (fun e0 w0 => ?_)
 refine JC.at ⟨[(0, ov (A Zae f_1))], [], []⟩ <| jr <| jx (ZaX lb tR) fun gb_2 => jc (Zab lb HasO.nilH) <| jc (Zab lb .cI) <| jn <| JC.seq <| jr <| jc (Zaw (j := 0) lb tA39 tR rfl (Comp.self Zae f_1) rfl) <| bI hm fun v3 hv_3 hm => jx (Zak (js := []) ld cl11 (Zec k f_1 v3 hv_3) .func (.cons tR .nil) rfl) fun _ => lI hm fun v4 hv_4 hm => jc (Zbc lb tR hv_4) <| jn ?_
 refine jif tR hm (fun hc1 hm => ?_) (fun hc1 hm => ?_)
 · refine jr <| jc (Zab lb HasO.nilH) <| jc (Zab lb .cI) <| jn <| JC.ret <| JQ.outR ?_
   obtain rfl := so hm
   exact JQ.pre (Imp.nilown (rU UInt8)) <| JQ.pre (Imp.frz (j := 1) rfl ImpK.refl) <| JQ.done (js := [1]) (ss := [.val (HDR none 0 (List.length ([] : (List UInt8))) (0)), .val (S (rI .i64) (2 : Int))]) (none, 0) (.inl rfl) (.nil rfl) rfl (.cons (.tmp rfl) (.cons (.tmp rfl) .nil)) rfl rfl rfl
 refine JC.skip <| JQ.then <| jr <| jc (Zaw (j := 0) lb tA39 tR rfl (Comp.self Zae f_1) rfl) <| bI hm fun v5 hv_5 hm => jx (Zak (js := []) ld cl27 (Zfd k f_1 v5 hv_5) .func (.cons tR .nil) rfl) (fun q => ?_)
 obtain ⟨go_6, gc_7⟩ := q
 refine JL.nrm ⟨[(2, ov (HDR none 0 0 0)), (3, ov (S (rI .i64) (0 : Int))), (8, ov (HDR go_6 0 (List.length v5) gc_7))], [cown go_6 (rU UInt8) v5 (List.length v5) gc_7], []⟩ [0] rfl (.cons rfl (.cons rfl (.cons rfl .nil))) rfl <| jc (Zab lb tR) <| jc (Zab lb .cI) <| jn <| JC.ret ?_
 obtain rfl := so hm
 exact JQ.done (js := [0]) (ss := [.val (HDR go_6 0 (List.length v5) gc_7), .val (S (rI .i64) (0 : Int))]) (go_6, gc_7) (.inl rfl) (.nil rfl) rfl (.cons (.tmp rfl) (.cons (.tmp rfl) .nil)) rfl rfl rfl

theorem ZeS (k : Nat) (s_1 : (List UInt8)) (r : (List UInt8)) (hm : ZbN k s_1 = some r) : Sim Tryz.prog 89 [S (rL (rU UInt8)) s_1] [] (γ := Option Nat × Nat) (fun q => [cown q.1 (rU UInt8) r 0 q.2]) (fun q => .one (.val (HDR q.1 0 (List.length r) q.2))) := by
 unfold ZbN at hm
 refine Sim.of Tryz.func89 rfl rfl (lE rfl) (fun e0 w0 => ?_)
 refine JC.at ⟨[(0, ov (S (rL (rU UInt8)) s_1))], [], []⟩ <| jr <| jc (Zab lb HasO.nilH) <| jn <| JC.seq <| jr <| jmv rfl rfl <| JL.consX rfl (Zke (neg := false) (ltB rfl) tu27 tR HasO.nilH) (fun q => ?_)
 obtain ⟨hb1, hb1_⟩ := q
 cases hb1
 · refine jn <| JC.condF tR rfl <| JC.skip <| JQ.then <| jr <| jx (ZgH (r := (rU UInt8)) lb tu27 tz5 tZ5 rfl (lE rfl) .nil rfl) fun gb_2 => jmv rfl rfl <| bI hm fun x_3 hv_x_3 hm => jx (Zbp (j := 0) lb tu27 tu27 rfl tB5 rfl (Nat.lt_of_lt_of_le Nat.zero_lt_one (lE rfl)) (Nat.lt_of_lt_of_le Nat.zero_lt_one (lE rfl))  rfl tR tR hv_x_3) (fun q => ?_)
   obtain ⟨go_4, gc_5⟩ := q
   refine jc (Zab lb tR) <| jn <| JC.ret ?_
   obtain rfl := so hm
   exact JQ.done (js := [0]) (ss := [.val (HDR go_4 0 (List.length x_3) gc_5)]) (go_4, gc_5) (.inl rfl) (.nil rfl) rfl (.cons (.tmp rfl) .nil) rfl rfl rfl
 replace hm := nilK hm (show _ = (
       some ([] : (List UInt8))
       ) by simp [hb1_ rfl, subL, apL])
 refine jn <| JC.condT tR rfl <| jr <| jc (Zab lb HasO.nilH) <| jn <| JC.ret <| JQ.outR ?_
 obtain rfl := so hm
 exact JQ.pre (Imp.nilown (rU UInt8)) <| JQ.done (js := [0]) (ss := [.val (HDR none 0 (List.length ([] : (List UInt8))) (0))]) (none, 0) (.inl rfl) (.nil rfl) rfl (.cons (.tmp rfl) .nil) rfl rfl rfl

theorem Zdq (k : Nat) (b_1 : (List UInt8)) (r : (List UInt8)) (hm : Zcw k b_1 = some r) : Sim Tryz.prog 52 [S (rL (rU UInt8)) b_1] [] (γ := Nat × Option Nat × Nat) (fun q => [cvar q.1 (rP (rW (HDR q.2.1 0 (List.length r) q.2.2)) (rP rB (rP rB r0))) ((), (true, (true, ()))), cown q.2.1 (rU UInt8) r 0 q.2.2]) (fun q => .one (.val (PTR q.1 0))) := by
 unfold Zcw at hm
 refine Sim.of Tryz.func52 rfl rfl (lE rfl) (fun e0 w0 => ?_)
 refine JC.at ⟨[(0, ov (S (rL (rU UInt8)) b_1))], [], []⟩ <| jr <| jc (Zab lb (HasO.const (p := PTO none) fun _ => rfl)) <| jn <| jr <| jmv rfl rfl <| bI hm fun v2 hv_2 hm => jx (Zak (js := []) ld cl89 (ZeS k b_1 v2 hv_2) .func (.cons tR .nil) rfl) (fun q => ?_)
 obtain ⟨go_3, gc_4⟩ := q
 refine jc (Za9 lb Zmn ZmX ZmU (.S (off := 0) (s := rW (HDR go_3 0 (List.length v2) gc_4)) (u := ()) rfl (HasO.wk (q := S (rW (HDR go_3 0 (List.length v2) gc_4)) ()) tR wkV) rfl ((UpdR.fst (UpdR.self (by rfl))).at (by rfl)) (.S (off := 1) rfl .cB rfl ((UpdR.snd (UpdR.fst (UpdR.self (by rfl)))).at (by rfl)) (.S (off := 2) rfl .cB rfl ((UpdR.snd (UpdR.snd (UpdR.fst (UpdR.self (by rfl))))).at (by rfl)) .nil))) rfl) <| jx (ZaX lb tR) fun gb_5 => jc (Zab lb tR) <| jn <| JC.ret ?_
 obtain rfl := so hm
 exact JQ.done (js := [1, 0]) (ss := [.val (PTR gb_5 0)]) (gb_5, go_3, gc_4) (.inl rfl) (.nil rfl) rfl (.cons (.tmp rfl) .nil) rfl rfl rfl

theorem ZfF (k : Nat) (is_1 : Bool) (made_2 : Bool) (x_4 : (List UInt8)) (gb_3 : Nat) (go_5 : Option Nat) (gc_6 : Nat) (r : Bool) (hm : Zce k is_1 made_2 x_4 = some r) : Sim Tryz.prog 122 [PTR gb_3 0] [cvar gb_3 (zq28 go_5 x_4 gc_6) ((), (is_1, (made_2, ()))), cown go_5 (rU UInt8) x_4 0 gc_6] (γ := Unit) (fun q => [cvar gb_3 (zq28 go_5 x_4 gc_6) ((), (is_1, (made_2, ()))), cown go_5 (rU UInt8) x_4 0 gc_6]) (fun q => .one (.val (S rB r))) := by
 unfold Zce at hm
 refine Sim.of Tryz.func122 rfl rfl (lE rfl) (fun e0 w0 => ?_)
 refine JC.at ⟨[(0, ov (PTR gb_3 0))], [cvar gb_3 (zq28 go_5 x_4 gc_6) ((), (is_1, (made_2, ()))), cown go_5 (rU UInt8) x_4 0 gc_6], []⟩ <| jr <| jc (Zab lb .cB) <| jn <| bI hm fun x_8 hx1 hq1 => JC.seqJ (γ := Unit) (stj := fun _ => ⟨[(2, ov (S rB x_8))], [cvar gb_3 (zq28 go_5 x_4 gc_6) ((), (is_1, (made_2, ()))), cown go_5 (rU UInt8) x_4 0 gc_6], []⟩) (fun _ => ?_) ?_
 · refine JC.ret ?_
   obtain rfl := so hq1
   exact JQ.done (js := [0, 0]) (ss := [.val (S rB x_8)]) () (.inl rfl) (.nil rfl) rfl (.cons (.tmp rfl) .nil) rfl rfl rfl
 refine JC.region <| jmv rfl rfl <| jc (Zjz (neg := false) lb tu87 tR (HasO.const (p := PTO none) fun _ => rfl)) <| jmv rfl rfl <| JL.run (.yes rfl (ltB rfl) rfl rfl) (Zax lb tR) <| JL.run (.yes rfl (ltB rfl) rfl rfl) (Zas lb tR (fun e v h => by subst h; rfl)) <| JL.run (.yes rfl (ltB rfl) rfl rfl) (Zaa (off := 1) lb Zk8 tR) <| JL.run (.yes rfl (ltB rfl) rfl rfl) (Zai (j := 0) lb tS4 tR rfl (Comp.trans (Comp.self (zq28 go_5 x_4 gc_6) ((), (is_1, (made_2, ())))) (Comp.at' (Comp.inS (Comp.inF (Comp.self rB is_1) (lE rfl))) (by rfl : _ = 1)) (lE rfl)) rfl rfl) <| lI hx1 fun v7 hv_7 hx1 => JL.run (.yes rfl (ltB rfl) rfl rfl) (Zbc lb tR hv_7) <| jc (Za6 lb tR rfl tR) <| jc (Zab lb tR) <| JL.nil ?_
 try obtain rfl := so hx1
 refine JQ.pre (Imp.var (j := 0) (q := (zq28 go_5 x_4 gc_6)) (y := ((), (is_1, (made_2, ())))) rfl Wk.refl) ?_
 exact JQ.join () (Imp.norm (js := [0, 0]) rfl (.cons rfl .nil))

theorem Zd7 (k : Nat) (n_1 : Int) (is_2 : Bool) (made_3 : Bool) (x_5 : (List UInt8)) (gb_4 : Nat) (go_6 : Option Nat) (gc_7 : Nat) (r : (List UInt8) × Bool × (List UInt8) × Bool × Bool) (hm : ZbG k n_1 is_2 made_3 x_5 = some r) : Sim Tryz.prog 90 [PTR gb_4 0, S (rI .i64) n_1] [cvar gb_4 (zq28 go_6 x_5 gc_7) ((), (is_2, (made_3, ()))), cown go_6 (rU UInt8) x_5 0 gc_7] (γ := Unit) (fun q => [cvar gb_4 (rP (rL (rU UInt8)) (rP rB (rP rB r0))) (r.2.2.1, (r.2.2.2.1, (r.2.2.2.2, ()))), cown go_6 (rU UInt8) x_5 (List.length x_5) gc_7]) (fun q => .tup [.val (S (rL (rU UInt8)) r.1), .val (S rB r.2.1)]) := by
 unfold ZbG at hm
 refine Sim.of Tryz.func90 rfl rfl (lE rfl) (fun e0 w0 => ?_)
 refine JC.at ⟨[(0, ov (PTR gb_4 0)), (1, ov (S (rI .i64) n_1))], [cvar gb_4 (zq28 go_6 x_5 gc_7) ((), (is_2, (made_3, ()))), cown go_6 (rU UInt8) x_5 0 gc_7], []⟩ <| jr <| jc (Zab lb HasO.nilH) <| jc (Zab lb .cB) <| jn <| JC.seq <| JC.block <| jr <| jmv rfl rfl <| bI hm fun v8 hv_8 hm => jx (Zak (js := [0, 0]) ld ZiU (ZfF k is_2 made_3 x_5 gb_4 go_6 gc_7 v8 hv_8) .func (.cons tR .nil) rfl) fun _ => jc (Zab lb tR) <| jn <| jif tR hm (fun hc1 hm => ?_) (fun hc1 hm => ?_)
 · refine jr <| jc (Zab lb HasO.nilH) <| jc (Zab lb .cB) <| jn <| JC.ret <| JQ.outRB <| JQ.outR ?_
   obtain rfl := so hm
   refine JQ.pre (Imp.slot (s := 4) (q := S (rL (rU UInt8)) ([] : (List UInt8))) rfl Zkg) <| JQ.pre (Imp.frz (j := 1) rfl (ImpK.var (j := 0) (q := (zq30 go_6 x_5 gc_7)) (y := ((), (is_2, (made_3, ())))) rfl (Wk.pair Wk.own (Wk.pair Wk.refl (Wk.pair Wk.refl Wk.refl))) ImpK.refl)) <| JQ.pre (Imp.var (j := 0) (q := (rP (rL (rU UInt8)) (rP rB (rP rB r0)))) (y := (x_5, (is_2, (made_3, ())))) rfl (Wk.pair Wk.hl (Wk.pair Wk.refl (Wk.pair Wk.refl Wk.refl)))) ?_
   exact JQ.done (js := [0, 0]) (ss := [.val (S (rL (rU UInt8)) ([] : (List UInt8))), .val (S rB false)]) () (.inl rfl) (.nil rfl) rfl (.cons (.tmp rfl) (.cons (.tmp rfl) .nil)) rfl rfl rfl
 refine bI hm fun x_11 hx2 hq2 => JC.seqJ (γ := Unit) (stj := fun _ => ⟨[(0, ov (PTR gb_4 0)), (1, ov (S (rI .i64) n_1)), (10, ov (S rB x_11))], [cvar gb_4 (zq28 go_6 x_5 gc_7) ((), (is_2, (made_3, ()))), cown go_6 (rU UInt8) x_5 0 gc_7], []⟩) (fun _ => ?_) ?_
 · refine jif tR hq2 (fun hc9 hq2 => ?_) (fun hc9 hq2 => ?_)
   · refine jr <| jmv rfl rfl <| jc (Za9 lb Zmn ZmX ZmU (.S (off := 2) rfl .cB rfl ((UpdR.snd (UpdR.snd (UpdR.fst (UpdR.self (by rfl))))).at (by rfl)) .nil) rfl) <| jc (Zas lb tR (fun e v h => by subst h; rfl)) <| jc (ZaP (j := 0) ZnD tR tR rfl (UpdR.self (by rfl)) rfl) <| jn <| jr <| jc (Zab lb HasO.nilH) <| jc (Zab lb .cB) <| jn <| JC.ret <| JQ.outRB <| JQ.outR ?_
     obtain rfl := so hq2
     refine JQ.pre (Imp.slot (s := 4) (q := S (rL (rU UInt8)) ([] : (List UInt8))) rfl Zkg) <| JQ.pre (Imp.frz (j := 1) rfl ImpK.refl) <| JQ.pre (Imp.var (j := 0) (q := (rP (rL (rU UInt8)) (rP rB (rP rB r0)))) (y := (([] : (List UInt8)), (false, (true, ())))) rfl (Wk.pair Wk.nil (Wk.pair Wk.refl (Wk.pair Wk.refl Wk.refl)))) ?_
     exact JQ.done (js := [0, 0]) (ss := [.val (S (rL (rU UInt8)) ([] : (List UInt8))), .val (S rB false)]) () (.inl rfl) (.nil rfl) rfl (.cons (.tmp rfl) (.cons (.tmp rfl) .nil)) rfl rfl rfl
   refine JC.skip <| JQ.outNB <| JQ.then <| jr <| jmv rfl rfl <| jc (Zas lb tR (fun e v h => by subst h; rfl)) <| jc (Zaa (off := 0) lb ZeO tR) <| jc (ZaM (j := 0) lb tS27 tR rfl (Comp.trans (Comp.self (zq28 go_6 x_5 gc_7) ((), (is_2, (made_3, ())))) (Comp.at' (Comp.inF (Comp.self (rW (HDR go_6 0 (List.length x_5) gc_7)) ()) (lE rfl)) (by rfl : _ = 0)) (lE rfl))) <| jmv rfl rfl <| jmv rfl rfl <| bI hq2 fun v12 hv_12 hq2 => JL.pre (Imp.frz (j := 1) rfl (ImpK.slotH (s := 28) rfl (ImpK.var (j := 0) (q := (zq30 go_6 x_5 gc_7)) (y := ((), (is_2, (made_3, ())))) rfl (Wk.pair Wk.own (Wk.pair Wk.refl (Wk.pair Wk.refl Wk.refl))) ImpK.refl))) <| jc (ZhH lb tu27 tz5 (HasO.wk tR wkHL) .none (.some tR) (.some tR) hv_12) <| jc (Zab lb tR) <| jn <| jr <| jmv rfl rfl <| jmv rfl rfl <| JL.sub ⟨[(1, ov (S (rI .i64) n_1)), (6, ov (S (rLc (rU UInt8)) v12)), (32, ov (PTR gb_4 0)), (33, ov (PTR gb_4 0))], [cvar gb_4 (zq30 go_6 x_5 gc_7) ((), (is_2, (made_3, ()))), cown go_6 (rU UInt8) x_5 (List.length x_5) gc_7], []⟩ (.cons rfl (.cons rfl (.cons rfl (.cons rfl .nil)))) rfl rfl ?_
   refine jc (Zas lb tR (fun e v h => by subst h; rfl)) <| jc (Zaa (off := 0) lb ZeO tR) <| jc (ZaM (j := 0) lb tS27 tR rfl (Comp.trans (Comp.self (zq30 go_6 x_5 gc_7) ((), (is_2, (made_3, ())))) (Comp.at' (Comp.inF (Comp.self (rW (HL go_6 (rU UInt8) x_5 gc_7)) ()) (lE rfl)) (by rfl : _ = 0)) (lE rfl))) <| jmv rfl rfl <| bI hq2 fun v13 hv_13 hq2 => jc (Ziw lb tu27 tz5 (HasO.wk tR wkHL) (.some tR) .none hv_13) <| jc (Zas lb tR (fun e v h => by subst h; rfl)) <| jc (Zaa (off := 0) lb ZeO tR) <| jc (ZbX (j := 0) tS27 tR tR rfl rfl ((UpdR.fst (UpdR.self (by rfl))).at (by change 0 = (0 + 0); omega)) rfl) <| jn <| jr <| jmv rfl rfl <| jc (Zab lb tR) <| JL.sub ⟨[(4, ov (S (rLc (rU UInt8)) v12))], [cvar gb_4 (rP (rL (rU UInt8)) (rP rB (rP rB r0))) (v13, (is_2, (made_3, ()))), cown go_6 (rU UInt8) x_5 (List.length x_5) gc_7], []⟩ (.cons rfl .nil) rfl rfl <| jc (Zab lb .cB) <| jn <| JC.ret ?_
   obtain rfl := so hq2
   exact JQ.pre (Imp.slotS (s := 4) rfl Wk.clip) <| JQ.done (js := [0, 0]) (ss := [.val (S (rL (rU UInt8)) v12), .val (S rB true)]) () (.inl rfl) (.nil rfl) rfl (.cons (.tmp rfl) (.cons (.tmp rfl) .nil)) rfl rfl rfl
 refine JC.region <| jmv rfl rfl <| lI hx2 fun v9 hv_9 hx2 => jc (Zaq lb tR .cI (cs hv_9)) <| jmv rfl rfl <| jF (ov (S (rI .i64) n_1)) rfl rfl rfl rfl (fun hq_3 => Zax lb tR) <| jF (ov (PTR gb_4 0)) rfl rfl rfl rfl (fun hq_4 => Zax lb tR) <| JL.sub ⟨[(0, ov (PTR gb_4 0)), (1, ov (S (rI .i64) n_1)), (13, ov (S rB v9)), (14, bif (!v9) then ov (S (rI .i64) n_1) else .one .und), (15, bif (!v9) then ov (PTR gb_4 0) else .one .und)], [cvar gb_4 (zq28 go_6 x_5 gc_7) ((), (is_2, (made_3, ()))), cown go_6 (rU UInt8) x_5 0 gc_7], []⟩ (.cons rfl (.cons rfl (.cons rfl (.cons rfl (.cons rfl .nil))))) rfl rfl <| jF (ov (PTR gb_4 0)) rfl rfl rfl rfl (fun hq_5 => Zas lb (HasO.cnd tR (notT (notF hq_5))) (fun e v h => by subst h; rfl)) <| jF (ov (PTR gb_4 (0 + 0))) rfl rfl rfl rfl (fun hq_6 => Zaa (off := 0) lb ZeO (HasO.cnd tR (notT (notF hq_6)))) ?_
 rcases ZcG hx2 with ⟨hc8, hx2⟩ | ⟨hc8, hx2⟩
 · refine jk rfl hc8 <| jk rfl hc8 <| jk rfl hc8 <| jc (Zb7 lb tR hc8 .cB) <| jc (Zab lb tR) <| JL.nil ?_
   try obtain rfl := so hx2
   exact JQ.join () (Imp.norm (js := [0, 0]) rfl (.cons rfl (.cons rfl (.cons rfl .nil))))
 refine JL.run (.yes rfl (ltB rfl) rfl hc8) (ZaM (j := 0) lb tS27 (HasO.cnd tR (notT hc8)) rfl (Comp.trans (Comp.self (zq28 go_6 x_5 gc_7) ((), (is_2, (made_3, ())))) (Comp.at' (Comp.inF (Comp.self (rW (HDR go_6 0 (List.length x_5) gc_7)) ()) (lE rfl)) (by rfl : _ = 0)) (lE rfl))) <| JL.run (.yes rfl (ltB rfl) rfl hc8) (ZjG lb tu27 tR) <| lI hx2 fun v10 hv_10 hx2 => JL.run (.yes rfl (ltB rfl) rfl hc8) (Zaq lb (HasO.cnd tR (notT hc8)) tR (cs hv_10)) <| jc (Za6 lb tR hc8 tR) <| jc (Zab lb tR) <| JL.nil ?_
 try obtain rfl := so hx2
 exact JQ.join () (Imp.norm (js := [0, 0]) rfl (.cons rfl (.cons rfl (.cons rfl .nil))))

theorem Zhf (k : Nat) (b_1 : (List UInt8)) (r : UInt64 × Int) (hm : wire_Get k b_1 = some r) : Sim Tryz.prog 91 [S (rL (rU UInt8)) b_1] [] (γ := Unit) (fun q => []) (fun q => .tup [.val (S (rU UInt64) r.1), .val (S (rI .i64) r.2)]) := by
 unfold wire_Get at hm
 refine Sim.of Tryz.func91 rfl rfl (lE rfl) (fun e0 w0 => ?_)
 refine JC.at ⟨[(0, ov (S (rL (rU UInt8)) b_1))], [], []⟩ <| jr <| jc (Zab lb (HasO.cU (x := (0 : UInt64)) rfl (by decide))) <| jc (Zab lb .cI) <| jn <| JC.seq <| bI hm fun x_5 hx1 hq1 => JC.seqJ (γ := Unit) (stj := fun _ => ⟨[(0, ov (S (rL (rU UInt8)) b_1)), (14, ov (S rB x_5))], [], []⟩) (fun _ => ?_) ?_
 · refine jif tR hq1 (fun hc6 hq1 => ?_) (fun hc6 hq1 => ?_)
   · refine jr <| jc (Zab lb (HasO.cU (x := (0 : UInt64)) rfl (by decide))) <| jc (Zab lb .cI) <| jn <| JC.ret <| JQ.outR ?_
     obtain rfl := so hq1
     exact JQ.done (js := []) (ss := [.val (S (rU UInt64) (0 : UInt64)), .val (S (rI .i64) (2 : Int))]) () (.inl rfl) (.nil rfl) rfl (.cons (.tmp rfl) (.cons (.tmp rfl) .nil)) rfl rfl rfl
   refine JC.skip <| JQ.then <| jr <| jc (Zab lb (HasO.cU (x := (0 : UInt64)) rfl (by decide))) <| jn <| bI hq1 fun n_14 hx7 hq7 => JC.seqJ (γ := Unit) (stj := fun _ => ⟨[(4, ov (S (rU UInt64) n_14))], [], []⟩) (fun _ => ?_) ?_
   · refine jr <| jmv rfl rfl <| jc (Zab lb tR) <| jc (Zab lb .cI) <| jn <| JC.ret ?_
     obtain rfl := so hq7
     exact JQ.done (js := []) (ss := [.val (S (rU UInt64) n_14), .val (S (rI .i64) (0 : Int))]) () (.inl rfl) (.nil rfl) rfl (.cons (.tmp rfl) (.cons (.tmp rfl) .nil)) rfl rfl rfl
   refine jr <| jmv rfl rfl <| jc (ZaE lb tu27 tR) <| jc (Zax lb .cI) <| jn <| JC.block <| JC.pre ?_ (JC.loop (γ := Unit) (stf := fun s q => ⟨[(4, ov (S (rU UInt64) s.1)), (15, ov (S (rL (rU UInt8)) b_1)), (16, ov (S (rI .i64) (List.length b_1 : Int))), (17, ov (S (rI .i64) s.2))], [], []⟩) (q := ()) hx7 ?_)
   · exact (Imp.norm (js := []) rfl (.cons rfl (.cons rfl (.cons rfl (.cons rfl .nil)))))
   intro s q x hx hr
   obtain ⟨n_6, x_7⟩ := s
   obtain _ := q
   change wire_Get.b1 k b_1 n_6 x_7 = some x at hx
   unfold wire_Get.b1 at hx
   refine JC.at ⟨[(4, ov (S (rU UInt64) n_6)), (15, ov (S (rL (rU UInt8)) b_1)), (16, ov (S (rI .i64) (List.length b_1 : Int))), (17, ov (S (rI .i64) x_7))], [], []⟩ <| jr <| lI hx fun v8 hv_8 hx => jc (Zaq lb tR tR (cs hv_8)) <| jn <| JC.seq <| jif tR hx (fun hc9 hx => ?_) (fun hc9 hx => ?_)
   · refine JC.skip <| JQ.then <| JC.seq <| JC.block <| jr <| bI hx fun v9 hv_9 hx => jc (Zau lb tu27 tz5 tR tR hv_9) <| jc (Zbe lb tS5 rfl tR rfl) <| jc (Zab lb tR) <| jn <| JC.region <| jmv rfl rfl <| lI hx fun v10 hv_10 hx => jc (Zl2 lb tR (HasO.cU (x := (8 : UInt64)) rfl (by decide)) hv_10) <| jmv rfl rfl <| lI hx fun v11 hv_11 hx => jc (ZgE lb tu5 tu24 tR hv_11) ?_
     refine lI hx fun v12 hv_12 hx => jc (Zfb lb tR tR (cs hv_12)) <| jc (Zab lb tR) <| JL.nil <| JQ.outNB <| JQ.then <| JC.region <| lI hx fun v13 hv_13 hx => jc (ZaY lb tR .cI (cs hv_13)) <| jmv rfl rfl <| JL.sub ⟨[(4, ov (S (rU UInt64) v12)), (15, ov (S (rL (rU UInt8)) b_1)), (16, ov (S (rI .i64) (List.length b_1 : Int))), (17, ov (S (rI .i64) v13))], [], []⟩ (.cons rfl (.cons rfl (.cons rfl (.cons rfl .nil)))) rfl rfl <| JL.nil ?_
     try obtain rfl := so hx
     exact JQ.next () rfl (Imp.norm (js := []) rfl (.cons rfl (.cons rfl (.cons rfl (.cons rfl .nil)))))
   refine JC.exit <| JQ.outX ?_
   try obtain rfl := so hx
   have ht := hr _ rfl
   have hq8 := cs ht
   clear hr ht
   refine JQ.outX <| JQ.here ?_
   try obtain rfl := so hq8
   exact jo rfl rfl rfl
 refine JC.region <| jmv rfl rfl <| jc (ZaE lb tu27 tR) <| lI hx1 fun v2 hv_2 hx1 => jc (Zaq lb tR .cI (cs hv_2)) <| jmv rfl rfl <| jF (ov (S (rL (rU UInt8)) b_1)) rfl rfl rfl rfl (fun hq_2 => Zax lb tR) <| jF (ov (S (rI .i64) (List.length b_1 : Int))) rfl rfl rfl rfl (fun hq_3 => ZaE lb tu27 (HasO.cnd tR (notT (notF hq_3)))) <| lI hx1 fun v3 hv_3 hx1 => jF (ov (S rB v3)) rfl rfl rfl rfl (fun hq_4 => Zaq lb (HasO.cnd tR (notT (notF hq_4))) .cI (cs hv_3)) <| lI hx1 fun v4 hv_4 hx1 => jc (Zao lb tR (fun hb5 => .cB) (fun hb5 => (HasO.cnd tR (notT hb5))) hv_4) <| JL.nil ?_
 try obtain rfl := so hx1
 exact JQ.join () (Imp.norm (js := []) rfl (.cons rfl (.cons rfl .nil)))

theorem ZcC (k : Nat) (size_1 : Int) (is_2 : Bool) (made_3 : Bool) (x_5 : (List UInt8)) (gb_4 : Nat) (go_6 : Option Nat) (gc_7 : Nat) (r : UInt64 × Zag) (hm : Zbb k size_1 is_2 made_3 x_5 = some r) : Sim Tryz.prog 53 [PTR gb_4 0, S (rI .i64) size_1] [cvar gb_4 (zq28 go_6 x_5 gc_7) ((), (is_2, (made_3, ()))), cown go_6 (rU UInt8) x_5 0 gc_7] (γ := Unit) (fun q => [cvar gb_4 Zac r.2, cown go_6 (rU UInt8) x_5 (List.length x_5) gc_7]) (fun q => .one (.val (S (rU UInt64) r.1))) := by
 unfold Zbb at hm
 refine Sim.of Tryz.func53 rfl rfl (lE rfl) (fun e0 w0 => ?_)
 refine JC.at ⟨[(0, ov (PTR gb_4 0)), (1, ov (S (rI .i64) size_1))], [cvar gb_4 (zq28 go_6 x_5 gc_7) ((), (is_2, (made_3, ()))), cown go_6 (rU UInt8) x_5 0 gc_7], []⟩ <| jr <| jc (Zab lb (HasO.cU (x := (0 : UInt64)) rfl (by decide))) <| jn <| bI hm fun size_12 hx1 hq1 => JC.seqJ (γ := Unit) (stj := fun _ => ⟨[(0, ov (PTR gb_4 0)), (1, ov (S (rI .i64) size_12))], [cvar gb_4 (zq28 go_6 x_5 gc_7) ((), (is_2, (made_3, ()))), cown go_6 (rU UInt8) x_5 0 gc_7], []⟩) (fun _ => ?_) ?_
 · refine jr <| jmv rfl rfl <| jmv rfl rfl ?_
   obtain ⟨⟨v13, v14, x_15, x_16, x_17⟩, hv_13, hq1⟩ := Zay hq1
   refine jx (Zak (js := [0, 0]) ld cl90 (Zd7 k size_12 is_2 made_3 x_5 gb_4 go_6 gc_7 (v13, v14, x_15, x_16, x_17) hv_13) .func (.cons tR (.cons tR .nil)) rfl) fun _ => jmv rfl rfl <| jc (Zaz (i := 0) lb tR rfl) <| jc (Zaz (i := 1) lb tR rfl) <| jc (Zab lb tR) <| jc (Zab lb tR) <| jn <| jr <| jmv rfl rfl ?_
   obtain ⟨⟨v18, v19⟩, hv_18, hq1⟩ := Zay hq1
   refine jx (Zak (js := []) ld cl91 (Zhf k v13 (v18, v19) hv_18) .func (.cons tR .nil) rfl) fun _ => JL.sub ⟨[(23, .tup [.val (S (rU UInt64) v18), .val (S (rI .i64) v19)])], [cvar gb_4 (rP (rL (rU UInt8)) (rP rB (rP rB r0))) (x_15, (x_16, (x_17, ()))), cown go_6 (rU UInt8) x_5 (List.length x_5) gc_7], []⟩ (.cons rfl .nil) rfl rfl <| jmv rfl rfl <| jc (Zaz (i := 0) lb tR rfl) <| jc (Zaz (i := 1) lb tR rfl) <| jc (Zab lb tR) <| jc (Zab lb tR) <| jn <| jr <| jmv rfl rfl <| jc (Zab lb tR) <| jn <| JC.ret ?_
   obtain rfl := so hq1
   refine JQ.pre (Imp.var (j := 0) (q := Zac) (y := (Zag.mk x_15 x_16 x_17)) rfl (Wk.st Wk.refl)) ?_
   exact JQ.done (js := [0, 0]) (ss := [.val (S (rU UInt64) v18)]) () (.inl rfl) (.nil rfl) rfl (.cons (.tmp rfl) .nil) rfl rfl rfl
 refine bI hx1 fun x_11 hx2 hq2 => JC.seqJ (γ := Unit) (stj := fun _ => ⟨[(0, ov (PTR gb_4 0)), (1, ov (S (rI .i64) size_1)), (14, ov (S rB x_11))], [cvar gb_4 (zq28 go_6 x_5 gc_7) ((), (is_2, (made_3, ()))), cown go_6 (rU UInt8) x_5 0 gc_7], []⟩) (fun _ => ?_) ?_
 · refine jif tR hq2 (fun hc6 hq2 => ?_) (fun hc6 hq2 => ?_)
   · refine JC.region <| jc (Zab lb .cI) <| JL.nil ?_
     try obtain rfl := so hq2
     exact JQ.join () (Imp.norm (js := [0, 0]) rfl (.cons rfl (.cons rfl .nil)))
   refine JC.skip ?_
   try obtain rfl := so hq2
   exact JQ.join () (Imp.norm (js := [0, 0]) rfl (.cons rfl (.cons rfl .nil)))
 refine JC.region <| jmv rfl rfl <| lI hx2 fun v8 hv_8 hx2 => jc (Zaq lb tR .cI (cs hv_8)) <| jmv rfl rfl <| jF (ov (S (rI .i64) size_1)) rfl rfl rfl rfl (fun hq_3 => Zax lb tR) <| lI hx2 fun v9 hv_9 hx2 => jF (ov (S rB v9)) rfl rfl rfl rfl (fun hq_4 => Zaq lb (HasO.cnd tR (notT (notF hq_4))) .cI (cs hv_9)) <| lI hx2 fun v10 hv_10 hx2 => jc (Zao lb tR (fun hb5 => .cB) (fun hb5 => (HasO.cnd tR (notT hb5))) hv_10) <| JL.nil ?_
 try obtain rfl := so hx2
 refine JQ.pre (Imp.var (j := 0) (q := (zq28 go_6 x_5 gc_7)) (y := ((), (is_2, (made_3, ())))) rfl Wk.refl) ?_
 exact JQ.join () (Imp.norm (js := [0, 0]) rfl (.cons rfl (.cons rfl (.cons rfl .nil))))

theorem Za2 (k : Nat) (r_1 : Zag) (gb_2 : Nat) (r : Bool) (hm : ZaU k r_1 = some r) : Sim Tryz.prog 122 [PTR gb_2 0] [cvar gb_2 Zac r_1] (γ := Unit) (fun q => [cvar gb_2 Zac r_1]) (fun q => .one (.val (S rB r))) := by
 unfold ZaU at hm
 refine Sim.of Tryz.func122 rfl rfl (lE rfl) (fun e0 w0 => ?_)
 refine JC.at ⟨[(0, ov (PTR gb_2 0))], [cvar gb_2 Zac r_1], []⟩ <| jr <| jc (Zab lb .cB) <| jn <| bI hm fun x_4 hx1 hq1 => JC.seqJ (γ := Unit) (stj := fun _ => ⟨[(2, ov (S rB x_4))], [cvar gb_2 Zac r_1], []⟩) (fun _ => ?_) ?_
 · refine JC.ret ?_
   obtain rfl := so hq1
   exact JQ.done (js := [0]) (ss := [.val (S rB x_4)]) () (.inl rfl) (.nil rfl) rfl (.cons (.tmp rfl) .nil) rfl rfl rfl
 refine JC.region <| jmv rfl rfl <| jc (Zjz (neg := false) lb tu87 tR (HasO.const (p := PTO none) fun _ => rfl)) <| jmv rfl rfl <| JL.run (.yes rfl (ltB rfl) rfl rfl) (Zax lb tR) <| JL.run (.yes rfl (ltB rfl) rfl rfl) (Zas lb tR (fun e v h => by subst h; rfl)) <| JL.run (.yes rfl (ltB rfl) rfl rfl) (Zaa (off := 1) lb Zk8 tR) <| JL.run (.yes rfl (ltB rfl) rfl rfl) (Zai (j := 0) lb tS4 tR rfl (cT (Zgt r_1) rfl) rfl rfl) <| lI hx1 fun v3 hv_3 hx1 => JL.run (.yes rfl (ltB rfl) rfl rfl) (Zbc lb tR hv_3) <| jc (Za6 lb tR rfl tR) <| jc (Zab lb tR) <| JL.nil ?_
 try obtain rfl := so hx1
 exact JQ.join () (Imp.norm (js := [0]) rfl (.cons rfl .nil))

theorem Zb2 (k : Nat) (n_1 : Int) (r_2 : Zag) (gb_3 : Nat) (r : (List UInt8) × Bool × Zag) (hm : Zba k n_1 r_2 = some r) : Sim Tryz.prog 90 [PTR gb_3 0, S (rI .i64) n_1] [cvar gb_3 Zac r_2] (γ := Unit) (fun q => [cvar gb_3 Zac r.2.2]) (fun q => .tup [.val (S (rL (rU UInt8)) r.1), .val (S rB r.2.1)]) := by
 unfold Zba at hm
 refine Sim.of Tryz.func90 rfl rfl (lE rfl) (fun e0 w0 => ?_)
 refine JC.at ⟨[(0, ov (PTR gb_3 0)), (1, ov (S (rI .i64) n_1))], [cvar gb_3 Zac r_2], []⟩ <| jr <| jc (Zab lb HasO.nilH) <| jc (Zab lb .cB) <| jn <| JC.seq <| JC.block <| jr <| jmv rfl rfl <| bI hm fun v4 hv_4 hm => jx (Zak (js := [0]) ld ZiU (Za2 k r_2 gb_3 v4 hv_4) .func (.cons tR .nil) rfl) fun _ => jc (Zab lb tR) <| jn <| jif tR hm (fun hc1 hm => ?_) (fun hc1 hm => ?_)
 · refine jr <| jc (Zab lb HasO.nilH) <| jc (Zab lb .cB) <| jn <| JC.ret <| JQ.outRB <| JQ.outR ?_
   obtain rfl := so hm
   exact JQ.pre (Imp.slot (s := 4) (q := S (rL (rU UInt8)) ([] : (List UInt8))) rfl Zkg) <| JQ.done (js := [0]) (ss := [.val (S (rL (rU UInt8)) ([] : (List UInt8))), .val (S rB false)]) () (.inl rfl) (.nil rfl) rfl (.cons (.tmp rfl) (.cons (.tmp rfl) .nil)) rfl rfl rfl
 refine bI hm fun x_8 hx2 hq2 => JC.seqJ (γ := Unit) (stj := fun _ => ⟨[(0, ov (PTR gb_3 0)), (1, ov (S (rI .i64) n_1)), (10, ov (S rB x_8))], [cvar gb_3 Zac r_2], []⟩) (fun _ => ?_) ?_
 · refine jif tR hq2 (fun hc11 hq2 => ?_) (fun hc11 hq2 => ?_)
   · refine jr <| jmv rfl rfl <| jc (Za9 lb Zmn ZmX ZmU (.S (off := 2) rfl .cB rfl ((UpdR.snd (UpdR.snd (UpdR.fst (UpdR.self (by rfl))))).at (by rfl)) .nil) rfl) <| jc (Zas lb tR (fun e v h => by subst h; rfl)) <| jc (ZaP (j := 0) ZnD tR tR rfl (UpdR.self (by rfl)) rfl) <| jn <| jr <| jc (Zab lb HasO.nilH) <| jc (Zab lb .cB) <| jn <| JC.ret <| JQ.outRB <| JQ.outR ?_
     obtain rfl := so hq2
     refine JQ.pre (Imp.slot (s := 4) (q := S (rL (rU UInt8)) ([] : (List UInt8))) rfl Zkg) <| JQ.pre (Imp.var (j := 0) (q := Zac) (y := (Zag.mk ([] : (List UInt8)) false true)) rfl (Wk.st (Wk.pair Wk.nil (Wk.pair Wk.refl (Wk.pair Wk.refl Wk.refl))))) ?_
     exact JQ.done (js := [0]) (ss := [.val (S (rL (rU UInt8)) ([] : (List UInt8))), .val (S rB false)]) () (.inl rfl) (.nil rfl) rfl (.cons (.tmp rfl) (.cons (.tmp rfl) .nil)) rfl rfl rfl
   refine JC.skip <| JQ.outNB <| JQ.then <| jr <| jmv rfl rfl <| jc (Zas lb tR (fun e v h => by subst h; rfl)) <| jc (Zaa (off := 0) lb ZeO tR) <| jc (Zai (j := 0) lb tS27 tR rfl (cT (ZbL r_2) rfl) rfl rfl) <| jmv rfl rfl <| jmv rfl rfl <| bI hq2 fun v9 hv_9 hq2 => jc (ZhH lb tu27 tz5 tR .none (.some tR) (.some tR) hv_9) <| jc (Zab lb tR) <| jn <| jr <| jmv rfl rfl <| jmv rfl rfl <| jc (Zas lb tR (fun e v h => by subst h; rfl)) <| jc (Zaa (off := 0) lb ZeO tR) <| JL.sub ⟨[(1, ov (S (rI .i64) n_1)), (6, ov (S (rLc (rU UInt8)) v9)), (32, ov (PTR gb_3 0)), (35, ov (PTR gb_3 (0 + 0)))], [cvar gb_3 Zac r_2], []⟩ (.cons rfl (.cons rfl (.cons rfl (.cons rfl .nil)))) rfl rfl <| jc (Zai (j := 0) lb tS27 tR rfl (cT (ZbL r_2) rfl) rfl rfl) <| jmv rfl rfl ?_
   refine bI hq2 fun v10 hv_10 hq2 => jc (Ziw lb tu27 tz5 tR (.some tR) .none hv_10) <| jc (Zas lb tR (fun e v h => by subst h; rfl)) <| jc (Zaa (off := 0) lb ZeO tR) <| lI hq2 fun x_11 hv_x_11 hq2 => jc (ZbX (j := 0) tS27 tR tR rfl rfl (Upd.trans (Comp.self Zac r_2) (Upd.self Zac r_2 _) (Zf3 r_2 v10)).R hv_x_11) <| jn <| jr <| jmv rfl rfl <| jc (Zab lb tR) <| jc (Zab lb .cB) <| jn <| JC.ret ?_
   obtain rfl := so hq2
   exact JQ.pre (Imp.slotS (s := 4) rfl Wk.clip) <| JQ.done (js := [0]) (ss := [.val (S (rL (rU UInt8)) v9), .val (S rB true)]) () (.inl rfl) (.nil rfl) rfl (.cons (.tmp rfl) (.cons (.tmp rfl) .nil)) rfl rfl rfl
 refine JC.region <| jmv rfl rfl <| lI hx2 fun v5 hv_5 hx2 => jc (Zaq lb tR .cI (cs hv_5)) <| jmv rfl rfl <| jF (ov (S (rI .i64) n_1)) rfl rfl rfl rfl (fun hq_3 => Zax lb tR) <| jF (ov (PTR gb_3 0)) rfl rfl rfl rfl (fun hq_4 => Zax lb tR) <| JL.sub ⟨[(0, ov (PTR gb_3 0)), (1, ov (S (rI .i64) n_1)), (13, ov (S rB v5)), (14, bif (!v5) then ov (S (rI .i64) n_1) else .one .und), (15, bif (!v5) then ov (PTR gb_3 0) else .one .und)], [cvar gb_3 Zac r_2], []⟩ (.cons rfl (.cons rfl (.cons rfl (.cons rfl (.cons rfl .nil))))) rfl rfl <| jF (ov (PTR gb_3 0)) rfl rfl rfl rfl (fun hq_5 => Zas lb (HasO.cnd tR (notT (notF hq_5))) (fun e v h => by subst h; rfl)) <| jF (ov (PTR gb_3 (0 + 0))) rfl rfl rfl rfl (fun hq_6 => Zaa (off := 0) lb ZeO (HasO.cnd tR (notT (notF hq_6)))) <| jF (ov (S (rL (rU UInt8)) r_2.rest)) rfl rfl rfl rfl (fun hq_7 => Zai (j := 0) lb tS27 (HasO.cnd tR (notT (notF hq_7))) rfl (cT (ZbL r_2) rfl) rfl rfl) ?_
 refine jF (ov (S (rI .i64) (List.length r_2.rest : Int))) rfl rfl rfl rfl (fun hq_8 => ZaE lb tu27 (HasO.cnd tR (notT (notF hq_8)))) <| lI hx2 fun v6 hv_6 hx2 => jF (ov (S rB v6)) rfl rfl rfl rfl (fun hq_9 => Zaq lb (HasO.cnd tR (notT (notF hq_9))) (HasO.cnd tR (notT (notF hq_9))) (cs hv_6)) <| lI hx2 fun v7 hv_7 hx2 => jc (Zao lb tR (fun hb10 => .cB) (fun hb10 => (HasO.cnd tR (notT hb10))) hv_7) <| jc (Zab lb tR) <| JL.nil ?_
 try obtain rfl := so hx2
 exact JQ.join () (Imp.norm (js := [0]) rfl (.cons rfl (.cons rfl (.cons rfl .nil))))

theorem ZaD (k : Nat) (size_1 : Int) (r_2 : Zag) (gb_3 : Nat) (r : UInt64 × Zag) (hm : ZaB k size_1 r_2 = some r) : Sim Tryz.prog 53 [PTR gb_3 0, S (rI .i64) size_1] [cvar gb_3 Zac r_2] (γ := Unit) (fun q => [cvar gb_3 Zac r.2]) (fun q => .one (.val (S (rU UInt64) r.1))) := by
 unfold ZaB at hm
 refine Sim.of Tryz.func53 rfl rfl (lE rfl) (fun e0 w0 => ?_)
 refine JC.at ⟨[(0, ov (PTR gb_3 0)), (1, ov (S (rI .i64) size_1))], [cvar gb_3 Zac r_2], []⟩ <| jr <| jc (Zab lb (HasO.cU (x := (0 : UInt64)) rfl (by decide))) <| jn <| bI hm fun size_8 hx1 hq1 => JC.seqJ (γ := Unit) (stj := fun _ => ⟨[(0, ov (PTR gb_3 0)), (1, ov (S (rI .i64) size_8))], [cvar gb_3 Zac r_2], []⟩) (fun _ => ?_) ?_
 · refine jr <| jmv rfl rfl <| jmv rfl rfl ?_
   obtain ⟨⟨v9, v10, x_11⟩, hv_9, hq1⟩ := Zay hq1
   refine jx (Zak (js := [0]) ld cl90 (Zb2 k size_8 r_2 gb_3 (v9, v10, x_11) hv_9) .func (.cons tR (.cons tR .nil)) rfl) fun _ => jmv rfl rfl <| jc (Zaz (i := 0) lb tR rfl) <| jc (Zaz (i := 1) lb tR rfl) <| jc (Zab lb tR) <| jc (Zab lb tR) <| jn <| jr <| jmv rfl rfl ?_
   obtain ⟨⟨v12, v13⟩, hv_12, hq1⟩ := Zay hq1
   refine jx (Zak (js := []) ld cl91 (Zhf k v9 (v12, v13) hv_12) .func (.cons tR .nil) rfl) fun _ => JL.sub ⟨[(23, .tup [.val (S (rU UInt64) v12), .val (S (rI .i64) v13)])], [cvar gb_3 Zac x_11], []⟩ (.cons rfl .nil) rfl rfl <| jmv rfl rfl <| jc (Zaz (i := 0) lb tR rfl) <| jc (Zaz (i := 1) lb tR rfl) <| jc (Zab lb tR) <| jc (Zab lb tR) <| jn <| jr <| jmv rfl rfl <| jc (Zab lb tR) <| jn <| JC.ret ?_
   obtain rfl := so hq1
   exact JQ.done (js := [0]) (ss := [.val (S (rU UInt64) v12)]) () (.inl rfl) (.nil rfl) rfl (.cons (.tmp rfl) .nil) rfl rfl rfl
 refine bI hx1 fun x_7 hx2 hq2 => JC.seqJ (γ := Unit) (stj := fun _ => ⟨[(0, ov (PTR gb_3 0)), (1, ov (S (rI .i64) size_1)), (14, ov (S rB x_7))], [cvar gb_3 Zac r_2], []⟩) (fun _ => ?_) ?_
 · refine jif tR hq2 (fun hc6 hq2 => ?_) (fun hc6 hq2 => ?_)
   · refine JC.region <| jc (Zab lb .cI) <| JL.nil ?_
     try obtain rfl := so hq2
     exact JQ.join () (Imp.norm (js := [0]) rfl (.cons rfl (.cons rfl .nil)))
   refine JC.skip ?_
   try obtain rfl := so hq2
   exact JQ.join () (Imp.norm (js := [0]) rfl (.cons rfl (.cons rfl .nil)))
 refine JC.region <| jmv rfl rfl <| lI hx2 fun v4 hv_4 hx2 => jc (Zaq lb tR .cI (cs hv_4)) <| jmv rfl rfl <| jF (ov (S (rI .i64) size_1)) rfl rfl rfl rfl (fun hq_3 => Zax lb tR) <| lI hx2 fun v5 hv_5 hx2 => jF (ov (S rB v5)) rfl rfl rfl rfl (fun hq_4 => Zaq lb (HasO.cnd tR (notT (notF hq_4))) .cI (cs hv_5)) <| lI hx2 fun v6 hv_6 hx2 => jc (Zao lb tR (fun hb5 => .cB) (fun hb5 => (HasO.cnd tR (notT hb5))) hv_6) <| JL.nil ?_
 try obtain rfl := so hx2
 exact JQ.join () (Imp.norm (js := [0]) rfl (.cons rfl (.cons rfl (.cons rfl .nil))))

theorem ZdG (k : Nat) (Kind_1 : Int) (From_2 : Int) (To_3 : Int) (ID_4 : Zaf) (Topic_5 : (List UInt8)) (Past_6 : (Vector UInt64 16)) (Past_7 : (Vector UInt64 16)) (Seen_8 : (Vector UInt64 16)) (Hash_9 : (Vector UInt8 32)) (Reply_10 : Bool) (x_12 : Zag) (gb_11 : Nat) (gb_13 : Nat) (r : Int × Zag) (hm : ZbP k Kind_1 From_2 To_3 ID_4 Topic_5 Past_6 Past_7 Seen_8 Hash_9 Reply_10 x_12 = some r) : Sim Tryz.prog 123 [PTR gb_11 0] [zq34 gb_11 gb_13 Kind_1 From_2 To_3 ID_4 Topic_5 Past_6 Past_7 Seen_8 Hash_9 Reply_10, cvar gb_13 Zac x_12] (γ := Unit) (fun q => [zq34 gb_11 gb_13 Kind_1 From_2 To_3 ID_4 Topic_5 Past_6 Past_7 Seen_8 Hash_9 Reply_10, cvar gb_13 Zac r.2]) (fun q => .one (.val (S (rI .i64) r.1))) := by
 unfold ZbP at hm
 refine Sim.of Tryz.func123 rfl rfl (lE rfl) (fun e0 w0 => ?_)
 refine JC.at ⟨[(0, ov (PTR gb_11 0))], [zq34 gb_11 gb_13 Kind_1 From_2 To_3 ID_4 Topic_5 Past_6 Past_7 Seen_8 Hash_9 Reply_10, cvar gb_13 Zac x_12], []⟩ <| jr <| jc (Zab lb .cI) <| jn <| jr <| jmv rfl rfl <| jc (Zas lb tR (fun e v h => by subst h; rfl)) <| jc (Zaa (off := 0) lb ZbO tR) <| jc (ZaM (j := 0) lb tS87 tR rfl (Comp.trans (Comp.self (zq29 gb_13) (zq33 Kind_1 From_2 To_3 ID_4 Topic_5 Past_6 Past_7 Seen_8 Hash_9 Reply_10)) (Comp.at' (Comp.inF (Comp.self (rW (PTR gb_13 0)) ()) (lE rfl)) (by rfl : _ = 0)) (lE rfl))) ?_
 obtain ⟨⟨v14, x_15⟩, hv_14, hm⟩ := Zay hm
 refine jx (Zak (js := [1]) ld cl53 (ZaD k (2 : Int) x_12 gb_13 (v14, x_15) hv_14) .func (.cons tR (.cons .cI .nil)) rfl) fun _ => lI hm fun v16 hv_16 hm => jc (Zcf lb tu24 tu3 tR hv_16) <| jc (Zab lb tR) <| jn <| JC.ret ?_
 obtain rfl := so hm
 exact JQ.done (js := [1, 0]) (ss := [.val (S (rI .i64) v16)]) () (.inl rfl) (.nil rfl) rfl (.cons (.tmp rfl) .nil) rfl rfl rfl

theorem Zcu (k : Nat) (r_1 : Zag) (gb_2 : Nat) (r : Zaf × Zag) (hm : ZbM k r_1 = some r) : Sim Tryz.prog 135 [PTR gb_2 0] [cvar gb_2 Zac r_1] (γ := Unit) (fun q => [cvar gb_2 Zac r.2]) (fun q => .one (.val (A Zad r.1))) := by
 unfold ZbM at hm
 refine Sim.of Tryz.func135 rfl rfl (lE rfl) (fun e0 w0 => ?_)
 refine JC.at ⟨[(0, ov (PTR gb_2 0))], [cvar gb_2 Zac r_1], []⟩ <| jr <| jx (Zbh lb tZ26 zr26) fun gb_3 => jn <| jr <| jmv rfl rfl ?_
 obtain ⟨⟨v4, v5, x_6⟩, hv_4, hm⟩ := Zay hm
 refine jx (Zak (js := [0]) ld cl90 (Zb2 k (9 : Int) r_1 gb_2 (v4, v5, x_6) hv_4) .func (.cons tR (.cons .cI .nil)) rfl) fun _ => jmv rfl rfl <| jc (Zaz (i := 0) lb tR rfl) <| jc (Zaz (i := 1) lb tR rfl) <| jc (Zab lb tR) <| jc (Zab lb tR) <| JL.sub ⟨[(2, ov (PTR gb_3 0)), (3, ov (S (rL (rU UInt8)) v4))], [cvar gb_2 Zac x_6, cvar gb_3 Zad (Zaf.mk (0 : Int) (0 : UInt64))], []⟩ (.cons rfl (.cons rfl .nil)) rfl rfl <| jn <| jr <| jmv rfl rfl <| bI hm fun v7 hv_7 hm => jx (Zak (js := []) ld cl52 (Zdq k v4 v7 hv_7) .func (.cons tR .nil) rfl) (fun q => ?_)
 obtain ⟨gb_8, go_9, gc_10⟩ := q
 refine jc (Zab lb tR) <| jn <| jr <| jmv rfl rfl ?_
 obtain ⟨⟨v11, x_12⟩, hv_11, hm⟩ := Zay hm
 refine jx (Zak (js := [0, 0]) ld cl53 (ZcC k (1 : Int) true true v7 gb_8 go_9 gc_10 (v11, x_12) hv_11) .func (.cons tR (.cons .cI .nil)) rfl) fun _ => lI hm fun v13 hv_13 hm => jc (Zcf lb tu24 tu3 tR hv_13) <| jmv rfl rfl ?_
 obtain ⟨⟨v14, x_15⟩, hv_14, hm⟩ := Zay hm
 refine jx (Zak (js := [0]) ld cl53 (ZaD k (8 : Int) x_12 gb_8 (v14, x_15) hv_14) .func (.cons tR (.cons .cI .nil)) rfl) fun _ => JL.nrm ⟨[(2, ov (PTR gb_3 0)), (15, ov (S (rI .i64) v13)), (17, ov (S (rU UInt64) v14))], [cvar gb_2 Zac x_6, cvar gb_3 Zad (Zaf.mk (0 : Int) (0 : UInt64))], []⟩ [2, 2] rfl (.cons rfl (.cons rfl (.cons rfl .nil))) rfl <| jc (Za9 lb tZ26 zs26 tp26 (.S (off := 0) rfl tR rfl ((UpdR.fst (UpdR.self (by rfl))).at (by rfl)) (.S (off := 1) rfl tR rfl ((UpdR.snd (UpdR.fst (UpdR.self (by rfl)))).at (by rfl)) .nil)) rfl) <| jc (ZaP (j := 1) tA26 tR tR rfl (UpdR.self (by rfl)) rfl) <| jn <| JC.ret ?_
 obtain rfl := so hm
 refine JQ.pre (Imp.var (j := 1) (q := Zad) (y := (Zaf.mk v13 v14)) rfl (Wk.st Wk.refl)) ?_
 exact JQ.done (js := [0]) (ss := [.val (A Zad (Zaf.mk v13 v14))]) () (.inl rfl) (.nil rfl) rfl (.cons (.cellA (j := 1) tA26 rfl rfl) .nil) rfl rfl rfl

theorem ZcQ (k : Nat) (n_1 : Int) (r_2 : Zag) (gb_3 : Nat) (r : (List UInt8) × Zag) (hm : ZbJ k n_1 r_2 = some r) : Sim Tryz.prog 128 [PTR gb_3 0, S (rI .i64) n_1] [cvar gb_3 Zac r_2] (γ := Unit) (fun q => [cvar gb_3 Zac r.2]) (fun q => .one (.val (S (rL (rU UInt8)) r.1))) := by
 unfold ZbJ at hm
 refine Sim.of Tryz.func128 rfl rfl (lE rfl) (fun e0 w0 => ?_)
 refine JC.at ⟨[(0, ov (PTR gb_3 0)), (1, ov (S (rI .i64) n_1))], [cvar gb_3 Zac r_2], []⟩ <| jr <| jc (Zab lb HasO.nilH) <| jn <| jr <| jmv rfl rfl <| jmv rfl rfl ?_
 obtain ⟨⟨v4, v5, x_6⟩, hv_4, hm⟩ := Zay hm
 refine jx (Zak (js := [0]) ld cl90 (Zb2 k n_1 r_2 gb_3 (v4, v5, x_6) hv_4) .func (.cons tR (.cons tR .nil)) rfl) fun _ => jmv rfl rfl <| jc (Zaz (i := 0) lb tR rfl) <| jc (Zaz (i := 1) lb tR rfl) <| jc (Zab lb tR) <| jc (Zab lb tR) <| jn <| jr <| jmv rfl rfl <| JL.sub ⟨[(4, ov (HDR none 0 0 0)), (13, ov (S (rL (rU UInt8)) v4))], [cvar gb_3 Zac x_6], []⟩ (.cons rfl (.cons rfl .nil)) rfl rfl <| jc (Zab lb tR) <| jn <| JC.ret ?_
 obtain rfl := so hm
 exact JQ.done (js := [0]) (ss := [.val (S (rL (rU UInt8)) v4)]) () (.inl rfl) (.nil rfl) rfl (.cons (.tmp rfl) .nil) rfl rfl rfl

theorem Zbr (k : Nat) (r_1 : Zag) (gb_2 : Nat) (r : (List UInt8) × Zag) (hm : Zbw k r_1 = some r) : Sim Tryz.prog 144 [PTR gb_2 0] [cvar gb_2 Zac r_1] (γ := Unit) (fun q => [cvar gb_2 Zac r.2]) (fun q => .one (.val (S (rL (rU UInt8)) r.1))) := by
 unfold Zbw at hm
 refine Sim.of Tryz.func144 rfl rfl (lE rfl) (fun e0 w0 => ?_)
 refine JC.at ⟨[(0, ov (PTR gb_2 0))], [cvar gb_2 Zac r_1], []⟩ <| jr <| jc (Zab lb HasO.nilH) <| jn <| jr <| jmv rfl rfl <| jmv rfl rfl ?_
 obtain ⟨⟨v3, x_4⟩, hv_3, hm⟩ := Zay hm
 refine jx (Zak (js := [0]) ld cl53 (ZaD k (2 : Int) r_1 gb_2 (v3, x_4) hv_3) .func (.cons tR (.cons .cI .nil)) rfl) fun _ => lI hm fun v5 hv_5 hm => jc (Zcf lb tu24 tu3 tR hv_5) ?_
 obtain ⟨⟨v6, x_7⟩, hv_6, hm⟩ := Zay hm
 refine jx (Zak (js := [0]) ld Zmo (ZcQ k v5 x_4 gb_2 (v6, x_7) hv_6) .func (.cons tR (.cons tR .nil)) rfl) fun _ => jc (Zab lb tR) <| jn <| JC.ret ?_
 obtain rfl := so hm
 exact JQ.done (js := [0]) (ss := [.val (S (rL (rU UInt8)) v6)]) () (.inl rfl) (.nil rfl) rfl (.cons (.tmp rfl) .nil) rfl rfl rfl

theorem ZfN (k : Nat) (Kind_1 : Int) (From_2 : Int) (To_3 : Int) (ID_4 : Zaf) (Topic_5 : (List UInt8)) (Past_6 : (Vector UInt64 16)) (Past_7 : (Vector UInt64 16)) (Seen_8 : (Vector UInt64 16)) (Hash_9 : (Vector UInt8 32)) (Reply_10 : Bool) (x_12 : Zag) (gb_11 : Nat) (gb_13 : Nat) (r : Zap × Zag) (hm : ZdI k Kind_1 From_2 To_3 ID_4 Topic_5 Past_6 Past_7 Seen_8 Hash_9 Reply_10 x_12 = some r) : Sim Tryz.prog 125 [PTR gb_11 0] [zq34 gb_11 gb_13 Kind_1 From_2 To_3 ID_4 Topic_5 Past_6 Past_7 Seen_8 Hash_9 Reply_10, cvar gb_13 Zac x_12] (γ := Unit) (fun q => [zq34 gb_11 gb_13 Kind_1 From_2 To_3 ID_4 Topic_5 Past_6 Past_7 Seen_8 Hash_9 Reply_10, cvar gb_13 Zac r.2]) (fun q => .one (.val (A Zaj r.1))) := by
 unfold ZdI at hm
 refine Sim.of Tryz.func125 rfl rfl (lE rfl) (fun e0 w0 => ?_)
 refine JC.at ⟨[(0, ov (PTR gb_11 0))], [zq34 gb_11 gb_13 Kind_1 From_2 To_3 ID_4 Topic_5 Past_6 Past_7 Seen_8 Hash_9 Reply_10, cvar gb_13 Zac x_12], []⟩ <| jr <| jx (Zbh lb tZ62 zr62) fun gb_14 => jn <| JC.seq ?_
 obtain ⟨⟨v15, x_16⟩, hv_15, hm⟩ := Zay hm
 obtain ⟨⟨v17, x_18⟩, hv_17, hm⟩ := Zay hm
 obtain ⟨v19, hv_19, hm⟩ := ZaQ hm
 refine JC.anyF (base := [(0, ov (PTR gb_11 0)), (2, ov (PTR gb_14 0))])
     (fs := fun γ => [⟨some 4, ov (PTR gb_11 0)⟩, ⟨some 5, ov (PTR gb_11 0)⟩, ⟨some 6, ov (PTR gb_11 (0 + 0))⟩, ⟨some 7, ov (PTR gb_13 0)⟩, ⟨some 8, ov (A Zad v15)⟩, ⟨some 9, ov (PTR gb_11 0)⟩, ⟨some 10, ov (PTR gb_11 0)⟩, ⟨some 11, ov (PTR gb_11 (0 + 0))⟩, ⟨some 12, ov (PTR gb_13 0)⟩, ⟨some 13, ov (S (rU UInt64) v17)⟩, ⟨some 14, ov (S rB v19)⟩, ⟨some 15, ov (A zq37 (zq39 v15 v19))⟩, ⟨some 3, ov (PTR (γ 12 0) 0)⟩, ⟨none, .one .any⟩])
     (rs := fun γ => [⟨zq34 gb_11 gb_13 Kind_1 From_2 To_3 ID_4 Topic_5 Past_6 Past_7 Seen_8 Hash_9 Reply_10, none, none, [3, 8]⟩, ⟨cvar gb_13 Zac x_12, none, (some 4), []⟩, ⟨zq35 gb_14, none, none, []⟩, ⟨cvar gb_13 Zac x_16, (some 4), (some 9), []⟩, ⟨cvar gb_13 Zac x_18, (some 9), none, []⟩, ⟨zq35 (γ 12 0), (some 12), (some 13), []⟩, ⟨cvar (γ 12 0) zq37 (zq39 v15 v19), (some 13), none, []⟩])
     (afts := [[], [], [], [], [], [], [], [], [], [], [], [], [12, 13], []]) (js := [0, 0, 0]) ZbT (.cons rfl (.cons rfl .nil)) (fun _ => rfl)
     (by
      refine db 1 0 <| dS 2 (fun γ ρ B hb hd => Zas lb (tl hd 0 4) (fun e v h => by subst h; rfl)) <| dS 3 (fun γ ρ B hb hd => Zaa (off := 0) lb ZbO (tl hd 1 5)) <| dR 4 (fun γ ρ B hb hd => Zan.lk ⟨ρ, (zq34 gb_11 gb_13 Kind_1 From_2 To_3 ID_4 Topic_5 Past_6 Past_7 Seen_8 Hash_9 Reply_10) :: B, _⟩ (ZaM (j := 0) lb tS87 (tl hd 2 6) rfl (Comp.trans (Comp.self (zq29 gb_13) (zq33 Kind_1 From_2 To_3 ID_4 Topic_5 Past_6 Past_7 Seen_8 Hash_9 Reply_10)) (Comp.at' (Comp.inF (Comp.self (rW (PTR gb_13 0)) ()) (lE rfl)) (by rfl : _ = 0)) (lE rfl)))) <| dR 5 (fun γ ρ B hb hd => Zan.at ⟨ρ, (cvar gb_13 Zac x_12) :: B, _⟩ (setO ⟨ρ, (cvar gb_13 Zac x_16) :: B, _⟩ _ _) ((Zak (js := [0]) ld ZkN (Zcu k x_12 gb_13 (v15, x_16) hv_15) .func (.cons (tl hd 3 7) .nil) rfl).post (fun _ => Imp.refl))) ?_
      refine db 6 0 <| dS 7 (fun γ ρ B hb hd => Zas lb (tl hd 5 9) (fun e v h => by subst h; rfl)) <| dS 8 (fun γ ρ B hb hd => Zaa (off := 0) lb ZbO (tl hd 6 10)) <| dR 9 (fun γ ρ B hb hd => Zan.lk ⟨ρ, (zq34 gb_11 gb_13 Kind_1 From_2 To_3 ID_4 Topic_5 Past_6 Past_7 Seen_8 Hash_9 Reply_10) :: B, _⟩ (ZaM (j := 0) lb tS87 (tl hd 7 11) rfl (Comp.trans (Comp.self (zq29 gb_13) (zq33 Kind_1 From_2 To_3 ID_4 Topic_5 Past_6 Past_7 Seen_8 Hash_9 Reply_10)) (Comp.at' (Comp.inF (Comp.self (rW (PTR gb_13 0)) ()) (lE rfl)) (by rfl : _ = 0)) (lE rfl)))) <| dR 10 (fun γ ρ B hb hd => Zan.at ⟨ρ, (cvar gb_13 Zac x_16) :: B, _⟩ (setO ⟨ρ, (cvar gb_13 Zac x_18) :: B, _⟩ _ _) ((Zak (js := [0]) ld cl53 (ZaD k (1 : Int) x_16 gb_13 (v17, x_18) hv_17) .func (.cons (tl hd 8 12) (.cons .cI .nil)) rfl).post (fun _ => Imp.refl))) ?_
      refine dS 11 (fun γ ρ B hb hd => ZbH lb (tl hd 9 13) (HasO.cU (x := (0 : UInt64)) rfl (by decide)) (cs hv_19)) <| dS 12 (fun γ ρ B hb hd => Za9 lb tZ62 zs62 tp62 (.A (off := 0) rfl (tl hd 4 8) ((UpdR.fst (UpdR.self (by rfl))).at (by rfl)) (.S (off := 4) rfl (tl hd 10 14) rfl ((UpdR.snd (UpdR.snd (UpdR.fst (UpdR.self (by rfl))))).at (by rfl)) .nil)) rfl) ?_
      refine ZaG.cons (j := 13) rfl (fun _ => rfl) (.runX (fun _ _ => rfl) (fun γ ρ B hb hd => ⟨.none, OpX.ghost (γ := Nat) (st' := fun q => setO ⟨ρ, (zq35 q) :: B, _⟩ (some 3) (ov (PTR q 0))) (fun q c => q) (OpX.front (Zbh lb tZ62 zr62)) (fun q => Imp.refl)⟩) (fun _ _ => rfl) (fun _ _ => rfl)) ?_
      refine dR 14 (fun γ ρ B hb hd => Zan.at ⟨ρ, (zq35 (γ 12 0)) :: B, _⟩ (setO ⟨ρ, (cvar (γ 12 0) zq37 (zq39 v15 v19)) :: B, _⟩ _ _) (ZaP (j := 0) tA62 (tl hd 12 3) (tl hd 11 15) rfl (UpdR.self (by rfl)) rfl)) ?_
      exact ZaG.nil)
     (by decide +kernel) (fun _ => rfl) (fun _ => rfl) (fun _ => rfl) rfl
     (ρ' := fun γ => [(0, ov (PTR gb_11 0)), (2, ov (PTR gb_14 0)), (3, ov (PTR (γ 12 0) 0))])
     (X' := fun γ => [zq34 gb_11 gb_13 Kind_1 From_2 To_3 ID_4 Topic_5 Past_6 Past_7 Seen_8 Hash_9 Reply_10, zq35 gb_14, cvar gb_13 Zac x_18, cvar (γ 12 0) zq37 (zq39 v15 v19)])
     (fun γ ρ hb hd => (.cons (hb 0 _ rfl) (.cons (hb 2 _ rfl) (.cons (hdq hd 12 3 rfl) .nil)))) (fun _ => rfl) (fun γ => ?_)
 generalize (γ 12 0) = gb_20
 clear γ
 refine JQ.at ⟨[(0, ov (PTR gb_11 0)), (2, ov (PTR gb_14 0)), (3, ov (PTR gb_20 0))], [zq34 gb_11 gb_13 Kind_1 From_2 To_3 ID_4 Topic_5 Past_6 Past_7 Seen_8 Hash_9 Reply_10, zq35 gb_14, cvar gb_13 Zac x_18, cvar gb_20 zq37 (zq39 v15 v19)], []⟩ <| JQ.then ?_
 obtain ⟨⟨i_26, x_27⟩, hx1, hq1⟩ := Zay hm
 refine JC.seqJ (γ := Unit) (stj := fun _ => ⟨[(2, ov (PTR gb_14 0)), (3, ov (PTR gb_20 0))], [zq35 gb_14, cvar gb_20 Zaj i_26, zq34 gb_11 gb_13 Kind_1 From_2 To_3 ID_4 Topic_5 Past_6 Past_7 Seen_8 Hash_9 Reply_10, cvar gb_13 Zac x_27], []⟩) (fun _ => ?_) ?_
 · refine jr <| jc (Zaw (j := 1) lb tA62 tR rfl (Comp.self Zaj i_26) rfl) <| jc (ZaP (j := 0) tA62 tR tR rfl (UpdR.self (by rfl)) rfl) <| jn <| JC.ret ?_
   obtain rfl := so hq1
   exact JQ.done (js := [2, 2]) (ss := [.val (A Zaj i_26)]) () (.inl rfl) (.nil rfl) rfl (.cons (.cellA (j := 0) tA62 rfl rfl) .nil) rfl rfl rfl
 refine jr <| jc (Zaa (off := 4) lb ZiB tR) <| jc (Zai (j := 3) lb tS4 tR rfl (Comp.trans (Comp.self zq37 (zq39 v15 v19)) (Comp.at' (Comp.inS (Comp.inS (Comp.inF (Comp.self rB v19) (lE rfl)))) (by rfl : _ = 4)) (lE rfl)) rfl rfl) <| lI hx1 fun v21 hv_21 hx1 => jc (Zbc lb tR hv_21) <| jn <| jif tR hx1 (fun hc2 hx1 => ?_) (fun hc2 hx1 => ?_)
 · obtain ⟨⟨v22, x_23⟩, hv_22, hx1⟩ := Zay hx1
   obtain ⟨⟨v24, x_25⟩, hv_24, hx1⟩ := Zay hx1
   refine JC.anyF (base := [(0, ov (PTR gb_11 0)), (2, ov (PTR gb_14 0)), (3, ov (PTR gb_20 0))])
       (fs := fun γ => [⟨some 19, ov (PTR gb_11 0)⟩, ⟨some 20, ov (PTR gb_11 0)⟩, ⟨some 21, ov (PTR gb_11 (0 + 0))⟩, ⟨some 22, ov (PTR gb_13 0)⟩, ⟨some 23, ov (S (rL (rU UInt8)) v22)⟩, ⟨some 24, ov (S rS v22)⟩, ⟨some 25, ov (PTR gb_11 0)⟩, ⟨some 26, ov (PTR gb_11 0)⟩, ⟨some 27, ov (PTR gb_11 (0 + 0))⟩, ⟨some 28, ov (PTR gb_13 0)⟩, ⟨some 29, ov (S (rL (rU UInt8)) v24)⟩, ⟨some 30, ov (S rS v24)⟩, ⟨some 31, ov (A (rP rS (rP rS r0)) (v22, (v24, ())))⟩, ⟨some 32, ov (PTR gb_20 (0 + 2))⟩, ⟨none, .one .any⟩])
       (rs := fun γ => [⟨zq34 gb_11 gb_13 Kind_1 From_2 To_3 ID_4 Topic_5 Past_6 Past_7 Seen_8 Hash_9 Reply_10, none, none, [3, 9]⟩, ⟨zq35 gb_14, none, none, []⟩, ⟨cvar gb_13 Zac x_18, none, (some 4), []⟩, ⟨cvar gb_20 zq37 (zq39 v15 v19), none, (some 14), []⟩, ⟨cvar gb_13 Zac x_23, (some 4), (some 10), []⟩, ⟨cvar gb_13 Zac x_25, (some 10), none, []⟩, ⟨cvar gb_20 zq41 (v15, ((v22, (v24, ())), (v19, ()))), (some 14), none, []⟩])
       (afts := nn 15) (js := [0, 0, 0, 0]) ZbT (.cons rfl (.cons rfl (.cons rfl .nil))) (fun _ => rfl)
       (by
      refine db 1 0 <| dS 2 (fun γ ρ B hb hd => Zas lb (tl hd 0 19) (fun e v h => by subst h; rfl)) <| dS 3 (fun γ ρ B hb hd => Zaa (off := 0) lb ZbO (tl hd 1 20)) <| dR 4 (fun γ ρ B hb hd => Zan.lk ⟨ρ, (zq34 gb_11 gb_13 Kind_1 From_2 To_3 ID_4 Topic_5 Past_6 Past_7 Seen_8 Hash_9 Reply_10) :: B, _⟩ (ZaM (j := 0) lb tS87 (tl hd 2 21) rfl (Comp.trans (Comp.self (zq29 gb_13) (zq33 Kind_1 From_2 To_3 ID_4 Topic_5 Past_6 Past_7 Seen_8 Hash_9 Reply_10)) (Comp.at' (Comp.inF (Comp.self (rW (PTR gb_13 0)) ()) (lE rfl)) (by rfl : _ = 0)) (lE rfl)))) <| dR 5 (fun γ ρ B hb hd => Zan.at ⟨ρ, (cvar gb_13 Zac x_18) :: B, _⟩ (setO ⟨ρ, (cvar gb_13 Zac x_23) :: B, _⟩ _ _) ((Zak (js := [0]) ld ZjT (Zbr k x_18 gb_13 (v22, x_23) hv_22) .func (.cons (tl hd 3 22) .nil) rfl).post (fun _ => Imp.refl))) ?_
      refine dS 6 (fun γ ρ B hb hd => ZdU lb tu27 tu5 tu9 (tl hd 4 23)) <| db 7 0 <| dS 8 (fun γ ρ B hb hd => Zas lb (tl hd 6 25) (fun e v h => by subst h; rfl)) <| dS 9 (fun γ ρ B hb hd => Zaa (off := 0) lb ZbO (tl hd 7 26)) <| dR 10 (fun γ ρ B hb hd => Zan.lk ⟨ρ, (zq34 gb_11 gb_13 Kind_1 From_2 To_3 ID_4 Topic_5 Past_6 Past_7 Seen_8 Hash_9 Reply_10) :: B, _⟩ (ZaM (j := 0) lb tS87 (tl hd 8 27) rfl (Comp.trans (Comp.self (zq29 gb_13) (zq33 Kind_1 From_2 To_3 ID_4 Topic_5 Past_6 Past_7 Seen_8 Hash_9 Reply_10)) (Comp.at' (Comp.inF (Comp.self (rW (PTR gb_13 0)) ()) (lE rfl)) (by rfl : _ = 0)) (lE rfl)))) ?_
      refine dR 11 (fun γ ρ B hb hd => Zan.at ⟨ρ, (cvar gb_13 Zac x_23) :: B, _⟩ (setO ⟨ρ, (cvar gb_13 Zac x_25) :: B, _⟩ _ _) ((Zak (js := [0]) ld ZjT (Zbr k x_23 gb_13 (v24, x_25) hv_24) .func (.cons (tl hd 9 28) .nil) rfl).post (fun _ => Imp.refl))) <| dS 12 (fun γ ρ B hb hd => ZdU lb tu27 tu5 tu9 (tl hd 10 29)) <| dS 13 (fun γ ρ B hb hd => Za9 lb tZ60 zs60 tp60 (.S (off := 0) rfl (tl hd 5 24) rfl ((UpdR.fst (UpdR.self (by rfl))).at (by rfl)) (.S (off := 1) rfl (tl hd 11 30) rfl ((UpdR.snd (UpdR.fst (UpdR.self (by rfl)))).at (by rfl)) .nil)) rfl) <| dS 14 (fun γ ρ B hb hd => Zaa (off := 2) lb Zfa (.tmp (hb 3 _ rfl))) <| dR 15 (fun γ ρ B hb hd => Zan.at ⟨ρ, (cvar gb_20 zq37 (zq39 v15 v19)) :: B, _⟩ (setO ⟨ρ, (cvar gb_20 zq41 (v15, ((v22, (v24, ())), (v19, ())))) :: B, _⟩ _ _) (ZaP (j := 0) tA60 (tl hd 13 32) (tl hd 12 31) rfl ((UpdR.snd (UpdR.fst (UpdR.self (by rfl)))).at (by change (2 + 0) = (0 + 2); omega)) rfl)) ?_
      exact ZaG.nil)
       (by decide +kernel) (fun _ => rfl) (fun _ => rfl) (fun _ => rfl) rfl
       (ρ' := fun γ => [(2, ov (PTR gb_14 0)), (3, ov (PTR gb_20 0))])
       (X' := fun γ => [zq34 gb_11 gb_13 Kind_1 From_2 To_3 ID_4 Topic_5 Past_6 Past_7 Seen_8 Hash_9 Reply_10, zq35 gb_14, cvar gb_13 Zac x_25, cvar gb_20 zq41 (v15, ((v22, (v24, ())), (v19, ())))])
       (fun γ ρ hb hd => (.cons (hb 2 _ rfl) (.cons (hb 3 _ rfl) .nil))) (fun _ => rfl) (fun γ => ?_)
   refine JQ.at ⟨[(2, ov (PTR gb_14 0)), (3, ov (PTR gb_20 0))], [zq34 gb_11 gb_13 Kind_1 From_2 To_3 ID_4 Topic_5 Past_6 Past_7 Seen_8 Hash_9 Reply_10, zq35 gb_14, cvar gb_13 Zac x_25, cvar gb_20 zq41 (v15, ((v22, (v24, ())), (v19, ())))], []⟩ ?_
   have hz := Option.some.inj hx1
   replace hz := Prod.mk.inj hz
   obtain ⟨hz_a, hz⟩ := hz
   first | subst hz_a | clear hz_a
   first | subst hz | clear hz
   refine JQ.pre (Imp.var (j := 3) (q := Zaj) (y := (Zap.mk v15 (Zbq.mk v22 v24) v19)) rfl (Wk.st (Wk.pair Wk.refl (Wk.pair (Wk.st Wk.refl) (Wk.pair Wk.refl Wk.refl))))) ?_
   exact JQ.join () (Imp.norm (js := [1, 2, 0, 0]) rfl (.cons rfl (.cons rfl .nil)))
 refine JC.skip ?_
 have hz := Option.some.inj hx1
 replace hz := Prod.mk.inj hz
 obtain ⟨hz_a, hz⟩ := hz
 first | subst hz_a | clear hz_a
 first | subst hz | clear hz
 refine JQ.pre (Imp.var (j := 3) (q := Zaj) (y := (Zap.mk v15 ((Zap.mk (Zaf.mk (0 : Int) (0 : UInt64)) (Zbq.mk ([] : (List UInt8)) ([] : (List UInt8))) false).Key) v19)) rfl (Wk.st Wk.refl)) ?_
 exact JQ.join () (Imp.norm (js := [1, 2, 0, 0]) rfl (.cons rfl (.cons rfl .nil)))

theorem ZfG (k : Nat) (n_1 : Int) (r_2 : Zag) (Kind_4 : Int) (From_5 : Int) (To_6 : Int) (ID_7 : Zaf) (Topic_8 : (List UInt8)) (Past_9 : (Vector UInt64 16)) (Past_10 : (Vector UInt64 16)) (Seen_11 : (Vector UInt64 16)) (Hash_12 : (Vector UInt8 32)) (Reply_13 : Bool) (gb_3 : Nat) (gb_14 : Nat) (r : (List Zap) × Zag) (hm : frame_listapi_Item k n_1 r_2 Kind_4 From_5 To_6 ID_7 Topic_8 Past_9 Past_10 Seen_11 Hash_12 Reply_13 = some r) : Sim Tryz.prog 124 [PTR gb_3 0, S (rI .i64) n_1, BND 125 [PTR gb_14 0]] [cvar gb_3 Zac r_2, zq34 gb_14 gb_3 Kind_4 From_5 To_6 ID_7 Topic_8 Past_9 Past_10 Seen_11 Hash_12 Reply_13] (γ := Option Nat × Nat) (fun q => [cown q.1 Zaj r.1 0 q.2, cvar gb_3 Zac r.2, zq34 gb_14 gb_3 Kind_4 From_5 To_6 ID_7 Topic_8 Past_9 Past_10 Seen_11 Hash_12 Reply_13]) (fun q => .one (.val (HDR q.1 0 (List.length r.1) q.2))) := by
 unfold frame_listapi_Item at hm
 refine Sim.of Tryz.func124 rfl rfl (lE rfl) (fun e0 w0 => ?_)
 refine JC.at ⟨[(0, ov (PTR gb_3 0)), (1, ov (S (rI .i64) n_1)), (2, ov (BND 125 [PTR gb_14 0]))], [cvar gb_3 Zac r_2, zq34 gb_14 gb_3 Kind_4 From_5 To_6 ID_7 Topic_8 Past_9 Past_10 Seen_11 Hash_12 Reply_13], []⟩ <| jr <| jc (Zab lb HasO.nilH) <| jn <| jr <| jc (Zab lb HasO.nilH) <| jn <| bI hm fun tv1 hx1 hq1 => JC.seqK (α := (List Zap) × Zag) (γ := Option Nat × Nat) (stj := fun v q => ⟨[(7, ov (HDR q.1 0 (List.length v.1) q.2))], [cown q.1 Zaj v.1 0 q.2, cvar gb_3 Zac v.2, zq34 gb_14 gb_3 Kind_4 From_5 To_6 ID_7 Topic_8 Past_9 Past_10 Seen_11 Hash_12 Reply_13], []⟩) (p := fun v => tv1 = (.inl v)) (fun v q hv => ?_) ?_
 · subst hv
   obtain ⟨l_32, x_33⟩ := v
   obtain ⟨go_34, gc_35⟩ := q
   dsimp only at hq1
   refine JC.at ⟨[(7, ov (HDR go_34 0 (List.length l_32) gc_35))], [cown go_34 Zaj l_32 0 gc_35, cvar gb_3 Zac x_33, zq34 gb_14 gb_3 Kind_4 From_5 To_6 ID_7 Topic_8 Past_9 Past_10 Seen_11 Hash_12 Reply_13], []⟩ <| jr <| jmv rfl rfl <| jc (Zab lb tR) <| jn <| JC.ret ?_
   obtain rfl := so hq1
   exact JQ.done (js := [0, 0, 0]) (ss := [.val (HDR go_34 0 (List.length l_32) gc_35)]) (go_34, gc_35) (.inl rfl) (.nil rfl) rfl (.cons (.tmp rfl) .nil) rfl rfl rfl
 refine jr <| jmv rfl rfl <| jc (Zax lb .cI) <| jn <| JC.block <| bI hx1 fun tv2 hL2 hq2 => JC.pre (Imp.nilown Zaj) <| JC.pre ?_ (JC.loop (γ := Option Nat × Nat) (stf := fun s q => ⟨[(0, ov (PTR gb_3 0)), (2, ov (BND 125 [PTR gb_14 0])), (7, ov (HDR q.1 0 (List.length s.2.1) q.2)), (8, ov (S (rI .i64) n_1)), (9, ov (S (rI .i64) s.2.2))], [cvar gb_3 Zac s.1, zq34 gb_14 gb_3 Kind_4 From_5 To_6 ID_7 Topic_8 Past_9 Past_10 Seen_11 Hash_12 Reply_13, cown q.1 Zaj s.2.1 0 q.2], []⟩) (q := (none, 0)) hL2 ?_)
 · exact (Imp.norm (js := [0, 0, 0]) rfl (.cons rfl (.cons rfl (.cons rfl (.cons rfl (.cons rfl .nil))))))
 intro s q x hx hr
 obtain ⟨r_15, l_16, x_17⟩ := s
 obtain ⟨go_18, gc_19⟩ := q
 change frame_listapi_Item.b1 k n_1 Kind_4 From_5 To_6 ID_7 Topic_8 Past_9 Past_10 Seen_11 Hash_12 Reply_13 r_15 l_16 x_17 = some x at hx
 unfold frame_listapi_Item.b1 at hx
 refine JC.at ⟨[(0, ov (PTR gb_3 0)), (2, ov (BND 125 [PTR gb_14 0])), (7, ov (HDR go_18 0 (List.length l_16) gc_19)), (8, ov (S (rI .i64) n_1)), (9, ov (S (rI .i64) x_17))], [cvar gb_3 Zac r_15, zq34 gb_14 gb_3 Kind_4 From_5 To_6 ID_7 Topic_8 Past_9 Past_10 Seen_11 Hash_12 Reply_13, cown go_18 Zaj l_16 0 gc_19], []⟩ <| jr <| lI hx fun v20 hv_20 hx => jc (Zaq lb tR tR (cs hv_20)) <| jn <| JC.seq <| jif tR hx (fun hc3 hx => ?_) (fun hc3 hx => ?_)
 · refine JC.skip <| JQ.then <| JC.seq <| JC.block <| JC.seq <| jr <| jmv rfl rfl <| bI hx fun v21 hv_21 hx => jx (Zak (js := [0]) ld ZiU (Za2 k r_15 gb_3 v21 hv_21) .func (.cons tR .nil) rfl) fun _ => jn <| jif tR hx (fun hc4 hx => ?_) (fun hc4 hx => ?_)
   · refine jr <| jc (Zab lb HasO.nilH) <| jn <| JC.ret <| JQ.outR <| JQ.outRB <| JQ.outR ?_
     try obtain rfl := so hx
     try obtain rfl := hr _ rfl
     dsimp only at hq2
     refine JQ.outR <| JQ.outRB ?_
     try obtain rfl := so hq2
     dsimp only at hq1
     refine JQ.outR ?_
     obtain rfl := so hq1
     exact JQ.pre (Imp.nilown Zaj) <| JQ.done (js := [3, 0, 0]) (ss := [.val (HDR none 0 (List.length ([] : (List Zap))) (0))]) (none, 0) (.inl rfl) (.nil rfl) rfl (.cons (.tmp rfl) .nil) rfl rfl rfl
   refine JC.skip <| JQ.then <| JC.region <| jmv rfl rfl <| jmv rfl rfl ?_
   obtain ⟨⟨v22, x_23⟩, hv_22, hx⟩ := Zay hx
   refine jx (Zhv (js := [1, 0]) ld Znr (ZfN k Kind_4 From_5 To_6 ID_7 Topic_8 Past_9 Past_10 Seen_11 Hash_12 Reply_13 r_15 gb_14 gb_3 (v22, x_23) hv_22) tR .nil rfl) fun _ => jc (Zca (r := Zaj) lb tu23 tz62 tZ62 rfl (lE rfl) (.A tR .nil) rfl) <| bI hx fun l_24 hv_l_24 hx => jx (Zbp (j := 2) lb tu23 tu23 rfl tB62 rfl (Nat.lt_of_lt_of_le Nat.zero_lt_one (lE rfl)) (Nat.lt_of_lt_of_le Nat.zero_lt_one (lE rfl))  rfl tR tR hv_l_24) (fun q => ?_)
   obtain ⟨go_25, gc_26⟩ := q
   refine JL.sub ⟨[(0, ov (PTR gb_3 0)), (2, ov (BND 125 [PTR gb_14 0])), (8, ov (S (rI .i64) n_1)), (9, ov (S (rI .i64) x_17)), (17, ov (HDR go_25 0 (List.length l_24) gc_26))], [zq34 gb_14 gb_3 Kind_4 From_5 To_6 ID_7 Topic_8 Past_9 Past_10 Seen_11 Hash_12 Reply_13, cvar gb_3 Zac x_23, cown go_25 Zaj l_24 0 gc_26], []⟩ (.cons rfl (.cons rfl (.cons rfl (.cons rfl (.cons rfl .nil))))) rfl rfl <| jc (Zab lb tR) <| JL.nil <| JQ.outNB <| JQ.then <| JC.region <| lI hx fun v27 hv_27 hx => jc (ZaY lb tR .cI (cs hv_27)) <| jmv rfl rfl <| JL.nil ?_
   try obtain rfl := so hx
   exact JQ.next (go_25, gc_26) rfl (Imp.norm (js := [1, 0, 0]) rfl (.cons rfl (.cons rfl (.cons rfl (.cons rfl (.cons rfl .nil))))))
 refine JC.exit <| JQ.outX ?_
 try obtain rfl := so hx
 try obtain rfl := hr _ rfl
 dsimp only at hq2
 refine JQ.outX <| JQ.here ?_
 try obtain rfl := so hq2
 exact JQ.joinK (l_16, r_15) (go_18, gc_19) rfl (Imp.norm (js := [2, 0, 0]) rfl (.cons rfl .nil))

end Go.Proofs.YtklnihlchhhhlaaGreat
