/- Walks. -/
import Derived.Test.YtklnihlchhhhlaaGreatT
import Derived.Test.YtklnihlchhhhlaaGreatW3
namespace Go.Proofs.YtklnihlchhhhlaaGreat
open Go Fw
set_option linter.unusedVariables false
set_option maxRecDepth 100000
set_option maxHeartbeats 4000000

theorem Zcq (k : Nat) (n_1 : UInt64) (size_2 : Int) (r : (List UInt8) × Int) (hm : wire_Put k n_1 size_2 = some r) : Sim Tryz.prog 79 [S (rU UInt64) n_1, S (rI .i64) size_2] [] (γ := Option Nat × Nat) (fun q => [cown q.1 (rU UInt8) r.1 0 q.2]) (fun q => .tup [.val (HDR q.1 0 (List.length r.1) q.2), .val (S (rI .i64) r.2)]) := by
 unfold wire_Put at hm
 refine Sim.of Tryz.func79 rfl rfl (lE rfl) (fun e0 w0 => ?_)
 refine JC.at ⟨[(0, ov (S (rU UInt64) n_1)), (1, ov (S (rI .i64) size_2))], [], []⟩ <| jr <| jc (Zab lb HasO.nilH) <| jc (Zab lb .cI) <| jn <| JC.seq <| bI hm fun x_12 hx1 hq1 => JC.seqJ (γ := Unit) (stj := fun _ => ⟨[(0, ov (S (rU UInt64) n_1)), (1, ov (S (rI .i64) size_2)), (24, ov (S rB x_12))], [], []⟩) (fun _ => ?_) ?_
 · refine jif tR hq1 (fun hc16 hq1 => ?_) (fun hc16 hq1 => ?_)
   · refine jr <| jc (Zab lb HasO.nilH) <| jc (Zab lb .cI) <| jn <| JC.ret <| JQ.outR ?_
     obtain rfl := so hq1
     exact JQ.pre (Imp.nilown (rU UInt8)) <| JQ.done (js := [0]) (ss := [.val (HDR none 0 (List.length ([] : (List UInt8))) (0)), .val (S (rI .i64) (2 : Int))]) (none, 0) (.inl rfl) (.nil rfl) rfl (.cons (.tmp rfl) (.cons (.tmp rfl) .nil)) rfl rfl rfl
   refine JC.skip <| JQ.then <| jr <| jc (Zab lb HasO.nilH) <| jn <| bI hq1 fun b_27 hx17 hq17 => JC.seqJ (γ := Option Nat × Nat) (stj := fun q => ⟨[(6, ov (HDR q.1 0 (List.length b_27) q.2))], [cown q.1 (rU UInt8) b_27 0 q.2], []⟩) (fun q => ?_) ?_
   · obtain ⟨go_28, gc_29⟩ := q
     refine JC.at ⟨[(6, ov (HDR go_28 0 (List.length b_27) gc_29))], [cown go_28 (rU UInt8) b_27 0 gc_29], []⟩ <| jr <| jmv rfl rfl <| jc (Zab lb tR) <| jc (Zab lb .cI) <| jn <| JC.ret ?_
     obtain rfl := so hq17
     exact JQ.done (js := [0]) (ss := [.val (HDR go_28 0 (List.length b_27) gc_29), .val (S (rI .i64) (0 : Int))]) (go_28, gc_29) (.inl rfl) (.nil rfl) rfl (.cons (.tmp rfl) (.cons (.tmp rfl) .nil)) rfl rfl rfl
   refine jr <| jmv rfl rfl <| jc (Zax lb .cI) <| jn <| JC.block <| JC.pre (Imp.nilown (rU UInt8)) <| JC.pre ?_ (JC.loop (γ := Option Nat × Nat) (stf := fun s q => ⟨[(0, ov (S (rU UInt64) n_1)), (1, ov (S (rI .i64) size_2)), (6, ov (HDR q.1 0 (List.length s.1) q.2)), (25, ov (S (rI .i64) size_2)), (26, ov (S (rI .i64) s.2))], [cown q.1 (rU UInt8) s.1 0 q.2], []⟩) (q := (none, 0)) hx17 ?_)
   · exact (Imp.norm (js := [0]) rfl (.cons rfl (.cons rfl (.cons rfl (.cons rfl (.cons rfl .nil))))))
   intro s q x hx hr
   obtain ⟨b_13, x_14⟩ := s
   obtain ⟨go_15, gc_16⟩ := q
   change wire_Put.b1 k size_2 n_1 b_13 x_14 = some x at hx
   unfold wire_Put.b1 at hx
   refine JC.at ⟨[(0, ov (S (rU UInt64) n_1)), (1, ov (S (rI .i64) size_2)), (6, ov (HDR go_15 0 (List.length b_13) gc_16)), (25, ov (S (rI .i64) size_2)), (26, ov (S (rI .i64) x_14))], [cown go_15 (rU UInt8) b_13 0 gc_16], []⟩ <| jr <| lI hx fun v17 hv_17 hx => jc (Zaq lb tR tR (cs hv_17)) <| jn <| JC.seq <| jif tR hx (fun hc19 hx => ?_) (fun hc19 hx => ?_)
   · refine JC.skip <| JQ.then <| JC.seq <| JC.block <| jr <| jmv rfl rfl <| jc (Zab lb tR) <| jn <| JC.region <| jmv rfl rfl <| jmv rfl rfl <| jmv rfl rfl <| lI hx fun v18 hv_18 hx => jc (ZaY lb tR .cI (cs hv_18)) <| jmv rfl rfl <| lI hx fun v19 hv_19 hx => jc (ZaY lb tR tR (cs hv_19)) ?_
     obtain ⟨v20, hv_20, hx⟩ := ZaQ hx
     refine jc (ZaY lb .cI tR (cs hv_20)) <| bI hx fun v21 hv_21 hx => jc (ZjX lb tR tR hv_21) <| lI hx fun v22 hv_22 hx => jc (ZgE lb tu24 tu5 tR hv_22) <| JL.sub ⟨[(0, ov (S (rU UInt64) n_1)), (1, ov (S (rI .i64) size_2)), (6, ov (HDR go_15 0 (List.length b_13) gc_16)), (25, ov (S (rI .i64) size_2)), (26, ov (S (rI .i64) x_14)), (29, ov (HDR go_15 0 (List.length b_13) gc_16)), (37, ov (S (rU UInt8) v22))], [cown go_15 (rU UInt8) b_13 0 gc_16], []⟩ (.cons rfl (.cons rfl (.cons rfl (.cons rfl (.cons rfl (.cons rfl (.cons rfl .nil))))))) rfl rfl <| jc (Zca (r := (rU UInt8)) lb tu27 tz5 tZ5 rfl (lE rfl) (.S rfl tR .nil) rfl) <| bI hx fun b_23 hv_b_23 hx => jx (Zbp (j := 0) lb tu27 tu27 rfl tB5 rfl (Nat.lt_of_lt_of_le Nat.zero_lt_one (lE rfl)) (Nat.lt_of_lt_of_le Nat.zero_lt_one (lE rfl))  rfl tR tR hv_b_23) (fun q => ?_)
     obtain ⟨go_24, gc_25⟩ := q
     refine jc (Zab lb tR) <| JL.nil <| JQ.outNB <| JQ.then <| JC.region <| lI hx fun v26 hv_26 hx => jc (ZaY lb tR .cI (cs hv_26)) <| jmv rfl rfl <| JL.nil ?_
     try obtain rfl := so hx
     exact JQ.next (go_24, gc_25) rfl (Imp.norm (js := [0]) rfl (.cons rfl (.cons rfl (.cons rfl (.cons rfl (.cons rfl .nil))))))
   refine JC.exit <| JQ.outX ?_
   try obtain rfl := so hx
   have ht := hr _ rfl
   have hq18 := cs ht
   clear hr ht
   refine JQ.outX <| JQ.here ?_
   try obtain rfl := so hq18
   exact JQ.join (go_15, gc_16) (Imp.norm (js := [0]) rfl (.cons rfl .nil))
 refine JC.region <| jmv rfl rfl <| lI hx1 fun v3 hv_3 hx1 => jc (Zaq lb tR .cI (cs hv_3)) <| jmv rfl rfl <| jF (ov (S (rI .i64) size_2)) rfl rfl rfl rfl (fun hq_2 => Zax lb tR) <| lI hx1 fun v4 hv_4 hx1 => jF (ov (S rB v4)) rfl rfl rfl rfl (fun hq_3 => Zaq lb (HasO.cnd tR (notT (notF hq_3))) .cI (cs hv_4)) <| lI hx1 fun v5 hv_5 hx1 => jc (Zao lb tR (fun hb4 => .cB) (fun hb4 => (HasO.cnd tR (notT hb4))) hv_5) <| jmv rfl rfl <| jF (ov (S (rI .i64) size_2)) rfl rfl rfl rfl (fun hq_5 => Zax lb tR) ?_
 refine lI hx1 fun v6 hv_6 hx1 => jF (ov (S rB v6)) rfl rfl rfl rfl (fun hq_6 => Zaq lb (HasO.cnd tR (notT (notF hq_6))) .cI (cs hv_6)) <| jF (ov (S rB v6)) rfl rfl rfl rfl (fun hq_7 => Zax lb (HasO.cnd tR (notT (notF hq_7)))) <| JL.sub ⟨[(0, ov (S (rU UInt64) n_1)), (1, ov (S (rI .i64) size_2)), (14, ov (S rB v5)), (17, bif (!v5) then ov (S rB v6) else .one .und)], [], []⟩ (.cons rfl (.cons rfl (.cons rfl (.cons rfl .nil)))) rfl rfl <| JL.cnd (sv := ov (S (rU UInt64) n_1)) (Zbg.cT (q := (!v5)) (ltB rfl) rfl rfl) rfl (ltB rfl) (fun hq_8 => Zax lb tR) <| JL.cnd (sv := ov (S (rI .i64) size_2)) (Zbg.cT (q := (!v5)) (ltB rfl) rfl rfl) rfl (ltB rfl) (fun hq_9 => Zax lb tR) <| lI hx1 fun v7 hv_7 hx1 => JL.cnd (sv := ov (S (rI .i64) v7)) (Zbg.cT (q := (!v5)) (ltB rfl) rfl rfl) rfl (ltB rfl) (fun hq_10 => ZaY lb .cI (HasO.cnd tR (andI (notT (notF (andL hq_10))) (andR hq_10))) (cs hv_7)) ?_
 obtain ⟨v8, hv_8, hx1⟩ := Zay hx1
 refine JL.cnd (sv := ov (S (rU UInt64) v8)) (Zbg.cT (q := (!v5)) (ltB rfl) rfl rfl) rfl (ltB rfl) (fun hq_11 => ZjX lb (HasO.cnd tR (andI (notT (notF (andL hq_11))) (andR hq_11))) (HasO.cnd tR (andI (notT (notF (andL hq_11))) (andR hq_11))) (ifT hv_8 hq_11)) <| lI hx1 fun v9 hv_9 hx1 => JL.cnd (sv := ov (S rB v9)) (Zbg.cT (q := (!v5)) (ltB rfl) rfl rfl) rfl (ltB rfl) (fun hq_12 => ZbH lb (HasO.cnd tR (andI (notT (notF (andL hq_12))) (andR hq_12))) (HasO.cU (x := (0 : UInt64)) rfl (by decide)) (cs hv_9)) <| lI hx1 fun v10 hv_10 hx1 => jF (ov (S rB v10)) rfl rfl rfl rfl (fun hq_13 => Zao lb (HasO.cnd tR (notT (notF hq_13))) (fun hb14 => (HasO.cnd tR (andI (notT (notF hq_13)) hb14))) (fun hb14 => .cB) hv_10) <| lI hx1 fun v11 hv_11 hx1 => jc (Zao lb tR (fun hb15 => .cB) (fun hb15 => (HasO.cnd tR (notT hb15))) hv_11) <| JL.nil ?_
 try obtain rfl := so hx1
 exact JQ.join () (Imp.norm (js := []) rfl (.cons rfl (.cons rfl (.cons rfl .nil))))

theorem Za0 (k : Nat) (b_1 : (List UInt8)) (v2 : Int) (x_4 : (List UInt8)) (gb_3 : Nat) (go_5 : Option Nat) (gc_6 : Nat) (r : (List UInt8)) (hm : ZaO k b_1 v2 x_4 = some r) : Sim Tryz.prog 78 [PTR gb_3 0, S (rL (rU UInt8)) b_1, S (rI .i64) v2] [cvar gb_3 (zq23 go_5 x_4 gc_6) ((), ()), cown go_5 (rU UInt8) x_4 0 gc_6] (γ := Option Nat × Nat) (fun q => [cvar gb_3 (rP (rW (HDR q.1 0 (List.length r) q.2)) r0) ((), ()), cown q.1 (rU UInt8) r 0 q.2]) (fun q => .tup []) := by
 unfold ZaO at hm
 refine Sim.of Tryz.func78 rfl rfl (lE rfl) (fun e0 w0 => ?_)
 refine JC.at ⟨[(0, ov (PTR gb_3 0)), (1, ov (S (rL (rU UInt8)) b_1)), (2, ov (S (rI .i64) v2))], [cvar gb_3 (zq23 go_5 x_4 gc_6) ((), ()), cown go_5 (rU UInt8) x_4 0 gc_6], []⟩ <| JC.region <| jmv rfl rfl <| jmv rfl rfl <| jc (Zas lb tR (fun e v h => by subst h; rfl)) <| jc (Zaa (off := 0) lb ZcB tR) <| jc (ZaM (j := 0) lb tS27 tR rfl (Comp.trans (Comp.self (zq23 go_5 x_4 gc_6) ((), ())) (Comp.at' (Comp.inF (Comp.self (rW (HDR go_5 0 (List.length x_4) gc_6)) ()) (lE rfl)) (by rfl : _ = 0)) (lE rfl))) <| jmv rfl rfl <| bI hm fun x_7 hv_x_7 hm => jx (Zbp (j := 1) lb tu27 tu27 rfl tB5 rfl (Nat.lt_of_lt_of_le Nat.zero_lt_one (lE rfl)) (Nat.lt_of_lt_of_le Nat.zero_lt_one (lE rfl))  rfl tR tR hv_x_7) (fun q => ?_)
 obtain ⟨go_8, gc_9⟩ := q
 refine jc (Zas lb tR (fun e v h => by subst h; rfl)) <| jc (Zaa (off := 0) lb ZcB tR) <| jc (ZbD (j := 0) tS27 tR tR rfl ((UpdR.fst (UpdR.self (by rfl))).at (by change 0 = (0 + 0); omega)) rfl) <| JL.sub ⟨[], [cvar gb_3 (zq23 go_8 x_7 gc_9) ((), ()), cown go_8 (rU UInt8) x_7 0 gc_9], []⟩ .nil rfl rfl <| JL.nil ?_
 obtain rfl := so hm
 exact JQ.done (js := [0, 0]) (ss := []) (go_8, gc_9) (.inr rfl) (.nil rfl) rfl .nil rfl rfl rfl

theorem ZeI (k : Nat) (d_1 : Zaf) (r : (List UInt8) × Int) (hm : Zea k d_1 = some r) : Sim Tryz.prog 112 [A Zad d_1] [] (γ := Option Nat × Nat) (fun q => [cown q.1 (rU UInt8) r.1 0 q.2]) (fun q => .tup [.val (HDR q.1 0 (List.length r.1) q.2), .val (S (rI .i64) r.2)]) := by
 unfold Zea at hm
 refine Sim.of Tryz.func112 rfl rfl (lE rfl) (fun e0 w0 => ?_)
 refine JC.at ⟨[(0, ov (A Zad d_1))], [], []⟩ <| jr <| jx (ZaX lb tR) fun gb_2 => jc (Zab lb HasO.nilH) <| jc (Zab lb .cI) <| jn <| JC.seq <| bI hm fun x_6 hx1 hq1 => JC.seqJ (γ := Unit) (stj := fun _ => ⟨[(1, ov (PTR gb_2 0)), (13, ov (S rB x_6))], [cvar gb_2 Zad d_1], []⟩) (fun _ => ?_) ?_
 · refine jif tR hq1 (fun hc6 hq1 => ?_) (fun hc6 hq1 => ?_)
   · refine jr <| jc (Zab lb HasO.nilH) <| jc (Zab lb .cI) <| jn <| JC.ret <| JQ.outR ?_
     obtain rfl := so hq1
     exact JQ.pre (Imp.nilown (rU UInt8)) <| JQ.done (js := [1]) (ss := [.val (HDR none 0 (List.length ([] : (List UInt8))) (0)), .val (S (rI .i64) (2 : Int))]) (none, 0) (.inl rfl) (.nil rfl) rfl (.cons (.tmp rfl) (.cons (.tmp rfl) .nil)) rfl rfl rfl
   refine JC.skip <| JQ.then <| jr <| jc (Zaa (off := 1) lb ZdA tR) <| jc (Zai (j := 0) lb tS24 tR rfl (cT (ZaN d_1) rfl) rfl rfl) ?_
   obtain ⟨⟨v7, v8⟩, hv_7, hq1⟩ := Zay hq1
   refine jx (Zak (js := []) ld cl79 (Zcq k d_1.Count (8 : Int) (v7, v8) hv_7) .func (.cons tR (.cons .cI .nil)) rfl) (fun q => ?_)
   obtain ⟨go_9, gc_10⟩ := q
   refine jmv rfl rfl <| jc (Zaz (i := 0) lb tR rfl) <| jc (Zaz (i := 1) lb tR rfl) <| jc (Zab lb tR) <| jc (Zab lb tR) <| jn <| jr <| jc (Zaa (off := 0) lb Zcx tR) <| jc (Zai (j := 1) lb tS3 tR rfl (cT (ZaC d_1) rfl) rfl rfl) <| JL.nrm ⟨[(4, ov (HDR go_9 0 (List.length v7) gc_10)), (21, ov (S (rI .i64) d_1.Region))], [cown go_9 (rU UInt8) v7 0 gc_10], []⟩ [0] rfl (.cons rfl (.cons rfl .nil)) rfl <| lI hq1 fun v11 hv_11 hq1 => jc (ZcN lb tu3 tu5 tR hv_11) <| jx (ZgH (r := (rU UInt8)) lb tu27 tz5 tZ5 rfl (lE rfl) (.S rfl tR .nil) rfl) fun gb_12 => jmv rfl rfl <| bI hq1 fun x_13 hv_x_13 hq1 => jx (Zg4 (j := 1) (j' := 0) lb tu27 tu27 rfl tB5 rfl (Nat.lt_of_lt_of_le Nat.zero_lt_one (lE rfl)) (Nat.lt_of_lt_of_le Nat.zero_lt_one (lE rfl))  rfl tR rfl tR hv_x_13) (fun q => ?_)
   obtain ⟨go_14, gc_15⟩ := q
   refine jc (Zab lb tR) <| jc (Zab lb .cI) <| jn <| JC.ret ?_
   obtain rfl := so hq1
   exact JQ.done (js := [1]) (ss := [.val (HDR go_14 0 (List.length x_13) gc_15), .val (S (rI .i64) (0 : Int))]) (go_14, gc_15) (.inl rfl) (.nil rfl) rfl (.cons (.tmp rfl) (.cons (.tmp rfl) .nil)) rfl rfl rfl
 refine JC.region <| jc (Zaa (off := 0) lb Zcx tR) <| jc (Zai (j := 0) lb tS3 tR rfl (cT (ZaC d_1) rfl) rfl rfl) <| lI hx1 fun v3 hv_3 hx1 => jc (Zaq lb tR .cI (cs hv_3)) <| jmv rfl rfl <| jF (ov (PTR gb_2 (0 + 0))) rfl rfl rfl rfl (fun hq_2 => Zaa (off := 0) lb Zcx tR) <| jF (ov (S (rI .i64) d_1.Region)) rfl rfl rfl rfl (fun hq_3 => Zai (j := 0) lb tS3 (HasO.cnd tR (notT (notF hq_3))) rfl (cT (ZaC d_1) rfl) rfl rfl) <| lI hx1 fun v4 hv_4 hx1 => jF (ov (S rB v4)) rfl rfl rfl rfl (fun hq_4 => Zaq lb (HasO.cnd tR (notT (notF hq_4))) .cI (cs hv_4)) <| JL.sub ⟨[(1, ov (PTR gb_2 0)), (9, ov (S rB v3)), (12, bif (!v3) then ov (S rB v4) else .one .und)], [cvar gb_2 Zad d_1], []⟩ (.cons rfl (.cons rfl (.cons rfl .nil))) rfl rfl ?_
 obtain ⟨v5, hv_5, hx1⟩ := ZaQ hx1
 refine jc (Zao lb tR (fun hb5 => .cB) (fun hb5 => (HasO.cnd tR (notT hb5))) hv_5) <| JL.nil ?_
 try obtain rfl := so hx1
 exact JQ.join () (Imp.norm (js := [0]) rfl (.cons rfl (.cons rfl .nil)))

theorem Zd2 (k : Nat) (is_1 : Bool) (x_3 : (List UInt8)) (gb_2 : Nat) (go_4 : Option Nat) (gc_5 : Nat) (r : (List UInt8)) (hm : ZbB k is_1 x_3 = some r) : Sim Tryz.prog 113 [PTR gb_2 0, S rB is_1] [cvar gb_2 (zq23 go_4 x_3 gc_5) ((), ()), cown go_4 (rU UInt8) x_3 0 gc_5] (γ := Option Nat × Nat) (fun q => [cvar gb_2 (rP (rW (HDR q.1 0 (List.length r) q.2)) r0) ((), ()), cown q.1 (rU UInt8) r 0 q.2]) (fun q => .tup []) := by
 unfold ZbB at hm
 refine Sim.of Tryz.func113 rfl rfl (lE rfl) (fun e0 w0 => ?_)
 refine JC.at ⟨[(0, ov (PTR gb_2 0)), (1, ov (S rB is_1))], [cvar gb_2 (zq23 go_4 x_3 gc_5) ((), ()), cown go_4 (rU UInt8) x_3 0 gc_5], []⟩ <| jr <| jc (Zab lb (HasO.cU (x := (0 : UInt8)) rfl (by decide))) <| jn <| bI hm fun b_6 hx1 hq1 => JC.seqJ (γ := Unit) (stj := fun _ => ⟨[(0, ov (PTR gb_2 0)), (4, ov (S (rU UInt8) b_6))], [cvar gb_2 (zq23 go_4 x_3 gc_5) ((), ()), cown go_4 (rU UInt8) x_3 0 gc_5], []⟩) (fun _ => ?_) ?_
 · refine JC.region <| jmv rfl rfl <| jmv rfl rfl <| jc (Zas lb tR (fun e v h => by subst h; rfl)) <| jc (Zaa (off := 0) lb ZcB tR) <| jc (ZaM (j := 0) lb tS27 tR rfl (Comp.trans (Comp.self (zq23 go_4 x_3 gc_5) ((), ())) (Comp.at' (Comp.inF (Comp.self (rW (HDR go_4 0 (List.length x_3) gc_5)) ()) (lE rfl)) (by rfl : _ = 0)) (lE rfl))) <| jmv rfl rfl <| jc (Zca (r := (rU UInt8)) lb tu27 tz5 tZ5 rfl (lE rfl) (.S rfl tR .nil) rfl) <| bI hq1 fun x_7 hv_x_7 hq1 => jx (Zbp (j := 1) lb tu27 tu27 rfl tB5 rfl (Nat.lt_of_lt_of_le Nat.zero_lt_one (lE rfl)) (Nat.lt_of_lt_of_le Nat.zero_lt_one (lE rfl))  rfl tR tR hv_x_7) (fun q => ?_)
   obtain ⟨go_8, gc_9⟩ := q
   refine jc (Zas lb tR (fun e v h => by subst h; rfl)) <| jc (Zaa (off := 0) lb ZcB tR) <| JL.sub ⟨[(13, ov (HDR go_8 0 (List.length x_7) gc_9)), (15, ov (PTR gb_2 (0 + 0)))], [cvar gb_2 (zq23 go_4 x_3 gc_5) ((), ()), cown go_8 (rU UInt8) x_7 0 gc_9], []⟩ (.cons rfl (.cons rfl .nil)) rfl rfl <| jc (ZbD (j := 0) tS27 tR tR rfl ((UpdR.fst (UpdR.self (by rfl))).at (by change 0 = (0 + 0); omega)) rfl) <| JL.nil ?_
   obtain rfl := so hq1
   exact JQ.done (js := [0, 0]) (ss := []) (go_8, gc_9) (.inr rfl) (.nil rfl) rfl .nil rfl rfl rfl
 refine jr <| jmv rfl rfl <| jn <| jif tR hx1 (fun hc2 hx1 => ?_) (fun hc2 hx1 => ?_)
 · refine JC.region <| jc (Zab lb (HasO.cU (x := (1 : UInt8)) rfl (by decide))) <| JL.nil ?_
   try obtain rfl := so hx1
   exact JQ.join () (Imp.norm (js := [0, 0]) rfl (.cons rfl (.cons rfl .nil)))
 refine JC.skip ?_
 try obtain rfl := so hx1
 exact JQ.join () (Imp.norm (js := [0, 0]) rfl (.cons rfl (.cons rfl .nil)))

theorem ZdC (k : Nat) (b_1 : (List UInt8)) (r : (List UInt8) × Int) (hm : Zda k b_1 = some r) : Sim Tryz.prog 114 [S (rL (rU UInt8)) b_1] [] (γ := Option Nat × Nat) (fun q => [cown q.1 (rU UInt8) r.1 0 q.2]) (fun q => .tup [.val (HDR q.1 0 (List.length r.1) q.2), .val (S (rI .i64) r.2)]) := by
 unfold Zda at hm
 refine Sim.of Tryz.func114 rfl rfl (lE rfl) (fun e0 w0 => ?_)
 refine JC.at ⟨[(0, ov (S (rL (rU UInt8)) b_1))], [], []⟩ <| jr <| jc (Zab lb HasO.nilH) <| jc (Zab lb .cI) <| jn <| JC.seq <| jr <| jmv rfl rfl <| jc (ZaE lb tu27 tR) <| lI hm fun v2 hv_2 hm => jc (Zaq lb tR .cI (cs hv_2)) <| jn <| jif tR hm (fun hc1 hm => ?_) (fun hc1 hm => ?_)
 · refine jr <| jc (Zab lb HasO.nilH) <| jc (Zab lb .cI) <| jn <| JC.ret <| JQ.outR ?_
   obtain rfl := so hm
   exact JQ.pre (Imp.nilown (rU UInt8)) <| JQ.done (js := [0]) (ss := [.val (HDR none 0 (List.length ([] : (List UInt8))) (0)), .val (S (rI .i64) (3 : Int))]) (none, 0) (.inl rfl) (.nil rfl) rfl (.cons (.tmp rfl) (.cons (.tmp rfl) .nil)) rfl rfl rfl
 refine JC.skip <| JQ.then <| jr <| jmv rfl rfl <| jc (ZaE lb tu27 tR) <| lI hm fun v3 hv_3 hm => jc (ZcN lb tu3 tu24 tR hv_3) ?_
 obtain ⟨⟨v4, v5⟩, hv_4, hm⟩ := Zay hm
 refine jx (Zak (js := []) ld cl79 (Zcq k v3 (2 : Int) (v4, v5) hv_4) .func (.cons tR (.cons .cI .nil)) rfl) (fun q => ?_)
 obtain ⟨go_6, gc_7⟩ := q
 refine jmv rfl rfl <| JL.sub ⟨[(0, ov (S (rL (rU UInt8)) b_1)), (9, .tup [.val (HDR go_6 0 (List.length v4) gc_7), .val (S (rI .i64) v5)])], [cown go_6 (rU UInt8) v4 0 gc_7], []⟩ (.cons rfl (.cons rfl .nil)) rfl rfl <| jc (Zaz (i := 0) lb tR rfl) <| jc (Zaz (i := 1) lb tR rfl) <| jc (Zab lb tR) <| jc (Zab lb tR) <| jn <| jr <| jmv rfl rfl <| jmv rfl rfl <| bI hm fun n_8 hv_n_8 hm => jx (Zbp (j := 0) lb tu27 tu27 rfl tB5 rfl (Nat.lt_of_lt_of_le Nat.zero_lt_one (lE rfl)) (Nat.lt_of_lt_of_le Nat.zero_lt_one (lE rfl))  rfl tR tR hv_n_8) (fun q => ?_)
 obtain ⟨go_9, gc_10⟩ := q
 refine jc (Zab lb tR) <| jc (Zab lb .cI) <| jn <| JC.ret ?_
 obtain rfl := so hm
 exact JQ.done (js := [0]) (ss := [.val (HDR go_9 0 (List.length n_8) gc_10), .val (S (rI .i64) (0 : Int))]) (go_9, gc_10) (.inl rfl) (.nil rfl) rfl (.cons (.tmp rfl) (.cons (.tmp rfl) .nil)) rfl rfl rfl

theorem Zdj (k : Nat) (l_1 : (List Zap)) (x_3 : (List UInt8)) (gb_2 : Nat) (go_4 : Option Nat) (gc_5 : Nat) (r : (List UInt8)) (hm : frame_writer_items'3 k l_1 x_3 = some r) : Sim Tryz.prog 75 [PTR gb_2 0, S (rL Zaj) l_1] [cvar gb_2 (zq23 go_4 x_3 gc_5) ((), ()), cown go_4 (rU UInt8) x_3 0 gc_5] (γ := Option Nat × Nat) (fun q => [cvar gb_2 (rP (rW (HDR q.1 0 (List.length r) q.2)) r0) ((), ()), cown q.1 (rU UInt8) r 0 q.2]) (fun q => .tup []) := by
 unfold frame_writer_items'3 at hm
 refine Sim.of Tryz.func75 rfl rfl (lE rfl) (fun e0 w0 => ?_)
 refine JC.at ⟨[(0, ov (PTR gb_2 0)), (1, ov (S (rL Zaj) l_1))], [cvar gb_2 (zq23 go_4 x_3 gc_5) ((), ()), cown go_4 (rU UInt8) x_3 0 gc_5], []⟩ <| jr <| jmv rfl rfl <| jmv rfl rfl <| jc (ZaE lb tu23 tR) <| lI hm fun v6 hv_6 hm => jc (ZcN lb tu3 tu24 tR hv_6) ?_
 obtain ⟨⟨v7, v8⟩, hv_7, hm⟩ := Zay hm
 refine jx (Zak (js := []) ld cl79 (Zcq k v6 (2 : Int) (v7, v8) hv_7) .func (.cons tR (.cons .cI .nil)) rfl) (fun q => ?_)
 obtain ⟨go_9, gc_10⟩ := q
 refine jc (Zaz (i := 0) lb tR rfl) <| jc (Zaz (i := 1) lb tR rfl) <| bI hm fun x_11 hv_x_11 hm => JL.pre (Imp.frz (j := 0) rfl (ImpK.tupAt (s := 10) (i := 0) (q := HL go_9 (rU UInt8) v7 gc_10) rfl rfl ZgK (ImpK.slotH (s := 11) rfl ImpK.refl))) <| jx (Zak (js := [1, 1]) ld cl78 (Za0 k v7 v8 x_3 gb_2 go_4 gc_5 x_11 hv_x_11) .func (.cons tR (.cons (HasO.wk tR wkHL) (.cons tR .nil))) rfl) (fun q => ?_)
 obtain ⟨go_12, gc_13⟩ := q
 refine JL.nrm ⟨[(0, ov (PTR gb_2 0)), (1, ov (S (rL Zaj) l_1))], [cvar gb_2 (zq23 go_12 x_11 gc_13) ((), ()), cown go_12 (rU UInt8) x_11 0 gc_13], []⟩ [0, 0] rfl (.cons rfl (.cons rfl .nil)) rfl <| jn <| jr <| jmv rfl rfl <| jc (ZaE lb tu23 tR) <| jc (Zax lb .cI) <| jn <| JC.block <| JC.pre ?_ (JC.loop (γ := Option Nat × Nat) (stf := fun s q => ⟨[(0, ov (PTR gb_2 0)), (14, ov (S (rL Zaj) l_1)), (15, ov (S (rI .i64) (List.length l_1 : Int))), (16, ov (S (rI .i64) s.2))], [cvar gb_2 (rP (rW (HDR q.1 0 (List.length s.1) q.2)) r0) ((), ()), cown q.1 (rU UInt8) s.1 0 q.2], []⟩) (q := (go_12, gc_13)) hm ?_)
 · exact (Imp.norm (js := [0, 0]) rfl (.cons rfl (.cons rfl (.cons rfl (.cons rfl .nil)))))
 intro s q x hx hr
 obtain ⟨b_14, x_15⟩ := s
 obtain ⟨go_16, gc_17⟩ := q
 change frame_writer_items'3.b1 k l_1 b_14 x_15 = some x at hx
 unfold frame_writer_items'3.b1 at hx
 refine JC.at ⟨[(0, ov (PTR gb_2 0)), (14, ov (S (rL Zaj) l_1)), (15, ov (S (rI .i64) (List.length l_1 : Int))), (16, ov (S (rI .i64) x_15))], [cvar gb_2 (zq23 go_16 b_14 gc_17) ((), ()), cown go_16 (rU UInt8) b_14 0 gc_17], []⟩ <| jr <| lI hx fun v18 hv_18 hx => jc (Zaq lb tR tR (cs hv_18)) <| jn <| JC.seq <| jif tR hx (fun hc2 hx => ?_) (fun hc2 hx => ?_)
 · refine JC.skip <| JQ.then <| bI hx fun b_46 hx3 hq3 => JC.seqJ (γ := Option Nat × Nat) (stj := fun q => ⟨[(0, ov (PTR gb_2 0)), (14, ov (S (rL Zaj) l_1)), (15, ov (S (rI .i64) (List.length l_1 : Int))), (16, ov (S (rI .i64) x_15))], [cvar gb_2 (rP (rW (HDR q.1 0 (List.length b_46) q.2)) r0) ((), ()), cown q.1 (rU UInt8) b_46 0 q.2], []⟩) (fun q => ?_) ?_
   · obtain ⟨go_47, gc_48⟩ := q
     refine JC.at ⟨[(0, ov (PTR gb_2 0)), (14, ov (S (rL Zaj) l_1)), (15, ov (S (rI .i64) (List.length l_1 : Int))), (16, ov (S (rI .i64) x_15))], [cvar gb_2 (zq23 go_47 b_46 gc_48) ((), ()), cown go_47 (rU UInt8) b_46 0 gc_48], []⟩ <| JC.region <| lI hq3 fun v49 hv_49 hq3 => jc (ZaY lb tR .cI (cs hv_49)) <| jmv rfl rfl <| JL.nil ?_
     try obtain rfl := so hq3
     exact JQ.next (go_47, gc_48) rfl (Imp.norm (js := [0, 0]) rfl (.cons rfl (.cons rfl (.cons rfl (.cons rfl .nil)))))
   refine JC.block <| jr <| bI hx3 fun v19 hv_19 hx3 => jc (Zau lb tu23 tz62 tR tR hv_19) <| jc (ZaR lb tA62 tR rfl) <| jx (Zbh lb tZ62 zr62) fun gb_20 => jc (ZaP (j := 2) tA62 tR tR rfl (UpdR.self (by rfl)) rfl) <| jn <| jr <| jmv rfl rfl <| jc (Zaa (off := 0) lb Zhi tR) <| jc (Zaw (j := 2) lb tA26 tR rfl (cT (ZbA v19) rfl) rfl) <| JL.sub ⟨[(0, ov (PTR gb_2 0)), (5, ov (PTR gb_20 0)), (14, ov (S (rL Zaj) l_1)), (15, ov (S (rI .i64) (List.length l_1 : Int))), (16, ov (S (rI .i64) x_15)), (20, ov (PTR gb_2 0)), (22, ov (A Zad v19.Dot))], [cvar gb_2 (zq23 go_16 b_14 gc_17) ((), ()), cown go_16 (rU UInt8) b_14 0 gc_17, cvar gb_20 Zaj v19], []⟩ (.cons rfl (.cons rfl (.cons rfl (.cons rfl (.cons rfl (.cons rfl (.cons rfl .nil))))))) rfl rfl ?_
   obtain ⟨⟨v21, v22⟩, hv_21, hx3⟩ := Zay hx3
   refine jx (Zak (js := []) ld ZlN (ZeI k v19.Dot (v21, v22) hv_21) .func (.cons tR .nil) rfl) (fun q => ?_)
   obtain ⟨go_23, gc_24⟩ := q
   refine jc (Zaz (i := 0) lb tR rfl) <| jc (Zaz (i := 1) lb tR rfl) <| bI hx3 fun x_25 hv_x_25 hx3 => JL.pre (Imp.frz (j := 0) rfl (ImpK.tupAt (s := 23) (i := 0) (q := HL go_23 (rU UInt8) v21 gc_24) rfl rfl ZgK (ImpK.slotH (s := 24) rfl ImpK.refl))) <| jx (Zak (js := [1, 1]) ld cl78 (Za0 k v21 v22 b_14 gb_2 go_16 gc_17 x_25 hv_x_25) .func (.cons tR (.cons (HasO.wk tR wkHL) (.cons tR .nil))) rfl) (fun q => ?_)
   obtain ⟨go_26, gc_27⟩ := q
   refine JL.nrm ⟨[(0, ov (PTR gb_2 0)), (5, ov (PTR gb_20 0)), (14, ov (S (rL Zaj) l_1)), (15, ov (S (rI .i64) (List.length l_1 : Int))), (16, ov (S (rI .i64) x_15))], [cvar gb_2 (zq23 go_26 x_25 gc_27) ((), ()), cown go_26 (rU UInt8) x_25 0 gc_27, cvar gb_20 Zaj v19], []⟩ [0, 0, 1] rfl (.cons rfl (.cons rfl (.cons rfl (.cons rfl (.cons rfl .nil))))) rfl <| jn <| jr <| jmv rfl rfl <| jc (Zaa (off := 4) lb ZiB tR) <| jc (Zai (j := 2) lb tS4 tR rfl (cT (ZcI v19) rfl) rfl rfl) <| bI hx3 fun x_28 hv_x_28 hx3 => jx (Zak (js := [0, 0]) ld Zng (Zd2 k v19.Gone x_25 gb_2 go_26 gc_27 x_28 hv_x_28) .func (.cons tR (.cons tR .nil)) rfl) (fun q => ?_)
   obtain ⟨go_29, gc_30⟩ := q
   refine jn <| jr <| jc (Zaa (off := 4) lb ZiB tR) <| jc (Zai (j := 2) lb tS4 tR rfl (cT (ZcI v19) rfl) rfl rfl) <| lI hx3 fun v31 hv_31 hx3 => jc (Zbc lb tR hv_31) <| jn <| jif tR hx3 (fun hc4 hx3 => ?_) (fun hc4 hx3 => ?_)
   · refine jr <| jmv rfl rfl <| jc (Zaa (off := 2) lb Zfa tR) <| jc (Zaa (off := 0) lb Zjk tR) <| JL.sub ⟨[(0, ov (PTR gb_2 0)), (5, ov (PTR gb_20 0)), (14, ov (S (rL Zaj) l_1)), (15, ov (S (rI .i64) (List.length l_1 : Int))), (16, ov (S (rI .i64) x_15)), (34, ov (PTR gb_2 0)), (36, ov (PTR gb_20 ((0 + 2) + 0)))], [cvar gb_2 (zq23 go_29 x_28 gc_30) ((), ()), cown go_29 (rU UInt8) x_28 0 gc_30, cvar gb_20 Zaj v19], []⟩ (.cons rfl (.cons rfl (.cons rfl (.cons rfl (.cons rfl (.cons rfl (.cons rfl .nil))))))) rfl rfl <| jc (Zai (j := 2) lb tS9 tR rfl (Comp.trans (cT (Za8 v19) rfl) (Zb5 v19.Key) (lE rfl)) rfl rfl) <| jc (ZgC lb tu9 tu27 tu5 tR) ?_
     obtain ⟨⟨v32, v33⟩, hv_32, hx3⟩ := Zay hx3
     refine jx (Zak (js := []) ld Zld (ZdC k v19.Key.Topic (v32, v33) hv_32) .func (.cons tR .nil) rfl) (fun q => ?_)
     obtain ⟨go_34, gc_35⟩ := q
     refine jc (Zaz (i := 0) lb tR rfl) <| jc (Zaz (i := 1) lb tR rfl) <| bI hx3 fun x_36 hv_x_36 hx3 => JL.pre (Imp.frz (j := 0) rfl (ImpK.tupAt (s := 39) (i := 0) (q := HL go_34 (rU UInt8) v32 gc_35) rfl rfl ZgK (ImpK.slotH (s := 40) rfl ImpK.refl))) <| jx (Zak (js := [1, 1]) ld cl78 (Za0 k v32 v33 x_28 gb_2 go_29 gc_30 x_36 hv_x_36) .func (.cons tR (.cons (HasO.wk tR wkHL) (.cons tR .nil))) rfl) (fun q => ?_)
     obtain ⟨go_37, gc_38⟩ := q
     refine JL.nrm ⟨[(0, ov (PTR gb_2 0)), (5, ov (PTR gb_20 0)), (14, ov (S (rL Zaj) l_1)), (15, ov (S (rI .i64) (List.length l_1 : Int))), (16, ov (S (rI .i64) x_15))], [cvar gb_2 (zq23 go_37 x_36 gc_38) ((), ()), cown go_37 (rU UInt8) x_36 0 gc_38, cvar gb_20 Zaj v19], []⟩ [0, 0, 1] rfl (.cons rfl (.cons rfl (.cons rfl (.cons rfl (.cons rfl .nil))))) rfl <| jn <| JC.region <| jmv rfl rfl <| jc (Zaa (off := 2) lb Zfa tR) <| jc (Zaa (off := 1) lb Zi9 tR) <| jc (Zai (j := 2) lb tS9 tR rfl (Comp.trans (cT (Za8 v19) rfl) (ZbY v19.Key) (lE rfl)) rfl rfl) <| jc (ZgC lb tu9 tu27 tu5 tR) ?_
     obtain ⟨⟨v39, v40⟩, hv_39, hx3⟩ := Zay hx3
     refine jx (Zak (js := []) ld Zld (ZdC k v19.Key.Device (v39, v40) hv_39) .func (.cons tR .nil) rfl) (fun q => ?_)
     obtain ⟨go_41, gc_42⟩ := q
     refine jc (Zaz (i := 0) lb tR rfl) <| jc (Zaz (i := 1) lb tR rfl) <| bI hx3 fun x_43 hv_x_43 hx3 => JL.pre (Imp.frz (j := 0) rfl (ImpK.tupAt (s := 48) (i := 0) (q := HL go_41 (rU UInt8) v39 gc_42) rfl rfl ZgK (ImpK.slotH (s := 49) rfl ImpK.refl))) <| jx (Zak (js := [1, 1]) ld cl78 (Za0 k v39 v40 x_36 gb_2 go_37 gc_38 x_43 hv_x_43) .func (.cons tR (.cons (HasO.wk tR wkHL) (.cons tR .nil))) rfl) (fun q => ?_)
     obtain ⟨go_44, gc_45⟩ := q
     refine JL.nrm ⟨[(0, ov (PTR gb_2 0)), (14, ov (S (rL Zaj) l_1)), (15, ov (S (rI .i64) (List.length l_1 : Int))), (16, ov (S (rI .i64) x_15))], [cvar gb_2 (zq23 go_44 x_43 gc_45) ((), ()), cown go_44 (rU UInt8) x_43 0 gc_45], []⟩ [0, 0] rfl (.cons rfl (.cons rfl (.cons rfl (.cons rfl .nil)))) rfl <| JL.nil <| JQ.outNB ?_
     try obtain rfl := so hx3
     exact JQ.join (go_44, gc_45) (Imp.norm (js := [0, 0]) rfl (.cons rfl (.cons rfl (.cons rfl (.cons rfl .nil)))))
   refine JC.skip <| JQ.outNB ?_
   try obtain rfl := so hx3
   exact JQ.join (go_29, gc_30) (Imp.norm (js := [0, 0]) rfl (.cons rfl (.cons rfl (.cons rfl (.cons rfl .nil)))))
 refine JC.exit <| JQ.outX ?_
 try obtain rfl := so hx
 have ht := hr _ rfl
 have hq1 := cs ht
 clear hr ht
 refine JQ.outX <| JQ.here ?_
 obtain rfl := so hq1
 exact JQ.done (js := [0, 0]) (ss := []) (go_16, gc_17) (.inr rfl) (.nil rfl) rfl .nil rfl rfl rfl

theorem Ze4 (k : Nat) (f_1 : Zah) (x_3 : (List UInt8)) (gb_2 : Nat) (go_4 : Option Nat) (gc_5 : Nat) (r : (List UInt8)) (hm : Zci k f_1 x_3 = some r) : Sim Tryz.prog 92 [PTR gb_2 0, A Zae f_1] [cvar gb_2 (zq23 go_4 x_3 gc_5) ((), ()), cown go_4 (rU UInt8) x_3 0 gc_5] (γ := Option Nat × Nat) (fun q => [cvar gb_2 (rP (rW (HDR q.1 0 (List.length r) q.2)) r0) ((), ()), cown q.1 (rU UInt8) r 0 q.2]) (fun q => .tup []) := by
 unfold Zci at hm
 refine Sim.of Tryz.func92 rfl rfl (lE rfl) (fun e0 w0 => ?_)
 refine JC.at ⟨[(0, ov (PTR gb_2 0)), (1, ov (A Zae f_1))], [cvar gb_2 (zq23 go_4 x_3 gc_5) ((), ()), cown go_4 (rU UInt8) x_3 0 gc_5], []⟩ <| jr <| jx (ZaX lb tR) fun gb_6 => jn <| JC.region <| jmv rfl rfl <| jc (Zaa (off := 3) lb ZcK tR) <| jc (Zai (j := 2) lb tS23 tR rfl (cT (ZaH f_1) rfl) rfl rfl) <| bI hm fun x_7 hv_x_7 hm => jx (Zak (js := [0, 0]) ld cl75 (Zdj k f_1.Items x_3 gb_2 go_4 gc_5 x_7 hv_x_7) .func (.cons tR (.cons tR .nil)) rfl) (fun q => ?_)
 obtain ⟨go_8, gc_9⟩ := q
 refine JL.nil ?_
 obtain rfl := so hm
 exact JQ.done (js := [0, 0]) (ss := []) (go_8, gc_9) (.inr rfl) (.nil rfl) rfl .nil rfl rfl rfl

theorem Zg3 (k : Nat) (x_1 : (List UInt8)) (v2 : Int) (gb_3 : Nat) (r : (List UInt8)) (hm : Zeb k x_1 v2 = some r) : Sim Tryz.prog 149 [S (rL (rU UInt8)) x_1, S (rI .i64) v2, PTR gb_3 0] [cvar gb_3 (rW (HDR none 0 0 0)) ()] (γ := Option Nat × Nat) (fun q => [cvar gb_3 (rW (HDR q.1 0 (List.length r) q.2)) (), cown q.1 (rU UInt8) r 0 q.2]) (fun q => .tup []) := by
 unfold Zeb at hm
 refine Sim.of Tryz.func149 rfl rfl (lE rfl) (fun e0 w0 => ?_)
 refine JC.at ⟨[(0, ov (S (rL (rU UInt8)) x_1)), (1, ov (S (rI .i64) v2)), (2, ov (PTR gb_3 0))], [cvar gb_3 (rW (HDR none 0 0 0)) ()], []⟩ <| JC.region <| jc (ZaM (j := 0) lb tS27 tR rfl (Comp.self (rW (HDR none 0 0 0)) ())) <| jmv rfl rfl <| bI hm fun v4 hv_4 hm => JL.pre (Imp.nilown (rU UInt8)) <| jx (Zbp (j := 1) lb tu27 tu27 rfl tB5 rfl (Nat.lt_of_lt_of_le Nat.zero_lt_one (lE rfl)) (Nat.lt_of_lt_of_le Nat.zero_lt_one (lE rfl))  rfl tR tR hv_4) (fun q => ?_)
 obtain ⟨go_5, gc_6⟩ := q
 refine JL.sub ⟨[(2, ov (PTR gb_3 0)), (7, ov (HDR go_5 0 (List.length v4) gc_6))], [cvar gb_3 (rW (HDR none 0 0 0)) (), cown go_5 (rU UInt8) v4 0 gc_6], []⟩ (.cons rfl (.cons rfl .nil)) rfl rfl <| jc (ZbD (j := 0) tS27 tR tR rfl (UpdR.self (by rfl)) rfl) <| JL.nil ?_
 obtain rfl := so hm
 exact JQ.done (js := [0, 0]) (ss := []) (go_5, gc_6) (.inr rfl) (.nil rfl) rfl .nil rfl rfl rfl

theorem ZbI (k : Nat) (x_1 : (List UInt8)) (v2 : Int) (x_4 : (List UInt8)) (gb_3 : Nat) (go_5 : Option Nat) (gc_6 : Nat) (r : (List UInt8)) (hm : Zbu k x_1 v2 x_4 = some r) : Sim Tryz.prog 149 [S (rL (rU UInt8)) x_1, S (rI .i64) v2, PTR gb_3 0] [cvar gb_3 (rW (HDR go_5 0 (List.length x_4) gc_6)) (), cown go_5 (rU UInt8) x_4 0 gc_6] (γ := Option Nat × Nat) (fun q => [cvar gb_3 (rW (HDR q.1 0 (List.length r) q.2)) (), cown q.1 (rU UInt8) r 0 q.2]) (fun q => .tup []) := by
 unfold Zbu at hm
 refine Sim.of Tryz.func149 rfl rfl (lE rfl) (fun e0 w0 => ?_)
 refine JC.at ⟨[(0, ov (S (rL (rU UInt8)) x_1)), (1, ov (S (rI .i64) v2)), (2, ov (PTR gb_3 0))], [cvar gb_3 (rW (HDR go_5 0 (List.length x_4) gc_6)) (), cown go_5 (rU UInt8) x_4 0 gc_6], []⟩ <| JC.region <| jc (ZaM (j := 0) lb tS27 tR rfl (Comp.self (rW (HDR go_5 0 (List.length x_4) gc_6)) ())) <| jmv rfl rfl <| bI hm fun x_7 hv_x_7 hm => jx (Zbp (j := 1) lb tu27 tu27 rfl tB5 rfl (Nat.lt_of_lt_of_le Nat.zero_lt_one (lE rfl)) (Nat.lt_of_lt_of_le Nat.zero_lt_one (lE rfl))  rfl tR tR hv_x_7) (fun q => ?_)
 obtain ⟨go_8, gc_9⟩ := q
 refine jc (ZbD (j := 0) tS27 tR tR rfl (UpdR.self (by rfl)) rfl) <| JL.nil ?_
 obtain rfl := so hm
 exact JQ.done (js := [0, 0]) (ss := []) (go_8, gc_9) (.inr rfl) (.nil rfl) rfl .nil rfl rfl rfl

theorem Zen (k : Nat) (v1 : (Vector UInt64 16)) (r : (List UInt8)) (hm : wire_Vector k v1 = some r) : Sim Tryz.prog 129 [A (rV 16 (rU UInt64)) v1] [] (γ := Option Nat × Nat) (fun q => [cown q.1 (rU UInt8) r 0 q.2]) (fun q => .one (.val (HDR q.1 0 (List.length r) q.2))) := by
 unfold wire_Vector at hm
 refine Sim.of Tryz.func129 rfl rfl (lE rfl) (fun e0 w0 => ?_)
 refine JC.at ⟨[(0, ov (A (rV 16 (rU UInt64)) v1))], [], []⟩ <| jr <| jx (ZaX lb tR) fun gb_2 => jc (Zab lb HasO.nilH) <| jn <| jr <| jc (Zab lb HasO.nilH) <| jn <| bI hm fun b_17 hx1 hq1 => JC.seqJ (γ := Option Nat × Nat) (stj := fun q => ⟨[(3, ov (HDR q.1 0 (List.length b_17) q.2))], [cown q.1 (rU UInt8) b_17 0 q.2], []⟩) (fun q => ?_) ?_
 · obtain ⟨go_18, gc_19⟩ := q
   refine JC.at ⟨[(3, ov (HDR go_18 0 (List.length b_17) gc_19))], [cown go_18 (rU UInt8) b_17 0 gc_19], []⟩ <| jr <| jmv rfl rfl <| jc (Zab lb tR) <| jn <| JC.ret ?_
   obtain rfl := so hq1
   exact JQ.done (js := [0]) (ss := [.val (HDR go_18 0 (List.length b_17) gc_19)]) (go_18, gc_19) (.inl rfl) (.nil rfl) rfl (.cons (.tmp rfl) .nil) rfl rfl rfl
 refine jr <| jc (Zaw (j := 0) lb tA29 tR rfl (Comp.self (rV 16 (rU UInt64)) v1) rfl) <| jc (Zax lb .cI) <| jn <| JC.block <| JC.pre (Imp.nilown (rU UInt8)) <| JC.pre ?_ (JC.loop (γ := Option Nat × Nat) (stf := fun s q => ⟨[(3, ov (HDR q.1 0 (List.length s.1) q.2)), (8, ov (A (rV 16 (rU UInt64)) v1)), (9, ov (S (rI .i64) s.2))], [cown q.1 (rU UInt8) s.1 0 q.2], []⟩) (q := (none, 0)) hx1 ?_)
 · exact (Imp.norm (js := [1]) rfl (.cons rfl (.cons rfl (.cons rfl .nil))))
 intro s q x hx hr
 obtain ⟨b_3, x_4⟩ := s
 obtain ⟨go_5, gc_6⟩ := q
 change wire_Vector.b1 k v1 b_3 x_4 = some x at hx
 unfold wire_Vector.b1 at hx
 refine JC.at ⟨[(3, ov (HDR go_5 0 (List.length b_3) gc_6)), (8, ov (A (rV 16 (rU UInt64)) v1)), (9, ov (S (rI .i64) x_4))], [cown go_5 (rU UInt8) b_3 0 gc_6], []⟩ <| jr <| lI hx fun v7 hv_7 hx => jc (Zaq lb tR .cI (cs hv_7)) <| jn <| JC.seq <| jif tR hx (fun hc3 hx => ?_) (fun hc3 hx => ?_)
 · refine JC.skip <| JQ.then <| JC.seq <| JC.block <| jr <| bI hx fun v8 hv_8 hx => jc (ZiD lb tu29 tS24 rfl tR tR hv_8) <| jc (Zab lb tR) <| jn <| jr <| jmv rfl rfl ?_
   obtain ⟨⟨v9, v10⟩, hv_9, hx⟩ := Zay hx
   refine jx (Zak (js := []) ld cl79 (Zcq k v8 (8 : Int) (v9, v10) hv_9) .func (.cons tR (.cons .cI .nil)) rfl) (fun q => ?_)
   obtain ⟨go_11, gc_12⟩ := q
   refine jmv rfl rfl <| jc (Zaz (i := 0) lb tR rfl) <| jc (Zaz (i := 1) lb tR rfl) <| jc (Zab lb tR) <| jc (Zab lb tR) <| JL.sub ⟨[(3, ov (HDR go_5 0 (List.length b_3) gc_6)), (6, ov (HDR go_11 0 (List.length v9) gc_12)), (8, ov (A (rV 16 (rU UInt64)) v1)), (9, ov (S (rI .i64) x_4))], [cown go_11 (rU UInt8) v9 0 gc_12, cown go_5 (rU UInt8) b_3 0 gc_6], []⟩ (.cons rfl (.cons rfl (.cons rfl (.cons rfl .nil)))) rfl rfl <| jn <| JC.region <| jmv rfl rfl <| jmv rfl rfl <| bI hx fun b_13 hv_b_13 hx => jx (Zg4 (j := 1) (j' := 0) lb tu27 tu27 rfl tB5 rfl (Nat.lt_of_lt_of_le Nat.zero_lt_one (lE rfl)) (Nat.lt_of_lt_of_le Nat.zero_lt_one (lE rfl))  rfl tR rfl tR hv_b_13) (fun q => ?_)
   obtain ⟨go_14, gc_15⟩ := q
   refine jc (Zab lb tR) <| JL.nil <| JQ.outNB <| JQ.then <| JC.region <| lI hx fun v16 hv_16 hx => jc (ZaY lb tR .cI (cs hv_16)) <| jmv rfl rfl <| JL.nil ?_
   try obtain rfl := so hx
   exact JQ.next (go_14, gc_15) rfl (Imp.norm (js := [1]) rfl (.cons rfl (.cons rfl (.cons rfl .nil))))
 refine JC.exit <| JQ.outX ?_
 try obtain rfl := so hx
 have ht := hr _ rfl
 have hq2 := cs ht
 clear hr ht
 refine JQ.outX <| JQ.here ?_
 try obtain rfl := so hq2
 exact JQ.join (go_5, gc_6) (Imp.norm (js := [0]) rfl (.cons rfl .nil))

theorem ZfP (k : Nat) (t_1 : Zar) (r : (List UInt8)) (hm : event_bytes k t_1 = some r) : Sim Tryz.prog 145 [A Zam t_1] [] (γ := Option Nat × Nat) (fun q => [cown q.1 (rU UInt8) r 0 q.2]) (fun q => .one (.val (HDR q.1 0 (List.length r) q.2))) := by
 unfold event_bytes at hm
 refine Sim.of Tryz.func145 rfl rfl (lE rfl) (fun e0 w0 => ?_)
 refine JC.at ⟨[(0, ov (A Zam t_1))], [], []⟩ <| jr <| jx (ZaX lb tR) fun gb_2 => jc (Zab lb HasO.nilH) <| jn <| jr <| jx (Zbh lb tZ27 zr27) fun gb_3 => jn <| jr <| jc (Zgq lb (.cons tR .nil)) <| jc (Zab lb tR) <| jn <| jr <| jmv rfl rfl <| jc (Zaa (off := 0) lb Zel tR) <| jc (Zaw (j := 0) lb tA26 tR rfl (cT (ZaW t_1) rfl) rfl) <| JL.sub ⟨[(1, ov (PTR gb_2 0)), (3, ov (PTR gb_3 0)), (4, ov (CLO 149 [PTR gb_3 0])), (8, ov (CLO 149 [PTR gb_3 0])), (10, ov (A Zad t_1.ID))], [cvar gb_2 Zam t_1, cvar gb_3 (rW (HDR none 0 0 0)) ()], []⟩ (.cons rfl (.cons rfl (.cons rfl (.cons rfl (.cons rfl .nil))))) rfl rfl ?_
 obtain ⟨⟨v4, v5⟩, hv_4, hm⟩ := Zay hm
 refine jx (Zak (js := []) ld ZlN (ZeI k t_1.ID (v4, v5) hv_4) .func (.cons tR .nil) rfl) (fun q => ?_)
 obtain ⟨go_6, gc_7⟩ := q
 refine jc (Zaz (i := 0) lb tR rfl) <| jc (Zaz (i := 1) lb tR rfl) <| bI hm fun x_8 hv_x_8 hm => JL.pre (Imp.frz (j := 0) rfl (ImpK.tupAt (s := 11) (i := 0) (q := HL go_6 (rU UInt8) v4 gc_7) rfl rfl ZgK (ImpK.slotH (s := 12) rfl ImpK.refl))) <| jx (Zak (js := [2]) ld ZjP (Zg3 k v4 v5 gb_3 x_8 hv_x_8) tR (.cons (HasO.wk tR wkHL) (.cons tR .nil)) rfl) (fun q => ?_)
 obtain ⟨go_9, gc_10⟩ := q
 refine JL.nrm ⟨[(1, ov (PTR gb_2 0)), (3, ov (PTR gb_3 0)), (4, ov (CLO 149 [PTR gb_3 0]))], [cvar gb_3 (rW (HDR go_9 0 (List.length x_8) gc_10)) (), cown go_9 (rU UInt8) x_8 0 gc_10, cvar gb_2 Zam t_1], []⟩ [0, 0, 1] rfl (.cons rfl (.cons rfl (.cons rfl .nil))) rfl <| jn <| jr <| jmv rfl rfl <| jc (Zaa (off := 2) lb Zhl tR) <| jc (Zai (j := 2) lb tS9 tR rfl (cT (Zbk t_1) rfl) rfl rfl) <| jc (ZgC lb tu9 tu27 tu5 tR) ?_
 obtain ⟨⟨v11, v12⟩, hv_11, hm⟩ := Zay hm
 refine jx (Zak (js := []) ld Zld (ZdC k t_1.Topic (v11, v12) hv_11) .func (.cons tR .nil) rfl) (fun q => ?_)
 obtain ⟨go_13, gc_14⟩ := q
 refine jc (Zaz (i := 0) lb tR rfl) <| jc (Zaz (i := 1) lb tR rfl) <| bI hm fun x_15 hv_x_15 hm => JL.pre (Imp.frz (j := 0) rfl (ImpK.tupAt (s := 19) (i := 0) (q := HL go_13 (rU UInt8) v11 gc_14) rfl rfl ZgK (ImpK.slotH (s := 20) rfl ImpK.refl))) <| jx (Zak (js := [1, 1]) ld ZjP (ZbI k v11 v12 x_8 gb_3 go_9 gc_10 x_15 hv_x_15) tR (.cons (HasO.wk tR wkHL) (.cons tR .nil)) rfl) (fun q => ?_)
 obtain ⟨go_16, gc_17⟩ := q
 refine JL.nrm ⟨[(1, ov (PTR gb_2 0)), (3, ov (PTR gb_3 0)), (4, ov (CLO 149 [PTR gb_3 0]))], [cvar gb_3 (rW (HDR go_16 0 (List.length x_15) gc_17)) (), cown go_16 (rU UInt8) x_15 0 gc_17, cvar gb_2 Zam t_1], []⟩ [0, 0, 1] rfl (.cons rfl (.cons rfl (.cons rfl .nil))) rfl <| jn <| jr <| jmv rfl rfl <| jc (Zaa (off := 3) lb Zhg tR) <| jc (Zai (j := 2) lb tS27 tR rfl (cT (Za7 t_1) rfl) rfl rfl) ?_
 obtain ⟨⟨v18, v19⟩, hv_18, hm⟩ := Zay hm
 refine jx (Zak (js := []) ld Zld (ZdC k t_1.Payload (v18, v19) hv_18) .func (.cons tR .nil) rfl) (fun q => ?_)
 obtain ⟨go_20, gc_21⟩ := q
 refine jc (Zaz (i := 0) lb tR rfl) <| jc (Zaz (i := 1) lb tR rfl) <| bI hm fun x_22 hv_x_22 hm => JL.pre (Imp.frz (j := 0) rfl (ImpK.tupAt (s := 26) (i := 0) (q := HL go_20 (rU UInt8) v18 gc_21) rfl rfl ZgK (ImpK.slotH (s := 27) rfl ImpK.refl))) <| jx (Zak (js := [1, 1]) ld ZjP (ZbI k v18 v19 x_15 gb_3 go_16 gc_17 x_22 hv_x_22) tR (.cons (HasO.wk tR wkHL) (.cons tR .nil)) rfl) (fun q => ?_)
 obtain ⟨go_23, gc_24⟩ := q
 refine JL.nrm ⟨[(1, ov (PTR gb_2 0)), (3, ov (PTR gb_3 0)), (4, ov (CLO 149 [PTR gb_3 0]))], [cvar gb_3 (rW (HDR go_23 0 (List.length x_22) gc_24)) (), cown go_23 (rU UInt8) x_22 0 gc_24, cvar gb_2 Zam t_1], []⟩ [0, 0, 1] rfl (.cons rfl (.cons rfl (.cons rfl .nil))) rfl <| jn <| jr <| jmv rfl rfl <| jc (Zaa (off := 4) lb Zfh tR) <| jc (Zaw (j := 2) lb tA29 tR rfl (cT (ZaZ t_1) rfl) rfl) <| bI hm fun v25 hv_25 hm => jx (Zak (js := []) ld Zmw (Zen k t_1.Past v25 hv_25) .func (.cons tR .nil) rfl) (fun q => ?_)
 obtain ⟨go_26, gc_27⟩ := q
 refine bI hm fun x_28 hv_x_28 hm => JL.pre (Imp.frz (j := 0) rfl (ImpK.slotH (s := 33) rfl ImpK.refl)) <| jx (Zak (js := [1, 1]) ld ZjP (ZbI k v25 (0 : Int) x_22 gb_3 go_23 gc_24 x_28 hv_x_28) tR (.cons (HasO.wk tR wkHL) (.cons .cI .nil)) rfl) (fun q => ?_)
 obtain ⟨go_29, gc_30⟩ := q
 refine JL.nrm ⟨[(1, ov (PTR gb_2 0)), (3, ov (PTR gb_3 0)), (4, ov (CLO 149 [PTR gb_3 0]))], [cvar gb_3 (rW (HDR go_29 0 (List.length x_28) gc_30)) (), cown go_29 (rU UInt8) x_28 0 gc_30, cvar gb_2 Zam t_1], []⟩ [0, 0, 1] rfl (.cons rfl (.cons rfl (.cons rfl .nil))) rfl <| jn <| jr <| jmv rfl rfl <| jc (Zaa (off := 20) lb ZcR tR) <| jc (Zai (j := 2) lb tS30 tR rfl (cT (ZaL t_1) rfl) rfl rfl) <| jc (ZaE lb tu30 tR) <| lI hm fun v31 hv_31 hm => jc (ZcN lb tu3 tu24 tR hv_31) ?_
 obtain ⟨⟨v32, v33⟩, hv_32, hm⟩ := Zay hm
 refine jx (Zak (js := []) ld cl79 (Zcq k v31 (2 : Int) (v32, v33) hv_32) .func (.cons tR (.cons .cI .nil)) rfl) (fun q => ?_)
 obtain ⟨go_34, gc_35⟩ := q
 refine jc (Zaz (i := 0) lb tR rfl) <| jc (Zaz (i := 1) lb tR rfl) <| bI hm fun x_36 hv_x_36 hm => JL.pre (Imp.frz (j := 0) rfl (ImpK.tupAt (s := 40) (i := 0) (q := HL go_34 (rU UInt8) v32 gc_35) rfl rfl ZgK (ImpK.slotH (s := 41) rfl ImpK.refl))) <| jx (Zak (js := [1, 1]) ld ZjP (ZbI k v32 v33 x_28 gb_3 go_29 gc_30 x_36 hv_x_36) tR (.cons (HasO.wk tR wkHL) (.cons tR .nil)) rfl) (fun q => ?_)
 obtain ⟨go_37, gc_38⟩ := q
 refine JL.nrm ⟨[(1, ov (PTR gb_2 0)), (3, ov (PTR gb_3 0)), (4, ov (CLO 149 [PTR gb_3 0]))], [cvar gb_3 (rW (HDR go_37 0 (List.length x_36) gc_38)) (), cown go_37 (rU UInt8) x_36 0 gc_38, cvar gb_2 Zam t_1], []⟩ [0, 0, 1] rfl (.cons rfl (.cons rfl (.cons rfl .nil))) rfl <| jn <| bI hm fun x_61 hx1 hq1 => JC.seqJ (γ := Option Nat × Nat) (stj := fun q => ⟨[(3, ov (PTR gb_3 0))], [cvar gb_3 (rW (HDR q.1 0 (List.length x_61) q.2)) (), cown q.1 (rU UInt8) x_61 0 q.2], []⟩) (fun q => ?_) ?_
 · obtain ⟨go_62, gc_63⟩ := q
   refine JC.at ⟨[(3, ov (PTR gb_3 0))], [cvar gb_3 (rW (HDR go_62 0 (List.length x_61) gc_63)) (), cown go_62 (rU UInt8) x_61 0 gc_63], []⟩ <| jr <| jc (ZaM (j := 0) lb tS27 tR rfl (Comp.self (rW (HDR go_62 0 (List.length x_61) gc_63)) ())) <| jc (Zab lb tR) <| jn <| JC.ret ?_
   obtain rfl := so hq1
   exact JQ.done (js := [1]) (ss := [.val (HDR go_62 0 (List.length x_61) gc_63)]) (go_62, gc_63) (.inl rfl) (.nil rfl) rfl (.cons (.tmp rfl) .nil) rfl rfl rfl
 refine jr <| jc (Zaa (off := 20) lb ZcR tR) <| jc (Zai (j := 2) lb tS30 tR rfl (cT (ZaL t_1) rfl) rfl rfl) <| jc (ZaE lb tu30 tR) <| jc (Zax lb .cI) <| jn <| JC.block <| JC.pre ?_ (JC.loop (γ := Option Nat × Nat) (stf := fun s q => ⟨[(3, ov (PTR gb_3 0)), (4, ov (CLO 149 [PTR gb_3 0])), (45, ov (S (rL Zat) t_1.To)), (46, ov (S (rI .i64) (List.length t_1.To : Int))), (47, ov (S (rI .i64) s.2))], [cvar gb_3 (rW (HDR q.1 0 (List.length s.1) q.2)) (), cown q.1 (rU UInt8) s.1 0 q.2], []⟩) (q := (go_37, gc_38)) hx1 ?_)
 · exact (Imp.norm (js := [0, 0]) rfl (.cons rfl (.cons rfl (.cons rfl (.cons rfl (.cons rfl .nil))))))
 intro s q x hx hr
 obtain ⟨x_39, x_40⟩ := s
 obtain ⟨go_41, gc_42⟩ := q
 change event_bytes.b1 k t_1 x_39 x_40 = some x at hx
 unfold event_bytes.b1 at hx
 refine JC.at ⟨[(3, ov (PTR gb_3 0)), (4, ov (CLO 149 [PTR gb_3 0])), (45, ov (S (rL Zat) t_1.To)), (46, ov (S (rI .i64) (List.length t_1.To : Int))), (47, ov (S (rI .i64) x_40))], [cvar gb_3 (rW (HDR go_41 0 (List.length x_39) gc_42)) (), cown go_41 (rU UInt8) x_39 0 gc_42], []⟩ <| jr <| lI hx fun v43 hv_43 hx => jc (Zaq lb tR tR (cs hv_43)) <| jn <| JC.seq <| jif tR hx (fun hc3 hx => ?_) (fun hc3 hx => ?_)
 · refine JC.skip <| JQ.then <| JC.seq <| JC.block <| jr <| bI hx fun v44 hv_44 hx => jc (Zau lb tu30 Zhc tR tR hv_44) <| jc (ZaR lb Zi5 tR rfl) <| jx (Zbh lb ZlP Znp) fun gb_45 => jc (ZaP (j := 2) Zi5 tR tR rfl (UpdR.self (by rfl)) rfl) <| jn <| jr <| jmv rfl rfl <| jc (Zaa (off := 0) lb Zgp tR) <| jc (Zaw (j := 2) lb tA26 tR rfl (cT (ZbK v44) rfl) rfl) <| JL.sub ⟨[(3, ov (PTR gb_3 0)), (4, ov (CLO 149 [PTR gb_3 0])), (6, ov (PTR gb_45 0)), (45, ov (S (rL Zat) t_1.To)), (46, ov (S (rI .i64) (List.length t_1.To : Int))), (47, ov (S (rI .i64) x_40)), (51, ov (CLO 149 [PTR gb_3 0])), (53, ov (A Zad v44.Dot))], [cvar gb_3 (rW (HDR go_41 0 (List.length x_39) gc_42)) (), cown go_41 (rU UInt8) x_39 0 gc_42, cvar gb_45 Zat v44], []⟩ (.cons rfl (.cons rfl (.cons rfl (.cons rfl (.cons rfl (.cons rfl (.cons rfl (.cons rfl .nil)))))))) rfl rfl ?_
   obtain ⟨⟨v46, v47⟩, hv_46, hx⟩ := Zay hx
   refine jx (Zak (js := []) ld ZlN (ZeI k v44.Dot (v46, v47) hv_46) .func (.cons tR .nil) rfl) (fun q => ?_)
   obtain ⟨go_48, gc_49⟩ := q
   refine jc (Zaz (i := 0) lb tR rfl) <| jc (Zaz (i := 1) lb tR rfl) <| bI hx fun x_50 hv_x_50 hx => JL.pre (Imp.frz (j := 0) rfl (ImpK.tupAt (s := 54) (i := 0) (q := HL go_48 (rU UInt8) v46 gc_49) rfl rfl ZgK (ImpK.slotH (s := 55) rfl ImpK.refl))) <| jx (Zak (js := [1, 1]) ld ZjP (ZbI k v46 v47 x_39 gb_3 go_41 gc_42 x_50 hv_x_50) tR (.cons (HasO.wk tR wkHL) (.cons tR .nil)) rfl) (fun q => ?_)
   obtain ⟨go_51, gc_52⟩ := q
   refine JL.nrm ⟨[(3, ov (PTR gb_3 0)), (4, ov (CLO 149 [PTR gb_3 0])), (6, ov (PTR gb_45 0)), (45, ov (S (rL Zat) t_1.To)), (46, ov (S (rI .i64) (List.length t_1.To : Int))), (47, ov (S (rI .i64) x_40))], [cvar gb_3 (rW (HDR go_51 0 (List.length x_50) gc_52)) (), cown go_51 (rU UInt8) x_50 0 gc_52, cvar gb_45 Zat v44], []⟩ [0, 0, 1] rfl (.cons rfl (.cons rfl (.cons rfl (.cons rfl (.cons rfl (.cons rfl .nil)))))) rfl <| jn <| JC.region <| jmv rfl rfl <| jc (Zaa (off := 2) lb ZiX tR) <| jc (Zai (j := 2) lb tS9 tR rfl (cT (Zcj v44) rfl) rfl rfl) <| jc (ZgC lb tu9 tu27 tu5 tR) ?_
   obtain ⟨⟨v53, v54⟩, hv_53, hx⟩ := Zay hx
   refine jx (Zak (js := []) ld Zld (ZdC k v44.Device (v53, v54) hv_53) .func (.cons tR .nil) rfl) (fun q => ?_)
   obtain ⟨go_55, gc_56⟩ := q
   refine jc (Zaz (i := 0) lb tR rfl) <| jc (Zaz (i := 1) lb tR rfl) <| bI hx fun x_57 hv_x_57 hx => JL.pre (Imp.frz (j := 0) rfl (ImpK.tupAt (s := 62) (i := 0) (q := HL go_55 (rU UInt8) v53 gc_56) rfl rfl ZgK (ImpK.slotH (s := 63) rfl ImpK.refl))) <| jx (Zak (js := [1, 1]) ld ZjP (ZbI k v53 v54 x_50 gb_3 go_51 gc_52 x_57 hv_x_57) tR (.cons (HasO.wk tR wkHL) (.cons tR .nil)) rfl) (fun q => ?_)
   obtain ⟨go_58, gc_59⟩ := q
   refine JL.nrm ⟨[(3, ov (PTR gb_3 0)), (4, ov (CLO 149 [PTR gb_3 0])), (45, ov (S (rL Zat) t_1.To)), (46, ov (S (rI .i64) (List.length t_1.To : Int))), (47, ov (S (rI .i64) x_40))], [cvar gb_3 (rW (HDR go_58 0 (List.length x_57) gc_59)) (), cown go_58 (rU UInt8) x_57 0 gc_59], []⟩ [0, 0] rfl (.cons rfl (.cons rfl (.cons rfl (.cons rfl (.cons rfl .nil))))) rfl <| JL.nil <| JQ.outNB <| JQ.then <| JC.region <| lI hx fun v60 hv_60 hx => jc (ZaY lb tR .cI (cs hv_60)) <| jmv rfl rfl <| JL.nil ?_
   try obtain rfl := so hx
   exact JQ.next (go_58, gc_59) rfl (Imp.norm (js := [0, 0]) rfl (.cons rfl (.cons rfl (.cons rfl (.cons rfl (.cons rfl .nil))))))
 refine JC.exit <| JQ.outX ?_
 try obtain rfl := so hx
 have ht := hr _ rfl
 have hq2 := cs ht
 clear hr ht
 refine JQ.outX <| JQ.here ?_
 try obtain rfl := so hq2
 exact JQ.join (go_41, gc_42) (Imp.norm (js := [0, 0]) rfl (.cons rfl .nil))

theorem ZhT (k : Nat) (e_1 : Zar) (r : (List UInt8) × Int) (hm : Zfp k e_1 = some r) : Sim Tryz.prog 126 [A Zam e_1] [] (γ := Option Nat × Nat) (fun q => [cown q.1 (rU UInt8) r.1 0 q.2]) (fun q => .tup [.val (HDR q.1 0 (List.length r.1) q.2), .val (S (rI .i64) r.2)]) := by
 unfold Zfp at hm
 refine Sim.of Tryz.func126 rfl rfl (lE rfl) (fun e0 w0 => ?_)
 refine JC.at ⟨[(0, ov (A Zam e_1))], [], []⟩ <| jr <| jx (ZaX lb tR) fun gb_2 => jc (Zab lb HasO.nilH) <| jc (Zab lb .cI) <| jn <| JC.seq <| jr <| jc (Zaw (j := 0) lb tA32 tR rfl (Comp.self Zam e_1) rfl) <| bI hm fun v3 hv_3 hm => jx (Zak (js := []) ld cl31 (Zfo k e_1 v3 hv_3) .func (.cons tR .nil) rfl) fun _ => lI hm fun v4 hv_4 hm => jc (Zbc lb tR hv_4) <| jn ?_
 refine jif tR hm (fun hc1 hm => ?_) (fun hc1 hm => ?_)
 · refine jr <| jc (Zab lb HasO.nilH) <| jc (Zab lb .cI) <| jn <| JC.ret <| JQ.outR ?_
   obtain rfl := so hm
   exact JQ.pre (Imp.nilown (rU UInt8)) <| JQ.done (js := [1]) (ss := [.val (HDR none 0 (List.length ([] : (List UInt8))) (0)), .val (S (rI .i64) (2 : Int))]) (none, 0) (.inl rfl) (.nil rfl) rfl (.cons (.tmp rfl) (.cons (.tmp rfl) .nil)) rfl rfl rfl
 refine JC.skip <| JQ.then <| jr <| jc (Zaw (j := 0) lb tA32 tR rfl (Comp.self Zam e_1) rfl) <| bI hm fun v5 hv_5 hm => jx (Zak (js := []) ld ZnC (ZfP k e_1 v5 hv_5) .func (.cons tR .nil) rfl) (fun q => ?_)
 obtain ⟨go_6, gc_7⟩ := q
 refine JL.nrm ⟨[(2, ov (HDR none 0 0 0)), (3, ov (S (rI .i64) (0 : Int))), (8, ov (HDR go_6 0 (List.length v5) gc_7))], [cown go_6 (rU UInt8) v5 0 gc_7], []⟩ [0] rfl (.cons rfl (.cons rfl (.cons rfl .nil))) rfl <| jc (Zab lb tR) <| jc (Zab lb .cI) <| jn <| JC.ret ?_
 obtain rfl := so hm
 exact JQ.done (js := [0]) (ss := [.val (HDR go_6 0 (List.length v5) gc_7), .val (S (rI .i64) (0 : Int))]) (go_6, gc_7) (.inl rfl) (.nil rfl) rfl (.cons (.tmp rfl) (.cons (.tmp rfl) .nil)) rfl rfl rfl

theorem ZfI (k : Nat) (f_1 : Zah) (x_3 : (List UInt8)) (gb_2 : Nat) (go_4 : Option Nat) (gc_5 : Nat) (r : (List UInt8)) (hm : Zcd k f_1 x_3 = some r) : Sim Tryz.prog 94 [PTR gb_2 0, A Zae f_1] [cvar gb_2 (zq23 go_4 x_3 gc_5) ((), ()), cown go_4 (rU UInt8) x_3 0 gc_5] (γ := Option Nat × Nat) (fun q => [cvar gb_2 (rP (rW (HDR q.1 0 (List.length r) q.2)) r0) ((), ()), cown q.1 (rU UInt8) r 0 q.2]) (fun q => .tup []) := by
 unfold Zcd at hm
 refine Sim.of Tryz.func94 rfl rfl (lE rfl) (fun e0 w0 => ?_)
 refine JC.at ⟨[(0, ov (PTR gb_2 0)), (1, ov (A Zae f_1))], [cvar gb_2 (zq23 go_4 x_3 gc_5) ((), ()), cown go_4 (rU UInt8) x_3 0 gc_5], []⟩ <| jr <| jx (ZaX lb tR) fun gb_6 => jn <| jr <| jc (Zaa (off := 4) lb Zgi tR) <| jc (Zaw (j := 2) lb tA32 tR rfl (cT (Zbl f_1) rfl) rfl) ?_
 obtain ⟨⟨v7, v8⟩, hv_7, hm⟩ := Zay hm
 refine jx (Zak (js := []) ld Zoq (ZhT k f_1.Event (v7, v8) hv_7) .func (.cons tR .nil) rfl) (fun q => ?_)
 obtain ⟨go_9, gc_10⟩ := q
 refine jmv rfl rfl <| jc (Zaz (i := 0) lb tR rfl) <| jc (Zaz (i := 1) lb tR rfl) <| jc (Zab lb tR) <| JL.nrm ⟨[(0, ov (PTR gb_2 0)), (4, ov (HDR go_9 0 (List.length v7) gc_10)), (11, ov (S (rI .i64) v8))], [cown go_9 (rU UInt8) v7 0 gc_10, cvar gb_2 (zq23 go_4 x_3 gc_5) ((), ()), cown go_4 (rU UInt8) x_3 0 gc_5], []⟩ [0, 0, 0] rfl (.cons rfl (.cons rfl (.cons rfl .nil))) rfl <| jc (Zab lb tR) <| jn <| jr <| jmv rfl rfl <| jmv rfl rfl <| jc (ZjG lb tu27 tR) <| lI hm fun v11 hv_11 hm => jc (ZcN lb tu3 tu24 tR hv_11) ?_
 obtain ⟨⟨v12, v13⟩, hv_12, hm⟩ := Zay hm
 refine jx (Zak (js := []) ld cl79 (Zcq k v11 (4 : Int) (v12, v13) hv_12) .func (.cons tR (.cons .cI .nil)) rfl) (fun q => ?_)
 obtain ⟨go_14, gc_15⟩ := q
 refine jc (Zaz (i := 0) lb tR rfl) <| jc (Zaz (i := 1) lb tR rfl) <| bI hm fun x_16 hv_x_16 hm => JL.pre (Imp.frz (j := 0) rfl (ImpK.tupAt (s := 16) (i := 0) (q := HL go_14 (rU UInt8) v12 gc_15) rfl rfl ZgK (ImpK.slotH (s := 17) rfl ImpK.refl))) <| jx (Zak (js := [2, 2]) ld cl78 (Za0 k v12 v13 x_3 gb_2 go_4 gc_5 x_16 hv_x_16) .func (.cons tR (.cons (HasO.wk tR wkHL) (.cons tR .nil))) rfl) (fun q => ?_)
 obtain ⟨go_17, gc_18⟩ := q
 refine JL.nrm ⟨[(0, ov (PTR gb_2 0)), (4, ov (HDR go_9 0 (List.length v7) gc_10))], [cvar gb_2 (zq23 go_17 x_16 gc_18) ((), ()), cown go_17 (rU UInt8) x_16 0 gc_18, cown go_9 (rU UInt8) v7 0 gc_10], []⟩ [0, 0, 1] rfl (.cons rfl (.cons rfl .nil)) rfl <| jn <| JC.region <| jmv rfl rfl <| jmv rfl rfl <| jc (Zas lb tR (fun e v h => by subst h; rfl)) <| jc (Zaa (off := 0) lb ZcB tR) <| jc (ZaM (j := 0) lb tS27 tR rfl (Comp.trans (Comp.self (zq23 go_17 x_16 gc_18) ((), ())) (Comp.at' (Comp.inF (Comp.self (rW (HDR go_17 0 (List.length x_16) gc_18)) ()) (lE rfl)) (by rfl : _ = 0)) (lE rfl))) <| jmv rfl rfl <| bI hm fun x_19 hv_x_19 hm => jx (Zg4 (j := 1) (j' := 2) lb tu27 tu27 rfl tB5 rfl (Nat.lt_of_lt_of_le Nat.zero_lt_one (lE rfl)) (Nat.lt_of_lt_of_le Nat.zero_lt_one (lE rfl))  rfl tR rfl tR hv_x_19) (fun q => ?_)
 obtain ⟨go_20, gc_21⟩ := q
 refine jc (Zas lb tR (fun e v h => by subst h; rfl)) <| jc (Zaa (off := 0) lb ZcB tR) <| jc (ZbD (j := 0) tS27 tR tR rfl ((UpdR.fst (UpdR.self (by rfl))).at (by change 0 = (0 + 0); omega)) rfl) <| JL.nrm ⟨[], [cvar gb_2 (zq23 go_20 x_19 gc_21) ((), ()), cown go_20 (rU UInt8) x_19 0 gc_21], []⟩ [0, 0] rfl .nil rfl <| JL.nil ?_
 obtain rfl := so hm
 exact JQ.done (js := [0, 0]) (ss := []) (go_20, gc_21) (.inr rfl) (.nil rfl) rfl .nil rfl rfl rfl

theorem ZfJ (k : Nat) (f_1 : Zah) (x_3 : (List UInt8)) (gb_2 : Nat) (go_4 : Option Nat) (gc_5 : Nat) (r : (List UInt8)) (hm : ZcY k f_1 x_3 = some r) : Sim Tryz.prog 96 [PTR gb_2 0, A Zae f_1] [cvar gb_2 (zq23 go_4 x_3 gc_5) ((), ()), cown go_4 (rU UInt8) x_3 0 gc_5] (γ := Option Nat × Nat) (fun q => [cvar gb_2 (rP (rW (HDR q.1 0 (List.length r) q.2)) r0) ((), ()), cown q.1 (rU UInt8) r 0 q.2]) (fun q => .tup []) := by
 unfold ZcY at hm
 refine Sim.of Tryz.func96 rfl rfl (lE rfl) (fun e0 w0 => ?_)
 refine JC.at ⟨[(0, ov (PTR gb_2 0)), (1, ov (A Zae f_1))], [cvar gb_2 (zq23 go_4 x_3 gc_5) ((), ()), cown go_4 (rU UInt8) x_3 0 gc_5], []⟩ <| jr <| jx (ZaX lb tR) fun gb_6 => jn <| JC.region <| jmv rfl rfl <| jc (Zaa (off := 25) lb Zgy tR) <| jc (Zaw (j := 2) lb tA29 tR rfl (cT (Zby f_1) rfl) rfl) <| bI hm fun v7 hv_7 hm => jx (Zak (js := []) ld Zmw (Zen k f_1.Past v7 hv_7) .func (.cons tR .nil) rfl) (fun q => ?_)
 obtain ⟨go_8, gc_9⟩ := q
 refine bI hm fun x_10 hv_x_10 hm => JL.pre (Imp.frz (j := 0) rfl (ImpK.slotH (s := 7) rfl ImpK.refl)) <| jx (Zak (js := [1, 1]) ld cl78 (Za0 k v7 (0 : Int) x_3 gb_2 go_4 gc_5 x_10 hv_x_10) .func (.cons tR (.cons (HasO.wk tR wkHL) (.cons .cI .nil))) rfl) (fun q => ?_)
 obtain ⟨go_11, gc_12⟩ := q
 refine JL.nrm ⟨[], [cvar gb_2 (zq23 go_11 x_10 gc_12) ((), ()), cown go_11 (rU UInt8) x_10 0 gc_12], []⟩ [0, 0] rfl .nil rfl <| JL.nil ?_
 obtain rfl := so hm
 exact JQ.done (js := [0, 0]) (ss := []) (go_11, gc_12) (.inr rfl) (.nil rfl) rfl .nil rfl rfl rfl

theorem ZdY (k : Nat) (l_1 : (List Zaf)) (x_3 : (List UInt8)) (gb_2 : Nat) (go_4 : Option Nat) (gc_5 : Nat) (r : (List UInt8)) (hm : frame_writer_dots k l_1 x_3 = some r) : Sim Tryz.prog 132 [PTR gb_2 0, S (rL Zad) l_1] [cvar gb_2 (zq23 go_4 x_3 gc_5) ((), ()), cown go_4 (rU UInt8) x_3 0 gc_5] (γ := Option Nat × Nat) (fun q => [cvar gb_2 (rP (rW (HDR q.1 0 (List.length r) q.2)) r0) ((), ()), cown q.1 (rU UInt8) r 0 q.2]) (fun q => .tup []) := by
 unfold frame_writer_dots at hm
 refine Sim.of Tryz.func132 rfl rfl (lE rfl) (fun e0 w0 => ?_)
 refine JC.at ⟨[(0, ov (PTR gb_2 0)), (1, ov (S (rL Zad) l_1))], [cvar gb_2 (zq23 go_4 x_3 gc_5) ((), ()), cown go_4 (rU UInt8) x_3 0 gc_5], []⟩ <| jr <| jmv rfl rfl <| jmv rfl rfl <| jc (ZaE lb tu33 tR) <| lI hm fun v6 hv_6 hm => jc (ZcN lb tu3 tu24 tR hv_6) ?_
 obtain ⟨⟨v7, v8⟩, hv_7, hm⟩ := Zay hm
 refine jx (Zak (js := []) ld cl79 (Zcq k v6 (2 : Int) (v7, v8) hv_7) .func (.cons tR (.cons .cI .nil)) rfl) (fun q => ?_)
 obtain ⟨go_9, gc_10⟩ := q
 refine jc (Zaz (i := 0) lb tR rfl) <| jc (Zaz (i := 1) lb tR rfl) <| bI hm fun x_11 hv_x_11 hm => JL.pre (Imp.frz (j := 0) rfl (ImpK.tupAt (s := 10) (i := 0) (q := HL go_9 (rU UInt8) v7 gc_10) rfl rfl ZgK (ImpK.slotH (s := 11) rfl ImpK.refl))) <| jx (Zak (js := [1, 1]) ld cl78 (Za0 k v7 v8 x_3 gb_2 go_4 gc_5 x_11 hv_x_11) .func (.cons tR (.cons (HasO.wk tR wkHL) (.cons tR .nil))) rfl) (fun q => ?_)
 obtain ⟨go_12, gc_13⟩ := q
 refine JL.nrm ⟨[(0, ov (PTR gb_2 0)), (1, ov (S (rL Zad) l_1))], [cvar gb_2 (zq23 go_12 x_11 gc_13) ((), ()), cown go_12 (rU UInt8) x_11 0 gc_13], []⟩ [0, 0] rfl (.cons rfl (.cons rfl .nil)) rfl <| jn <| jr <| jmv rfl rfl <| jc (ZaE lb tu33 tR) <| jc (Zax lb .cI) <| jn <| JC.block <| JC.pre ?_ (JC.loop (γ := Option Nat × Nat) (stf := fun s q => ⟨[(0, ov (PTR gb_2 0)), (14, ov (S (rL Zad) l_1)), (15, ov (S (rI .i64) (List.length l_1 : Int))), (16, ov (S (rI .i64) s.2))], [cvar gb_2 (rP (rW (HDR q.1 0 (List.length s.1) q.2)) r0) ((), ()), cown q.1 (rU UInt8) s.1 0 q.2], []⟩) (q := (go_12, gc_13)) hm ?_)
 · exact (Imp.norm (js := [0, 0]) rfl (.cons rfl (.cons rfl (.cons rfl (.cons rfl .nil)))))
 intro s q x hx hr
 obtain ⟨b_14, x_15⟩ := s
 obtain ⟨go_16, gc_17⟩ := q
 change frame_writer_dots.b1 k l_1 b_14 x_15 = some x at hx
 unfold frame_writer_dots.b1 at hx
 refine JC.at ⟨[(0, ov (PTR gb_2 0)), (14, ov (S (rL Zad) l_1)), (15, ov (S (rI .i64) (List.length l_1 : Int))), (16, ov (S (rI .i64) x_15))], [cvar gb_2 (zq23 go_16 b_14 gc_17) ((), ()), cown go_16 (rU UInt8) b_14 0 gc_17], []⟩ <| jr <| lI hx fun v18 hv_18 hx => jc (Zaq lb tR tR (cs hv_18)) <| jn <| JC.seq <| jif tR hx (fun hc2 hx => ?_) (fun hc2 hx => ?_)
 · refine JC.skip <| JQ.then <| JC.seq <| JC.block <| jr <| bI hx fun v19 hv_19 hx => jc (Zau lb tu33 tz26 tR tR hv_19) <| jc (ZaR lb tA26 tR rfl) <| jx (Zbh lb tZ26 zr26) fun gb_20 => jc (ZaP (j := 2) tA26 tR tR rfl (UpdR.self (by rfl)) rfl) <| jn <| JC.region <| jmv rfl rfl <| jc (Zaw (j := 2) lb tA26 tR rfl (Comp.self Zad v19) rfl) ?_
   obtain ⟨⟨v21, v22⟩, hv_21, hx⟩ := Zay hx
   refine jx (Zak (js := []) ld ZlN (ZeI k v19 (v21, v22) hv_21) .func (.cons tR .nil) rfl) (fun q => ?_)
   obtain ⟨go_23, gc_24⟩ := q
   refine JL.nrm ⟨[(0, ov (PTR gb_2 0)), (14, ov (S (rL Zad) l_1)), (15, ov (S (rI .i64) (List.length l_1 : Int))), (16, ov (S (rI .i64) x_15)), (20, ov (PTR gb_2 0)), (22, .tup [.val (HDR go_23 0 (List.length v21) gc_24), .val (S (rI .i64) v22)])], [cown go_23 (rU UInt8) v21 0 gc_24, cvar gb_2 (zq23 go_16 b_14 gc_17) ((), ()), cown go_16 (rU UInt8) b_14 0 gc_17], []⟩ [0, 0, 0] rfl (.cons rfl (.cons rfl (.cons rfl (.cons rfl (.cons rfl (.cons rfl .nil)))))) rfl <| jc (Zaz (i := 0) lb tR rfl) <| jc (Zaz (i := 1) lb tR rfl) <| bI hx fun x_25 hv_x_25 hx => JL.pre (Imp.frz (j := 0) rfl (ImpK.tupAt (s := 22) (i := 0) (q := HL go_23 (rU UInt8) v21 gc_24) rfl rfl ZgK (ImpK.slotH (s := 23) rfl ImpK.refl))) <| jx (Zak (js := [1, 1]) ld cl78 (Za0 k v21 v22 b_14 gb_2 go_16 gc_17 x_25 hv_x_25) .func (.cons tR (.cons (HasO.wk tR wkHL) (.cons tR .nil))) rfl) (fun q => ?_)
   obtain ⟨go_26, gc_27⟩ := q
   refine JL.nrm ⟨[(0, ov (PTR gb_2 0)), (14, ov (S (rL Zad) l_1)), (15, ov (S (rI .i64) (List.length l_1 : Int))), (16, ov (S (rI .i64) x_15))], [cvar gb_2 (zq23 go_26 x_25 gc_27) ((), ()), cown go_26 (rU UInt8) x_25 0 gc_27], []⟩ [0, 0] rfl (.cons rfl (.cons rfl (.cons rfl (.cons rfl .nil)))) rfl <| JL.nil <| JQ.outNB <| JQ.then <| JC.region <| lI hx fun v28 hv_28 hx => jc (ZaY lb tR .cI (cs hv_28)) <| jmv rfl rfl <| JL.nil ?_
   try obtain rfl := so hx
   exact JQ.next (go_26, gc_27) rfl (Imp.norm (js := [0, 0]) rfl (.cons rfl (.cons rfl (.cons rfl (.cons rfl .nil)))))
 refine JC.exit <| JQ.outX ?_
 try obtain rfl := so hx
 have ht := hr _ rfl
 have hq1 := cs ht
 clear hr ht
 refine JQ.outX <| JQ.here ?_
 obtain rfl := so hq1
 exact JQ.done (js := [0, 0]) (ss := []) (go_16, gc_17) (.inr rfl) (.nil rfl) rfl .nil rfl rfl rfl

theorem ZdX (k : Nat) (f_1 : Zah) (x_3 : (List UInt8)) (gb_2 : Nat) (go_4 : Option Nat) (gc_5 : Nat) (r : (List UInt8)) (hm : ZbW k f_1 x_3 = some r) : Sim Tryz.prog 131 [PTR gb_2 0, A Zae f_1] [cvar gb_2 (zq23 go_4 x_3 gc_5) ((), ()), cown go_4 (rU UInt8) x_3 0 gc_5] (γ := Option Nat × Nat) (fun q => [cvar gb_2 (rP (rW (HDR q.1 0 (List.length r) q.2)) r0) ((), ()), cown q.1 (rU UInt8) r 0 q.2]) (fun q => .tup []) := by
 unfold ZbW at hm
 refine Sim.of Tryz.func131 rfl rfl (lE rfl) (fun e0 w0 => ?_)
 refine JC.at ⟨[(0, ov (PTR gb_2 0)), (1, ov (A Zae f_1))], [cvar gb_2 (zq23 go_4 x_3 gc_5) ((), ()), cown go_4 (rU UInt8) x_3 0 gc_5], []⟩ <| jr <| jx (ZaX lb tR) fun gb_6 => jn <| jr <| jmv rfl rfl <| jc (Zaa (off := 41) lb Ze8 tR) <| jc (Zaw (j := 2) lb tA29 tR rfl (cT (Zbf f_1) rfl) rfl) <| bI hm fun v7 hv_7 hm => jx (Zak (js := []) ld Zmw (Zen k f_1.Seen v7 hv_7) .func (.cons tR .nil) rfl) (fun q => ?_)
 obtain ⟨go_8, gc_9⟩ := q
 refine bI hm fun x_10 hv_x_10 hm => JL.pre (Imp.frz (j := 0) rfl (ImpK.slotH (s := 7) rfl ImpK.refl)) <| jx (Zak (js := [1, 1]) ld cl78 (Za0 k v7 (0 : Int) x_3 gb_2 go_4 gc_5 x_10 hv_x_10) .func (.cons tR (.cons (HasO.wk tR wkHL) (.cons .cI .nil))) rfl) (fun q => ?_)
 obtain ⟨go_11, gc_12⟩ := q
 refine JL.nrm ⟨[(0, ov (PTR gb_2 0)), (3, ov (PTR gb_6 0))], [cvar gb_2 (zq23 go_11 x_10 gc_12) ((), ()), cown go_11 (rU UInt8) x_10 0 gc_12, cvar gb_6 Zae f_1], []⟩ [0, 0, 1] rfl (.cons rfl (.cons rfl .nil)) rfl <| jn <| JC.region <| jmv rfl rfl <| jc (Zaa (off := 57) lb ZeH tR) <| jc (Zai (j := 2) lb tS33 tR rfl (cT (Za3 f_1) rfl) rfl rfl) <| bI hm fun x_13 hv_x_13 hm => jx (Zak (js := [0, 0]) ld ZnG (ZdY k f_1.Extra x_10 gb_2 go_11 gc_12 x_13 hv_x_13) .func (.cons tR (.cons tR .nil)) rfl) (fun q => ?_)
 obtain ⟨go_14, gc_15⟩ := q
 refine JL.nil ?_
 obtain rfl := so hm
 exact JQ.done (js := [0, 0]) (ss := []) (go_14, gc_15) (.inr rfl) (.nil rfl) rfl .nil rfl rfl rfl

theorem ZfB (k : Nat) (f_1 : Zah) (x_3 : (List UInt8)) (gb_2 : Nat) (go_4 : Option Nat) (gc_5 : Nat) (r : (List UInt8)) (hm : ZcH k f_1 x_3 = some r) : Sim Tryz.prog 98 [PTR gb_2 0, A Zae f_1] [cvar gb_2 (zq23 go_4 x_3 gc_5) ((), ()), cown go_4 (rU UInt8) x_3 0 gc_5] (γ := Option Nat × Nat) (fun q => [cvar gb_2 (rP (rW (HDR q.1 0 (List.length r) q.2)) r0) ((), ()), cown q.1 (rU UInt8) r 0 q.2]) (fun q => .tup []) := by
 unfold ZcH at hm
 refine Sim.of Tryz.func98 rfl rfl (lE rfl) (fun e0 w0 => ?_)
 refine JC.at ⟨[(0, ov (PTR gb_2 0)), (1, ov (A Zae f_1))], [cvar gb_2 (zq23 go_4 x_3 gc_5) ((), ()), cown go_4 (rU UInt8) x_3 0 gc_5], []⟩ <| jr <| jx (ZaX lb tR) fun gb_6 => jn <| jr <| jmv rfl rfl <| jc (Zaw (j := 2) lb tA39 tR rfl (Comp.self Zae f_1) rfl) <| bI hm fun x_7 hv_x_7 hm => jx (Zak (js := [0, 0]) ld Znm (ZdX k f_1 x_3 gb_2 go_4 gc_5 x_7 hv_x_7) .func (.cons tR (.cons tR .nil)) rfl) (fun q => ?_)
 obtain ⟨go_8, gc_9⟩ := q
 refine jn <| JC.region <| jmv rfl rfl <| jc (Zaa (off := 58) lb Zd6 tR) <| jc (Zai (j := 2) lb tS33 tR rfl (cT (ZaT f_1) rfl) rfl rfl) <| bI hm fun x_10 hv_x_10 hm => jx (Zak (js := [0, 0]) ld ZnG (ZdY k f_1.Live x_7 gb_2 go_8 gc_9 x_10 hv_x_10) .func (.cons tR (.cons tR .nil)) rfl) (fun q => ?_)
 obtain ⟨go_11, gc_12⟩ := q
 refine JL.nrm ⟨[], [cvar gb_2 (zq23 go_11 x_10 gc_12) ((), ()), cown go_11 (rU UInt8) x_10 0 gc_12], []⟩ [0, 0] rfl .nil rfl <| JL.nil ?_
 obtain rfl := so hm
 exact JQ.done (js := [0, 0]) (ss := []) (go_11, gc_12) (.inr rfl) (.nil rfl) rfl .nil rfl rfl rfl

theorem ZfL (k : Nat) (f_1 : Zah) (x_3 : (List UInt8)) (gb_2 : Nat) (go_4 : Option Nat) (gc_5 : Nat) (r : (List UInt8)) (hm : ZcW k f_1 x_3 = some r) : Sim Tryz.prog 100 [PTR gb_2 0, A Zae f_1] [cvar gb_2 (zq23 go_4 x_3 gc_5) ((), ()), cown go_4 (rU UInt8) x_3 0 gc_5] (γ := Option Nat × Nat) (fun q => [cvar gb_2 (rP (rW (HDR q.1 0 (List.length r) q.2)) r0) ((), ()), cown q.1 (rU UInt8) r 0 q.2]) (fun q => .tup []) := by
 unfold ZcW at hm
 refine Sim.of Tryz.func100 rfl rfl (lE rfl) (fun e0 w0 => ?_)
 refine JC.at ⟨[(0, ov (PTR gb_2 0)), (1, ov (A Zae f_1))], [cvar gb_2 (zq23 go_4 x_3 gc_5) ((), ()), cown go_4 (rU UInt8) x_3 0 gc_5], []⟩ <| jr <| jx (ZaX lb tR) fun gb_6 => jn <| JC.pre (Imp.frzVar (j := 2) rfl (ImpK.slotP (s := 3) rfl (Comp.self Zae f_1) ImpK.refl)) <| bI hm fun v7 hv_7 hm => ?_
 obtain ⟨x_8, hv_x_8, hm⟩ := Zay hm
 refine JC.anyF (base := [(0, ov (PTR gb_2 0)), (3, ov (PT Zae f_1))])
     (fs := fun γ => [⟨some 4, ov (PTR gb_2 0)⟩, ⟨some 5, ov (PTR gb_2 0)⟩, ⟨some 6, ov (PTR gb_2 0)⟩, ⟨some 7, ov (PTR gb_2 (0 + 0))⟩, ⟨some 8, ov (HDR go_4 0 (List.length x_3) gc_5)⟩, ⟨some 9, ov (PT (rV 32 (rU UInt8)) f_1.Hash)⟩, ⟨some 10, ov (S (rL (rU UInt8)) v7)⟩, ⟨some 11, ov (HDR (deo (γ 7 0)) 0 (List.length x_8) (γ 7 1))⟩, ⟨some 12, ov (PTR gb_2 0)⟩, ⟨some 13, ov (PTR gb_2 (0 + 0))⟩, ⟨none, .one .any⟩])
     (rs := fun γ => [⟨cvar gb_2 (zq23 go_4 x_3 gc_5) ((), ()), none, (some 10), [4]⟩, ⟨cown go_4 (rU UInt8) x_3 0 gc_5, none, (some 7), []⟩, ⟨cown (deo (γ 7 0)) (rU UInt8) x_8 0 (γ 7 1), (some 7), none, []⟩, ⟨cvar gb_2 (zq23 (deo (γ 7 0)) x_8 (γ 7 1)) ((), ()), (some 10), none, []⟩])
     (afts := [[], [], [], [], [], [], [], [7, 8, 9, 10], [], [], []]) (js := [0, 0]) ZbT (.cons rfl (.cons rfl .nil)) (fun _ => rfl)
     (by
      refine db 1 0 <| db 2 0 <| dS 3 (fun γ ρ B hb hd => Zas lb (tl hd 1 5) (fun e v h => by subst h; rfl)) <| dS 4 (fun γ ρ B hb hd => Zaa (off := 0) lb ZcB (tl hd 2 6)) <| dR 5 (fun γ ρ B hb hd => Zan.lk ⟨ρ, (cvar gb_2 (zq23 go_4 x_3 gc_5) ((), ())) :: B, _⟩ (ZaM (j := 0) lb tS27 (tl hd 3 7) rfl (Comp.trans (Comp.self (zq23 go_4 x_3 gc_5) ((), ())) (Comp.at' (Comp.inF (Comp.self (rW (HDR go_4 0 (List.length x_3) gc_5)) ()) (lE rfl)) (by rfl : _ = 0)) (lE rfl)))) ?_
      refine dS 6 (fun γ ρ B hb hd => Zbm lb ZhM (.tmp (hb 3 _ rfl)) (ZbZ f_1)) <| dS 7 (fun γ ρ B hb hd => Zgw lb tu35 tz5 (tl hd 5 9) .none .none hv_7) ?_
      refine ZaG.cons (j := 8) rfl (fun _ => rfl) (.runX (fun _ _ => rfl) (fun γ ρ B hb hd => ⟨.none, OpX.ghost (γ := Option Nat × Nat) (st' := fun q => setO ⟨ρ, (cown q.1 (rU UInt8) x_8 0 q.2) :: B, _⟩ (some 11) (ov (HDR q.1 0 (List.length x_8) q.2))) (fun q c => bif Nat.beq c 0 then eno q.1 else q.2) (Zbp (j := 0) lb tu27 tu27 rfl tB5 rfl (Nat.lt_of_lt_of_le Nat.zero_lt_one (lE rfl)) (Nat.lt_of_lt_of_le Nat.zero_lt_one (lE rfl))  rfl (tl hd 4 8) (tl hd 6 10) hv_x_8) (fun q => by obtain ⟨q0, q1⟩ := q; cases q0 <;> exact Imp.refl)⟩) (fun _ _ => rfl) (fun _ _ => rfl)) ?_
      refine dS 9 (fun γ ρ B hb hd => Zas lb (tl hd 0 4) (fun e v h => by subst h; rfl)) <| dS 10 (fun γ ρ B hb hd => Zaa (off := 0) lb ZcB (tl hd 8 12)) <| dR 11 (fun γ ρ B hb hd => Zan.at ⟨ρ, (cvar gb_2 (zq23 go_4 x_3 gc_5) ((), ())) :: B, _⟩ (setO ⟨ρ, (cvar gb_2 (zq23 (deo (γ 7 0)) x_8 (γ 7 1)) ((), ())) :: B, _⟩ _ _) (ZbD (j := 0) tS27 (tl hd 9 13) (tl hd 7 11) rfl ((UpdR.fst (UpdR.self (by rfl))).at (by change 0 = (0 + 0); omega)) rfl)) ?_
      exact ZaG.nil)
     (by decide +kernel) (fun _ => rfl) (fun _ => rfl) (fun _ => rfl) rfl
     (ρ' := fun γ => [])
     (X' := fun γ => [cown (deo (γ 7 0)) (rU UInt8) x_8 0 (γ 7 1), cvar gb_2 (zq23 (deo (γ 7 0)) x_8 (γ 7 1)) ((), ())])
     (fun γ ρ hb hd => .nil) (fun _ => rfl) (fun γ => ?_)
 generalize (deo (γ 7 0)) = go_9
 generalize (γ 7 1) = gc_10
 clear γ
 refine JQ.at ⟨[], [cown go_9 (rU UInt8) x_8 0 gc_10, cvar gb_2 (zq23 go_9 x_8 gc_10) ((), ())], []⟩ ?_
 obtain rfl := so hm
 exact JQ.done (js := [1, 0]) (ss := []) (go_9, gc_10) (.inr rfl) (.nil rfl) rfl .nil rfl rfl rfl

theorem Zfs (k : Nat) (f_1 : Zah) (x_3 : (List UInt8)) (gb_2 : Nat) (go_4 : Option Nat) (gc_5 : Nat) (r : (List UInt8)) (hm : frame_writer_leaves k f_1 x_3 = some r) : Sim Tryz.prog 102 [PTR gb_2 0, A Zae f_1] [cvar gb_2 (zq23 go_4 x_3 gc_5) ((), ()), cown go_4 (rU UInt8) x_3 0 gc_5] (γ := Option Nat × Nat) (fun q => [cvar gb_2 (rP (rW (HDR q.1 0 (List.length r) q.2)) r0) ((), ()), cown q.1 (rU UInt8) r 0 q.2]) (fun q => .tup []) := by
 unfold frame_writer_leaves at hm
 refine Sim.of Tryz.func102 rfl rfl (lE rfl) (fun e0 w0 => ?_)
 refine JC.at ⟨[(0, ov (PTR gb_2 0)), (1, ov (A Zae f_1))], [cvar gb_2 (zq23 go_4 x_3 gc_5) ((), ()), cown go_4 (rU UInt8) x_3 0 gc_5], []⟩ <| jr <| jx (ZaX lb tR) fun gb_6 => jn <| jr <| jc (Zaa (off := 91) lb ZeT tR) <| jc (Zai (j := 2) lb tS36 tR rfl (cT (Zbd f_1) rfl) rfl rfl) <| jc (ZaE lb tu36 tR) <| jc (Zax lb .cI) <| jn <| JC.block <| JC.pre ?_ (JC.loop (γ := Option Nat × Nat) (stf := fun s q => ⟨[(0, ov (PTR gb_2 0)), (7, ov (S (rL (rV 32 (rU UInt8))) f_1.Leaves)), (8, ov (S (rI .i64) (List.length f_1.Leaves : Int))), (9, ov (S (rI .i64) s.2))], [cvar gb_2 (rP (rW (HDR q.1 0 (List.length s.1) q.2)) r0) ((), ()), cown q.1 (rU UInt8) s.1 0 q.2], []⟩) (q := (go_4, gc_5)) hm ?_)
 · exact (Imp.norm (js := [0, 0]) rfl (.cons rfl (.cons rfl (.cons rfl (.cons rfl .nil)))))
 intro s q x hx hr
 obtain ⟨b_7, x_8⟩ := s
 obtain ⟨go_9, gc_10⟩ := q
 change frame_writer_leaves.b1 k f_1 b_7 x_8 = some x at hx
 unfold frame_writer_leaves.b1 at hx
 refine JC.at ⟨[(0, ov (PTR gb_2 0)), (7, ov (S (rL (rV 32 (rU UInt8))) f_1.Leaves)), (8, ov (S (rI .i64) (List.length f_1.Leaves : Int))), (9, ov (S (rI .i64) x_8))], [cvar gb_2 (zq23 go_9 b_7 gc_10) ((), ()), cown go_9 (rU UInt8) b_7 0 gc_10], []⟩ <| jr <| lI hx fun v11 hv_11 hx => jc (Zaq lb tR tR (cs hv_11)) <| jn <| JC.seq <| jif tR hx (fun hc2 hx => ?_) (fun hc2 hx => ?_)
 · refine JC.skip <| JQ.then <| JC.seq <| JC.block <| jr <| bI hx fun v12 hv_12 hx => jc (Zau lb tu36 tz35 tR tR hv_12) <| jc (ZaR lb tA35 tR rfl) <| jx (Zbh lb tZ35 zr35) fun gb_13 => jc (ZaP (j := 2) tA35 tR tR rfl (UpdR.self (by rfl)) rfl) <| jn <| JC.pre (Imp.frzVar (j := 2) rfl (ImpK.slotP (s := 5) rfl (Comp.self (rV 32 (rU UInt8)) v12) ImpK.refl)) <| bI hx fun v14 hv_14 hx => ?_
   obtain ⟨x_15, hv_x_15, hx⟩ := Zay hx
   refine JC.anyF (base := [(0, ov (PTR gb_2 0)), (5, ov (PT (rV 32 (rU UInt8)) v12)), (7, ov (S (rL (rV 32 (rU UInt8))) f_1.Leaves)), (8, ov (S (rI .i64) (List.length f_1.Leaves : Int))), (9, ov (S (rI .i64) x_8))])
       (fs := fun γ => [⟨some 13, ov (PTR gb_2 0)⟩, ⟨some 14, ov (PTR gb_2 0)⟩, ⟨some 15, ov (PTR gb_2 0)⟩, ⟨some 16, ov (PTR gb_2 (0 + 0))⟩, ⟨some 17, ov (HDR go_9 0 (List.length b_7) gc_10)⟩, ⟨some 18, ov (S (rL (rU UInt8)) v14)⟩, ⟨some 19, ov (HDR (deo (γ 6 0)) 0 (List.length x_15) (γ 6 1))⟩, ⟨some 20, ov (PTR gb_2 0)⟩, ⟨some 21, ov (PTR gb_2 (0 + 0))⟩, ⟨none, .one .any⟩])
       (rs := fun γ => [⟨cvar gb_2 (zq23 go_9 b_7 gc_10) ((), ()), none, (some 9), [4]⟩, ⟨cown go_9 (rU UInt8) b_7 0 gc_10, none, (some 6), []⟩, ⟨cown (deo (γ 6 0)) (rU UInt8) x_15 0 (γ 6 1), (some 6), none, []⟩, ⟨cvar gb_2 (zq23 (deo (γ 6 0)) x_15 (γ 6 1)) ((), ()), (some 9), none, []⟩])
       (afts := [[], [], [], [], [], [], [6, 7, 8, 9], [], [], []]) (js := [0, 0]) ZbT (.cons rfl (.cons rfl (.cons rfl (.cons rfl (.cons rfl .nil))))) (fun _ => rfl)
       (by
      refine db 1 0 <| db 2 0 <| dS 3 (fun γ ρ B hb hd => Zas lb (tl hd 1 14) (fun e v h => by subst h; rfl)) <| dS 4 (fun γ ρ B hb hd => Zaa (off := 0) lb ZcB (tl hd 2 15)) <| dR 5 (fun γ ρ B hb hd => Zan.lk ⟨ρ, (cvar gb_2 (zq23 go_9 b_7 gc_10) ((), ())) :: B, _⟩ (ZaM (j := 0) lb tS27 (tl hd 3 16) rfl (Comp.trans (Comp.self (zq23 go_9 b_7 gc_10) ((), ())) (Comp.at' (Comp.inF (Comp.self (rW (HDR go_9 0 (List.length b_7) gc_10)) ()) (lE rfl)) (by rfl : _ = 0)) (lE rfl)))) ?_
      refine dS 6 (fun γ ρ B hb hd => Zgw lb tu35 tz5 (.tmp (hb 5 _ rfl)) .none .none hv_14) ?_
      refine ZaG.cons (j := 7) rfl (fun _ => rfl) (.runX (fun _ _ => rfl) (fun γ ρ B hb hd => ⟨.none, OpX.ghost (γ := Option Nat × Nat) (st' := fun q => setO ⟨ρ, (cown q.1 (rU UInt8) x_15 0 q.2) :: B, _⟩ (some 19) (ov (HDR q.1 0 (List.length x_15) q.2))) (fun q c => bif Nat.beq c 0 then eno q.1 else q.2) (Zbp (j := 0) lb tu27 tu27 rfl tB5 rfl (Nat.lt_of_lt_of_le Nat.zero_lt_one (lE rfl)) (Nat.lt_of_lt_of_le Nat.zero_lt_one (lE rfl))  rfl (tl hd 4 17) (tl hd 5 18) hv_x_15) (fun q => by obtain ⟨q0, q1⟩ := q; cases q0 <;> exact Imp.refl)⟩) (fun _ _ => rfl) (fun _ _ => rfl)) ?_
      refine dS 8 (fun γ ρ B hb hd => Zas lb (tl hd 0 13) (fun e v h => by subst h; rfl)) <| dS 9 (fun γ ρ B hb hd => Zaa (off := 0) lb ZcB (tl hd 7 20)) <| dR 10 (fun γ ρ B hb hd => Zan.at ⟨ρ, (cvar gb_2 (zq23 go_9 b_7 gc_10) ((), ())) :: B, _⟩ (setO ⟨ρ, (cvar gb_2 (zq23 (deo (γ 6 0)) x_15 (γ 6 1)) ((), ())) :: B, _⟩ _ _) (ZbD (j := 0) tS27 (tl hd 8 21) (tl hd 6 19) rfl ((UpdR.fst (UpdR.self (by rfl))).at (by change 0 = (0 + 0); omega)) rfl)) ?_
      exact ZaG.nil)
       (by decide +kernel) (fun _ => rfl) (fun _ => rfl) (fun _ => rfl) rfl
       (ρ' := fun γ => [(0, ov (PTR gb_2 0)), (7, ov (S (rL (rV 32 (rU UInt8))) f_1.Leaves)), (8, ov (S (rI .i64) (List.length f_1.Leaves : Int))), (9, ov (S (rI .i64) x_8))])
       (X' := fun γ => [cown (deo (γ 6 0)) (rU UInt8) x_15 0 (γ 6 1), cvar gb_2 (zq23 (deo (γ 6 0)) x_15 (γ 6 1)) ((), ())])
       (fun γ ρ hb hd => (.cons (hb 0 _ rfl) (.cons (hb 7 _ rfl) (.cons (hb 8 _ rfl) (.cons (hb 9 _ rfl) .nil))))) (fun _ => rfl) (fun γ => ?_)
   generalize (deo (γ 6 0)) = go_16
   generalize (γ 6 1) = gc_17
   clear γ
   refine JQ.at ⟨[(0, ov (PTR gb_2 0)), (7, ov (S (rL (rV 32 (rU UInt8))) f_1.Leaves)), (8, ov (S (rI .i64) (List.length f_1.Leaves : Int))), (9, ov (S (rI .i64) x_8))], [cown go_16 (rU UInt8) x_15 0 gc_17, cvar gb_2 (zq23 go_16 x_15 gc_17) ((), ())], []⟩ <| JQ.outNB <| JQ.then <| JC.region <| lI hx fun v18 hv_18 hx => jc (ZaY lb tR .cI (cs hv_18)) <| jmv rfl rfl <| JL.nil ?_
   try obtain rfl := so hx
   exact JQ.next (go_16, gc_17) rfl (Imp.norm (js := [1, 0]) rfl (.cons rfl (.cons rfl (.cons rfl (.cons rfl .nil)))))
 refine JC.exit <| JQ.outX ?_
 try obtain rfl := so hx
 have ht := hr _ rfl
 have hq1 := cs ht
 clear hr ht
 refine JQ.outX <| JQ.here ?_
 obtain rfl := so hq1
 exact JQ.done (js := [0, 0]) (ss := []) (go_9, gc_10) (.inr rfl) (.nil rfl) rfl .nil rfl rfl rfl

theorem Ze3 (k : Nat) (f_1 : Zah) (x_3 : (List UInt8)) (gb_2 : Nat) (go_4 : Option Nat) (gc_5 : Nat) (r : (List UInt8)) (hm : frame_writer_buckets k f_1 x_3 = some r) : Sim Tryz.prog 104 [PTR gb_2 0, A Zae f_1] [cvar gb_2 (zq23 go_4 x_3 gc_5) ((), ()), cown go_4 (rU UInt8) x_3 0 gc_5] (γ := Option Nat × Nat) (fun q => [cvar gb_2 (rP (rW (HDR q.1 0 (List.length r) q.2)) r0) ((), ()), cown q.1 (rU UInt8) r 0 q.2]) (fun q => .tup []) := by
 unfold frame_writer_buckets at hm
 refine Sim.of Tryz.func104 rfl rfl (lE rfl) (fun e0 w0 => ?_)
 refine JC.at ⟨[(0, ov (PTR gb_2 0)), (1, ov (A Zae f_1))], [cvar gb_2 (zq23 go_4 x_3 gc_5) ((), ()), cown go_4 (rU UInt8) x_3 0 gc_5], []⟩ <| jr <| jx (ZaX lb tR) fun gb_6 => jn <| JC.seq <| lI hm fun v7 hv_7 hm => ?_
 obtain ⟨x_8, hv_x_8, hm⟩ := Zay hm
 refine JC.anyF (base := [(0, ov (PTR gb_2 0)), (3, ov (PTR gb_6 0))])
     (fs := fun γ => [⟨some 6, ov (PTR gb_2 0)⟩, ⟨some 7, ov (PTR gb_2 0)⟩, ⟨some 8, ov (PTR gb_2 0)⟩, ⟨some 9, ov (PTR gb_2 (0 + 0))⟩, ⟨some 10, ov (HDR go_4 0 (List.length x_3) gc_5)⟩, ⟨some 11, ov (PTR gb_6 (0 + 92))⟩, ⟨some 12, ov (S (rL (rI .i64)) f_1.Buckets)⟩, ⟨some 13, ov (S (rI .i64) (List.length f_1.Buckets : Int))⟩, ⟨some 14, ov (S (rU UInt8) v7)⟩, ⟨some 15, ov (S (rL (rU UInt8)) ([v7] : (List UInt8)))⟩, ⟨some 16, ov (HDR (deo (γ 10 0)) 0 (List.length x_8) (γ 10 1))⟩, ⟨some 17, ov (PTR gb_2 0)⟩, ⟨some 18, ov (PTR gb_2 (0 + 0))⟩, ⟨none, .one .any⟩])
     (rs := fun γ => [⟨cvar gb_2 (zq23 go_4 x_3 gc_5) ((), ()), none, (some 13), [4]⟩, ⟨cown go_4 (rU UInt8) x_3 0 gc_5, none, (some 10), []⟩, ⟨cvar gb_6 Zae f_1, none, none, [6]⟩, ⟨cown (deo (γ 10 0)) (rU UInt8) x_8 0 (γ 10 1), (some 10), none, []⟩, ⟨cvar gb_2 (zq23 (deo (γ 10 0)) x_8 (γ 10 1)) ((), ()), (some 13), none, []⟩])
     (afts := [[], [], [], [], [], [], [], [], [], [], [10, 11, 12, 13], [], [], []]) (js := [0, 0, 0]) ZbT (.cons rfl (.cons rfl .nil)) (fun _ => rfl)
     (by
      refine db 1 0 <| db 2 0 <| dS 3 (fun γ ρ B hb hd => Zas lb (tl hd 1 7) (fun e v h => by subst h; rfl)) <| dS 4 (fun γ ρ B hb hd => Zaa (off := 0) lb ZcB (tl hd 2 8)) <| dR 5 (fun γ ρ B hb hd => Zan.lk ⟨ρ, (cvar gb_2 (zq23 go_4 x_3 gc_5) ((), ())) :: B, _⟩ (ZaM (j := 0) lb tS27 (tl hd 3 9) rfl (Comp.trans (Comp.self (zq23 go_4 x_3 gc_5) ((), ())) (Comp.at' (Comp.inF (Comp.self (rW (HDR go_4 0 (List.length x_3) gc_5)) ()) (lE rfl)) (by rfl : _ = 0)) (lE rfl)))) ?_
      refine dS 6 (fun γ ρ B hb hd => Zaa (off := 92) lb ZcE (.tmp (hb 3 _ rfl))) <| dR 7 (fun γ ρ B hb hd => Zan.lk ⟨ρ, (cvar gb_6 Zae f_1) :: B, _⟩ (Zai (j := 0) lb tS37 (tl hd 5 11) rfl (cT (ZaJ f_1) rfl) rfl rfl)) <| dS 8 (fun γ ρ B hb hd => ZaE lb tu37 (tl hd 6 12)) <| dS 9 (fun γ ρ B hb hd => ZcN lb tu3 tu5 (tl hd 7 13) hv_7) <| dS 10 (fun γ ρ B hb hd => Zca (r := (rU UInt8)) lb tu27 tz5 tZ5 rfl (lE rfl) (.S rfl (tl hd 8 14) .nil) rfl) ?_
      refine ZaG.cons (j := 11) rfl (fun _ => rfl) (.runX (fun _ _ => rfl) (fun γ ρ B hb hd => ⟨.none, OpX.ghost (γ := Option Nat × Nat) (st' := fun q => setO ⟨ρ, (cown q.1 (rU UInt8) x_8 0 q.2) :: B, _⟩ (some 16) (ov (HDR q.1 0 (List.length x_8) q.2))) (fun q c => bif Nat.beq c 0 then eno q.1 else q.2) (Zbp (j := 0) lb tu27 tu27 rfl tB5 rfl (Nat.lt_of_lt_of_le Nat.zero_lt_one (lE rfl)) (Nat.lt_of_lt_of_le Nat.zero_lt_one (lE rfl))  rfl (tl hd 4 10) (tl hd 9 15) hv_x_8) (fun q => by obtain ⟨q0, q1⟩ := q; cases q0 <;> exact Imp.refl)⟩) (fun _ _ => rfl) (fun _ _ => rfl)) ?_
      refine dS 12 (fun γ ρ B hb hd => Zas lb (tl hd 0 6) (fun e v h => by subst h; rfl)) <| dS 13 (fun γ ρ B hb hd => Zaa (off := 0) lb ZcB (tl hd 11 17)) <| dR 14 (fun γ ρ B hb hd => Zan.at ⟨ρ, (cvar gb_2 (zq23 go_4 x_3 gc_5) ((), ())) :: B, _⟩ (setO ⟨ρ, (cvar gb_2 (zq23 (deo (γ 10 0)) x_8 (γ 10 1)) ((), ())) :: B, _⟩ _ _) (ZbD (j := 0) tS27 (tl hd 12 18) (tl hd 10 16) rfl ((UpdR.fst (UpdR.self (by rfl))).at (by change 0 = (0 + 0); omega)) rfl)) ?_
      exact ZaG.nil)
     (by decide +kernel) (fun _ => rfl) (fun _ => rfl) (fun _ => rfl) rfl
     (ρ' := fun γ => [(0, ov (PTR gb_2 0)), (3, ov (PTR gb_6 0))])
     (X' := fun γ => [cvar gb_6 Zae f_1, cown (deo (γ 10 0)) (rU UInt8) x_8 0 (γ 10 1), cvar gb_2 (zq23 (deo (γ 10 0)) x_8 (γ 10 1)) ((), ())])
     (fun γ ρ hb hd => (.cons (hb 0 _ rfl) (.cons (hb 3 _ rfl) .nil))) (fun _ => rfl) (fun γ => ?_)
 generalize (deo (γ 10 0)) = go_9
 generalize (γ 10 1) = gc_10
 clear γ
 refine JQ.at ⟨[(0, ov (PTR gb_2 0)), (3, ov (PTR gb_6 0))], [cvar gb_6 Zae f_1, cown go_9 (rU UInt8) x_8 0 gc_10, cvar gb_2 (zq23 go_9 x_8 gc_10) ((), ())], []⟩ <| JQ.then <| bI hm fun b_22 hx1 hq1 => JC.seqJ (γ := Option Nat × Nat) (stj := fun q => ⟨[(0, ov (PTR gb_2 0)), (3, ov (PTR gb_6 0))], [cvar gb_2 (rP (rW (HDR q.1 0 (List.length b_22) q.2)) r0) ((), ()), cown q.1 (rU UInt8) b_22 0 q.2, cvar gb_6 Zae f_1], []⟩) (fun q => ?_) ?_
 · obtain ⟨go_23, gc_24⟩ := q
   refine JC.at ⟨[(0, ov (PTR gb_2 0)), (3, ov (PTR gb_6 0))], [cvar gb_2 (zq23 go_23 b_22 gc_24) ((), ()), cown go_23 (rU UInt8) b_22 0 gc_24, cvar gb_6 Zae f_1], []⟩ <| jr <| jmv rfl rfl <| jc (Zaa (off := 3) lb ZcK tR) <| jc (Zai (j := 2) lb tS23 tR rfl (cT (ZaH f_1) rfl) rfl rfl) <| bI hq1 fun x_25 hv_x_25 hq1 => jx (Zak (js := [0, 0]) ld cl75 (Zdj k f_1.Items b_22 gb_2 go_23 gc_24 x_25 hv_x_25) .func (.cons tR (.cons tR .nil)) rfl) (fun q => ?_)
   obtain ⟨go_26, gc_27⟩ := q
   refine jn <| jr <| jmv rfl rfl <| jc (Zaw (j := 2) lb tA39 tR rfl (Comp.self Zae f_1) rfl) <| bI hq1 fun x_28 hv_x_28 hq1 => jx (Zak (js := [0, 0]) ld Znm (ZdX k f_1 x_25 gb_2 go_26 gc_27 x_28 hv_x_28) .func (.cons tR (.cons tR .nil)) rfl) (fun q => ?_)
   obtain ⟨go_29, gc_30⟩ := q
   refine jn <| JC.region <| jmv rfl rfl <| JL.sub ⟨[(3, ov (PTR gb_6 0)), (45, ov (PTR gb_2 0))], [cvar gb_2 (zq23 go_29 x_28 gc_30) ((), ()), cown go_29 (rU UInt8) x_28 0 gc_30, cvar gb_6 Zae f_1], []⟩ (.cons rfl (.cons rfl .nil)) rfl rfl <| jc (Zaa (off := 93) lb Zgn tR) <| jc (Zai (j := 2) lb tS4 tR rfl (cT (ZbR f_1) rfl) rfl rfl) <| bI hq1 fun x_31 hv_x_31 hq1 => jx (Zak (js := [0, 0]) ld Zng (Zd2 k f_1.Reply x_28 gb_2 go_29 gc_30 x_31 hv_x_31) .func (.cons tR (.cons tR .nil)) rfl) (fun q => ?_)
   obtain ⟨go_32, gc_33⟩ := q
   refine JL.nil ?_
   obtain rfl := so hq1
   exact JQ.done (js := [0, 0]) (ss := []) (go_32, gc_33) (.inr rfl) (.nil rfl) rfl .nil rfl rfl rfl
 refine jr <| jc (Zaa (off := 92) lb ZcE tR) <| jc (Zai (j := 0) lb tS37 tR rfl (cT (ZaJ f_1) rfl) rfl rfl) <| jc (ZaE lb tu37 tR) <| jc (Zax lb .cI) <| jn <| JC.block <| JC.pre ?_ (JC.loop (γ := Option Nat × Nat) (stf := fun s q => ⟨[(0, ov (PTR gb_2 0)), (3, ov (PTR gb_6 0)), (20, ov (S (rL (rI .i64)) f_1.Buckets)), (21, ov (S (rI .i64) (List.length f_1.Buckets : Int))), (22, ov (S (rI .i64) s.2))], [cvar gb_2 (rP (rW (HDR q.1 0 (List.length s.1) q.2)) r0) ((), ()), cown q.1 (rU UInt8) s.1 0 q.2, cvar gb_6 Zae f_1], []⟩) (q := (go_9, gc_10)) hx1 ?_)
 · exact (Imp.norm (js := [2, 1, 0]) rfl (.cons rfl (.cons rfl (.cons rfl (.cons rfl (.cons rfl .nil))))))
 intro s q x hx hr
 obtain ⟨b_11, x_12⟩ := s
 obtain ⟨go_13, gc_14⟩ := q
 change frame_writer_buckets.b1 k f_1 b_11 x_12 = some x at hx
 unfold frame_writer_buckets.b1 at hx
 refine JC.at ⟨[(0, ov (PTR gb_2 0)), (3, ov (PTR gb_6 0)), (20, ov (S (rL (rI .i64)) f_1.Buckets)), (21, ov (S (rI .i64) (List.length f_1.Buckets : Int))), (22, ov (S (rI .i64) x_12))], [cvar gb_2 (zq23 go_13 b_11 gc_14) ((), ()), cown go_13 (rU UInt8) b_11 0 gc_14, cvar gb_6 Zae f_1], []⟩ <| jr <| lI hx fun v15 hv_15 hx => jc (Zaq lb tR tR (cs hv_15)) <| jn <| JC.seq <| jif tR hx (fun hc3 hx => ?_) (fun hc3 hx => ?_)
 · refine JC.skip <| JQ.then <| JC.seq <| JC.block <| jr <| bI hx fun v16 hv_16 hx => jc (Zau lb tu37 tz3 tR tR hv_16) <| jc (Zbe lb tS3 rfl tR rfl) <| jc (Zab lb tR) <| jn <| JC.region <| jmv rfl rfl <| jmv rfl rfl <| jc (Zas lb tR (fun e v h => by subst h; rfl)) <| jc (Zaa (off := 0) lb ZcB tR) <| jc (ZaM (j := 0) lb tS27 tR rfl (Comp.trans (Comp.self (zq23 go_13 b_11 gc_14) ((), ())) (Comp.at' (Comp.inF (Comp.self (rW (HDR go_13 0 (List.length b_11) gc_14)) ()) (lE rfl)) (by rfl : _ = 0)) (lE rfl))) <| jmv rfl rfl <| lI hx fun v17 hv_17 hx => jc (ZcN lb tu3 tu5 tR hv_17) <| jc (Zca (r := (rU UInt8)) lb tu27 tz5 tZ5 rfl (lE rfl) (.S rfl tR .nil) rfl) <| JL.sub ⟨[(0, ov (PTR gb_2 0)), (3, ov (PTR gb_6 0)), (20, ov (S (rL (rI .i64)) f_1.Buckets)), (21, ov (S (rI .i64) (List.length f_1.Buckets : Int))), (22, ov (S (rI .i64) x_12)), (26, ov (PTR gb_2 0)), (30, ov (HDR go_13 0 (List.length b_11) gc_14)), (33, ov (S (rL (rU UInt8)) ([v17] : (List UInt8))))], [cvar gb_2 (zq23 go_13 b_11 gc_14) ((), ()), cown go_13 (rU UInt8) b_11 0 gc_14, cvar gb_6 Zae f_1], []⟩ (.cons rfl (.cons rfl (.cons rfl (.cons rfl (.cons rfl (.cons rfl (.cons rfl (.cons rfl .nil)))))))) rfl rfl ?_
   refine bI hx fun x_18 hv_x_18 hx => jx (Zbp (j := 1) lb tu27 tu27 rfl tB5 rfl (Nat.lt_of_lt_of_le Nat.zero_lt_one (lE rfl)) (Nat.lt_of_lt_of_le Nat.zero_lt_one (lE rfl))  rfl tR tR hv_x_18) (fun q => ?_)
   obtain ⟨go_19, gc_20⟩ := q
   refine jc (Zas lb tR (fun e v h => by subst h; rfl)) <| jc (Zaa (off := 0) lb ZcB tR) <| jc (ZbD (j := 0) tS27 tR tR rfl ((UpdR.fst (UpdR.self (by rfl))).at (by change 0 = (0 + 0); omega)) rfl) <| JL.nil <| JQ.outNB <| JQ.then <| JC.region <| lI hx fun v21 hv_21 hx => jc (ZaY lb tR .cI (cs hv_21)) <| jmv rfl rfl <| JL.nil ?_
   try obtain rfl := so hx
   exact JQ.next (go_19, gc_20) rfl (Imp.norm (js := [0, 0, 0]) rfl (.cons rfl (.cons rfl (.cons rfl (.cons rfl (.cons rfl .nil))))))
 refine JC.exit <| JQ.outX ?_
 try obtain rfl := so hx
 have ht := hr _ rfl
 have hq2 := cs ht
 clear hr ht
 refine JQ.outX <| JQ.here ?_
 try obtain rfl := so hq2
 exact JQ.join (go_13, gc_14) (Imp.norm (js := [0, 0, 0]) rfl (.cons rfl (.cons rfl .nil)))

end Go.Proofs.YtklnihlchhhhlaaGreat
