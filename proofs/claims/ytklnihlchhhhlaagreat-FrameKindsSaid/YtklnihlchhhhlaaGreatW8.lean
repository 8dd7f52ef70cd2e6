/- Walks. -/
import Derived.Test.YtklnihlchhhhlaaGreatT
import Derived.Test.YtklnihlchhhhlaaGreatW6
import Derived.Test.YtklnihlchhhhlaaGreatW7
namespace Go.Proofs.YtklnihlchhhhlaaGreat
open Go Fw
set_option linter.unusedVariables false
set_option maxRecDepth 100000
set_option maxHeartbeats 4000000

theorem Zfq (k : Nat) (Kind_1 : Int) (From_2 : Int) (To_3 : Int) (ID_4 : Zaf) (Topic_5 : (List UInt8)) (Past_6 : (Vector UInt64 16)) (Past_7 : (Vector UInt64 16)) (Seen_8 : (Vector UInt64 16)) (Hash_9 : (Vector UInt8 32)) (Reply_10 : Bool) (x_12 : Zag) (gb_11 : Nat) (gb_13 : Nat) (r : Zag × (List (Vector UInt8 32))) (hm : Zdd k Kind_1 From_2 To_3 ID_4 Topic_5 Past_6 Past_7 Seen_8 Hash_9 Reply_10 x_12 = some r) : Sim Tryz.prog 103 [PTR gb_11 0] [zq34 gb_11 gb_13 Kind_1 From_2 To_3 ID_4 Topic_5 Past_6 Past_7 Seen_8 Hash_9 Reply_10, cvar gb_13 Zac x_12] (γ := Option Nat × Nat) (fun q => [cvar gb_11 (rP (rW (PTR gb_13 0)) (rP (rP (rI .i64) (rP (rI .i64) (rP (rI .i64) (rP (rW (HDR none 0 0 0)) (rP (rP Zad (rP rS (rP (rW (HDR none 0 0 0)) (rP (rV 16 (rU UInt64)) (rP (rW (HDR none 0 0 0)) r0))))) (rP (rV 16 (rU UInt64)) (rP (rV 16 (rU UInt64)) (rP (rW (HDR none 0 0 0)) (rP (rW (HDR none 0 0 0)) (rP (rV 32 (rU UInt8)) (rP (rW (HDR q.1 0 (List.length r.2) q.2)) (rP (rW (HDR none 0 0 0)) (rP rB r0))))))))))))) r0)) (zq33 Kind_1 From_2 To_3 ID_4 Topic_5 Past_6 Past_7 Seen_8 Hash_9 Reply_10), cvar gb_13 Zac r.1, cown q.1 (rV 32 (rU UInt8)) r.2 0 q.2]) (fun q => .tup []) := by
 unfold Zdd at hm
 refine Sim.of Tryz.func103 rfl rfl (lE rfl) (fun e0 w0 => ?_)
 refine JC.at ⟨[(0, ov (PTR gb_11 0))], [zq34 gb_11 gb_13 Kind_1 From_2 To_3 ID_4 Topic_5 Past_6 Past_7 Seen_8 Hash_9 Reply_10, cvar gb_13 Zac x_12], []⟩ <| JC.region <| jmv rfl rfl <| jmv rfl rfl <| jc (Zas lb tR (fun e v h => by subst h; rfl)) <| jc (Zaa (off := 0) lb ZbO tR) <| jc (ZaM (j := 0) lb tS87 tR rfl (Comp.trans (Comp.self (zq29 gb_13) (zq33 Kind_1 From_2 To_3 ID_4 Topic_5 Past_6 Past_7 Seen_8 Hash_9 Reply_10)) (Comp.at' (Comp.inF (Comp.self (rW (PTR gb_13 0)) ()) (lE rfl)) (by rfl : _ = 0)) (lE rfl))) <| jmv rfl rfl <| jc (Zeg lb (.cons tR .nil)) ?_
 obtain ⟨⟨v14, x_15⟩, hv_14, hm⟩ := Zay hm
 refine jx (Zak (js := [1, 0]) ld Zom (ZfA k (64 : Int) x_12 Kind_1 From_2 To_3 ID_4 Topic_5 Past_6 Past_7 Seen_8 Hash_9 Reply_10 gb_13 gb_11 (v14, x_15) hv_14) .func (.cons tR (.cons .cI (.cons tR .nil))) rfl) (fun q => ?_)
 obtain ⟨go_16, gc_17⟩ := q
 refine jc (Zas lb tR (fun e v h => by subst h; rfl)) <| jc (Zaa (off := 1) lb ZdF tR) <| JL.sub ⟨[(9, ov (HDR go_16 0 (List.length v14) gc_17)), (11, ov (PTR gb_11 (0 + 1)))], [cown go_16 (rV 32 (rU UInt8)) v14 0 gc_17, cvar gb_13 Zac x_15, zq34 gb_11 gb_13 Kind_1 From_2 To_3 ID_4 Topic_5 Past_6 Past_7 Seen_8 Hash_9 Reply_10], []⟩ (.cons rfl (.cons rfl .nil)) rfl rfl <| jc (Zaa (off := 91) lb ZeT tR) <| jc (ZbD (j := 2) tS36 tR tR rfl ((UpdR.snd (UpdR.fst (UpdR.snd (UpdR.snd (UpdR.snd (UpdR.snd (UpdR.snd (UpdR.snd (UpdR.snd (UpdR.snd (UpdR.snd (UpdR.snd (UpdR.fst (UpdR.self (by rfl))))))))))))))).at (by change (1 + (1 + (1 + (1 + (1 + (21 + (16 + (16 + (1 + (1 + (32 + 0))))))))))) = ((0 + 1) + 91); omega)) rfl) <| JL.nil ?_
 obtain rfl := so hm
 exact JQ.done (js := [2, 1, 0]) (ss := []) (go_16, gc_17) (.inr rfl) (.nil rfl) rfl .nil rfl rfl rfl

theorem ZeC (k : Nat) (Kind_2 : Int) (From_3 : Int) (To_4 : Int) (ID_5 : Zaf) (Topic_6 : (List UInt8)) (Past_7 : (Vector UInt64 16)) (Past_8 : (Vector UInt64 16)) (Seen_9 : (Vector UInt64 16)) (Hash_10 : (Vector UInt8 32)) (Reply_11 : Bool) (x_13 : Zag) (gb_1 : Nat) (gb_12 : Nat) (gb_14 : Nat) (r : Int × Zag) (hm : ZcD k Kind_2 From_3 To_4 ID_5 Topic_6 Past_7 Past_8 Seen_9 Hash_10 Reply_11 x_13 = some r) : Sim Tryz.prog 139 [PTR gb_1 0] [cvar gb_1 (rW (PTR gb_12 0)) (), zq34 gb_12 gb_14 Kind_2 From_3 To_4 ID_5 Topic_6 Past_7 Past_8 Seen_9 Hash_10 Reply_11, cvar gb_14 Zac x_13] (γ := Unit) (fun q => [cvar gb_1 (rW (PTR gb_12 0)) (), zq34 gb_12 gb_14 Kind_2 From_3 To_4 ID_5 Topic_6 Past_7 Past_8 Seen_9 Hash_10 Reply_11, cvar gb_14 Zac r.2]) (fun q => .one (.val (S (rI .i64) r.1))) := by
 unfold ZcD at hm
 refine Sim.of Tryz.func139 rfl rfl (lE rfl) (fun e0 w0 => ?_)
 refine JC.at ⟨[(0, ov (PTR gb_1 0))], [cvar gb_1 (rW (PTR gb_12 0)) (), zq34 gb_12 gb_14 Kind_2 From_3 To_4 ID_5 Topic_6 Past_7 Past_8 Seen_9 Hash_10 Reply_11, cvar gb_14 Zac x_13], []⟩ <| jr <| jc (Zab lb .cI) <| jn <| jr <| jc (ZaM (j := 0) lb tS86 tR rfl (Comp.self (rW (PTR gb_12 0)) ())) <| jc (Zas lb tR (fun e v h => by subst h; rfl)) <| jc (Zaa (off := 0) lb ZbO tR) <| jc (ZaM (j := 1) lb tS87 tR rfl (Comp.trans (Comp.self (zq29 gb_14) (zq33 Kind_2 From_3 To_4 ID_5 Topic_6 Past_7 Past_8 Seen_9 Hash_10 Reply_11)) (Comp.at' (Comp.inF (Comp.self (rW (PTR gb_14 0)) ()) (lE rfl)) (by rfl : _ = 0)) (lE rfl))) ?_
 obtain ⟨⟨v15, x_16⟩, hv_15, hm⟩ := Zay hm
 refine jx (Zak (js := [2]) ld cl53 (ZaD k (1 : Int) x_13 gb_14 (v15, x_16) hv_15) .func (.cons tR (.cons .cI .nil)) rfl) fun _ => lI hm fun v17 hv_17 hm => jc (Zcf lb tu24 tu3 tR hv_17) <| jc (Zab lb tR) <| jn <| JC.ret ?_
 obtain rfl := so hm
 exact JQ.done (js := [1, 1, 0]) (ss := [.val (S (rI .i64) v17)]) () (.inl rfl) (.nil rfl) rfl (.cons (.tmp rfl) .nil) rfl rfl rfl

theorem Zg8 (k : Nat) (n_1 : Int) (r_2 : Zag) (Kind_5 : Int) (From_6 : Int) (To_7 : Int) (ID_8 : Zaf) (Topic_9 : (List UInt8)) (Past_10 : (Vector UInt64 16)) (Past_11 : (Vector UInt64 16)) (Seen_12 : (Vector UInt64 16)) (Hash_13 : (Vector UInt8 32)) (Reply_14 : Bool) (gb_3 : Nat) (gb_4 : Nat) (gb_15 : Nat) (r : (List Int) × Zag) (hm : frame_listint k n_1 r_2 Kind_5 From_6 To_7 ID_8 Topic_9 Past_10 Past_11 Seen_12 Hash_13 Reply_14 = some r) : Sim Tryz.prog 138 [PTR gb_3 0, S (rI .i64) n_1, CLO 139 [PTR gb_4 0]] [cvar gb_3 Zac r_2, cvar gb_4 (rW (PTR gb_15 0)) (), zq34 gb_15 gb_3 Kind_5 From_6 To_7 ID_8 Topic_9 Past_10 Past_11 Seen_12 Hash_13 Reply_14] (γ := Option Nat × Nat) (fun q => [cown q.1 (rI .i64) r.1 0 q.2, cvar gb_3 Zac r.2, cvar gb_4 (rW (PTR gb_15 0)) (), zq34 gb_15 gb_3 Kind_5 From_6 To_7 ID_8 Topic_9 Past_10 Past_11 Seen_12 Hash_13 Reply_14]) (fun q => .one (.val (HDR q.1 0 (List.length r.1) q.2))) := by
 unfold frame_listint at hm
 refine Sim.of Tryz.func138 rfl rfl (lE rfl) (fun e0 w0 => ?_)
 refine JC.at ⟨[(0, ov (PTR gb_3 0)), (1, ov (S (rI .i64) n_1)), (2, ov (CLO 139 [PTR gb_4 0]))], [cvar gb_3 Zac r_2, cvar gb_4 (rW (PTR gb_15 0)) (), zq34 gb_15 gb_3 Kind_5 From_6 To_7 ID_8 Topic_9 Past_10 Past_11 Seen_12 Hash_13 Reply_14], []⟩ <| jr <| jc (Zab lb HasO.nilH) <| jn <| jr <| jc (Zab lb HasO.nilH) <| jn <| bI hm fun tv1 hx1 hq1 => JC.seqK (α := (List Int) × Zag) (γ := Option Nat × Nat) (stj := fun v q => ⟨[(7, ov (HDR q.1 0 (List.length v.1) q.2))], [cown q.1 (rI .i64) v.1 0 q.2, cvar gb_3 Zac v.2, cvar gb_4 (rW (PTR gb_15 0)) (), zq34 gb_15 gb_3 Kind_5 From_6 To_7 ID_8 Topic_9 Past_10 Past_11 Seen_12 Hash_13 Reply_14], []⟩) (p := fun v => tv1 = (.inl v)) (fun v q hv => ?_) ?_
 · subst hv
   obtain ⟨l_33, x_34⟩ := v
   obtain ⟨go_35, gc_36⟩ := q
   dsimp only at hq1
   refine JC.at ⟨[(7, ov (HDR go_35 0 (List.length l_33) gc_36))], [cown go_35 (rI .i64) l_33 0 gc_36, cvar gb_3 Zac x_34, cvar gb_4 (rW (PTR gb_15 0)) (), zq34 gb_15 gb_3 Kind_5 From_6 To_7 ID_8 Topic_9 Past_10 Past_11 Seen_12 Hash_13 Reply_14], []⟩ <| jr <| jmv rfl rfl <| jc (Zab lb tR) <| jn <| JC.ret ?_
   obtain rfl := so hq1
   exact JQ.done (js := [0, 0, 0, 0]) (ss := [.val (HDR go_35 0 (List.length l_33) gc_36)]) (go_35, gc_36) (.inl rfl) (.nil rfl) rfl (.cons (.tmp rfl) .nil) rfl rfl rfl
 refine jr <| jmv rfl rfl <| jc (Zax lb .cI) <| jn <| JC.block <| bI hx1 fun tv2 hL2 hq2 => JC.pre (Imp.nilown (rI .i64)) <| JC.pre ?_ (JC.loop (γ := Option Nat × Nat) (stf := fun s q => ⟨[(0, ov (PTR gb_3 0)), (2, ov (CLO 139 [PTR gb_4 0])), (7, ov (HDR q.1 0 (List.length s.2.1) q.2)), (8, ov (S (rI .i64) n_1)), (9, ov (S (rI .i64) s.2.2))], [cvar gb_3 Zac s.1, cvar gb_4 (rW (PTR gb_15 0)) (), zq34 gb_15 gb_3 Kind_5 From_6 To_7 ID_8 Topic_9 Past_10 Past_11 Seen_12 Hash_13 Reply_14, cown q.1 (rI .i64) s.2.1 0 q.2], []⟩) (q := (none, 0)) hL2 ?_)
 · exact (Imp.norm (js := [0, 0, 0, 0]) rfl (.cons rfl (.cons rfl (.cons rfl (.cons rfl (.cons rfl .nil))))))
 intro s q x hx hr
 obtain ⟨r_16, l_17, x_18⟩ := s
 obtain ⟨go_19, gc_20⟩ := q
 change frame_listint.b1 k n_1 Kind_5 From_6 To_7 ID_8 Topic_9 Past_10 Past_11 Seen_12 Hash_13 Reply_14 r_16 l_17 x_18 = some x at hx
 unfold frame_listint.b1 at hx
 refine JC.at ⟨[(0, ov (PTR gb_3 0)), (2, ov (CLO 139 [PTR gb_4 0])), (7, ov (HDR go_19 0 (List.length l_17) gc_20)), (8, ov (S (rI .i64) n_1)), (9, ov (S (rI .i64) x_18))], [cvar gb_3 Zac r_16, cvar gb_4 (rW (PTR gb_15 0)) (), zq34 gb_15 gb_3 Kind_5 From_6 To_7 ID_8 Topic_9 Past_10 Past_11 Seen_12 Hash_13 Reply_14, cown go_19 (rI .i64) l_17 0 gc_20], []⟩ <| jr <| lI hx fun v21 hv_21 hx => jc (Zaq lb tR tR (cs hv_21)) <| jn <| JC.seq <| jif tR hx (fun hc3 hx => ?_) (fun hc3 hx => ?_)
 · refine JC.skip <| JQ.then <| JC.seq <| JC.block <| JC.seq <| jr <| jmv rfl rfl <| bI hx fun v22 hv_22 hx => jx (Zak (js := [0]) ld ZiU (Za2 k r_16 gb_3 v22 hv_22) .func (.cons tR .nil) rfl) fun _ => jn <| jif tR hx (fun hc4 hx => ?_) (fun hc4 hx => ?_)
   · refine jr <| jc (Zab lb HasO.nilH) <| jn <| JC.ret <| JQ.outR <| JQ.outRB <| JQ.outR ?_
     try obtain rfl := so hx
     try obtain rfl := hr _ rfl
     dsimp only at hq2
     refine JQ.outR <| JQ.outRB ?_
     try obtain rfl := so hq2
     dsimp only at hq1
     refine JQ.outR ?_
     obtain rfl := so hq1
     exact JQ.pre (Imp.nilown (rI .i64)) <| JQ.done (js := [4, 0, 0, 0]) (ss := [.val (HDR none 0 (List.length ([] : (List Int))) (0))]) (none, 0) (.inl rfl) (.nil rfl) rfl (.cons (.tmp rfl) .nil) rfl rfl rfl
   refine JC.skip <| JQ.then <| JC.region <| jmv rfl rfl <| jmv rfl rfl ?_
   obtain ⟨⟨v23, x_24⟩, hv_23, hx⟩ := Zay hx
   refine jx (Zak (js := [1, 1, 0]) ld Zn8 (ZeC k Kind_5 From_6 To_7 ID_8 Topic_9 Past_10 Past_11 Seen_12 Hash_13 Reply_14 r_16 gb_4 gb_15 gb_3 (v23, x_24) hv_23) tR .nil rfl) fun _ => jc (Zca (r := (rI .i64)) lb tu37 tz3 tZ3 rfl (lE rfl) (.S rfl tR .nil) rfl) <| bI hx fun l_25 hv_l_25 hx => jx (Zbp (j := 3) lb tu37 tu37 rfl tB3 rfl (Nat.lt_of_lt_of_le Nat.zero_lt_one (lE rfl)) (Nat.lt_of_lt_of_le Nat.zero_lt_one (lE rfl))  rfl tR tR hv_l_25) (fun q => ?_)
   obtain ⟨go_26, gc_27⟩ := q
   refine JL.sub ⟨[(0, ov (PTR gb_3 0)), (2, ov (CLO 139 [PTR gb_4 0])), (8, ov (S (rI .i64) n_1)), (9, ov (S (rI .i64) x_18)), (17, ov (HDR go_26 0 (List.length l_25) gc_27))], [cvar gb_4 (rW (PTR gb_15 0)) (), zq34 gb_15 gb_3 Kind_5 From_6 To_7 ID_8 Topic_9 Past_10 Past_11 Seen_12 Hash_13 Reply_14, cvar gb_3 Zac x_24, cown go_26 (rI .i64) l_25 0 gc_27], []⟩ (.cons rfl (.cons rfl (.cons rfl (.cons rfl (.cons rfl .nil))))) rfl rfl <| jc (Zab lb tR) <| JL.nil <| JQ.outNB <| JQ.then <| JC.region <| lI hx fun v28 hv_28 hx => jc (ZaY lb tR .cI (cs hv_28)) <| jmv rfl rfl <| JL.nil ?_
   try obtain rfl := so hx
   exact JQ.next (go_26, gc_27) rfl (Imp.norm (js := [2, 0, 0, 0]) rfl (.cons rfl (.cons rfl (.cons rfl (.cons rfl (.cons rfl .nil))))))
 refine JC.exit <| JQ.outX ?_
 try obtain rfl := so hx
 try obtain rfl := hr _ rfl
 dsimp only at hq2
 refine JQ.outX <| JQ.here ?_
 try obtain rfl := so hq2
 exact JQ.joinK (l_17, r_16) (go_19, gc_20) rfl (Imp.norm (js := [3, 0, 0, 0]) rfl (.cons rfl .nil))

theorem Ze7 (k : Nat) (Kind_1 : Int) (From_2 : Int) (To_3 : Int) (ID_4 : Zaf) (Topic_5 : (List UInt8)) (Past_6 : (Vector UInt64 16)) (Past_7 : (Vector UInt64 16)) (Seen_8 : (Vector UInt64 16)) (Hash_9 : (Vector UInt8 32)) (Reply_10 : Bool) (x_12 : Zag) (x_14 : (List Int)) (gb_11 : Nat) (gb_13 : Nat) (go_15 : Option Nat) (gc_16 : Nat) (r : Int × Zag) (hm : Zc5 k Kind_1 From_2 To_3 ID_4 Topic_5 Past_6 Past_7 Seen_8 Hash_9 Reply_10 x_12 x_14 = some r) : Sim Tryz.prog 123 [PTR gb_11 0] [zq58 gb_11 gb_13 go_15 x_14 gc_16 Kind_1 From_2 To_3 ID_4 Topic_5 Past_6 Past_7 Seen_8 Hash_9 Reply_10, cvar gb_13 Zac x_12, cown go_15 (rI .i64) x_14 0 gc_16] (γ := Unit) (fun q => [zq58 gb_11 gb_13 go_15 x_14 gc_16 Kind_1 From_2 To_3 ID_4 Topic_5 Past_6 Past_7 Seen_8 Hash_9 Reply_10, cvar gb_13 Zac r.2, cown go_15 (rI .i64) x_14 0 gc_16]) (fun q => .one (.val (S (rI .i64) r.1))) := by
 unfold Zc5 at hm
 refine Sim.of Tryz.func123 rfl rfl (lE rfl) (fun e0 w0 => ?_)
 refine JC.at ⟨[(0, ov (PTR gb_11 0))], [zq58 gb_11 gb_13 go_15 x_14 gc_16 Kind_1 From_2 To_3 ID_4 Topic_5 Past_6 Past_7 Seen_8 Hash_9 Reply_10, cvar gb_13 Zac x_12, cown go_15 (rI .i64) x_14 0 gc_16], []⟩ <| jr <| jc (Zab lb .cI) <| jn <| jr <| jmv rfl rfl <| jc (Zas lb tR (fun e v h => by subst h; rfl)) <| jc (Zaa (off := 0) lb ZbO tR) <| jc (ZaM (j := 0) lb tS87 tR rfl (Comp.trans (Comp.self (zq57 gb_13 go_15 x_14 gc_16) (zq33 Kind_1 From_2 To_3 ID_4 Topic_5 Past_6 Past_7 Seen_8 Hash_9 Reply_10)) (Comp.at' (Comp.inF (Comp.self (rW (PTR gb_13 0)) ()) (lE rfl)) (by rfl : _ = 0)) (lE rfl))) ?_
 obtain ⟨⟨v17, x_18⟩, hv_17, hm⟩ := Zay hm
 refine jx (Zak (js := [1]) ld cl53 (ZaD k (2 : Int) x_12 gb_13 (v17, x_18) hv_17) .func (.cons tR (.cons .cI .nil)) rfl) fun _ => lI hm fun v19 hv_19 hm => jc (Zcf lb tu24 tu3 tR hv_19) <| jc (Zab lb tR) <| jn <| JC.ret ?_
 obtain rfl := so hm
 refine JQ.pre (Imp.var (j := 1) (q := (zq57 gb_13 go_15 x_14 gc_16)) (y := (zq33 Kind_1 From_2 To_3 ID_4 Topic_5 Past_6 Past_7 Seen_8 Hash_9 Reply_10)) rfl Wk.refl) ?_
 exact JQ.done (js := [1, 0, 0]) (ss := [.val (S (rI .i64) v19)]) () (.inl rfl) (.nil rfl) rfl (.cons (.tmp rfl) .nil) rfl rfl rfl

theorem Zft (k : Nat) (Kind_1 : Int) (From_2 : Int) (To_3 : Int) (ID_4 : Zaf) (Topic_5 : (List UInt8)) (Past_6 : (Vector UInt64 16)) (Past_7 : (Vector UInt64 16)) (Seen_8 : (Vector UInt64 16)) (Hash_9 : (Vector UInt8 32)) (Reply_10 : Bool) (x_12 : Zag) (x_14 : (List Int)) (gb_11 : Nat) (gb_13 : Nat) (go_15 : Option Nat) (gc_16 : Nat) (r : Zap × Zag) (hm : Zdg k Kind_1 From_2 To_3 ID_4 Topic_5 Past_6 Past_7 Seen_8 Hash_9 Reply_10 x_12 x_14 = some r) : Sim Tryz.prog 125 [PTR gb_11 0] [zq58 gb_11 gb_13 go_15 x_14 gc_16 Kind_1 From_2 To_3 ID_4 Topic_5 Past_6 Past_7 Seen_8 Hash_9 Reply_10, cvar gb_13 Zac x_12, cown go_15 (rI .i64) x_14 0 gc_16] (γ := Unit) (fun q => [zq58 gb_11 gb_13 go_15 x_14 gc_16 Kind_1 From_2 To_3 ID_4 Topic_5 Past_6 Past_7 Seen_8 Hash_9 Reply_10, cvar gb_13 Zac r.2, cown go_15 (rI .i64) x_14 0 gc_16]) (fun q => .one (.val (A Zaj r.1))) := by
 unfold Zdg at hm
 refine Sim.of Tryz.func125 rfl rfl (lE rfl) (fun e0 w0 => ?_)
 refine JC.at ⟨[(0, ov (PTR gb_11 0))], [zq58 gb_11 gb_13 go_15 x_14 gc_16 Kind_1 From_2 To_3 ID_4 Topic_5 Past_6 Past_7 Seen_8 Hash_9 Reply_10, cvar gb_13 Zac x_12, cown go_15 (rI .i64) x_14 0 gc_16], []⟩ <| jr <| jx (Zbh lb tZ62 zr62) fun gb_17 => jn <| JC.seq ?_
 obtain ⟨⟨v18, x_19⟩, hv_18, hm⟩ := Zay hm
 obtain ⟨⟨v20, x_21⟩, hv_20, hm⟩ := Zay hm
 obtain ⟨v22, hv_22, hm⟩ := ZaQ hm
 refine JC.anyF (base := [(0, ov (PTR gb_11 0)), (2, ov (PTR gb_17 0))])
     (fs := fun γ => [⟨some 4, ov (PTR gb_11 0)⟩, ⟨some 5, ov (PTR gb_11 0)⟩, ⟨some 6, ov (PTR gb_11 (0 + 0))⟩, ⟨some 7, ov (PTR gb_13 0)⟩, ⟨some 8, ov (A Zad v18)⟩, ⟨some 9, ov (PTR gb_11 0)⟩, ⟨some 10, ov (PTR gb_11 0)⟩, ⟨some 11, ov (PTR gb_11 (0 + 0))⟩, ⟨some 12, ov (PTR gb_13 0)⟩, ⟨some 13, ov (S (rU UInt64) v20)⟩, ⟨some 14, ov (S rB v22)⟩, ⟨some 15, ov (A zq37 (zq39 v18 v22))⟩, ⟨some 3, ov (PTR (γ 12 0) 0)⟩, ⟨none, .one .any⟩])
     (rs := fun γ => [⟨zq58 gb_11 gb_13 go_15 x_14 gc_16 Kind_1 From_2 To_3 ID_4 Topic_5 Past_6 Past_7 Seen_8 Hash_9 Reply_10, none, none, [3, 8]⟩, ⟨cvar gb_13 Zac x_12, none, (some 4), []⟩, ⟨cown go_15 (rI .i64) x_14 0 gc_16, none, none, []⟩, ⟨zq35 gb_17, none, none, []⟩, ⟨cvar gb_13 Zac x_19, (some 4), (some 9), []⟩, ⟨cvar gb_13 Zac x_21, (some 9), none, []⟩, ⟨zq35 (γ 12 0), (some 12), (some 13), []⟩, ⟨cvar (γ 12 0) zq37 (zq39 v18 v22), (some 13), none, []⟩])
     (afts := [[], [], [], [], [], [], [], [], [], [], [], [], [12, 13], []]) (js := [0, 0, 0, 0]) ZbT (.cons rfl (.cons rfl .nil)) (fun _ => rfl)
     (by
      refine db 1 0 <| dS 2 (fun γ ρ B hb hd => Zas lb (tl hd 0 4) (fun e v h => by subst h; rfl)) <| dS 3 (fun γ ρ B hb hd => Zaa (off := 0) lb ZbO (tl hd 1 5)) <| dR 4 (fun γ ρ B hb hd => Zan.lk ⟨ρ, (zq58 gb_11 gb_13 go_15 x_14 gc_16 Kind_1 From_2 To_3 ID_4 Topic_5 Past_6 Past_7 Seen_8 Hash_9 Reply_10) :: B, _⟩ (ZaM (j := 0) lb tS87 (tl hd 2 6) rfl (Comp.trans (Comp.self (zq57 gb_13 go_15 x_14 gc_16) (zq33 Kind_1 From_2 To_3 ID_4 Topic_5 Past_6 Past_7 Seen_8 Hash_9 Reply_10)) (Comp.at' (Comp.inF (Comp.self (rW (PTR gb_13 0)) ()) (lE rfl)) (by rfl : _ = 0)) (lE rfl)))) <| dR 5 (fun γ ρ B hb hd => Zan.at ⟨ρ, (cvar gb_13 Zac x_12) :: B, _⟩ (setO ⟨ρ, (cvar gb_13 Zac x_19) :: B, _⟩ _ _) ((Zak (js := [0]) ld ZkN (Zcu k x_12 gb_13 (v18, x_19) hv_18) .func (.cons (tl hd 3 7) .nil) rfl).post (fun _ => Imp.refl))) ?_
      refine db 6 0 <| dS 7 (fun γ ρ B hb hd => Zas lb (tl hd 5 9) (fun e v h => by subst h; rfl)) <| dS 8 (fun γ ρ B hb hd => Zaa (off := 0) lb ZbO (tl hd 6 10)) <| dR 9 (fun γ ρ B hb hd => Zan.lk ⟨ρ, (zq58 gb_11 gb_13 go_15 x_14 gc_16 Kind_1 From_2 To_3 ID_4 Topic_5 Past_6 Past_7 Seen_8 Hash_9 Reply_10) :: B, _⟩ (ZaM (j := 0) lb tS87 (tl hd 7 11) rfl (Comp.trans (Comp.self (zq57 gb_13 go_15 x_14 gc_16) (zq33 Kind_1 From_2 To_3 ID_4 Topic_5 Past_6 Past_7 Seen_8 Hash_9 Reply_10)) (Comp.at' (Comp.inF (Comp.self (rW (PTR gb_13 0)) ()) (lE rfl)) (by rfl : _ = 0)) (lE rfl)))) <| dR 10 (fun γ ρ B hb hd => Zan.at ⟨ρ, (cvar gb_13 Zac x_19) :: B, _⟩ (setO ⟨ρ, (cvar gb_13 Zac x_21) :: B, _⟩ _ _) ((Zak (js := [0]) ld cl53 (ZaD k (1 : Int) x_19 gb_13 (v20, x_21) hv_20) .func (.cons (tl hd 8 12) (.cons .cI .nil)) rfl).post (fun _ => Imp.refl))) ?_
      refine dS 11 (fun γ ρ B hb hd => ZbH lb (tl hd 9 13) (HasO.cU (x := (0 : UInt64)) rfl (by decide)) (cs hv_22)) <| dS 12 (fun γ ρ B hb hd => Za9 lb tZ62 zs62 tp62 (.A (off := 0) rfl (tl hd 4 8) ((UpdR.fst (UpdR.self (by rfl))).at (by rfl)) (.S (off := 4) rfl (tl hd 10 14) rfl ((UpdR.snd (UpdR.snd (UpdR.fst (UpdR.self (by rfl))))).at (by rfl)) .nil)) rfl) ?_
      refine ZaG.cons (j := 13) rfl (fun _ => rfl) (.runX (fun _ _ => rfl) (fun γ ρ B hb hd => ⟨.none, OpX.ghost (γ := Nat) (st' := fun q => setO ⟨ρ, (zq35 q) :: B, _⟩ (some 3) (ov (PTR q 0))) (fun q c => q) (OpX.front (Zbh lb tZ62 zr62)) (fun q => Imp.refl)⟩) (fun _ _ => rfl) (fun _ _ => rfl)) ?_
      refine dR 14 (fun γ ρ B hb hd => Zan.at ⟨ρ, (zq35 (γ 12 0)) :: B, _⟩ (setO ⟨ρ, (cvar (γ 12 0) zq37 (zq39 v18 v22)) :: B, _⟩ _ _) (ZaP (j := 0) tA62 (tl hd 12 3) (tl hd 11 15) rfl (UpdR.self (by rfl)) rfl)) ?_
      exact ZaG.nil)
     (by decide +kernel) (fun _ => rfl) (fun _ => rfl) (fun _ => rfl) rfl
     (ρ' := fun γ => [(0, ov (PTR gb_11 0)), (2, ov (PTR gb_17 0)), (3, ov (PTR (γ 12 0) 0))])
     (X' := fun γ => [zq58 gb_11 gb_13 go_15 x_14 gc_16 Kind_1 From_2 To_3 ID_4 Topic_5 Past_6 Past_7 Seen_8 Hash_9 Reply_10, cown go_15 (rI .i64) x_14 0 gc_16, zq35 gb_17, cvar gb_13 Zac x_21, cvar (γ 12 0) zq37 (zq39 v18 v22)])
     (fun γ ρ hb hd => (.cons (hb 0 _ rfl) (.cons (hb 2 _ rfl) (.cons (hdq hd 12 3 rfl) .nil)))) (fun _ => rfl) (fun γ => ?_)
 generalize (γ 12 0) = gb_23
 clear γ
 refine JQ.at ⟨[(0, ov (PTR gb_11 0)), (2, ov (PTR gb_17 0)), (3, ov (PTR gb_23 0))], [zq58 gb_11 gb_13 go_15 x_14 gc_16 Kind_1 From_2 To_3 ID_4 Topic_5 Past_6 Past_7 Seen_8 Hash_9 Reply_10, cown go_15 (rI .i64) x_14 0 gc_16, zq35 gb_17, cvar gb_13 Zac x_21, cvar gb_23 zq37 (zq39 v18 v22)], []⟩ <| JQ.then ?_
 obtain ⟨⟨i_29, x_30⟩, hx1, hq1⟩ := Zay hm
 refine JC.seqJ (γ := Unit) (stj := fun _ => ⟨[(2, ov (PTR gb_17 0)), (3, ov (PTR gb_23 0))], [zq35 gb_17, cvar gb_23 Zaj i_29, zq58 gb_11 gb_13 go_15 x_14 gc_16 Kind_1 From_2 To_3 ID_4 Topic_5 Past_6 Past_7 Seen_8 Hash_9 Reply_10, cvar gb_13 Zac x_30, cown go_15 (rI .i64) x_14 0 gc_16], []⟩) (fun _ => ?_) ?_
 · refine jr <| jc (Zaw (j := 1) lb tA62 tR rfl (Comp.self Zaj i_29) rfl) <| jc (ZaP (j := 0) tA62 tR tR rfl (UpdR.self (by rfl)) rfl) <| jn <| JC.ret ?_
   obtain rfl := so hq1
   exact JQ.done (js := [2, 2, 2]) (ss := [.val (A Zaj i_29)]) () (.inl rfl) (.nil rfl) rfl (.cons (.cellA (j := 0) tA62 rfl rfl) .nil) rfl rfl rfl
 refine jr <| jc (Zaa (off := 4) lb ZiB tR) <| jc (Zai (j := 4) lb tS4 tR rfl (Comp.trans (Comp.self zq37 (zq39 v18 v22)) (Comp.at' (Comp.inS (Comp.inS (Comp.inF (Comp.self rB v22) (lE rfl)))) (by rfl : _ = 4)) (lE rfl)) rfl rfl) <| lI hx1 fun v24 hv_24 hx1 => jc (Zbc lb tR hv_24) <| jn <| jif tR hx1 (fun hc2 hx1 => ?_) (fun hc2 hx1 => ?_)
 · obtain ⟨⟨v25, x_26⟩, hv_25, hx1⟩ := Zay hx1
   obtain ⟨⟨v27, x_28⟩, hv_27, hx1⟩ := Zay hx1
   refine JC.anyF (base := [(0, ov (PTR gb_11 0)), (2, ov (PTR gb_17 0)), (3, ov (PTR gb_23 0))])
       (fs := fun γ => [⟨some 19, ov (PTR gb_11 0)⟩, ⟨some 20, ov (PTR gb_11 0)⟩, ⟨some 21, ov (PTR gb_11 (0 + 0))⟩, ⟨some 22, ov (PTR gb_13 0)⟩, ⟨some 23, ov (S (rL (rU UInt8)) v25)⟩, ⟨some 24, ov (S rS v25)⟩, ⟨some 25, ov (PTR gb_11 0)⟩, ⟨some 26, ov (PTR gb_11 0)⟩, ⟨some 27, ov (PTR gb_11 (0 + 0))⟩, ⟨some 28, ov (PTR gb_13 0)⟩, ⟨some 29, ov (S (rL (rU UInt8)) v27)⟩, ⟨some 30, ov (S rS v27)⟩, ⟨some 31, ov (A (rP rS (rP rS r0)) (v25, (v27, ())))⟩, ⟨some 32, ov (PTR gb_23 (0 + 2))⟩, ⟨none, .one .any⟩])
       (rs := fun γ => [⟨zq58 gb_11 gb_13 go_15 x_14 gc_16 Kind_1 From_2 To_3 ID_4 Topic_5 Past_6 Past_7 Seen_8 Hash_9 Reply_10, none, none, [3, 9]⟩, ⟨cown go_15 (rI .i64) x_14 0 gc_16, none, none, []⟩, ⟨zq35 gb_17, none, none, []⟩, ⟨cvar gb_13 Zac x_21, none, (some 4), []⟩, ⟨cvar gb_23 zq37 (zq39 v18 v22), none, (some 14), []⟩, ⟨cvar gb_13 Zac x_26, (some 4), (some 10), []⟩, ⟨cvar gb_13 Zac x_28, (some 10), none, []⟩, ⟨cvar gb_23 zq41 (v18, ((v25, (v27, ())), (v22, ()))), (some 14), none, []⟩])
       (afts := nn 15) (js := [0, 0, 0, 0, 0]) ZbT (.cons rfl (.cons rfl (.cons rfl .nil))) (fun _ => rfl)
       (by
      refine db 1 0 <| dS 2 (fun γ ρ B hb hd => Zas lb (tl hd 0 19) (fun e v h => by subst h; rfl)) <| dS 3 (fun γ ρ B hb hd => Zaa (off := 0) lb ZbO (tl hd 1 20)) <| dR 4 (fun γ ρ B hb hd => Zan.lk ⟨ρ, (zq58 gb_11 gb_13 go_15 x_14 gc_16 Kind_1 From_2 To_3 ID_4 Topic_5 Past_6 Past_7 Seen_8 Hash_9 Reply_10) :: B, _⟩ (ZaM (j := 0) lb tS87 (tl hd 2 21) rfl (Comp.trans (Comp.self (zq57 gb_13 go_15 x_14 gc_16) (zq33 Kind_1 From_2 To_3 ID_4 Topic_5 Past_6 Past_7 Seen_8 Hash_9 Reply_10)) (Comp.at' (Comp.inF (Comp.self (rW (PTR gb_13 0)) ()) (lE rfl)) (by rfl : _ = 0)) (lE rfl)))) <| dR 5 (fun γ ρ B hb hd => Zan.at ⟨ρ, (cvar gb_13 Zac x_21) :: B, _⟩ (setO ⟨ρ, (cvar gb_13 Zac x_26) :: B, _⟩ _ _) ((Zak (js := [0]) ld ZjT (Zbr k x_21 gb_13 (v25, x_26) hv_25) .func (.cons (tl hd 3 22) .nil) rfl).post (fun _ => Imp.refl))) ?_
      refine dS 6 (fun γ ρ B hb hd => ZdU lb tu27 tu5 tu9 (tl hd 4 23)) <| db 7 0 <| dS 8 (fun γ ρ B hb hd => Zas lb (tl hd 6 25) (fun e v h => by subst h; rfl)) <| dS 9 (fun γ ρ B hb hd => Zaa (off := 0) lb ZbO (tl hd 7 26)) <| dR 10 (fun γ ρ B hb hd => Zan.lk ⟨ρ, (zq58 gb_11 gb_13 go_15 x_14 gc_16 Kind_1 From_2 To_3 ID_4 Topic_5 Past_6 Past_7 Seen_8 Hash_9 Reply_10) :: B, _⟩ (ZaM (j := 0) lb tS87 (tl hd 8 27) rfl (Comp.trans (Comp.self (zq57 gb_13 go_15 x_14 gc_16) (zq33 Kind_1 From_2 To_3 ID_4 Topic_5 Past_6 Past_7 Seen_8 Hash_9 Reply_10)) (Comp.at' (Comp.inF (Comp.self (rW (PTR gb_13 0)) ()) (lE rfl)) (by rfl : _ = 0)) (lE rfl)))) ?_
      refine dR 11 (fun γ ρ B hb hd => Zan.at ⟨ρ, (cvar gb_13 Zac x_26) :: B, _⟩ (setO ⟨ρ, (cvar gb_13 Zac x_28) :: B, _⟩ _ _) ((Zak (js := [0]) ld ZjT (Zbr k x_26 gb_13 (v27, x_28) hv_27) .func (.cons (tl hd 9 28) .nil) rfl).post (fun _ => Imp.refl))) <| dS 12 (fun γ ρ B hb hd => ZdU lb tu27 tu5 tu9 (tl hd 10 29)) <| dS 13 (fun γ ρ B hb hd => Za9 lb tZ60 zs60 tp60 (.S (off := 0) rfl (tl hd 5 24) rfl ((UpdR.fst (UpdR.self (by rfl))).at (by rfl)) (.S (off := 1) rfl (tl hd 11 30) rfl ((UpdR.snd (UpdR.fst (UpdR.self (by rfl)))).at (by rfl)) .nil)) rfl) <| dS 14 (fun γ ρ B hb hd => Zaa (off := 2) lb Zfa (.tmp (hb 3 _ rfl))) <| dR 15 (fun γ ρ B hb hd => Zan.at ⟨ρ, (cvar gb_23 zq37 (zq39 v18 v22)) :: B, _⟩ (setO ⟨ρ, (cvar gb_23 zq41 (v18, ((v25, (v27, ())), (v22, ())))) :: B, _⟩ _ _) (ZaP (j := 0) tA60 (tl hd 13 32) (tl hd 12 31) rfl ((UpdR.snd (UpdR.fst (UpdR.self (by rfl)))).at (by change (2 + 0) = (0 + 2); omega)) rfl)) ?_
      exact ZaG.nil)
       (by decide +kernel) (fun _ => rfl) (fun _ => rfl) (fun _ => rfl) rfl
       (ρ' := fun γ => [(2, ov (PTR gb_17 0)), (3, ov (PTR gb_23 0))])
       (X' := fun γ => [zq58 gb_11 gb_13 go_15 x_14 gc_16 Kind_1 From_2 To_3 ID_4 Topic_5 Past_6 Past_7 Seen_8 Hash_9 Reply_10, cown go_15 (rI .i64) x_14 0 gc_16, zq35 gb_17, cvar gb_13 Zac x_28, cvar gb_23 zq41 (v18, ((v25, (v27, ())), (v22, ())))])
       (fun γ ρ hb hd => (.cons (hb 2 _ rfl) (.cons (hb 3 _ rfl) .nil))) (fun _ => rfl) (fun γ => ?_)
   refine JQ.at ⟨[(2, ov (PTR gb_17 0)), (3, ov (PTR gb_23 0))], [zq58 gb_11 gb_13 go_15 x_14 gc_16 Kind_1 From_2 To_3 ID_4 Topic_5 Past_6 Past_7 Seen_8 Hash_9 Reply_10, cown go_15 (rI .i64) x_14 0 gc_16, zq35 gb_17, cvar gb_13 Zac x_28, cvar gb_23 zq41 (v18, ((v25, (v27, ())), (v22, ())))], []⟩ ?_
   have hz := Option.some.inj hx1
   replace hz := Prod.mk.inj hz
   obtain ⟨hz_a, hz⟩ := hz
   first | subst hz_a | clear hz_a
   first | subst hz | clear hz
   refine JQ.pre (Imp.var (j := 4) (q := Zaj) (y := (Zap.mk v18 (Zbq.mk v25 v27) v22)) rfl (Wk.st (Wk.pair Wk.refl (Wk.pair (Wk.st Wk.refl) (Wk.pair Wk.refl Wk.refl))))) ?_
   refine JQ.pre (Imp.var (j := 0) (q := (zq57 gb_13 go_15 x_14 gc_16)) (y := (zq33 Kind_1 From_2 To_3 ID_4 Topic_5 Past_6 Past_7 Seen_8 Hash_9 Reply_10)) rfl Wk.refl) ?_
   exact JQ.join () (Imp.norm (js := [2, 3, 0, 1, 0]) rfl (.cons rfl (.cons rfl .nil)))
 refine JC.skip ?_
 have hz := Option.some.inj hx1
 replace hz := Prod.mk.inj hz
 obtain ⟨hz_a, hz⟩ := hz
 first | subst hz_a | clear hz_a
 first | subst hz | clear hz
 refine JQ.pre (Imp.var (j := 4) (q := Zaj) (y := (Zap.mk v18 ((Zap.mk (Zaf.mk (0 : Int) (0 : UInt64)) (Zbq.mk ([] : (List UInt8)) ([] : (List UInt8))) false).Key) v22)) rfl (Wk.st Wk.refl)) ?_
 refine JQ.pre (Imp.var (j := 0) (q := (zq57 gb_13 go_15 x_14 gc_16)) (y := (zq33 Kind_1 From_2 To_3 ID_4 Topic_5 Past_6 Past_7 Seen_8 Hash_9 Reply_10)) rfl Wk.refl) ?_
 exact JQ.join () (Imp.norm (js := [2, 3, 0, 1, 0]) rfl (.cons rfl (.cons rfl .nil)))

theorem Ze6 (k : Nat) (n_1 : Int) (r_2 : Zag) (Kind_4 : Int) (From_5 : Int) (To_6 : Int) (ID_7 : Zaf) (Topic_8 : (List UInt8)) (Past_9 : (Vector UInt64 16)) (Past_10 : (Vector UInt64 16)) (Seen_11 : (Vector UInt64 16)) (Hash_12 : (Vector UInt8 32)) (Reply_13 : Bool) (x_15 : (List Int)) (gb_3 : Nat) (gb_14 : Nat) (go_16 : Option Nat) (gc_17 : Nat) (r : (List Zap) × Zag) (hm : frame_listapi_Item'2 k n_1 r_2 Kind_4 From_5 To_6 ID_7 Topic_8 Past_9 Past_10 Seen_11 Hash_12 Reply_13 x_15 = some r) : Sim Tryz.prog 124 [PTR gb_3 0, S (rI .i64) n_1, BND 125 [PTR gb_14 0]] [cvar gb_3 Zac r_2, zq58 gb_14 gb_3 go_16 x_15 gc_17 Kind_4 From_5 To_6 ID_7 Topic_8 Past_9 Past_10 Seen_11 Hash_12 Reply_13, cown go_16 (rI .i64) x_15 0 gc_17] (γ := Option Nat × Nat) (fun q => [cown q.1 Zaj r.1 0 q.2, cvar gb_3 Zac r.2, zq58 gb_14 gb_3 go_16 x_15 gc_17 Kind_4 From_5 To_6 ID_7 Topic_8 Past_9 Past_10 Seen_11 Hash_12 Reply_13, cown go_16 (rI .i64) x_15 0 gc_17]) (fun q => .one (.val (HDR q.1 0 (List.length r.1) q.2))) := by
 unfold frame_listapi_Item'2 at hm
 refine Sim.of Tryz.func124 rfl rfl (lE rfl) (fun e0 w0 => ?_)
 refine JC.at ⟨[(0, ov (PTR gb_3 0)), (1, ov (S (rI .i64) n_1)), (2, ov (BND 125 [PTR gb_14 0]))], [cvar gb_3 Zac r_2, zq58 gb_14 gb_3 go_16 x_15 gc_17 Kind_4 From_5 To_6 ID_7 Topic_8 Past_9 Past_10 Seen_11 Hash_12 Reply_13, cown go_16 (rI .i64) x_15 0 gc_17], []⟩ <| jr <| jc (Zab lb HasO.nilH) <| jn <| jr <| jc (Zab lb HasO.nilH) <| jn <| bI hm fun tv1 hx1 hq1 => JC.seqK (α := (List Zap) × Zag) (γ := Option Nat × Nat) (stj := fun v q => ⟨[(7, ov (HDR q.1 0 (List.length v.1) q.2))], [cown q.1 Zaj v.1 0 q.2, cvar gb_3 Zac v.2, zq58 gb_14 gb_3 go_16 x_15 gc_17 Kind_4 From_5 To_6 ID_7 Topic_8 Past_9 Past_10 Seen_11 Hash_12 Reply_13, cown go_16 (rI .i64) x_15 0 gc_17], []⟩) (p := fun v => tv1 = (.inl v)) (fun v q hv => ?_) ?_
 · subst hv
   obtain ⟨l_35, x_36⟩ := v
   obtain ⟨go_37, gc_38⟩ := q
   dsimp only at hq1
   refine JC.at ⟨[(7, ov (HDR go_37 0 (List.length l_35) gc_38))], [cown go_37 Zaj l_35 0 gc_38, cvar gb_3 Zac x_36, zq58 gb_14 gb_3 go_16 x_15 gc_17 Kind_4 From_5 To_6 ID_7 Topic_8 Past_9 Past_10 Seen_11 Hash_12 Reply_13, cown go_16 (rI .i64) x_15 0 gc_17], []⟩ <| jr <| jmv rfl rfl <| jc (Zab lb tR) <| jn <| JC.ret ?_
   obtain rfl := so hq1
   exact JQ.done (js := [0, 0, 0, 0]) (ss := [.val (HDR go_37 0 (List.length l_35) gc_38)]) (go_37, gc_38) (.inl rfl) (.nil rfl) rfl (.cons (.tmp rfl) .nil) rfl rfl rfl
 refine jr <| jmv rfl rfl <| jc (Zax lb .cI) <| jn <| JC.block <| bI hx1 fun tv2 hL2 hq2 => JC.pre (Imp.nilown Zaj) <| JC.pre (Imp.var (j := 1) (q := (zq57 gb_3 go_16 x_15 gc_17)) (y := (zq33 Kind_4 From_5 To_6 ID_7 Topic_8 Past_9 Past_10 Seen_11 Hash_12 Reply_13)) rfl Wk.refl) ?_
 refine JC.pre ?_ (JC.loop (γ := Option Nat × Nat) (stf := fun s q => ⟨[(0, ov (PTR gb_3 0)), (2, ov (BND 125 [PTR gb_14 0])), (7, ov (HDR q.1 0 (List.length s.2.1) q.2)), (8, ov (S (rI .i64) n_1)), (9, ov (S (rI .i64) s.2.2))], [cvar gb_3 Zac s.1, zq58 gb_14 gb_3 go_16 x_15 gc_17 Kind_4 From_5 To_6 ID_7 Topic_8 Past_9 Past_10 Seen_11 Hash_12 Reply_13, cown go_16 (rI .i64) x_15 0 gc_17, cown q.1 Zaj s.2.1 0 q.2], []⟩) (q := (none, 0)) hL2 ?_)
 · exact (Imp.norm (js := [0, 0, 0, 0]) rfl (.cons rfl (.cons rfl (.cons rfl (.cons rfl (.cons rfl .nil))))))
 intro s q x hx hr
 obtain ⟨r_18, l_19, x_20⟩ := s
 obtain ⟨go_21, gc_22⟩ := q
 change frame_listapi_Item'2.b1 k n_1 Kind_4 From_5 To_6 ID_7 Topic_8 Past_9 Past_10 Seen_11 Hash_12 Reply_13 x_15 r_18 l_19 x_20 = some x at hx
 unfold frame_listapi_Item'2.b1 at hx
 refine JC.at ⟨[(0, ov (PTR gb_3 0)), (2, ov (BND 125 [PTR gb_14 0])), (7, ov (HDR go_21 0 (List.length l_19) gc_22)), (8, ov (S (rI .i64) n_1)), (9, ov (S (rI .i64) x_20))], [cvar gb_3 Zac r_18, zq58 gb_14 gb_3 go_16 x_15 gc_17 Kind_4 From_5 To_6 ID_7 Topic_8 Past_9 Past_10 Seen_11 Hash_12 Reply_13, cown go_16 (rI .i64) x_15 0 gc_17, cown go_21 Zaj l_19 0 gc_22], []⟩ <| jr <| lI hx fun v23 hv_23 hx => jc (Zaq lb tR tR (cs hv_23)) <| jn <| JC.seq <| jif tR hx (fun hc3 hx => ?_) (fun hc3 hx => ?_)
 · refine JC.skip <| JQ.then <| JC.seq <| JC.block <| JC.seq <| jr <| jmv rfl rfl <| bI hx fun v24 hv_24 hx => jx (Zak (js := [0]) ld ZiU (Za2 k r_18 gb_3 v24 hv_24) .func (.cons tR .nil) rfl) fun _ => jn <| jif tR hx (fun hc4 hx => ?_) (fun hc4 hx => ?_)
   · refine jr <| jc (Zab lb HasO.nilH) <| jn <| JC.ret <| JQ.outR <| JQ.outRB <| JQ.outR ?_
     try obtain rfl := so hx
     try obtain rfl := hr _ rfl
     dsimp only at hq2
     refine JQ.outR <| JQ.outRB ?_
     try obtain rfl := so hq2
     dsimp only at hq1
     refine JQ.outR ?_
     obtain rfl := so hq1
     exact JQ.pre (Imp.nilown Zaj) <| JQ.done (js := [4, 0, 0, 0]) (ss := [.val (HDR none 0 (List.length ([] : (List Zap))) (0))]) (none, 0) (.inl rfl) (.nil rfl) rfl (.cons (.tmp rfl) .nil) rfl rfl rfl
   refine JC.skip <| JQ.then <| JC.region <| jmv rfl rfl <| jmv rfl rfl ?_
   obtain ⟨⟨v25, x_26⟩, hv_25, hx⟩ := Zay hx
   refine jx (Zhv (js := [1, 0, 0]) ld Znr (Zft k Kind_4 From_5 To_6 ID_7 Topic_8 Past_9 Past_10 Seen_11 Hash_12 Reply_13 r_18 x_15 gb_14 gb_3 go_16 gc_17 (v25, x_26) hv_25) tR .nil rfl) fun _ => jc (Zca (r := Zaj) lb tu23 tz62 tZ62 rfl (lE rfl) (.A tR .nil) rfl) <| bI hx fun l_27 hv_l_27 hx => jx (Zbp (j := 3) lb tu23 tu23 rfl tB62 rfl (Nat.lt_of_lt_of_le Nat.zero_lt_one (lE rfl)) (Nat.lt_of_lt_of_le Nat.zero_lt_one (lE rfl))  rfl tR tR hv_l_27) (fun q => ?_)
   obtain ⟨go_28, gc_29⟩ := q
   refine JL.sub ⟨[(0, ov (PTR gb_3 0)), (2, ov (BND 125 [PTR gb_14 0])), (8, ov (S (rI .i64) n_1)), (9, ov (S (rI .i64) x_20)), (17, ov (HDR go_28 0 (List.length l_27) gc_29))], [zq58 gb_14 gb_3 go_16 x_15 gc_17 Kind_4 From_5 To_6 ID_7 Topic_8 Past_9 Past_10 Seen_11 Hash_12 Reply_13, cvar gb_3 Zac x_26, cown go_16 (rI .i64) x_15 0 gc_17, cown go_28 Zaj l_27 0 gc_29], []⟩ (.cons rfl (.cons rfl (.cons rfl (.cons rfl (.cons rfl .nil))))) rfl rfl <| jc (Zab lb tR) <| JL.nil <| JQ.outNB <| JQ.then <| JC.region <| lI hx fun v30 hv_30 hx => jc (ZaY lb tR .cI (cs hv_30)) <| jmv rfl rfl <| JL.nil ?_
   try obtain rfl := so hx
   exact JQ.next (go_28, gc_29) rfl (Imp.norm (js := [1, 0, 0, 0]) rfl (.cons rfl (.cons rfl (.cons rfl (.cons rfl (.cons rfl .nil))))))
 refine JC.exit <| JQ.outX ?_
 try obtain rfl := so hx
 try obtain rfl := hr _ rfl
 dsimp only at hq2
 refine JQ.outX <| JQ.here ?_
 try obtain rfl := so hq2
 exact JQ.joinK (l_19, r_18) (go_21, gc_22) rfl (Imp.norm (js := [3, 0, 0, 0]) rfl (.cons rfl .nil))

theorem Zff (k : Nat) (Kind_1 : Int) (From_2 : Int) (To_3 : Int) (ID_4 : Zaf) (Topic_5 : (List UInt8)) (Past_6 : (Vector UInt64 16)) (Past_7 : (Vector UInt64 16)) (Seen_8 : (Vector UInt64 16)) (Hash_9 : (Vector UInt8 32)) (Reply_10 : Bool) (x_12 : Zag) (x_14 : (List Int)) (gb_11 : Nat) (gb_13 : Nat) (go_15 : Option Nat) (gc_16 : Nat) (r : Zag × (List Zap)) (hm : Zc4 k Kind_1 From_2 To_3 ID_4 Topic_5 Past_6 Past_7 Seen_8 Hash_9 Reply_10 x_12 x_14 = some r) : Sim Tryz.prog 93 [PTR gb_11 0] [zq58 gb_11 gb_13 go_15 x_14 gc_16 Kind_1 From_2 To_3 ID_4 Topic_5 Past_6 Past_7 Seen_8 Hash_9 Reply_10, cvar gb_13 Zac x_12, cown go_15 (rI .i64) x_14 0 gc_16] (γ := Option Nat × Nat) (fun q => [cvar gb_11 (rP (rW (PTR gb_13 0)) (rP (rP (rI .i64) (rP (rI .i64) (rP (rI .i64) (rP (rW (HDR q.1 0 (List.length r.2) q.2)) (rP (rP Zad (rP rS (rP (rW (HDR none 0 0 0)) (rP (rV 16 (rU UInt64)) (rP (rW (HDR none 0 0 0)) r0))))) (rP (rV 16 (rU UInt64)) (rP (rV 16 (rU UInt64)) (rP (rW (HDR none 0 0 0)) (rP (rW (HDR none 0 0 0)) (rP (rV 32 (rU UInt8)) (rP (rW (HDR none 0 0 0)) (rP (rW (HDR go_15 0 (List.length x_14) gc_16)) (rP rB r0))))))))))))) r0)) (zq33 Kind_1 From_2 To_3 ID_4 Topic_5 Past_6 Past_7 Seen_8 Hash_9 Reply_10), cvar gb_13 Zac r.1, cown q.1 Zaj r.2 0 q.2, cown go_15 (rI .i64) x_14 0 gc_16]) (fun q => .tup []) := by
 unfold Zc4 at hm
 refine Sim.of Tryz.func93 rfl rfl (lE rfl) (fun e0 w0 => ?_)
 refine JC.at ⟨[(0, ov (PTR gb_11 0))], [zq58 gb_11 gb_13 go_15 x_14 gc_16 Kind_1 From_2 To_3 ID_4 Topic_5 Past_6 Past_7 Seen_8 Hash_9 Reply_10, cvar gb_13 Zac x_12, cown go_15 (rI .i64) x_14 0 gc_16], []⟩ <| jr <| jmv rfl rfl ?_
 obtain ⟨⟨v17, x_18⟩, hv_17, hm⟩ := Zay hm
 refine jx (Zak (js := [0, 0, 0]) ld Zk4 (Ze7 k Kind_1 From_2 To_3 ID_4 Topic_5 Past_6 Past_7 Seen_8 Hash_9 Reply_10 x_12 x_14 gb_11 gb_13 go_15 gc_16 (v17, x_18) hv_17) .func (.cons tR .nil) rfl) fun _ => jc (Zab lb tR) <| jn <| JC.region <| jmv rfl rfl <| jmv rfl rfl <| jc (Zas lb tR (fun e v h => by subst h; rfl)) <| jc (Zaa (off := 0) lb ZbO tR) <| jc (ZaM (j := 0) lb tS87 tR rfl (Comp.trans (Comp.self (zq57 gb_13 go_15 x_14 gc_16) (zq33 Kind_1 From_2 To_3 ID_4 Topic_5 Past_6 Past_7 Seen_8 Hash_9 Reply_10)) (Comp.at' (Comp.inF (Comp.self (rW (PTR gb_13 0)) ()) (lE rfl)) (by rfl : _ = 0)) (lE rfl))) <| jmv rfl rfl <| jmv rfl rfl <| JL.sub ⟨[(5, ov (PTR gb_11 0)), (9, ov (PTR gb_13 0)), (10, ov (S (rI .i64) v17)), (11, ov (PTR gb_11 0))], [zq58 gb_11 gb_13 go_15 x_14 gc_16 Kind_1 From_2 To_3 ID_4 Topic_5 Past_6 Past_7 Seen_8 Hash_9 Reply_10, cvar gb_13 Zac x_18, cown go_15 (rI .i64) x_14 0 gc_16], []⟩ (.cons rfl (.cons rfl (.cons rfl (.cons rfl .nil)))) rfl rfl <| jc (Zeg lb (.cons tR .nil)) ?_
 obtain ⟨⟨v19, x_20⟩, hv_19, hm⟩ := Zay hm
 refine jx (Zak (js := [1, 0, 0]) ld Znq (Ze6 k v17 x_18 Kind_1 From_2 To_3 ID_4 Topic_5 Past_6 Past_7 Seen_8 Hash_9 Reply_10 x_14 gb_13 gb_11 go_15 gc_16 (v19, x_20) hv_19) .func (.cons tR (.cons tR (.cons tR .nil))) rfl) (fun q => ?_)
 obtain ⟨go_21, gc_22⟩ := q
 refine jc (Zas lb tR (fun e v h => by subst h; rfl)) <| jc (Zaa (off := 1) lb ZdF tR) <| jc (Zaa (off := 3) lb ZcK tR) <| jc (ZbD (j := 2) tS23 tR tR rfl ((UpdR.snd (UpdR.fst (UpdR.snd (UpdR.snd (UpdR.snd (UpdR.fst (UpdR.self (by rfl)))))))).at (by change (1 + (1 + (1 + (1 + 0)))) = ((0 + 1) + 3); omega)) rfl) <| JL.nil ?_
 obtain rfl := so hm
 exact JQ.done (js := [2, 1, 0, 0]) (ss := []) (go_21, gc_22) (.inr rfl) (.nil rfl) rfl .nil rfl rfl rfl

theorem Zfc (k : Nat) (Kind_1 : Int) (From_2 : Int) (To_3 : Int) (ID_4 : Zaf) (Topic_5 : (List UInt8)) (Past_6 : (Vector UInt64 16)) (Past_7 : (Vector UInt64 16)) (Seen_8 : (Vector UInt64 16)) (Hash_9 : (Vector UInt8 32)) (Reply_10 : Bool) (x_12 : Zag) (x_14 : (List Zap)) (x_17 : (List Int)) (gb_11 : Nat) (gb_13 : Nat) (go_15 : Option Nat) (gc_16 : Nat) (go_18 : Option Nat) (gc_19 : Nat) (r : Int × Zag) (hm : Zc6 k Kind_1 From_2 To_3 ID_4 Topic_5 Past_6 Past_7 Seen_8 Hash_9 Reply_10 x_12 x_14 x_17 = some r) : Sim Tryz.prog 123 [PTR gb_11 0] [zq60 gb_11 gb_13 go_15 x_14 gc_16 go_18 x_17 gc_19 Kind_1 From_2 To_3 ID_4 Topic_5 Past_6 Past_7 Seen_8 Hash_9 Reply_10, cvar gb_13 Zac x_12, cown go_15 Zaj x_14 0 gc_16, cown go_18 (rI .i64) x_17 0 gc_19] (γ := Unit) (fun q => [zq60 gb_11 gb_13 go_15 x_14 gc_16 go_18 x_17 gc_19 Kind_1 From_2 To_3 ID_4 Topic_5 Past_6 Past_7 Seen_8 Hash_9 Reply_10, cvar gb_13 Zac r.2, cown go_15 Zaj x_14 0 gc_16, cown go_18 (rI .i64) x_17 0 gc_19]) (fun q => .one (.val (S (rI .i64) r.1))) := by
 unfold Zc6 at hm
 refine Sim.of Tryz.func123 rfl rfl (lE rfl) (fun e0 w0 => ?_)
 refine JC.at ⟨[(0, ov (PTR gb_11 0))], [zq60 gb_11 gb_13 go_15 x_14 gc_16 go_18 x_17 gc_19 Kind_1 From_2 To_3 ID_4 Topic_5 Past_6 Past_7 Seen_8 Hash_9 Reply_10, cvar gb_13 Zac x_12, cown go_15 Zaj x_14 0 gc_16, cown go_18 (rI .i64) x_17 0 gc_19], []⟩ <| jr <| jc (Zab lb .cI) <| jn <| jr <| jmv rfl rfl <| jc (Zas lb tR (fun e v h => by subst h; rfl)) <| jc (Zaa (off := 0) lb ZbO tR) <| jc (ZaM (j := 0) lb tS87 tR rfl (Comp.trans (Comp.self (zq59 gb_13 go_15 x_14 gc_16 go_18 x_17 gc_19) (zq33 Kind_1 From_2 To_3 ID_4 Topic_5 Past_6 Past_7 Seen_8 Hash_9 Reply_10)) (Comp.at' (Comp.inF (Comp.self (rW (PTR gb_13 0)) ()) (lE rfl)) (by rfl : _ = 0)) (lE rfl))) ?_
 obtain ⟨⟨v20, x_21⟩, hv_20, hm⟩ := Zay hm
 refine jx (Zak (js := [1]) ld cl53 (ZaD k (2 : Int) x_12 gb_13 (v20, x_21) hv_20) .func (.cons tR (.cons .cI .nil)) rfl) fun _ => lI hm fun v22 hv_22 hm => jc (Zcf lb tu24 tu3 tR hv_22) <| jc (Zab lb tR) <| jn <| JC.ret ?_
 obtain rfl := so hm
 refine JQ.pre (Imp.var (j := 1) (q := (zq59 gb_13 go_15 x_14 gc_16 go_18 x_17 gc_19)) (y := (zq33 Kind_1 From_2 To_3 ID_4 Topic_5 Past_6 Past_7 Seen_8 Hash_9 Reply_10)) rfl Wk.refl) ?_
 exact JQ.done (js := [1, 0, 0, 0]) (ss := [.val (S (rI .i64) v22)]) () (.inl rfl) (.nil rfl) rfl (.cons (.tmp rfl) .nil) rfl rfl rfl

theorem Zfi (k : Nat) (Kind_1 : Int) (From_2 : Int) (To_3 : Int) (ID_4 : Zaf) (Topic_5 : (List UInt8)) (Past_6 : (Vector UInt64 16)) (Past_7 : (Vector UInt64 16)) (Seen_8 : (Vector UInt64 16)) (Hash_9 : (Vector UInt8 32)) (Reply_10 : Bool) (x_12 : Zag) (x_14 : (List Zap)) (x_17 : (List Int)) (gb_11 : Nat) (gb_13 : Nat) (go_15 : Option Nat) (gc_16 : Nat) (go_18 : Option Nat) (gc_19 : Nat) (r : Zag × (Vector UInt64 16) × (List Zaf)) (hm : Zdf k Kind_1 From_2 To_3 ID_4 Topic_5 Past_6 Past_7 Seen_8 Hash_9 Reply_10 x_12 x_14 x_17 = some r) : Sim Tryz.prog 133 [PTR gb_11 0] [zq60 gb_11 gb_13 go_15 x_14 gc_16 go_18 x_17 gc_19 Kind_1 From_2 To_3 ID_4 Topic_5 Past_6 Past_7 Seen_8 Hash_9 Reply_10, cvar gb_13 Zac x_12, cown go_15 Zaj x_14 0 gc_16, cown go_18 (rI .i64) x_17 0 gc_19] (γ := Option Nat × Nat) (fun q => [cvar gb_11 (rP (rW (PTR gb_13 0)) (rP (rP (rI .i64) (rP (rI .i64) (rP (rI .i64) (rP (rW (HDR go_15 0 (List.length x_14) gc_16)) (rP (rP Zad (rP rS (rP (rW (HDR none 0 0 0)) (rP (rV 16 (rU UInt64)) (rP (rW (HDR none 0 0 0)) r0))))) (rP (rV 16 (rU UInt64)) (rP (rV 16 (rU UInt64)) (rP (rW (HDR q.1 0 (List.length r.2.2) q.2)) (rP (rW (HDR none 0 0 0)) (rP (rV 32 (rU UInt8)) (rP (rW (HDR none 0 0 0)) (rP (rW (HDR go_18 0 (List.length x_17) gc_19)) (rP rB r0))))))))))))) r0)) ((), ((Kind_1, (From_2, (To_3, ((), ((ID_4, (Topic_5, ((), (Past_6, ((), ()))))), (Past_7, (r.2.1, ((), ((), (Hash_9, ((), ((), (Reply_10, ()))))))))))))), ())), cvar gb_13 Zac r.1, cown go_15 Zaj x_14 0 gc_16, cown q.1 Zad r.2.2 0 q.2, cown go_18 (rI .i64) x_17 0 gc_19]) (fun q => .tup []) := by
 unfold Zdf at hm
 refine Sim.of Tryz.func133 rfl rfl (lE rfl) (fun e0 w0 => ?_)
 refine JC.at ⟨[(0, ov (PTR gb_11 0))], [zq60 gb_11 gb_13 go_15 x_14 gc_16 go_18 x_17 gc_19 Kind_1 From_2 To_3 ID_4 Topic_5 Past_6 Past_7 Seen_8 Hash_9 Reply_10, cvar gb_13 Zac x_12, cown go_15 Zaj x_14 0 gc_16, cown go_18 (rI .i64) x_17 0 gc_19], []⟩ <| jr <| jmv rfl rfl <| jmv rfl rfl <| jc (Zas lb tR (fun e v h => by subst h; rfl)) <| jc (Zaa (off := 0) lb ZbO tR) <| jc (ZaM (j := 0) lb tS87 tR rfl (Comp.trans (Comp.self (zq59 gb_13 go_15 x_14 gc_16 go_18 x_17 gc_19) (zq33 Kind_1 From_2 To_3 ID_4 Topic_5 Past_6 Past_7 Seen_8 Hash_9 Reply_10)) (Comp.at' (Comp.inF (Comp.self (rW (PTR gb_13 0)) ()) (lE rfl)) (by rfl : _ = 0)) (lE rfl))) ?_
 obtain ⟨⟨v20, x_21⟩, hv_20, hm⟩ := Zay hm
 refine jx (Zak (js := [1]) ld Zl3 (Zb3 k x_12 gb_13 (v20, x_21) hv_20) .func (.cons tR .nil) rfl) fun _ => jc (Zas lb tR (fun e v h => by subst h; rfl)) <| jc (Zaa (off := 1) lb ZdF tR) <| jc (Zaa (off := 41) lb Ze8 tR) <| jc (ZaP (j := 1) tA29 tR tR rfl ((UpdR.snd (UpdR.fst (UpdR.snd (UpdR.snd (UpdR.snd (UpdR.snd (UpdR.snd (UpdR.snd (UpdR.fst (UpdR.self (by rfl))))))))))).at (by change (1 + (1 + (1 + (1 + (1 + (21 + (16 + 0))))))) = ((0 + 1) + 41); omega)) rfl) <| JL.sub ⟨[(0, ov (PTR gb_11 0))], [cvar gb_13 Zac x_21, zq60 gb_11 gb_13 go_15 x_14 gc_16 go_18 x_17 gc_19 Kind_1 From_2 To_3 ID_4 Topic_5 Past_6 Past_7 v20 Hash_9 Reply_10, cown go_15 Zaj x_14 0 gc_16, cown go_18 (rI .i64) x_17 0 gc_19], []⟩ (.cons rfl .nil) rfl rfl <| jn <| jr <| jmv rfl rfl ?_
 obtain ⟨⟨v22, x_23⟩, hv_22, hm⟩ := Zay hm
 refine jx (Zak (js := [1, 0, 0, 0]) ld Zk4 (Zfc k Kind_1 From_2 To_3 ID_4 Topic_5 Past_6 Past_7 v20 Hash_9 Reply_10 x_21 x_14 x_17 gb_11 gb_13 go_15 gc_16 go_18 gc_19 (v22, x_23) hv_22) .func (.cons tR .nil) rfl) fun _ => jc (Zab lb tR) <| jn ?_
 obtain ⟨⟨v24, x_25⟩, hv_24, hm⟩ := Zay hm
 refine JC.anyF (base := [(0, ov (PTR gb_11 0)), (2, ov (S (rI .i64) v22))])
     (fs := fun γ => [⟨some 14, ov (PTR gb_11 0)⟩, ⟨some 15, ov (PTR gb_11 0)⟩, ⟨some 16, ov (PTR gb_11 0)⟩, ⟨some 17, ov (PTR gb_11 (0 + 0))⟩, ⟨some 18, ov (PTR gb_13 0)⟩, ⟨some 19, ov (S (rI .i64) v22)⟩, ⟨some 20, ov (PTR gb_11 0)⟩, ⟨some 21, ov (PTR gb_11 0)⟩, ⟨some 22, ov (PTR gb_11 (0 + 0))⟩, ⟨some 23, ov (PTR gb_13 0)⟩, ⟨some 24, ov (BND 135 [PTR gb_13 0])⟩, ⟨some 25, ov (HDR (deo (γ 11 0)) 0 (List.length v24) (γ 11 1))⟩, ⟨some 26, ov (PTR gb_11 0)⟩, ⟨some 27, ov (PTR gb_11 (0 + 1))⟩, ⟨some 28, ov (PTR gb_11 ((0 + 1) + 57))⟩, ⟨none, .one .any⟩])
     (rs := fun γ => [⟨zq60 gb_11 gb_13 go_15 x_14 gc_16 go_18 x_17 gc_19 Kind_1 From_2 To_3 ID_4 Topic_5 Past_6 Past_7 v20 Hash_9 Reply_10, none, (some 15), [4, 9]⟩, ⟨cvar gb_13 Zac x_23, none, (some 11), []⟩, ⟨cown go_15 Zaj x_14 0 gc_16, none, none, []⟩, ⟨cown go_18 (rI .i64) x_17 0 gc_19, none, none, []⟩, ⟨cown (deo (γ 11 0)) Zad v24 0 (γ 11 1), (some 11), none, []⟩, ⟨cvar gb_13 Zac x_25, (some 11), none, []⟩, ⟨zq62 gb_11 gb_13 go_15 x_14 gc_16 (deo (γ 11 0)) v24 (γ 11 1) go_18 x_17 gc_19 Kind_1 From_2 To_3 ID_4 Topic_5 Past_6 Past_7 v20 Hash_9 Reply_10, (some 15), none, []⟩])
     (afts := [[], [], [], [], [], [], [], [], [], [], [], [11, 12, 13, 14, 15], [], [], [], []]) (js := [0, 0, 0, 0]) ZbT (.cons rfl (.cons rfl .nil)) (fun _ => rfl)
     (by
      refine db 1 0 <| db 2 0 <| dS 3 (fun γ ρ B hb hd => Zas lb (tl hd 1 15) (fun e v h => by subst h; rfl)) <| dS 4 (fun γ ρ B hb hd => Zaa (off := 0) lb ZbO (tl hd 2 16)) <| dR 5 (fun γ ρ B hb hd => Zan.lk ⟨ρ, (zq60 gb_11 gb_13 go_15 x_14 gc_16 go_18 x_17 gc_19 Kind_1 From_2 To_3 ID_4 Topic_5 Past_6 Past_7 v20 Hash_9 Reply_10) :: B, _⟩ (ZaM (j := 0) lb tS87 (tl hd 3 17) rfl (Comp.trans (Comp.self (zq59 gb_13 go_15 x_14 gc_16 go_18 x_17 gc_19) (zq33 Kind_1 From_2 To_3 ID_4 Topic_5 Past_6 Past_7 v20 Hash_9 Reply_10)) (Comp.at' (Comp.inF (Comp.self (rW (PTR gb_13 0)) ()) (lE rfl)) (by rfl : _ = 0)) (lE rfl)))) ?_
      refine db 6 2 <| db 7 0 <| dS 8 (fun γ ρ B hb hd => Zas lb (tl hd 6 20) (fun e v h => by subst h; rfl)) <| dS 9 (fun γ ρ B hb hd => Zaa (off := 0) lb ZbO (tl hd 7 21)) <| dR 10 (fun γ ρ B hb hd => Zan.lk ⟨ρ, (zq60 gb_11 gb_13 go_15 x_14 gc_16 go_18 x_17 gc_19 Kind_1 From_2 To_3 ID_4 Topic_5 Past_6 Past_7 v20 Hash_9 Reply_10) :: B, _⟩ (ZaM (j := 0) lb tS87 (tl hd 8 22) rfl (Comp.trans (Comp.self (zq59 gb_13 go_15 x_14 gc_16 go_18 x_17 gc_19) (zq33 Kind_1 From_2 To_3 ID_4 Topic_5 Past_6 Past_7 v20 Hash_9 Reply_10)) (Comp.at' (Comp.inF (Comp.self (rW (PTR gb_13 0)) ()) (lE rfl)) (by rfl : _ = 0)) (lE rfl)))) ?_
      refine dS 11 (fun γ ρ B hb hd => Zeg lb (.cons (tl hd 9 23) .nil)) ?_
      refine ZaG.cons (j := 12) rfl (fun _ => rfl) (.runX (fun _ _ => rfl) (fun γ ρ B hb hd => ⟨.none, OpX.ghost (γ := Option Nat × Nat) (st' := fun q => setO ⟨ρ, (cown q.1 Zad v24 0 q.2) :: (cvar gb_13 Zac x_25) :: B, _⟩ (some 25) (ov (HDR q.1 0 (List.length v24) q.2))) (fun q c => bif Nat.beq c 0 then eno q.1 else q.2) (Zak (js := [0]) ld ZmR (ZcL k v22 x_23 gb_13 (v24, x_25) hv_24) .func (.cons (tl hd 4 18) (.cons (tl hd 5 19) (.cons (tl hd 10 24) .nil))) rfl) (fun q => by obtain ⟨q0, q1⟩ := q; cases q0 <;> exact Imp.refl)⟩) (fun _ _ => rfl) (fun _ _ => rfl)) ?_
      refine dS 13 (fun γ ρ B hb hd => Zas lb (tl hd 0 14) (fun e v h => by subst h; rfl)) <| dS 14 (fun γ ρ B hb hd => Zaa (off := 1) lb ZdF (tl hd 12 26)) <| dS 15 (fun γ ρ B hb hd => Zaa (off := 57) lb ZeH (tl hd 13 27)) <| dR 16 (fun γ ρ B hb hd => Zan.at ⟨ρ, (zq60 gb_11 gb_13 go_15 x_14 gc_16 go_18 x_17 gc_19 Kind_1 From_2 To_3 ID_4 Topic_5 Past_6 Past_7 v20 Hash_9 Reply_10) :: B, _⟩ (setO ⟨ρ, (zq62 gb_11 gb_13 go_15 x_14 gc_16 (deo (γ 11 0)) v24 (γ 11 1) go_18 x_17 gc_19 Kind_1 From_2 To_3 ID_4 Topic_5 Past_6 Past_7 v20 Hash_9 Reply_10) :: B, _⟩ _ _) (ZbD (j := 0) tS33 (tl hd 14 28) (tl hd 11 25) rfl ((UpdR.snd (UpdR.fst (UpdR.snd (UpdR.snd (UpdR.snd (UpdR.snd (UpdR.snd (UpdR.snd (UpdR.snd (UpdR.fst (UpdR.self (by rfl)))))))))))).at (by change (1 + (1 + (1 + (1 + (1 + (21 + (16 + (16 + 0)))))))) = ((0 + 1) + 57); omega)) rfl)) ?_
      exact ZaG.nil)
     (by decide +kernel) (fun _ => rfl) (fun _ => rfl) (fun _ => rfl) rfl
     (ρ' := fun γ => [])
     (X' := fun γ => [cown go_15 Zaj x_14 0 gc_16, cown go_18 (rI .i64) x_17 0 gc_19, cown (deo (γ 11 0)) Zad v24 0 (γ 11 1), cvar gb_13 Zac x_25, zq62 gb_11 gb_13 go_15 x_14 gc_16 (deo (γ 11 0)) v24 (γ 11 1) go_18 x_17 gc_19 Kind_1 From_2 To_3 ID_4 Topic_5 Past_6 Past_7 v20 Hash_9 Reply_10])
     (fun γ ρ hb hd => .nil) (fun _ => rfl) (fun γ => ?_)
 generalize (deo (γ 11 0)) = go_26
 generalize (γ 11 1) = gc_27
 clear γ
 refine JQ.at ⟨[], [cown go_15 Zaj x_14 0 gc_16, cown go_18 (rI .i64) x_17 0 gc_19, cown go_26 Zad v24 0 gc_27, cvar gb_13 Zac x_25, zq62 gb_11 gb_13 go_15 x_14 gc_16 go_26 v24 gc_27 go_18 x_17 gc_19 Kind_1 From_2 To_3 ID_4 Topic_5 Past_6 Past_7 v20 Hash_9 Reply_10], []⟩ ?_
 obtain rfl := so hm
 exact JQ.done (js := [4, 3, 0, 1, 0]) (ss := []) (go_26, gc_27) (.inr rfl) (.nil rfl) rfl .nil rfl rfl rfl

theorem Ze2 (k : Nat) (Kind_1 : Int) (From_2 : Int) (To_3 : Int) (ID_4 : Zaf) (Topic_5 : (List UInt8)) (Past_6 : (Vector UInt64 16)) (Past_7 : (Vector UInt64 16)) (Seen_8 : (Vector UInt64 16)) (Hash_9 : (Vector UInt8 32)) (Reply_10 : Bool) (x_12 : Zag) (gb_11 : Nat) (gb_13 : Nat) (r : Zag × (List Zap) × (Vector UInt64 16) × (List Zaf) × (List Int) × Bool) (hm : Zc8 k Kind_1 From_2 To_3 ID_4 Topic_5 Past_6 Past_7 Seen_8 Hash_9 Reply_10 x_12 = some r) : Sim Tryz.prog 105 [PTR gb_11 0] [zq34 gb_11 gb_13 Kind_1 From_2 To_3 ID_4 Topic_5 Past_6 Past_7 Seen_8 Hash_9 Reply_10, cvar gb_13 Zac x_12] (γ := Option Nat × Nat × Option Nat × Nat × Option Nat × Nat) (fun q => [cvar gb_11 (rP (rW (PTR gb_13 0)) (rP (rP (rI .i64) (rP (rI .i64) (rP (rI .i64) (rP (rW (HDR q.1 0 (List.length r.2.1) q.2.1)) (rP (rP Zad (rP rS (rP (rW (HDR none 0 0 0)) (rP (rV 16 (rU UInt64)) (rP (rW (HDR none 0 0 0)) r0))))) (rP (rV 16 (rU UInt64)) (rP (rV 16 (rU UInt64)) (rP (rW (HDR q.2.2.1 0 (List.length r.2.2.2.1) q.2.2.2.1)) (rP (rW (HDR none 0 0 0)) (rP (rV 32 (rU UInt8)) (rP (rW (HDR none 0 0 0)) (rP (rW (HDR q.2.2.2.2.1 0 (List.length r.2.2.2.2.1) q.2.2.2.2.2)) (rP rB r0))))))))))))) r0)) ((), ((Kind_1, (From_2, (To_3, ((), ((ID_4, (Topic_5, ((), (Past_6, ((), ()))))), (Past_7, (r.2.2.1, ((), ((), (Hash_9, ((), ((), (r.2.2.2.2.2, ()))))))))))))), ())), cvar gb_13 Zac r.1, cown q.1 Zaj r.2.1 0 q.2.1, cown q.2.2.1 Zad r.2.2.2.1 0 q.2.2.2.1, cown q.2.2.2.2.1 (rI .i64) r.2.2.2.2.1 0 q.2.2.2.2.2]) (fun q => .tup []) := by
 unfold Zc8 at hm
 refine Sim.of Tryz.func105 rfl rfl (lE rfl) (fun e0 w0 => ?_)
 refine JC.at ⟨[(0, ov (PTR gb_11 0))], [zq34 gb_11 gb_13 Kind_1 From_2 To_3 ID_4 Topic_5 Past_6 Past_7 Seen_8 Hash_9 Reply_10, cvar gb_13 Zac x_12], []⟩ <| jr <| jx (ZmO lb tR) fun gb_14 => jn <| jr <| jc (ZaM (j := 2) lb tS86 tR rfl (Comp.self (rW (PTR gb_11 0)) ())) <| jc (Zas lb tR (fun e v h => by subst h; rfl)) <| jc (Zaa (off := 0) lb ZbO tR) <| jc (ZaM (j := 0) lb tS87 tR rfl (Comp.trans (Comp.self (zq29 gb_13) (zq33 Kind_1 From_2 To_3 ID_4 Topic_5 Past_6 Past_7 Seen_8 Hash_9 Reply_10)) (Comp.at' (Comp.inF (Comp.self (rW (PTR gb_13 0)) ()) (lE rfl)) (by rfl : _ = 0)) (lE rfl))) ?_
 obtain ⟨⟨v15, x_16⟩, hv_15, hm⟩ := Zay hm
 refine jx (Zak (js := [1]) ld cl53 (ZaD k (1 : Int) x_12 gb_13 (v15, x_16) hv_15) .func (.cons tR (.cons .cI .nil)) rfl) fun _ => lI hm fun v17 hv_17 hm => jc (Zcf lb tu24 tu3 tR hv_17) <| jc (Zab lb tR) <| JL.sub ⟨[(1, ov (PTR gb_14 0)), (2, ov (S (rI .i64) v17))], [cvar gb_13 Zac x_16, zq34 gb_11 gb_13 Kind_1 From_2 To_3 ID_4 Topic_5 Past_6 Past_7 Seen_8 Hash_9 Reply_10, cvar gb_14 (rW (PTR gb_11 0)) ()], []⟩ (.cons rfl (.cons rfl .nil)) rfl rfl <| jn <| JC.seq ?_
 obtain ⟨⟨v18, x_19⟩, hv_18, hm⟩ := Zay hm
 refine JC.anyF (base := [(1, ov (PTR gb_14 0)), (2, ov (S (rI .i64) v17))])
     (fs := fun γ => [⟨some 9, ov (PTR gb_11 0)⟩, ⟨some 10, ov (PTR gb_11 0)⟩, ⟨some 11, ov (PTR gb_11 0)⟩, ⟨some 12, ov (PTR gb_11 (0 + 0))⟩, ⟨some 13, ov (PTR gb_13 0)⟩, ⟨some 14, ov (S (rI .i64) v17)⟩, ⟨some 15, ov (CLO 139 [PTR gb_14 0])⟩, ⟨some 16, ov (HDR (deo (γ 7 0)) 0 (List.length v18) (γ 7 1))⟩, ⟨some 17, ov (PTR gb_11 0)⟩, ⟨some 18, ov (PTR gb_11 (0 + 1))⟩, ⟨some 19, ov (PTR gb_11 ((0 + 1) + 92))⟩, ⟨none, .one .any⟩])
     (rs := fun γ => [⟨cvar gb_13 Zac x_16, none, (some 7), []⟩, ⟨zq34 gb_11 gb_13 Kind_1 From_2 To_3 ID_4 Topic_5 Past_6 Past_7 Seen_8 Hash_9 Reply_10, none, (some 11), [4, 7]⟩, ⟨cvar gb_14 (rW (PTR gb_11 0)) (), none, none, [0, 1, 7]⟩, ⟨cown (deo (γ 7 0)) (rI .i64) v18 0 (γ 7 1), (some 7), none, []⟩, ⟨cvar gb_13 Zac x_19, (some 7), none, []⟩, ⟨zq58 gb_11 gb_13 (deo (γ 7 0)) v18 (γ 7 1) Kind_1 From_2 To_3 ID_4 Topic_5 Past_6 Past_7 Seen_8 Hash_9 Reply_10, (some 11), none, []⟩])
     (afts := [[], [], [], [], [], [], [], [7, 8, 9, 10, 11], [], [], [], []]) (js := [0, 0, 0]) ZbT (.cons rfl (.cons rfl .nil)) (fun _ => rfl)
     (by
      refine dR 1 (fun γ ρ B hb hd => Zan.lk ⟨ρ, (cvar gb_14 (rW (PTR gb_11 0)) ()) :: B, _⟩ (ZaM (j := 0) lb tS86 (.tmp (hb 1 _ rfl)) rfl (Comp.self (rW (PTR gb_11 0)) ()))) <| dR 2 (fun γ ρ B hb hd => Zan.lk ⟨ρ, (cvar gb_14 (rW (PTR gb_11 0)) ()) :: B, _⟩ (ZaM (j := 0) lb tS86 (.tmp (hb 1 _ rfl)) rfl (Comp.self (rW (PTR gb_11 0)) ()))) <| dS 3 (fun γ ρ B hb hd => Zas lb (tl hd 1 10) (fun e v h => by subst h; rfl)) <| dS 4 (fun γ ρ B hb hd => Zaa (off := 0) lb ZbO (tl hd 2 11)) <| dR 5 (fun γ ρ B hb hd => Zan.lk ⟨ρ, (zq34 gb_11 gb_13 Kind_1 From_2 To_3 ID_4 Topic_5 Past_6 Past_7 Seen_8 Hash_9 Reply_10) :: B, _⟩ (ZaM (j := 0) lb tS87 (tl hd 3 12) rfl (Comp.trans (Comp.self (zq29 gb_13) (zq33 Kind_1 From_2 To_3 ID_4 Topic_5 Past_6 Past_7 Seen_8 Hash_9 Reply_10)) (Comp.at' (Comp.inF (Comp.self (rW (PTR gb_13 0)) ()) (lE rfl)) (by rfl : _ = 0)) (lE rfl)))) ?_
      refine db 6 2 <| dS 7 (fun γ ρ B hb hd => Zgq lb (.cons (.tmp (hb 1 _ rfl)) .nil)) <| ZaG.cons (j := 8) rfl (fun _ => rfl) (.runX (fun _ _ => rfl) (fun γ ρ B hb hd => ⟨.none, OpX.ghost (γ := Option Nat × Nat) (st' := fun q => setO ⟨ρ, (cown q.1 (rI .i64) v18 0 q.2) :: (cvar gb_13 Zac x_19) :: (cvar gb_14 (rW (PTR gb_11 0)) ()) :: (zq34 gb_11 gb_13 Kind_1 From_2 To_3 ID_4 Topic_5 Past_6 Past_7 Seen_8 Hash_9 Reply_10) :: B, _⟩ (some 16) (ov (HDR q.1 0 (List.length v18) q.2))) (fun q c => bif Nat.beq c 0 then eno q.1 else q.2) (Zak (js := [0, 1, 0]) ld Zn6 (Zg8 k v17 x_16 Kind_1 From_2 To_3 ID_4 Topic_5 Past_6 Past_7 Seen_8 Hash_9 Reply_10 gb_13 gb_14 gb_11 (v18, x_19) hv_18) .func (.cons (tl hd 4 13) (.cons (tl hd 5 14) (.cons (tl hd 6 15) .nil))) rfl) (fun q => by obtain ⟨q0, q1⟩ := q; cases q0 <;> exact Imp.pick (js := [0, 0, 1, 0]) rfl rfl)⟩) (fun _ _ => rfl) (fun _ _ => rfl)) ?_
      refine dS 9 (fun γ ρ B hb hd => Zas lb (tl hd 0 9) (fun e v h => by subst h; rfl)) <| dS 10 (fun γ ρ B hb hd => Zaa (off := 1) lb ZdF (tl hd 8 17)) <| dS 11 (fun γ ρ B hb hd => Zaa (off := 92) lb ZcE (tl hd 9 18)) <| dR 12 (fun γ ρ B hb hd => Zan.at ⟨ρ, (zq34 gb_11 gb_13 Kind_1 From_2 To_3 ID_4 Topic_5 Past_6 Past_7 Seen_8 Hash_9 Reply_10) :: B, _⟩ (setO ⟨ρ, (zq58 gb_11 gb_13 (deo (γ 7 0)) v18 (γ 7 1) Kind_1 From_2 To_3 ID_4 Topic_5 Past_6 Past_7 Seen_8 Hash_9 Reply_10) :: B, _⟩ _ _) (ZbD (j := 0) tS37 (tl hd 10 19) (tl hd 7 16) rfl ((UpdR.snd (UpdR.fst (UpdR.snd (UpdR.snd (UpdR.snd (UpdR.snd (UpdR.snd (UpdR.snd (UpdR.snd (UpdR.snd (UpdR.snd (UpdR.snd (UpdR.snd (UpdR.fst (UpdR.self (by rfl)))))))))))))))).at (by change (1 + (1 + (1 + (1 + (1 + (21 + (16 + (16 + (1 + (1 + (32 + (1 + 0)))))))))))) = ((0 + 1) + 92); omega)) rfl)) ?_
      exact ZaG.nil)
     (by decide +kernel) (fun _ => rfl) (fun _ => rfl) (fun _ => rfl) rfl
     (ρ' := fun γ => [(1, ov (PTR gb_14 0))])
     (X' := fun γ => [cvar gb_14 (rW (PTR gb_11 0)) (), cown (deo (γ 7 0)) (rI .i64) v18 0 (γ 7 1), cvar gb_13 Zac x_19, zq58 gb_11 gb_13 (deo (γ 7 0)) v18 (γ 7 1) Kind_1 From_2 To_3 ID_4 Topic_5 Past_6 Past_7 Seen_8 Hash_9 Reply_10])
     (fun γ ρ hb hd => (.cons (hb 1 _ rfl) .nil)) (fun _ => rfl) (fun γ => ?_)
 generalize (deo (γ 7 0)) = go_20
 generalize (γ 7 1) = gc_21
 clear γ
 refine JQ.at ⟨[(1, ov (PTR gb_14 0))], [cvar gb_14 (rW (PTR gb_11 0)) (), cown go_20 (rI .i64) v18 0 gc_21, cvar gb_13 Zac x_19, zq58 gb_11 gb_13 go_20 v18 gc_21 Kind_1 From_2 To_3 ID_4 Topic_5 Past_6 Past_7 Seen_8 Hash_9 Reply_10], []⟩ <| JQ.then <| jr <| jc (ZaM (j := 0) lb tS86 tR rfl (Comp.self (rW (PTR gb_11 0)) ())) ?_
 obtain ⟨⟨x_22, x_23⟩, hv_x_22, hm⟩ := Zay hm
 refine jx (Zak (js := [3, 2, 1]) ld cl93 (Zff k Kind_1 From_2 To_3 ID_4 Topic_5 Past_6 Past_7 Seen_8 Hash_9 Reply_10 x_19 v18 gb_11 gb_13 go_20 gc_21 (x_22, x_23) hv_x_22) .func (.cons tR .nil) rfl) (fun q => ?_)
 obtain ⟨go_24, gc_25⟩ := q
 refine jn <| jr <| jc (ZaM (j := 4) lb tS86 tR rfl (Comp.self (rW (PTR gb_11 0)) ())) ?_
 obtain ⟨⟨x_26, x_27, x_28⟩, hv_x_26, hm⟩ := Zay hm
 refine jx (Zak (js := [0, 0, 0, 0]) ld Zm7 (Zfi k Kind_1 From_2 To_3 ID_4 Topic_5 Past_6 Past_7 Seen_8 Hash_9 Reply_10 x_22 x_23 v18 gb_11 gb_13 go_24 gc_25 go_20 gc_21 (x_26, x_27, x_28) hv_x_26) .func (.cons tR .nil) rfl) (fun q => ?_)
 obtain ⟨go_29, gc_30⟩ := q
 refine jn ?_
 obtain ⟨⟨v31, x_32⟩, hv_31, hm⟩ := Zay hm
 obtain ⟨v33, hv_33, hm⟩ := ZaQ hm
 refine JC.anyF (base := [(1, ov (PTR gb_14 0))])
     (fs := fun γ => [⟨some 24, ov (PTR gb_11 0)⟩, ⟨some 25, ov (PTR gb_11 0)⟩, ⟨some 26, ov (PTR gb_11 0)⟩, ⟨some 27, ov (PTR gb_11 (0 + 0))⟩, ⟨some 28, ov (PTR gb_13 0)⟩, ⟨some 29, ov (S (rU UInt64) v31)⟩, ⟨some 30, ov (S rB v33)⟩, ⟨some 31, ov (PTR gb_11 0)⟩, ⟨some 32, ov (PTR gb_11 (0 + 1))⟩, ⟨some 33, ov (PTR gb_11 ((0 + 1) + 93))⟩, ⟨none, .one .any⟩])
     (rs := fun γ => [⟨zq62 gb_11 gb_13 go_24 x_23 gc_25 go_29 x_28 gc_30 go_20 v18 gc_21 Kind_1 From_2 To_3 ID_4 Topic_5 Past_6 Past_7 x_27 Hash_9 Reply_10, none, (some 10), [4]⟩, ⟨cvar gb_13 Zac x_26, none, (some 5), []⟩, ⟨cown go_24 Zaj x_23 0 gc_25, none, none, []⟩, ⟨cown go_29 Zad x_28 0 gc_30, none, none, []⟩, ⟨cown go_20 (rI .i64) v18 0 gc_21, none, none, []⟩, ⟨cvar gb_14 (rW (PTR gb_11 0)) (), none, none, [0, 1]⟩, ⟨cvar gb_13 Zac x_32, (some 5), none, []⟩, ⟨zq62 gb_11 gb_13 go_24 x_23 gc_25 go_29 x_28 gc_30 go_20 v18 gc_21 Kind_1 From_2 To_3 ID_4 Topic_5 Past_6 Past_7 x_27 Hash_9 v33, (some 10), none, []⟩])
     (afts := nn 11) (js := [0, 0, 0, 0, 0, 0]) ZbT (.cons rfl .nil) (fun _ => rfl)
     (by
      refine dR 1 (fun γ ρ B hb hd => Zan.lk ⟨ρ, (cvar gb_14 (rW (PTR gb_11 0)) ()) :: B, _⟩ (ZaM (j := 0) lb tS86 (.tmp (hb 1 _ rfl)) rfl (Comp.self (rW (PTR gb_11 0)) ()))) <| dR 2 (fun γ ρ B hb hd => Zan.lk ⟨ρ, (cvar gb_14 (rW (PTR gb_11 0)) ()) :: B, _⟩ (ZaM (j := 0) lb tS86 (.tmp (hb 1 _ rfl)) rfl (Comp.self (rW (PTR gb_11 0)) ()))) <| dS 3 (fun γ ρ B hb hd => Zas lb (tl hd 1 25) (fun e v h => by subst h; rfl)) <| dS 4 (fun γ ρ B hb hd => Zaa (off := 0) lb ZbO (tl hd 2 26)) <| dR 5 (fun γ ρ B hb hd => Zan.lk ⟨ρ, (zq62 gb_11 gb_13 go_24 x_23 gc_25 go_29 x_28 gc_30 go_20 v18 gc_21 Kind_1 From_2 To_3 ID_4 Topic_5 Past_6 Past_7 x_27 Hash_9 Reply_10) :: B, _⟩ (ZaM (j := 0) lb tS87 (tl hd 3 27) rfl (Comp.trans (Comp.self (zq61 gb_13 go_24 x_23 gc_25 go_29 x_28 gc_30 go_20 v18 gc_21) (zq33 Kind_1 From_2 To_3 ID_4 Topic_5 Past_6 Past_7 x_27 Hash_9 Reply_10)) (Comp.at' (Comp.inF (Comp.self (rW (PTR gb_13 0)) ()) (lE rfl)) (by rfl : _ = 0)) (lE rfl)))) ?_
      refine dR 6 (fun γ ρ B hb hd => Zan.at ⟨ρ, (cvar gb_13 Zac x_26) :: B, _⟩ (setO ⟨ρ, (cvar gb_13 Zac x_32) :: B, _⟩ _ _) ((Zak (js := [0]) ld cl53 (ZaD k (1 : Int) x_26 gb_13 (v31, x_32) hv_31) .func (.cons (tl hd 4 28) (.cons .cI .nil)) rfl).post (fun _ => Imp.refl))) <| dS 7 (fun γ ρ B hb hd => ZbH lb (tl hd 5 29) (HasO.cU (x := (0 : UInt64)) rfl (by decide)) (cs hv_33)) <| dS 8 (fun γ ρ B hb hd => Zas lb (tl hd 0 24) (fun e v h => by subst h; rfl)) <| dS 9 (fun γ ρ B hb hd => Zaa (off := 1) lb ZdF (tl hd 7 31)) <| dS 10 (fun γ ρ B hb hd => Zaa (off := 93) lb Zgn (tl hd 8 32)) ?_
      refine dR 11 (fun γ ρ B hb hd => Zan.at ⟨ρ, (zq62 gb_11 gb_13 go_24 x_23 gc_25 go_29 x_28 gc_30 go_20 v18 gc_21 Kind_1 From_2 To_3 ID_4 Topic_5 Past_6 Past_7 x_27 Hash_9 Reply_10) :: B, _⟩ (setO ⟨ρ, (zq62 gb_11 gb_13 go_24 x_23 gc_25 go_29 x_28 gc_30 go_20 v18 gc_21 Kind_1 From_2 To_3 ID_4 Topic_5 Past_6 Past_7 x_27 Hash_9 v33) :: B, _⟩ _ _) (ZbX (j := 0) tS4 (tl hd 9 33) (tl hd 6 30) rfl rfl ((UpdR.snd (UpdR.fst (UpdR.snd (UpdR.snd (UpdR.snd (UpdR.snd (UpdR.snd (UpdR.snd (UpdR.snd (UpdR.snd (UpdR.snd (UpdR.snd (UpdR.snd (UpdR.snd (UpdR.fst (UpdR.self (by rfl))))))))))))))))).at (by change (1 + (1 + (1 + (1 + (1 + (21 + (16 + (16 + (1 + (1 + (32 + (1 + (1 + 0))))))))))))) = ((0 + 1) + 93); omega)) rfl)) ?_
      exact ZaG.nil)
     (by decide +kernel) (fun _ => rfl) (fun _ => rfl) (fun _ => rfl) rfl
     (ρ' := fun γ => [])
     (X' := fun γ => [cown go_24 Zaj x_23 0 gc_25, cown go_29 Zad x_28 0 gc_30, cown go_20 (rI .i64) v18 0 gc_21, cvar gb_14 (rW (PTR gb_11 0)) (), cvar gb_13 Zac x_32, zq62 gb_11 gb_13 go_24 x_23 gc_25 go_29 x_28 gc_30 go_20 v18 gc_21 Kind_1 From_2 To_3 ID_4 Topic_5 Past_6 Past_7 x_27 Hash_9 v33])
     (fun γ ρ hb hd => .nil) (fun _ => rfl) (fun γ => ?_)
 refine JQ.at ⟨[], [cown go_24 Zaj x_23 0 gc_25, cown go_29 Zad x_28 0 gc_30, cown go_20 (rI .i64) v18 0 gc_21, cvar gb_14 (rW (PTR gb_11 0)) (), cvar gb_13 Zac x_32, zq62 gb_11 gb_13 go_24 x_23 gc_25 go_29 x_28 gc_30 go_20 v18 gc_21 Kind_1 From_2 To_3 ID_4 Topic_5 Past_6 Past_7 x_27 Hash_9 v33], []⟩ ?_
 obtain rfl := so hm
 exact JQ.done (js := [5, 4, 0, 0, 0]) (ss := []) (go_24, gc_25, go_29, gc_30, go_20, gc_21) (.inr rfl) (.nil rfl) rfl .nil rfl rfl rfl

end Go.Proofs.YtklnihlchhhhlaaGreat
