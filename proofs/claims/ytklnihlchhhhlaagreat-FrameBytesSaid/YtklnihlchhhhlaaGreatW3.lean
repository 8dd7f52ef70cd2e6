/- Walks. -/
import Derived.Test.YtklnihlchhhhlaaGreatT
import Derived.Test.YtklnihlchhhhlaaGreatW1
namespace Go.Proofs.YtklnihlchhhhlaaGreat
open Go Fw
set_option linter.unusedVariables false
set_option maxRecDepth 100000
set_option maxHeartbeats 4000000

theorem sim_frame_forms (k : Nat) (r : (List (Int × frame_form))) (hm : frame_forms k = some r) : Sim Tryz.prog 54 [] [] (γ := Option Nat) (fun q => [cmap q (S (rI .i64)) (A r_frame_form) (some r)]) (fun q => .one (.val (MPV q))) := by
 unfold frame_forms at hm
 refine Sim.of Tryz.func54 rfl rfl (lE rfl) (fun e0 w0 => ?_)
 refine JC.at ⟨[], [], []⟩ <| jr <| jc (op_assign lb (HasO.const (p := MPV none) fun _ => rfl)) <| jn <| jr <| jx (op_makeMap lb (S (rI .i64)) (A r_frame_form)) fun gb_1 => jc (op_build lb tZ95 zs95 tp95 (.S (off := 0) (s := rW (CLO 92 [])) (u := ()) rfl (HasO.wk (q := S (rW (CLO 92 [])) ()) .func wkV) rfl ((UpdR.fst (UpdR.self (by rfl))).at (by rfl)) (.S (off := 1) (s := rW (CLO 93 [])) (u := ()) rfl (HasO.wk (q := S (rW (CLO 93 [])) ()) .func wkV) rfl ((UpdR.snd (UpdR.fst (UpdR.self (by rfl)))).at (by rfl)) .nil)) rfl) <| lI hm fun x_2 hv_x_2 hm => jc (op_insert (j := 0) tu97 ky22 rfl (.tmp rfl) .cI (HasO.wk (q := A r_frame_form (frame_form.mk (some 92 : Option Nat) (some 93 : Option Nat))) (.tmp rfl) (wkAK (Wk.st (Wk.pair Wk.clo (Wk.pair Wk.clo Wk.refl))))) (congrArg (fun z => some (some z)) hv_x_2)) <| jc (op_build lb tZ95 zs95 tp95 (.S (off := 0) (s := rW (CLO 94 [])) (u := ()) rfl (HasO.wk (q := S (rW (CLO 94 [])) ()) .func wkV) rfl ((UpdR.fst (UpdR.self (by rfl))).at (by rfl)) (.S (off := 1) (s := rW (CLO 95 [])) (u := ()) rfl (HasO.wk (q := S (rW (CLO 95 [])) ()) .func wkV) rfl ((UpdR.snd (UpdR.fst (UpdR.self (by rfl)))).at (by rfl)) .nil)) rfl) <| lI hm fun x_3 hv_x_3 hm => jc (op_insert (j := 0) tu97 ky22 rfl (.tmp rfl) .cI (HasO.wk (q := A r_frame_form (frame_form.mk (some 94 : Option Nat) (some 95 : Option Nat))) (.tmp rfl) (wkAK (Wk.st (Wk.pair Wk.clo (Wk.pair Wk.clo Wk.refl))))) (congrArg (fun z => some (some z)) hv_x_3)) <| JL.sub ⟨[(0, ov (MPV none)), (1, ov (MPV (some gb_1)))], [cmap (some gb_1) (S (rI .i64)) (A r_frame_form) (some x_3)], []⟩ (.cons rfl (.cons rfl .nil)) rfl rfl ?_
 refine jc (op_build lb tZ95 zs95 tp95 (.S (off := 0) (s := rW (CLO 96 [])) (u := ()) rfl (HasO.wk (q := S (rW (CLO 96 [])) ()) .func wkV) rfl ((UpdR.fst (UpdR.self (by rfl))).at (by rfl)) (.S (off := 1) (s := rW (CLO 97 [])) (u := ()) rfl (HasO.wk (q := S (rW (CLO 97 [])) ()) .func wkV) rfl ((UpdR.snd (UpdR.fst (UpdR.self (by rfl)))).at (by rfl)) .nil)) rfl) <| lI hm fun x_4 hv_x_4 hm => jc (op_insert (j := 0) tu97 ky22 rfl (.tmp rfl) .cI (HasO.wk (q := A r_frame_form (frame_form.mk (some 96 : Option Nat) (some 97 : Option Nat))) (.tmp rfl) (wkAK (Wk.st (Wk.pair Wk.clo (Wk.pair Wk.clo Wk.refl))))) (congrArg (fun z => some (some z)) hv_x_4)) <| jc (op_build lb tZ95 zs95 tp95 (.S (off := 0) (s := rW (CLO 98 [])) (u := ()) rfl (HasO.wk (q := S (rW (CLO 98 [])) ()) .func wkV) rfl ((UpdR.fst (UpdR.self (by rfl))).at (by rfl)) (.S (off := 1) (s := rW (CLO 99 [])) (u := ()) rfl (HasO.wk (q := S (rW (CLO 99 [])) ()) .func wkV) rfl ((UpdR.snd (UpdR.fst (UpdR.self (by rfl)))).at (by rfl)) .nil)) rfl) <| lI hm fun x_5 hv_x_5 hm => jc (op_insert (j := 0) tu97 ky22 rfl (.tmp rfl) .cI (HasO.wk (q := A r_frame_form (frame_form.mk (some 98 : Option Nat) (some 99 : Option Nat))) (.tmp rfl) (wkAK (Wk.st (Wk.pair Wk.clo (Wk.pair Wk.clo Wk.refl))))) (congrArg (fun z => some (some z)) hv_x_5)) <| jc (op_build lb tZ95 zs95 tp95 (.S (off := 0) (s := rW (CLO 100 [])) (u := ()) rfl (HasO.wk (q := S (rW (CLO 100 [])) ()) .func wkV) rfl ((UpdR.fst (UpdR.self (by rfl))).at (by rfl)) (.S (off := 1) (s := rW (CLO 101 [])) (u := ()) rfl (HasO.wk (q := S (rW (CLO 101 [])) ()) .func wkV) rfl ((UpdR.snd (UpdR.fst (UpdR.self (by rfl)))).at (by rfl)) .nil)) rfl) ?_
 obtain ⟨x_6, hv_x_6, hm⟩ := lt1_inv hm
 refine jc (op_insert (j := 0) tu97 ky22 rfl (.tmp rfl) .cI (HasO.wk (q := A r_frame_form (frame_form.mk (some 100 : Option Nat) (some 101 : Option Nat))) (.tmp rfl) (wkAK (Wk.st (Wk.pair Wk.clo (Wk.pair Wk.clo Wk.refl))))) (congrArg (fun z => some (some z)) hv_x_6)) <| JL.sub ⟨[(0, ov (MPV none)), (1, ov (MPV (some gb_1)))], [cmap (some gb_1) (S (rI .i64)) (A r_frame_form) (some x_6)], []⟩ (.cons rfl (.cons rfl .nil)) rfl rfl <| jc (op_build lb tZ95 zs95 tp95 (.S (off := 0) (s := rW (CLO 102 [])) (u := ()) rfl (HasO.wk (q := S (rW (CLO 102 [])) ()) .func wkV) rfl ((UpdR.fst (UpdR.self (by rfl))).at (by rfl)) (.S (off := 1) (s := rW (CLO 103 [])) (u := ()) rfl (HasO.wk (q := S (rW (CLO 103 [])) ()) .func wkV) rfl ((UpdR.snd (UpdR.fst (UpdR.self (by rfl)))).at (by rfl)) .nil)) rfl) <| lI hm fun x_7 hv_x_7 hm => jc (op_insert (j := 0) tu97 ky22 rfl (.tmp rfl) .cI (HasO.wk (q := A r_frame_form (frame_form.mk (some 102 : Option Nat) (some 103 : Option Nat))) (.tmp rfl) (wkAK (Wk.st (Wk.pair Wk.clo (Wk.pair Wk.clo Wk.refl))))) (congrArg (fun z => some (some z)) hv_x_7)) <| jc (op_build lb tZ95 zs95 tp95 (.S (off := 0) (s := rW (CLO 104 [])) (u := ()) rfl (HasO.wk (q := S (rW (CLO 104 [])) ()) .func wkV) rfl ((UpdR.fst (UpdR.self (by rfl))).at (by rfl)) (.S (off := 1) (s := rW (CLO 105 [])) (u := ()) rfl (HasO.wk (q := S (rW (CLO 105 [])) ()) .func wkV) rfl ((UpdR.snd (UpdR.fst (UpdR.self (by rfl)))).at (by rfl)) .nil)) rfl) <| lI hm fun x_8 hv_x_8 hm => jc (op_insert (j := 0) tu97 ky22 rfl (.tmp rfl) .cI (HasO.wk (q := A r_frame_form (frame_form.mk (some 104 : Option Nat) (some 105 : Option Nat))) (.tmp rfl) (wkAK (Wk.st (Wk.pair Wk.clo (Wk.pair Wk.clo Wk.refl))))) (congrArg (fun z => some (some z)) hv_x_8)) <| jmv rfl rfl <| jc (op_assign lb (.tmp rfl)) <| jn <| JC.ret ?_
 obtain rfl := so hm
 exact JQ.done (js := [0]) (ss := [.val (MPV (some gb_1))]) (some gb_1) (.inl rfl) (.nil rfl) rfl (.cons (.tmp rfl) .nil) rfl rfl rfl

theorem sim_wire_Put (k : Nat) (n_1 : UInt64) (size_2 : Int) (r : (List UInt8) × Int) (hm : wire_Put k n_1 size_2 = some r) : Sim Tryz.prog 79 [S (rU UInt64) n_1, S (rI .i64) size_2] [] (γ := Option Nat × Nat) (fun q => [cown q.1 (rU UInt8) r.1 0 q.2]) (fun q => .tup [.val (HDR q.1 0 (List.length r.1) q.2), .val (S (rI .i64) r.2)]) := by
 unfold wire_Put at hm
 refine Sim.of Tryz.func79 rfl rfl (lE rfl) (fun e0 w0 => ?_)
 refine JC.at ⟨[(0, ov (S (rU UInt64) n_1)), (1, ov (S (rI .i64) size_2))], [], []⟩ <| jr <| jc (op_assign lb HasO.nilH) <| jc (op_assign lb .cI) <| jn <| JC.seq <| bI hm fun x_12 hx1 hq1 => JC.seqJ (γ := Unit) (stj := fun _ => ⟨[(0, ov (S (rU UInt64) n_1)), (1, ov (S (rI .i64) size_2)), (24, ov (S rB x_12))], [], []⟩) (fun _ => ?_) ?_
 · refine jif (.tmp rfl) hq1 (fun hc16 hq1 => ?_) (fun hc16 hq1 => ?_)
   · refine jr <| jc (op_assign lb HasO.nilH) <| jc (op_assign lb .cI) <| jn <| JC.ret <| JQ.outR ?_
     obtain rfl := so hq1
     exact JQ.pre (Imp.nilown (rU UInt8)) <| JQ.done (js := [0]) (ss := [.val (HDR none 0 (List.length ([] : (List UInt8))) (0)), .val (S (rI .i64) (2 : Int))]) (none, 0) (.inl rfl) (.nil rfl) rfl (.cons (.tmp rfl) (.cons (.tmp rfl) .nil)) rfl rfl rfl
   refine JC.skip <| JQ.then <| jr <| jc (op_assign lb HasO.nilH) <| jn <| bI hq1 fun b_27 hx17 hq17 => JC.seqJ (γ := Option Nat × Nat) (stj := fun q => ⟨[(6, ov (HDR q.1 0 (List.length b_27) q.2))], [cown q.1 (rU UInt8) b_27 0 q.2], []⟩) (fun q => ?_) ?_
   · obtain ⟨go_28, gc_29⟩ := q
     refine JC.at ⟨[(6, ov (HDR go_28 0 (List.length b_27) gc_29))], [cown go_28 (rU UInt8) b_27 0 gc_29], []⟩ <| jr <| jmv rfl rfl <| jc (op_assign lb (.tmp rfl)) <| jc (op_assign lb .cI) <| jn <| JC.ret ?_
     obtain rfl := so hq17
     exact JQ.done (js := [0]) (ss := [.val (HDR go_28 0 (List.length b_27) gc_29), .val (S (rI .i64) (0 : Int))]) (go_28, gc_29) (.inl rfl) (.nil rfl) rfl (.cons (.tmp rfl) (.cons (.tmp rfl) .nil)) rfl rfl rfl
   refine jr <| jmv rfl rfl <| jc (op_move lb .cI) <| jn <| JC.block <| JC.pre (Imp.nilown (rU UInt8)) <| JC.pre ?_ (JC.loop (γ := Option Nat × Nat) (stf := fun s q => ⟨[(0, ov (S (rU UInt64) n_1)), (1, ov (S (rI .i64) size_2)), (6, ov (HDR q.1 0 (List.length s.1) q.2)), (25, ov (S (rI .i64) size_2)), (26, ov (S (rI .i64) s.2))], [cown q.1 (rU UInt8) s.1 0 q.2], []⟩) (q := (none, 0)) hx17 ?_)
   · exact (Imp.norm (js := [0]) rfl (.cons rfl (.cons rfl (.cons rfl (.cons rfl (.cons rfl .nil))))))
   intro s q x hx hr
   obtain ⟨b_13, x_14⟩ := s
   obtain ⟨go_15, gc_16⟩ := q
   change wire_Put.b1 k size_2 n_1 b_13 x_14 = some x at hx
   unfold wire_Put.b1 at hx
   refine JC.at ⟨[(0, ov (S (rU UInt64) n_1)), (1, ov (S (rI .i64) size_2)), (6, ov (HDR go_15 0 (List.length b_13) gc_16)), (25, ov (S (rI .i64) size_2)), (26, ov (S (rI .i64) x_14))], [cown go_15 (rU UInt8) b_13 0 gc_16], []⟩ <| jr <| lI hx fun v_17 hv_17 hx => jc (op_cmpI lb (.tmp rfl) (.tmp rfl) (cs hv_17)) <| jn <| JC.seq <| jif (.tmp rfl) hx (fun hc19 hx => ?_) (fun hc19 hx => ?_)
   · refine JC.skip <| JQ.then <| JC.seq <| JC.block <| jr <| jmv rfl rfl <| jc (op_assign lb (.tmp rfl)) <| jn <| JC.region <| jmv rfl rfl <| jmv rfl rfl <| jmv rfl rfl <| lI hx fun v_18 hv_18 hx => jc (op_arI lb (.tmp rfl) .cI (cs hv_18)) <| jmv rfl rfl <| lI hx fun v_19 hv_19 hx => jc (op_arI lb (.tmp rfl) (.tmp rfl) (cs hv_19)) ?_
     obtain ⟨v_20, hv_20, hx⟩ := lt1_inv hx
     refine jc (op_arI lb .cI (.tmp rfl) (cs hv_20)) <| bI hx fun v_21 hv_21 hx => jc (op_shrUI lb (.tmp rfl) (.tmp rfl) hv_21) <| lI hx fun v_22 hv_22 hx => jc (op_convUU lb tu24 tu5 (.tmp rfl) hv_22) <| JL.sub ⟨[(0, ov (S (rU UInt64) n_1)), (1, ov (S (rI .i64) size_2)), (6, ov (HDR go_15 0 (List.length b_13) gc_16)), (25, ov (S (rI .i64) size_2)), (26, ov (S (rI .i64) x_14)), (29, ov (HDR go_15 0 (List.length b_13) gc_16)), (37, ov (S (rU UInt8) v_22))], [cown go_15 (rU UInt8) b_13 0 gc_16], []⟩ (.cons rfl (.cons rfl (.cons rfl (.cons rfl (.cons rfl (.cons rfl (.cons rfl .nil))))))) rfl rfl <| jc (op_buildF (r := (rU UInt8)) lb tu27 tz5 tZ5 rfl (lE rfl) (.S rfl (.tmp rfl) .nil) rfl) <| bI hx fun b_23 hv_b_23 hx => jx (op_appendL (j := 0) lb tu27 tu27 rfl tB5 rfl (Nat.lt_of_lt_of_le Nat.zero_lt_one (lE rfl)) (Nat.lt_of_lt_of_le Nat.zero_lt_one (lE rfl))  rfl (.tmp rfl) (.tmp rfl) hv_b_23) (fun q => ?_)
     obtain ⟨go_24, gc_25⟩ := q
     refine jc (op_assign lb (.tmp rfl)) <| JL.nil <| JQ.outNB <| JQ.then <| JC.region <| lI hx fun v_26 hv_26 hx => jc (op_arI lb (.tmp rfl) .cI (cs hv_26)) <| jmv rfl rfl <| JL.nil ?_
     try obtain rfl := so hx
     exact JQ.next (go_24, gc_25) rfl (Imp.norm (js := [0]) rfl (.cons rfl (.cons rfl (.cons rfl (.cons rfl (.cons rfl .nil))))))
   refine JC.exit <| JQ.outX ?_
   try obtain rfl := so hx
   have ht := hr _ rfl
   have hq18 := cs ht
   clear hr ht
   refine JQ.outX <| JQ.here ?_
   try obtain rfl := so hq18
   exact JQ.join (go_15, gc_16) (Imp.norm (js := [0]) rfl (.cons rfl .nil))
 refine JC.region <| jmv rfl rfl <| lI hx1 fun v_3 hv_3 hx1 => jc (op_cmpI lb (.tmp rfl) .cI (cs hv_3)) <| jmv rfl rfl <| jF (ov (S (rI .i64) size_2)) rfl rfl rfl rfl (fun hq_2 => op_move lb (.tmp rfl)) <| lI hx1 fun v_4 hv_4 hx1 => jF (ov (S rB v_4)) rfl rfl rfl rfl (fun hq_3 => op_cmpI lb (HasO.cnd (.tmp rfl) (notT (notF hq_3))) .cI (cs hv_4)) <| lI hx1 fun v_5 hv_5 hx1 => jc (op_pickCS lb (.tmp rfl) (fun hb4 => .cB) (fun hb4 => (HasO.cnd (.tmp rfl) (notT hb4))) hv_5) <| jmv rfl rfl <| jF (ov (S (rI .i64) size_2)) rfl rfl rfl rfl (fun hq_5 => op_move lb (.tmp rfl)) ?_
 refine lI hx1 fun v_6 hv_6 hx1 => jF (ov (S rB v_6)) rfl rfl rfl rfl (fun hq_6 => op_cmpI lb (HasO.cnd (.tmp rfl) (notT (notF hq_6))) .cI (cs hv_6)) <| jF (ov (S rB v_6)) rfl rfl rfl rfl (fun hq_7 => op_move lb (HasO.cnd (.tmp rfl) (notT (notF hq_7)))) <| JL.sub ⟨[(0, ov (S (rU UInt64) n_1)), (1, ov (S (rI .i64) size_2)), (14, ov (S rB v_5)), (17, bif (!v_5) then ov (S rB v_6) else .one .und)], [], []⟩ (.cons rfl (.cons rfl (.cons rfl (.cons rfl .nil)))) rfl rfl <| JL.cnd (sv := ov (S (rU UInt64) n_1)) (Guard.cT (q := (!v_5)) (ltB rfl) rfl rfl) rfl (ltB rfl) (fun hq_8 => op_move lb (.tmp rfl)) <| JL.cnd (sv := ov (S (rI .i64) size_2)) (Guard.cT (q := (!v_5)) (ltB rfl) rfl rfl) rfl (ltB rfl) (fun hq_9 => op_move lb (.tmp rfl)) <| lI hx1 fun v_7 hv_7 hx1 => JL.cnd (sv := ov (S (rI .i64) v_7)) (Guard.cT (q := (!v_5)) (ltB rfl) rfl rfl) rfl (ltB rfl) (fun hq_10 => op_arI lb .cI (HasO.cnd (.tmp rfl) (andI (notT (notF (andL hq_10))) (andR hq_10))) (cs hv_7)) ?_
 obtain ⟨v_8, hv_8, hx1⟩ := bnd_inv hx1
 refine JL.cnd (sv := ov (S (rU UInt64) v_8)) (Guard.cT (q := (!v_5)) (ltB rfl) rfl rfl) rfl (ltB rfl) (fun hq_11 => op_shrUI lb (HasO.cnd (.tmp rfl) (andI (notT (notF (andL hq_11))) (andR hq_11))) (HasO.cnd (.tmp rfl) (andI (notT (notF (andL hq_11))) (andR hq_11))) (ifT hv_8 hq_11)) <| lI hx1 fun v_9 hv_9 hx1 => JL.cnd (sv := ov (S rB v_9)) (Guard.cT (q := (!v_5)) (ltB rfl) rfl rfl) rfl (ltB rfl) (fun hq_12 => op_cmpU lb (HasO.cnd (.tmp rfl) (andI (notT (notF (andL hq_12))) (andR hq_12))) (HasO.cU (x := (0 : UInt64)) rfl (by decide)) (cs hv_9)) <| lI hx1 fun v_10 hv_10 hx1 => jF (ov (S rB v_10)) rfl rfl rfl rfl (fun hq_13 => op_pickCS lb (HasO.cnd (.tmp rfl) (notT (notF hq_13))) (fun hb14 => (HasO.cnd (.tmp rfl) (andI (notT (notF hq_13)) hb14))) (fun hb14 => .cB) hv_10) <| lI hx1 fun v_11 hv_11 hx1 => jc (op_pickCS lb (.tmp rfl) (fun hb15 => .cB) (fun hb15 => (HasO.cnd (.tmp rfl) (notT hb15))) hv_11) <| JL.nil ?_
 try obtain rfl := so hx1
 exact JQ.join () (Imp.norm (js := []) rfl (.cons rfl (.cons rfl (.cons rfl .nil))))

theorem sim_frame_writer_put'2 (k : Nat) (b_1 : (List UInt8)) (v_2 : Int) (x_4 : (List UInt8)) (gb_3 : Nat) (go_5 : Option Nat) (gc_6 : Nat) (r : (List UInt8)) (hm : frame_writer_put'2 k b_1 v_2 x_4 = some r) : Sim Tryz.prog 78 [PTR gb_3 0, S (rL (rU UInt8)) b_1, S (rI .i64) v_2] [cvar gb_3 (zq21 go_5 x_4 gc_6) ((), ()), cown go_5 (rU UInt8) x_4 0 gc_6] (γ := Option Nat × Nat) (fun q => [cvar gb_3 (rP (rW (HDR q.1 0 (List.length r) q.2)) r0) ((), ()), cown q.1 (rU UInt8) r 0 q.2]) (fun q => .tup []) := by
 unfold frame_writer_put'2 at hm
 refine Sim.of Tryz.func78 rfl rfl (lE rfl) (fun e0 w0 => ?_)
 refine JC.at ⟨[(0, ov (PTR gb_3 0)), (1, ov (S (rL (rU UInt8)) b_1)), (2, ov (S (rI .i64) v_2))], [cvar gb_3 (zq21 go_5 x_4 gc_6) ((), ()), cown go_5 (rU UInt8) x_4 0 gc_6], []⟩ <| JC.region <| jmv rfl rfl <| jmv rfl rfl <| jc (op_nilCheck lb (.tmp rfl) (fun e v h => by subst h; rfl)) <| jc (op_fieldAddr (off := 0) lb tf119_0 (.tmp rfl)) <| jc (op_loadW (j := 0) lb tS27 (.tmp rfl) rfl (Comp.trans (Comp.self (zq21 go_5 x_4 gc_6) ((), ())) (Comp.at' (Comp.inF (Comp.self (rW (HDR go_5 0 (List.length x_4) gc_6)) ()) (lE rfl)) (by rfl : _ = 0)) (lE rfl))) <| jmv rfl rfl <| bI hm fun x_7 hv_x_7 hm => jx (op_appendL (j := 1) lb tu27 tu27 rfl tB5 rfl (Nat.lt_of_lt_of_le Nat.zero_lt_one (lE rfl)) (Nat.lt_of_lt_of_le Nat.zero_lt_one (lE rfl))  rfl (.tmp rfl) (.tmp rfl) hv_x_7) (fun q => ?_)
 obtain ⟨go_8, gc_9⟩ := q
 refine jc (op_nilCheck lb (.tmp rfl) (fun e v h => by subst h; rfl)) <| jc (op_fieldAddr (off := 0) lb tf119_0 (.tmp rfl)) <| jc (op_storeW (j := 0) tS27 (.tmp rfl) (.tmp rfl) rfl ((UpdR.fst (UpdR.self (by rfl))).at (by change 0 = (0 + 0); omega)) rfl) <| JL.sub ⟨[], [cvar gb_3 (zq21 go_8 x_7 gc_9) ((), ()), cown go_8 (rU UInt8) x_7 0 gc_9], []⟩ .nil rfl rfl <| JL.nil ?_
 obtain rfl := so hm
 exact JQ.done (js := [0, 0]) (ss := []) (go_8, gc_9) (.inr rfl) (.nil rfl) rfl .nil rfl rfl rfl

theorem sim_wire_Dot (k : Nat) (d_1 : api_Dot) (r : (List UInt8) × Int) (hm : wire_Dot k d_1 = some r) : Sim Tryz.prog 112 [A r_api_Dot d_1] [] (γ := Option Nat × Nat) (fun q => [cown q.1 (rU UInt8) r.1 0 q.2]) (fun q => .tup [.val (HDR q.1 0 (List.length r.1) q.2), .val (S (rI .i64) r.2)]) := by
 unfold wire_Dot at hm
 refine Sim.of Tryz.func112 rfl rfl (lE rfl) (fun e0 w0 => ?_)
 refine JC.at ⟨[(0, ov (A r_api_Dot d_1))], [], []⟩ <| jr <| jx (op_boxA lb (.tmp rfl)) fun gb_2 => jc (op_assign lb HasO.nilH) <| jc (op_assign lb .cI) <| jn <| JC.seq <| bI hm fun x_6 hx1 hq1 => JC.seqJ (γ := Unit) (stj := fun _ => ⟨[(1, ov (PTR gb_2 0)), (13, ov (S rB x_6))], [cvar gb_2 r_api_Dot d_1], []⟩) (fun _ => ?_) ?_
 · refine jif (.tmp rfl) hq1 (fun hc6 hq1 => ?_) (fun hc6 hq1 => ?_)
   · refine jr <| jc (op_assign lb HasO.nilH) <| jc (op_assign lb .cI) <| jn <| JC.ret <| JQ.outR ?_
     obtain rfl := so hq1
     exact JQ.pre (Imp.nilown (rU UInt8)) <| JQ.done (js := [1]) (ss := [.val (HDR none 0 (List.length ([] : (List UInt8))) (0)), .val (S (rI .i64) (2 : Int))]) (none, 0) (.inl rfl) (.nil rfl) rfl (.cons (.tmp rfl) (.cons (.tmp rfl) .nil)) rfl rfl rfl
   refine JC.skip <| JQ.then <| jr <| jc (op_fieldAddr (off := 1) lb tf26_1 (.tmp rfl)) <| jc (op_loadS (j := 0) lb tS24 (.tmp rfl) rfl (cT (comp_api_Dot_Count d_1) rfl) rfl rfl) ?_
   obtain ⟨⟨v_7, v_8⟩, hv_7, hq1⟩ := bnd_inv hq1
   refine jx (op_call (js := []) ld cl79 (sim_wire_Put k d_1.Count (8 : Int) (v_7, v_8) hv_7) .func (.cons (.tmp rfl) (.cons .cI .nil)) rfl) (fun q => ?_)
   obtain ⟨go_9, gc_10⟩ := q
   refine jmv rfl rfl <| jc (op_extract (i := 0) lb (.tmp rfl) rfl) <| jc (op_extract (i := 1) lb (.tmp rfl) rfl) <| jc (op_assign lb (.tmp rfl)) <| jc (op_assign lb (.tmp rfl)) <| jn <| jr <| jc (op_fieldAddr (off := 0) lb tf26_0 (.tmp rfl)) <| jc (op_loadS (j := 1) lb tS3 (.tmp rfl) rfl (cT (comp_api_Dot_Region d_1) rfl) rfl rfl) <| JL.nrm ⟨[(4, ov (HDR go_9 0 (List.length v_7) gc_10)), (21, ov (S (rI .i64) d_1.Region))], [cown go_9 (rU UInt8) v_7 0 gc_10], []⟩ [0] rfl (.cons rfl (.cons rfl .nil)) rfl <| lI hq1 fun v_11 hv_11 hq1 => jc (op_convIU lb tu3 tu5 (.tmp rfl) hv_11) <| jx (op_buildO (r := (rU UInt8)) lb tu27 tz5 tZ5 rfl (lE rfl) (.S rfl (.tmp rfl) .nil) rfl) fun gb_12 => jmv rfl rfl <| bI hq1 fun x_13 hv_x_13 hq1 => jx (op_appendO (j := 1) (j' := 0) lb tu27 tu27 rfl tB5 rfl (Nat.lt_of_lt_of_le Nat.zero_lt_one (lE rfl)) (Nat.lt_of_lt_of_le Nat.zero_lt_one (lE rfl))  rfl (.tmp rfl) rfl (.tmp rfl) hv_x_13) (fun q => ?_)
   obtain ⟨go_14, gc_15⟩ := q
   refine jc (op_assign lb (.tmp rfl)) <| jc (op_assign lb .cI) <| jn <| JC.ret ?_
   obtain rfl := so hq1
   exact JQ.done (js := [1]) (ss := [.val (HDR go_14 0 (List.length x_13) gc_15), .val (S (rI .i64) (0 : Int))]) (go_14, gc_15) (.inl rfl) (.nil rfl) rfl (.cons (.tmp rfl) (.cons (.tmp rfl) .nil)) rfl rfl rfl
 refine JC.region <| jc (op_fieldAddr (off := 0) lb tf26_0 (.tmp rfl)) <| jc (op_loadS (j := 0) lb tS3 (.tmp rfl) rfl (cT (comp_api_Dot_Region d_1) rfl) rfl rfl) <| lI hx1 fun v_3 hv_3 hx1 => jc (op_cmpI lb (.tmp rfl) .cI (cs hv_3)) <| jmv rfl rfl <| jF (ov (PTR gb_2 (0 + 0))) rfl rfl rfl rfl (fun hq_2 => op_fieldAddr (off := 0) lb tf26_0 (.tmp rfl)) <| jF (ov (S (rI .i64) d_1.Region)) rfl rfl rfl rfl (fun hq_3 => op_loadS (j := 0) lb tS3 (HasO.cnd (.tmp rfl) (notT (notF hq_3))) rfl (cT (comp_api_Dot_Region d_1) rfl) rfl rfl) <| lI hx1 fun v_4 hv_4 hx1 => jF (ov (S rB v_4)) rfl rfl rfl rfl (fun hq_4 => op_cmpI lb (HasO.cnd (.tmp rfl) (notT (notF hq_4))) .cI (cs hv_4)) <| JL.sub ⟨[(1, ov (PTR gb_2 0)), (9, ov (S rB v_3)), (12, bif (!v_3) then ov (S rB v_4) else .one .und)], [cvar gb_2 r_api_Dot d_1], []⟩ (.cons rfl (.cons rfl (.cons rfl .nil))) rfl rfl ?_
 obtain ⟨v_5, hv_5, hx1⟩ := lt1_inv hx1
 refine jc (op_pickCS lb (.tmp rfl) (fun hb5 => .cB) (fun hb5 => (HasO.cnd (.tmp rfl) (notT hb5))) hv_5) <| JL.nil ?_
 try obtain rfl := so hx1
 exact JQ.join () (Imp.norm (js := [0]) rfl (.cons rfl (.cons rfl .nil)))

theorem sim_frame_writer_flag (k : Nat) (is_1 : Bool) (x_3 : (List UInt8)) (gb_2 : Nat) (go_4 : Option Nat) (gc_5 : Nat) (r : (List UInt8)) (hm : frame_writer_flag k is_1 x_3 = some r) : Sim Tryz.prog 113 [PTR gb_2 0, S rB is_1] [cvar gb_2 (zq21 go_4 x_3 gc_5) ((), ()), cown go_4 (rU UInt8) x_3 0 gc_5] (γ := Option Nat × Nat) (fun q => [cvar gb_2 (rP (rW (HDR q.1 0 (List.length r) q.2)) r0) ((), ()), cown q.1 (rU UInt8) r 0 q.2]) (fun q => .tup []) := by
 unfold frame_writer_flag at hm
 refine Sim.of Tryz.func113 rfl rfl (lE rfl) (fun e0 w0 => ?_)
 refine JC.at ⟨[(0, ov (PTR gb_2 0)), (1, ov (S rB is_1))], [cvar gb_2 (zq21 go_4 x_3 gc_5) ((), ()), cown go_4 (rU UInt8) x_3 0 gc_5], []⟩ <| jr <| jc (op_assign lb (HasO.cU (x := (0 : UInt8)) rfl (by decide))) <| jn <| bI hm fun b_6 hx1 hq1 => JC.seqJ (γ := Unit) (stj := fun _ => ⟨[(0, ov (PTR gb_2 0)), (4, ov (S (rU UInt8) b_6))], [cvar gb_2 (zq21 go_4 x_3 gc_5) ((), ()), cown go_4 (rU UInt8) x_3 0 gc_5], []⟩) (fun _ => ?_) ?_
 · refine JC.region <| jmv rfl rfl <| jmv rfl rfl <| jc (op_nilCheck lb (.tmp rfl) (fun e v h => by subst h; rfl)) <| jc (op_fieldAddr (off := 0) lb tf119_0 (.tmp rfl)) <| jc (op_loadW (j := 0) lb tS27 (.tmp rfl) rfl (Comp.trans (Comp.self (zq21 go_4 x_3 gc_5) ((), ())) (Comp.at' (Comp.inF (Comp.self (rW (HDR go_4 0 (List.length x_3) gc_5)) ()) (lE rfl)) (by rfl : _ = 0)) (lE rfl))) <| jmv rfl rfl <| jc (op_buildF (r := (rU UInt8)) lb tu27 tz5 tZ5 rfl (lE rfl) (.S rfl (.tmp rfl) .nil) rfl) <| bI hq1 fun x_7 hv_x_7 hq1 => jx (op_appendL (j := 1) lb tu27 tu27 rfl tB5 rfl (Nat.lt_of_lt_of_le Nat.zero_lt_one (lE rfl)) (Nat.lt_of_lt_of_le Nat.zero_lt_one (lE rfl))  rfl (.tmp rfl) (.tmp rfl) hv_x_7) (fun q => ?_)
   obtain ⟨go_8, gc_9⟩ := q
   refine jc (op_nilCheck lb (.tmp rfl) (fun e v h => by subst h; rfl)) <| jc (op_fieldAddr (off := 0) lb tf119_0 (.tmp rfl)) <| JL.sub ⟨[(13, ov (HDR go_8 0 (List.length x_7) gc_9)), (15, ov (PTR gb_2 (0 + 0)))], [cvar gb_2 (zq21 go_4 x_3 gc_5) ((), ()), cown go_8 (rU UInt8) x_7 0 gc_9], []⟩ (.cons rfl (.cons rfl .nil)) rfl rfl <| jc (op_storeW (j := 0) tS27 (.tmp rfl) (.tmp rfl) rfl ((UpdR.fst (UpdR.self (by rfl))).at (by change 0 = (0 + 0); omega)) rfl) <| JL.nil ?_
   obtain rfl := so hq1
   exact JQ.done (js := [0, 0]) (ss := []) (go_8, gc_9) (.inr rfl) (.nil rfl) rfl .nil rfl rfl rfl
 refine jr <| jmv rfl rfl <| jn <| jif (.tmp rfl) hx1 (fun hc2 hx1 => ?_) (fun hc2 hx1 => ?_)
 · refine JC.region <| jc (op_assign lb (HasO.cU (x := (1 : UInt8)) rfl (by decide))) <| JL.nil ?_
   try obtain rfl := so hx1
   exact JQ.join () (Imp.norm (js := [0, 0]) rfl (.cons rfl (.cons rfl .nil)))
 refine JC.skip ?_
 try obtain rfl := so hx1
 exact JQ.join () (Imp.norm (js := [0, 0]) rfl (.cons rfl (.cons rfl .nil)))

theorem sim_wire_Blob (k : Nat) (b_1 : (List UInt8)) (r : (List UInt8) × Int) (hm : wire_Blob k b_1 = some r) : Sim Tryz.prog 114 [S (rL (rU UInt8)) b_1] [] (γ := Option Nat × Nat) (fun q => [cown q.1 (rU UInt8) r.1 0 q.2]) (fun q => .tup [.val (HDR q.1 0 (List.length r.1) q.2), .val (S (rI .i64) r.2)]) := by
 unfold wire_Blob at hm
 refine Sim.of Tryz.func114 rfl rfl (lE rfl) (fun e0 w0 => ?_)
 refine JC.at ⟨[(0, ov (S (rL (rU UInt8)) b_1))], [], []⟩ <| jr <| jc (op_assign lb HasO.nilH) <| jc (op_assign lb .cI) <| jn <| JC.seq <| jr <| jmv rfl rfl <| jc (op_lenL lb tu27 (.tmp rfl)) <| lI hm fun v_2 hv_2 hm => jc (op_cmpI lb (.tmp rfl) .cI (cs hv_2)) <| jn <| jif (.tmp rfl) hm (fun hc1 hm => ?_) (fun hc1 hm => ?_)
 · refine jr <| jc (op_assign lb HasO.nilH) <| jc (op_assign lb .cI) <| jn <| JC.ret <| JQ.outR ?_
   obtain rfl := so hm
   exact JQ.pre (Imp.nilown (rU UInt8)) <| JQ.done (js := [0]) (ss := [.val (HDR none 0 (List.length ([] : (List UInt8))) (0)), .val (S (rI .i64) (3 : Int))]) (none, 0) (.inl rfl) (.nil rfl) rfl (.cons (.tmp rfl) (.cons (.tmp rfl) .nil)) rfl rfl rfl
 refine JC.skip <| JQ.then <| jr <| jmv rfl rfl <| jc (op_lenL lb tu27 (.tmp rfl)) <| lI hm fun v_3 hv_3 hm => jc (op_convIU lb tu3 tu24 (.tmp rfl) hv_3) ?_
 obtain ⟨⟨v_4, v_5⟩, hv_4, hm⟩ := bnd_inv hm
 refine jx (op_call (js := []) ld cl79 (sim_wire_Put k v_3 (2 : Int) (v_4, v_5) hv_4) .func (.cons (.tmp rfl) (.cons .cI .nil)) rfl) (fun q => ?_)
 obtain ⟨go_6, gc_7⟩ := q
 refine jmv rfl rfl <| JL.sub ⟨[(0, ov (S (rL (rU UInt8)) b_1)), (9, .tup [.val (HDR go_6 0 (List.length v_4) gc_7), .val (S (rI .i64) v_5)])], [cown go_6 (rU UInt8) v_4 0 gc_7], []⟩ (.cons rfl (.cons rfl .nil)) rfl rfl <| jc (op_extract (i := 0) lb (.tmp rfl) rfl) <| jc (op_extract (i := 1) lb (.tmp rfl) rfl) <| jc (op_assign lb (.tmp rfl)) <| jc (op_assign lb (.tmp rfl)) <| jn <| jr <| jmv rfl rfl <| jmv rfl rfl <| bI hm fun n_8 hv_n_8 hm => jx (op_appendL (j := 0) lb tu27 tu27 rfl tB5 rfl (Nat.lt_of_lt_of_le Nat.zero_lt_one (lE rfl)) (Nat.lt_of_lt_of_le Nat.zero_lt_one (lE rfl))  rfl (.tmp rfl) (.tmp rfl) hv_n_8) (fun q => ?_)
 obtain ⟨go_9, gc_10⟩ := q
 refine jc (op_assign lb (.tmp rfl)) <| jc (op_assign lb .cI) <| jn <| JC.ret ?_
 obtain rfl := so hm
 exact JQ.done (js := [0]) (ss := [.val (HDR go_9 0 (List.length n_8) gc_10), .val (S (rI .i64) (0 : Int))]) (go_9, gc_10) (.inl rfl) (.nil rfl) rfl (.cons (.tmp rfl) (.cons (.tmp rfl) .nil)) rfl rfl rfl

theorem sim_frame_writer_items'3 (k : Nat) (l_1 : (List api_Item)) (x_3 : (List UInt8)) (gb_2 : Nat) (go_4 : Option Nat) (gc_5 : Nat) (r : (List UInt8)) (hm : frame_writer_items'3 k l_1 x_3 = some r) : Sim Tryz.prog 75 [PTR gb_2 0, S (rL r_api_Item) l_1] [cvar gb_2 (zq21 go_4 x_3 gc_5) ((), ()), cown go_4 (rU UInt8) x_3 0 gc_5] (γ := Option Nat × Nat) (fun q => [cvar gb_2 (rP (rW (HDR q.1 0 (List.length r) q.2)) r0) ((), ()), cown q.1 (rU UInt8) r 0 q.2]) (fun q => .tup []) := by
 unfold frame_writer_items'3 at hm
 refine Sim.of Tryz.func75 rfl rfl (lE rfl) (fun e0 w0 => ?_)
 refine JC.at ⟨[(0, ov (PTR gb_2 0)), (1, ov (S (rL r_api_Item) l_1))], [cvar gb_2 (zq21 go_4 x_3 gc_5) ((), ()), cown go_4 (rU UInt8) x_3 0 gc_5], []⟩ <| jr <| jmv rfl rfl <| jmv rfl rfl <| jc (op_lenL lb tu23 (.tmp rfl)) <| lI hm fun v_6 hv_6 hm => jc (op_convIU lb tu3 tu24 (.tmp rfl) hv_6) ?_
 obtain ⟨⟨v_7, v_8⟩, hv_7, hm⟩ := bnd_inv hm
 refine jx (op_call (js := []) ld cl79 (sim_wire_Put k v_6 (2 : Int) (v_7, v_8) hv_7) .func (.cons (.tmp rfl) (.cons .cI .nil)) rfl) (fun q => ?_)
 obtain ⟨go_9, gc_10⟩ := q
 refine jc (op_extract (i := 0) lb (.tmp rfl) rfl) <| jc (op_extract (i := 1) lb (.tmp rfl) rfl) <| bI hm fun x_11 hv_x_11 hm => JL.pre (Imp.frz (j := 0) rfl (ImpK.tupAt (s := 10) (i := 0) (q := HL go_9 (rU UInt8) v_7 gc_10) rfl rfl ownHL (ImpK.slotH (s := 11) rfl ImpK.refl))) <| jx (op_call (js := [1, 1]) ld cl78 (sim_frame_writer_put'2 k v_7 v_8 x_3 gb_2 go_4 gc_5 x_11 hv_x_11) .func (.cons (.tmp rfl) (.cons (HasO.wk (.tmp rfl) wkHL) (.cons (.tmp rfl) .nil))) rfl) (fun q => ?_)
 obtain ⟨go_12, gc_13⟩ := q
 refine JL.nrm ⟨[(0, ov (PTR gb_2 0)), (1, ov (S (rL r_api_Item) l_1))], [cvar gb_2 (zq21 go_12 x_11 gc_13) ((), ()), cown go_12 (rU UInt8) x_11 0 gc_13], []⟩ [0, 0] rfl (.cons rfl (.cons rfl .nil)) rfl <| jn <| jr <| jmv rfl rfl <| jc (op_lenL lb tu23 (.tmp rfl)) <| jc (op_move lb .cI) <| jn <| JC.block <| JC.pre ?_ (JC.loop (γ := Option Nat × Nat) (stf := fun s q => ⟨[(0, ov (PTR gb_2 0)), (14, ov (S (rL r_api_Item) l_1)), (15, ov (S (rI .i64) (List.length l_1 : Int))), (16, ov (S (rI .i64) s.2))], [cvar gb_2 (rP (rW (HDR q.1 0 (List.length s.1) q.2)) r0) ((), ()), cown q.1 (rU UInt8) s.1 0 q.2], []⟩) (q := (go_12, gc_13)) hm ?_)
 · exact (Imp.norm (js := [0, 0]) rfl (.cons rfl (.cons rfl (.cons rfl (.cons rfl .nil)))))
 intro s q x hx hr
 obtain ⟨b_14, x_15⟩ := s
 obtain ⟨go_16, gc_17⟩ := q
 change frame_writer_items'3.b1 k l_1 b_14 x_15 = some x at hx
 unfold frame_writer_items'3.b1 at hx
 refine JC.at ⟨[(0, ov (PTR gb_2 0)), (14, ov (S (rL r_api_Item) l_1)), (15, ov (S (rI .i64) (List.length l_1 : Int))), (16, ov (S (rI .i64) x_15))], [cvar gb_2 (zq21 go_16 b_14 gc_17) ((), ()), cown go_16 (rU UInt8) b_14 0 gc_17], []⟩ <| jr <| lI hx fun v_18 hv_18 hx => jc (op_cmpI lb (.tmp rfl) (.tmp rfl) (cs hv_18)) <| jn <| JC.seq <| jif (.tmp rfl) hx (fun hc2 hx => ?_) (fun hc2 hx => ?_)
 · refine JC.skip <| JQ.then <| bI hx fun b_46 hx3 hq3 => JC.seqJ (γ := Option Nat × Nat) (stj := fun q => ⟨[(0, ov (PTR gb_2 0)), (14, ov (S (rL r_api_Item) l_1)), (15, ov (S (rI .i64) (List.length l_1 : Int))), (16, ov (S (rI .i64) x_15))], [cvar gb_2 (rP (rW (HDR q.1 0 (List.length b_46) q.2)) r0) ((), ()), cown q.1 (rU UInt8) b_46 0 q.2], []⟩) (fun q => ?_) ?_
   · obtain ⟨go_47, gc_48⟩ := q
     refine JC.at ⟨[(0, ov (PTR gb_2 0)), (14, ov (S (rL r_api_Item) l_1)), (15, ov (S (rI .i64) (List.length l_1 : Int))), (16, ov (S (rI .i64) x_15))], [cvar gb_2 (zq21 go_47 b_46 gc_48) ((), ()), cown go_47 (rU UInt8) b_46 0 gc_48], []⟩ <| JC.region <| lI hq3 fun v_49 hv_49 hq3 => jc (op_arI lb (.tmp rfl) .cI (cs hv_49)) <| jmv rfl rfl <| JL.nil ?_
     try obtain rfl := so hq3
     exact JQ.next (go_47, gc_48) rfl (Imp.norm (js := [0, 0]) rfl (.cons rfl (.cons rfl (.cons rfl (.cons rfl .nil)))))
   refine JC.block <| jr <| bI hx3 fun v_19 hv_19 hx3 => jc (op_indexAddrLg lb tu23 tz62 (.tmp rfl) (.tmp rfl) hv_19) <| jc (op_loadPAg lb tA62 (.tmp rfl) rfl) <| jx (op_alloc lb tZ62 zr62) fun gb_20 => jc (op_storeA (j := 2) tA62 (.tmp rfl) (.tmp rfl) rfl (UpdR.self (by rfl)) rfl) <| jn <| jr <| jmv rfl rfl <| jc (op_fieldAddr (off := 0) lb tf62_0 (.tmp rfl)) <| jc (op_loadA (j := 2) lb tA26 (.tmp rfl) rfl (cT (comp_api_Item_Dot v_19) rfl) rfl) <| JL.sub ⟨[(0, ov (PTR gb_2 0)), (5, ov (PTR gb_20 0)), (14, ov (S (rL r_api_Item) l_1)), (15, ov (S (rI .i64) (List.length l_1 : Int))), (16, ov (S (rI .i64) x_15)), (20, ov (PTR gb_2 0)), (22, ov (A r_api_Dot v_19.Dot))], [cvar gb_2 (zq21 go_16 b_14 gc_17) ((), ()), cown go_16 (rU UInt8) b_14 0 gc_17, cvar gb_20 r_api_Item v_19], []⟩ (.cons rfl (.cons rfl (.cons rfl (.cons rfl (.cons rfl (.cons rfl (.cons rfl .nil))))))) rfl rfl ?_
   obtain ⟨⟨v_21, v_22⟩, hv_21, hx3⟩ := bnd_inv hx3
   refine jx (op_call (js := []) ld cl112 (sim_wire_Dot k v_19.Dot (v_21, v_22) hv_21) .func (.cons (.tmp rfl) .nil) rfl) (fun q => ?_)
   obtain ⟨go_23, gc_24⟩ := q
   refine jc (op_extract (i := 0) lb (.tmp rfl) rfl) <| jc (op_extract (i := 1) lb (.tmp rfl) rfl) <| bI hx3 fun x_25 hv_x_25 hx3 => JL.pre (Imp.frz (j := 0) rfl (ImpK.tupAt (s := 23) (i := 0) (q := HL go_23 (rU UInt8) v_21 gc_24) rfl rfl ownHL (ImpK.slotH (s := 24) rfl ImpK.refl))) <| jx (op_call (js := [1, 1]) ld cl78 (sim_frame_writer_put'2 k v_21 v_22 b_14 gb_2 go_16 gc_17 x_25 hv_x_25) .func (.cons (.tmp rfl) (.cons (HasO.wk (.tmp rfl) wkHL) (.cons (.tmp rfl) .nil))) rfl) (fun q => ?_)
   obtain ⟨go_26, gc_27⟩ := q
   refine JL.nrm ⟨[(0, ov (PTR gb_2 0)), (5, ov (PTR gb_20 0)), (14, ov (S (rL r_api_Item) l_1)), (15, ov (S (rI .i64) (List.length l_1 : Int))), (16, ov (S (rI .i64) x_15))], [cvar gb_2 (zq21 go_26 x_25 gc_27) ((), ()), cown go_26 (rU UInt8) x_25 0 gc_27, cvar gb_20 r_api_Item v_19], []⟩ [0, 0, 1] rfl (.cons rfl (.cons rfl (.cons rfl (.cons rfl (.cons rfl .nil))))) rfl <| jn <| jr <| jmv rfl rfl <| jc (op_fieldAddr (off := 4) lb tf62_2 (.tmp rfl)) <| jc (op_loadS (j := 2) lb tS4 (.tmp rfl) rfl (cT (comp_api_Item_Gone v_19) rfl) rfl rfl) <| bI hx3 fun x_28 hv_x_28 hx3 => jx (op_call (js := [0, 0]) ld cl113 (sim_frame_writer_flag k v_19.Gone x_25 gb_2 go_26 gc_27 x_28 hv_x_28) .func (.cons (.tmp rfl) (.cons (.tmp rfl) .nil)) rfl) (fun q => ?_)
   obtain ⟨go_29, gc_30⟩ := q
   refine jn <| jr <| jc (op_fieldAddr (off := 4) lb tf62_2 (.tmp rfl)) <| jc (op_loadS (j := 2) lb tS4 (.tmp rfl) rfl (cT (comp_api_Item_Gone v_19) rfl) rfl rfl) <| lI hx3 fun v_31 hv_31 hx3 => jc (op_not lb (.tmp rfl) hv_31) <| jn <| jif (.tmp rfl) hx3 (fun hc4 hx3 => ?_) (fun hc4 hx3 => ?_)
   · refine jr <| jmv rfl rfl <| jc (op_fieldAddr (off := 2) lb tf62_1 (.tmp rfl)) <| jc (op_fieldAddr (off := 0) lb tf60_0 (.tmp rfl)) <| JL.sub ⟨[(0, ov (PTR gb_2 0)), (5, ov (PTR gb_20 0)), (14, ov (S (rL r_api_Item) l_1)), (15, ov (S (rI .i64) (List.length l_1 : Int))), (16, ov (S (rI .i64) x_15)), (34, ov (PTR gb_2 0)), (36, ov (PTR gb_20 ((0 + 2) + 0)))], [cvar gb_2 (zq21 go_29 x_28 gc_30) ((), ()), cown go_29 (rU UInt8) x_28 0 gc_30, cvar gb_20 r_api_Item v_19], []⟩ (.cons rfl (.cons rfl (.cons rfl (.cons rfl (.cons rfl (.cons rfl (.cons rfl .nil))))))) rfl rfl <| jc (op_loadS (j := 2) lb tS9 (.tmp rfl) rfl (Comp.trans (cT (comp_api_Item_Key v_19) rfl) (comp_api_Key_Topic v_19.Key) (lE rfl)) rfl rfl) <| jc (op_convSB lb tu9 tu27 tu5 (.tmp rfl)) ?_
     obtain ⟨⟨v_32, v_33⟩, hv_32, hx3⟩ := bnd_inv hx3
     refine jx (op_call (js := []) ld cl114 (sim_wire_Blob k v_19.Key.Topic (v_32, v_33) hv_32) .func (.cons (.tmp rfl) .nil) rfl) (fun q => ?_)
     obtain ⟨go_34, gc_35⟩ := q
     refine jc (op_extract (i := 0) lb (.tmp rfl) rfl) <| jc (op_extract (i := 1) lb (.tmp rfl) rfl) <| bI hx3 fun x_36 hv_x_36 hx3 => JL.pre (Imp.frz (j := 0) rfl (ImpK.tupAt (s := 39) (i := 0) (q := HL go_34 (rU UInt8) v_32 gc_35) rfl rfl ownHL (ImpK.slotH (s := 40) rfl ImpK.refl))) <| jx (op_call (js := [1, 1]) ld cl78 (sim_frame_writer_put'2 k v_32 v_33 x_28 gb_2 go_29 gc_30 x_36 hv_x_36) .func (.cons (.tmp rfl) (.cons (HasO.wk (.tmp rfl) wkHL) (.cons (.tmp rfl) .nil))) rfl) (fun q => ?_)
     obtain ⟨go_37, gc_38⟩ := q
     refine JL.nrm ⟨[(0, ov (PTR gb_2 0)), (5, ov (PTR gb_20 0)), (14, ov (S (rL r_api_Item) l_1)), (15, ov (S (rI .i64) (List.length l_1 : Int))), (16, ov (S (rI .i64) x_15))], [cvar gb_2 (zq21 go_37 x_36 gc_38) ((), ()), cown go_37 (rU UInt8) x_36 0 gc_38, cvar gb_20 r_api_Item v_19], []⟩ [0, 0, 1] rfl (.cons rfl (.cons rfl (.cons rfl (.cons rfl (.cons rfl .nil))))) rfl <| jn <| JC.region <| jmv rfl rfl <| jc (op_fieldAddr (off := 2) lb tf62_1 (.tmp rfl)) <| jc (op_fieldAddr (off := 1) lb tf60_1 (.tmp rfl)) <| jc (op_loadS (j := 2) lb tS9 (.tmp rfl) rfl (Comp.trans (cT (comp_api_Item_Key v_19) rfl) (comp_api_Key_Device v_19.Key) (lE rfl)) rfl rfl) <| jc (op_convSB lb tu9 tu27 tu5 (.tmp rfl)) ?_
     obtain ⟨⟨v_39, v_40⟩, hv_39, hx3⟩ := bnd_inv hx3
     refine jx (op_call (js := []) ld cl114 (sim_wire_Blob k v_19.Key.Device (v_39, v_40) hv_39) .func (.cons (.tmp rfl) .nil) rfl) (fun q => ?_)
     obtain ⟨go_41, gc_42⟩ := q
     refine jc (op_extract (i := 0) lb (.tmp rfl) rfl) <| jc (op_extract (i := 1) lb (.tmp rfl) rfl) <| bI hx3 fun x_43 hv_x_43 hx3 => JL.pre (Imp.frz (j := 0) rfl (ImpK.tupAt (s := 48) (i := 0) (q := HL go_41 (rU UInt8) v_39 gc_42) rfl rfl ownHL (ImpK.slotH (s := 49) rfl ImpK.refl))) <| jx (op_call (js := [1, 1]) ld cl78 (sim_frame_writer_put'2 k v_39 v_40 x_36 gb_2 go_37 gc_38 x_43 hv_x_43) .func (.cons (.tmp rfl) (.cons (HasO.wk (.tmp rfl) wkHL) (.cons (.tmp rfl) .nil))) rfl) (fun q => ?_)
     obtain ⟨go_44, gc_45⟩ := q
     refine JL.nrm ⟨[(0, ov (PTR gb_2 0)), (14, ov (S (rL r_api_Item) l_1)), (15, ov (S (rI .i64) (List.length l_1 : Int))), (16, ov (S (rI .i64) x_15))], [cvar gb_2 (zq21 go_44 x_43 gc_45) ((), ()), cown go_44 (rU UInt8) x_43 0 gc_45], []⟩ [0, 0] rfl (.cons rfl (.cons rfl (.cons rfl (.cons rfl .nil)))) rfl <| JL.nil <| JQ.outNB ?_
     try obtain rfl := so hx3
     exact JQ.join (go_44, gc_45) (Imp.norm (js := [0, 0]) rfl (.cons rfl (.cons rfl (.cons rfl (.cons rfl .nil)))))
   refine JC.skip <| JQ.outNB ?_
   try obtain rfl := so hx3
   exact JQ.join (go_29, gc_30) (Imp.norm (js := [0, 0]) rfl (.cons rfl (.cons rfl (.cons rfl (.cons rfl .nil)))))
 refine JC.exit <| JQ.outX ?_
 try obtain rfl := so hx
 have ht := hr _ rfl
 have hq1 := cs ht
 clear hr ht
 refine JQ.outX <| JQ.here ?_
 obtain rfl := so hq1
 exact JQ.done (js := [0, 0]) (ss := []) (go_16, gc_17) (.inr rfl) (.nil rfl) rfl .nil rfl rfl rfl

theorem sim_frame_writer_delta'4 (k : Nat) (f_1 : api_Frame) (x_3 : (List UInt8)) (gb_2 : Nat) (go_4 : Option Nat) (gc_5 : Nat) (r : (List UInt8)) (hm : frame_writer_delta'4 k f_1 x_3 = some r) : Sim Tryz.prog 92 [PTR gb_2 0, A r_api_Frame f_1] [cvar gb_2 (zq21 go_4 x_3 gc_5) ((), ()), cown go_4 (rU UInt8) x_3 0 gc_5] (γ := Option Nat × Nat) (fun q => [cvar gb_2 (rP (rW (HDR q.1 0 (List.length r) q.2)) r0) ((), ()), cown q.1 (rU UInt8) r 0 q.2]) (fun q => .tup []) := by
 unfold frame_writer_delta'4 at hm
 refine Sim.of Tryz.func92 rfl rfl (lE rfl) (fun e0 w0 => ?_)
 refine JC.at ⟨[(0, ov (PTR gb_2 0)), (1, ov (A r_api_Frame f_1))], [cvar gb_2 (zq21 go_4 x_3 gc_5) ((), ()), cown go_4 (rU UInt8) x_3 0 gc_5], []⟩ <| jr <| jx (op_boxA lb (.tmp rfl)) fun gb_6 => jn <| JC.region <| jmv rfl rfl <| jc (op_fieldAddr (off := 3) lb tf39_3 (.tmp rfl)) <| jc (op_loadS (j := 2) lb tS23 (.tmp rfl) rfl (cT (comp_api_Frame_Items f_1) rfl) rfl rfl) <| bI hm fun x_7 hv_x_7 hm => jx (op_call (js := [0, 0]) ld cl75 (sim_frame_writer_items'3 k f_1.Items x_3 gb_2 go_4 gc_5 x_7 hv_x_7) .func (.cons (.tmp rfl) (.cons (.tmp rfl) .nil)) rfl) (fun q => ?_)
 obtain ⟨go_8, gc_9⟩ := q
 refine JL.nil ?_
 obtain rfl := so hm
 exact JQ.done (js := [0, 0]) (ss := []) (go_8, gc_9) (.inr rfl) (.nil rfl) rfl .nil rfl rfl rfl

theorem sim_event_bytes_1 (k : Nat) (x_1 : (List UInt8)) (v_2 : Int) (gb_3 : Nat) (r : (List UInt8)) (hm : event_bytes_1 k x_1 v_2 = some r) : Sim Tryz.prog 149 [S (rL (rU UInt8)) x_1, S (rI .i64) v_2, PTR gb_3 0] [cvar gb_3 (rW (HDR none 0 0 0)) ()] (γ := Option Nat × Nat) (fun q => [cvar gb_3 (rW (HDR q.1 0 (List.length r) q.2)) (), cown q.1 (rU UInt8) r 0 q.2]) (fun q => .tup []) := by
 unfold event_bytes_1 at hm
 refine Sim.of Tryz.func149 rfl rfl (lE rfl) (fun e0 w0 => ?_)
 refine JC.at ⟨[(0, ov (S (rL (rU UInt8)) x_1)), (1, ov (S (rI .i64) v_2)), (2, ov (PTR gb_3 0))], [cvar gb_3 (rW (HDR none 0 0 0)) ()], []⟩ <| JC.region <| jc (op_loadW (j := 0) lb tS27 (.tmp rfl) rfl (Comp.self (rW (HDR none 0 0 0)) ())) <| jmv rfl rfl <| bI hm fun v_4 hv_4 hm => JL.pre (Imp.nilown (rU UInt8)) <| jx (op_appendL (j := 1) lb tu27 tu27 rfl tB5 rfl (Nat.lt_of_lt_of_le Nat.zero_lt_one (lE rfl)) (Nat.lt_of_lt_of_le Nat.zero_lt_one (lE rfl))  rfl (.tmp rfl) (.tmp rfl) hv_4) (fun q => ?_)
 obtain ⟨go_5, gc_6⟩ := q
 refine JL.sub ⟨[(2, ov (PTR gb_3 0)), (7, ov (HDR go_5 0 (List.length v_4) gc_6))], [cvar gb_3 (rW (HDR none 0 0 0)) (), cown go_5 (rU UInt8) v_4 0 gc_6], []⟩ (.cons rfl (.cons rfl .nil)) rfl rfl <| jc (op_storeW (j := 0) tS27 (.tmp rfl) (.tmp rfl) rfl (UpdR.self (by rfl)) rfl) <| JL.nil ?_
 obtain rfl := so hm
 exact JQ.done (js := [0, 0]) (ss := []) (go_5, gc_6) (.inr rfl) (.nil rfl) rfl .nil rfl rfl rfl

theorem sim_event_bytes_1'2 (k : Nat) (x_1 : (List UInt8)) (v_2 : Int) (x_4 : (List UInt8)) (gb_3 : Nat) (go_5 : Option Nat) (gc_6 : Nat) (r : (List UInt8)) (hm : event_bytes_1'2 k x_1 v_2 x_4 = some r) : Sim Tryz.prog 149 [S (rL (rU UInt8)) x_1, S (rI .i64) v_2, PTR gb_3 0] [cvar gb_3 (rW (HDR go_5 0 (List.length x_4) gc_6)) (), cown go_5 (rU UInt8) x_4 0 gc_6] (γ := Option Nat × Nat) (fun q => [cvar gb_3 (rW (HDR q.1 0 (List.length r) q.2)) (), cown q.1 (rU UInt8) r 0 q.2]) (fun q => .tup []) := by
 unfold event_bytes_1'2 at hm
 refine Sim.of Tryz.func149 rfl rfl (lE rfl) (fun e0 w0 => ?_)
 refine JC.at ⟨[(0, ov (S (rL (rU UInt8)) x_1)), (1, ov (S (rI .i64) v_2)), (2, ov (PTR gb_3 0))], [cvar gb_3 (rW (HDR go_5 0 (List.length x_4) gc_6)) (), cown go_5 (rU UInt8) x_4 0 gc_6], []⟩ <| JC.region <| jc (op_loadW (j := 0) lb tS27 (.tmp rfl) rfl (Comp.self (rW (HDR go_5 0 (List.length x_4) gc_6)) ())) <| jmv rfl rfl <| bI hm fun x_7 hv_x_7 hm => jx (op_appendL (j := 1) lb tu27 tu27 rfl tB5 rfl (Nat.lt_of_lt_of_le Nat.zero_lt_one (lE rfl)) (Nat.lt_of_lt_of_le Nat.zero_lt_one (lE rfl))  rfl (.tmp rfl) (.tmp rfl) hv_x_7) (fun q => ?_)
 obtain ⟨go_8, gc_9⟩ := q
 refine jc (op_storeW (j := 0) tS27 (.tmp rfl) (.tmp rfl) rfl (UpdR.self (by rfl)) rfl) <| JL.nil ?_
 obtain rfl := so hm
 exact JQ.done (js := [0, 0]) (ss := []) (go_8, gc_9) (.inr rfl) (.nil rfl) rfl .nil rfl rfl rfl

theorem sim_wire_Vector (k : Nat) (v_1 : (Vector UInt64 16)) (r : (List UInt8)) (hm : wire_Vector k v_1 = some r) : Sim Tryz.prog 129 [A (rV 16 (rU UInt64)) v_1] [] (γ := Option Nat × Nat) (fun q => [cown q.1 (rU UInt8) r 0 q.2]) (fun q => .one (.val (HDR q.1 0 (List.length r) q.2))) := by
 unfold wire_Vector at hm
 refine Sim.of Tryz.func129 rfl rfl (lE rfl) (fun e0 w0 => ?_)
 refine JC.at ⟨[(0, ov (A (rV 16 (rU UInt64)) v_1))], [], []⟩ <| jr <| jx (op_boxA lb (.tmp rfl)) fun gb_2 => jc (op_assign lb HasO.nilH) <| jn <| jr <| jc (op_assign lb HasO.nilH) <| jn <| bI hm fun b_17 hx1 hq1 => JC.seqJ (γ := Option Nat × Nat) (stj := fun q => ⟨[(3, ov (HDR q.1 0 (List.length b_17) q.2))], [cown q.1 (rU UInt8) b_17 0 q.2], []⟩) (fun q => ?_) ?_
 · obtain ⟨go_18, gc_19⟩ := q
   refine JC.at ⟨[(3, ov (HDR go_18 0 (List.length b_17) gc_19))], [cown go_18 (rU UInt8) b_17 0 gc_19], []⟩ <| jr <| jmv rfl rfl <| jc (op_assign lb (.tmp rfl)) <| jn <| JC.ret ?_
   obtain rfl := so hq1
   exact JQ.done (js := [0]) (ss := [.val (HDR go_18 0 (List.length b_17) gc_19)]) (go_18, gc_19) (.inl rfl) (.nil rfl) rfl (.cons (.tmp rfl) .nil) rfl rfl rfl
 refine jr <| jc (op_loadA (j := 0) lb tA29 (.tmp rfl) rfl (Comp.self (rV 16 (rU UInt64)) v_1) rfl) <| jc (op_move lb .cI) <| jn <| JC.block <| JC.pre (Imp.nilown (rU UInt8)) <| JC.pre ?_ (JC.loop (γ := Option Nat × Nat) (stf := fun s q => ⟨[(3, ov (HDR q.1 0 (List.length s.1) q.2)), (8, ov (A (rV 16 (rU UInt64)) v_1)), (9, ov (S (rI .i64) s.2))], [cown q.1 (rU UInt8) s.1 0 q.2], []⟩) (q := (none, 0)) hx1 ?_)
 · exact (Imp.norm (js := [1]) rfl (.cons rfl (.cons rfl (.cons rfl .nil))))
 intro s q x hx hr
 obtain ⟨b_3, x_4⟩ := s
 obtain ⟨go_5, gc_6⟩ := q
 change wire_Vector.b1 k v_1 b_3 x_4 = some x at hx
 unfold wire_Vector.b1 at hx
 refine JC.at ⟨[(3, ov (HDR go_5 0 (List.length b_3) gc_6)), (8, ov (A (rV 16 (rU UInt64)) v_1)), (9, ov (S (rI .i64) x_4))], [cown go_5 (rU UInt8) b_3 0 gc_6], []⟩ <| jr <| lI hx fun v_7 hv_7 hx => jc (op_cmpI lb (.tmp rfl) .cI (cs hv_7)) <| jn <| JC.seq <| jif (.tmp rfl) hx (fun hc3 hx => ?_) (fun hc3 hx => ?_)
 · refine JC.skip <| JQ.then <| JC.seq <| JC.block <| jr <| bI hx fun v_8 hv_8 hx => jc (op_indexSg lb tu29 tS24 rfl (.tmp rfl) (.tmp rfl) hv_8) <| jc (op_assign lb (.tmp rfl)) <| jn <| jr <| jmv rfl rfl ?_
   obtain ⟨⟨v_9, v_10⟩, hv_9, hx⟩ := bnd_inv hx
   refine jx (op_call (js := []) ld cl79 (sim_wire_Put k v_8 (8 : Int) (v_9, v_10) hv_9) .func (.cons (.tmp rfl) (.cons .cI .nil)) rfl) (fun q => ?_)
   obtain ⟨go_11, gc_12⟩ := q
   refine jmv rfl rfl <| jc (op_extract (i := 0) lb (.tmp rfl) rfl) <| jc (op_extract (i := 1) lb (.tmp rfl) rfl) <| jc (op_assign lb (.tmp rfl)) <| jc (op_assign lb (.tmp rfl)) <| JL.sub ⟨[(3, ov (HDR go_5 0 (List.length b_3) gc_6)), (6, ov (HDR go_11 0 (List.length v_9) gc_12)), (8, ov (A (rV 16 (rU UInt64)) v_1)), (9, ov (S (rI .i64) x_4))], [cown go_11 (rU UInt8) v_9 0 gc_12, cown go_5 (rU UInt8) b_3 0 gc_6], []⟩ (.cons rfl (.cons rfl (.cons rfl (.cons rfl .nil)))) rfl rfl <| jn <| JC.region <| jmv rfl rfl <| jmv rfl rfl <| bI hx fun b_13 hv_b_13 hx => jx (op_appendO (j := 1) (j' := 0) lb tu27 tu27 rfl tB5 rfl (Nat.lt_of_lt_of_le Nat.zero_lt_one (lE rfl)) (Nat.lt_of_lt_of_le Nat.zero_lt_one (lE rfl))  rfl (.tmp rfl) rfl (.tmp rfl) hv_b_13) (fun q => ?_)
   obtain ⟨go_14, gc_15⟩ := q
   refine jc (op_assign lb (.tmp rfl)) <| JL.nil <| JQ.outNB <| JQ.then <| JC.region <| lI hx fun v_16 hv_16 hx => jc (op_arI lb (.tmp rfl) .cI (cs hv_16)) <| jmv rfl rfl <| JL.nil ?_
   try obtain rfl := so hx
   exact JQ.next (go_14, gc_15) rfl (Imp.norm (js := [1]) rfl (.cons rfl (.cons rfl (.cons rfl .nil))))
 refine JC.exit <| JQ.outX ?_
 try obtain rfl := so hx
 have ht := hr _ rfl
 have hq2 := cs ht
 clear hr ht
 refine JQ.outX <| JQ.here ?_
 try obtain rfl := so hq2
 exact JQ.join (go_5, gc_6) (Imp.norm (js := [0]) rfl (.cons rfl .nil))

theorem sim_event_bytes (k : Nat) (t_1 : api_Event) (r : (List UInt8)) (hm : event_bytes k t_1 = some r) : Sim Tryz.prog 145 [A r_api_Event t_1] [] (γ := Option Nat × Nat) (fun q => [cown q.1 (rU UInt8) r 0 q.2]) (fun q => .one (.val (HDR q.1 0 (List.length r) q.2))) := by
 unfold event_bytes at hm
 refine Sim.of Tryz.func145 rfl rfl (lE rfl) (fun e0 w0 => ?_)
 refine JC.at ⟨[(0, ov (A r_api_Event t_1))], [], []⟩ <| jr <| jx (op_boxA lb (.tmp rfl)) fun gb_2 => jc (op_assign lb HasO.nilH) <| jn <| jr <| jx (op_alloc lb tZ27 zr27) fun gb_3 => jn <| jr <| jc (op_makeFunc lb (.cons (.tmp rfl) .nil)) <| jc (op_assign lb (.tmp rfl)) <| jn <| jr <| jmv rfl rfl <| jc (op_fieldAddr (off := 0) lb tf32_0 (.tmp rfl)) <| jc (op_loadA (j := 0) lb tA26 (.tmp rfl) rfl (cT (comp_api_Event_ID t_1) rfl) rfl) <| JL.sub ⟨[(1, ov (PTR gb_2 0)), (3, ov (PTR gb_3 0)), (4, ov (CLO 149 [PTR gb_3 0])), (8, ov (CLO 149 [PTR gb_3 0])), (10, ov (A r_api_Dot t_1.ID))], [cvar gb_2 r_api_Event t_1, cvar gb_3 (rW (HDR none 0 0 0)) ()], []⟩ (.cons rfl (.cons rfl (.cons rfl (.cons rfl (.cons rfl .nil))))) rfl rfl ?_
 obtain ⟨⟨v_4, v_5⟩, hv_4, hm⟩ := bnd_inv hm
 refine jx (op_call (js := []) ld cl112 (sim_wire_Dot k t_1.ID (v_4, v_5) hv_4) .func (.cons (.tmp rfl) .nil) rfl) (fun q => ?_)
 obtain ⟨go_6, gc_7⟩ := q
 refine jc (op_extract (i := 0) lb (.tmp rfl) rfl) <| jc (op_extract (i := 1) lb (.tmp rfl) rfl) <| bI hm fun x_8 hv_x_8 hm => JL.pre (Imp.frz (j := 0) rfl (ImpK.tupAt (s := 11) (i := 0) (q := HL go_6 (rU UInt8) v_4 gc_7) rfl rfl ownHL (ImpK.slotH (s := 12) rfl ImpK.refl))) <| jx (op_call (js := [2]) ld cl149 (sim_event_bytes_1 k v_4 v_5 gb_3 x_8 hv_x_8) (.tmp rfl) (.cons (HasO.wk (.tmp rfl) wkHL) (.cons (.tmp rfl) .nil)) rfl) (fun q => ?_)
 obtain ⟨go_9, gc_10⟩ := q
 refine JL.nrm ⟨[(1, ov (PTR gb_2 0)), (3, ov (PTR gb_3 0)), (4, ov (CLO 149 [PTR gb_3 0]))], [cvar gb_3 (rW (HDR go_9 0 (List.length x_8) gc_10)) (), cown go_9 (rU UInt8) x_8 0 gc_10, cvar gb_2 r_api_Event t_1], []⟩ [0, 0, 1] rfl (.cons rfl (.cons rfl (.cons rfl .nil))) rfl <| jn <| jr <| jmv rfl rfl <| jc (op_fieldAddr (off := 2) lb tf32_1 (.tmp rfl)) <| jc (op_loadS (j := 2) lb tS9 (.tmp rfl) rfl (cT (comp_api_Event_Topic t_1) rfl) rfl rfl) <| jc (op_convSB lb tu9 tu27 tu5 (.tmp rfl)) ?_
 obtain ⟨⟨v_11, v_12⟩, hv_11, hm⟩ := bnd_inv hm
 refine jx (op_call (js := []) ld cl114 (sim_wire_Blob k t_1.Topic (v_11, v_12) hv_11) .func (.cons (.tmp rfl) .nil) rfl) (fun q => ?_)
 obtain ⟨go_13, gc_14⟩ := q
 refine jc (op_extract (i := 0) lb (.tmp rfl) rfl) <| jc (op_extract (i := 1) lb (.tmp rfl) rfl) <| bI hm fun x_15 hv_x_15 hm => JL.pre (Imp.frz (j := 0) rfl (ImpK.tupAt (s := 19) (i := 0) (q := HL go_13 (rU UInt8) v_11 gc_14) rfl rfl ownHL (ImpK.slotH (s := 20) rfl ImpK.refl))) <| jx (op_call (js := [1, 1]) ld cl149 (sim_event_bytes_1'2 k v_11 v_12 x_8 gb_3 go_9 gc_10 x_15 hv_x_15) (.tmp rfl) (.cons (HasO.wk (.tmp rfl) wkHL) (.cons (.tmp rfl) .nil)) rfl) (fun q => ?_)
 obtain ⟨go_16, gc_17⟩ := q
 refine JL.nrm ⟨[(1, ov (PTR gb_2 0)), (3, ov (PTR gb_3 0)), (4, ov (CLO 149 [PTR gb_3 0]))], [cvar gb_3 (rW (HDR go_16 0 (List.length x_15) gc_17)) (), cown go_16 (rU UInt8) x_15 0 gc_17, cvar gb_2 r_api_Event t_1], []⟩ [0, 0, 1] rfl (.cons rfl (.cons rfl (.cons rfl .nil))) rfl <| jn <| jr <| jmv rfl rfl <| jc (op_fieldAddr (off := 3) lb tf32_2 (.tmp rfl)) <| jc (op_loadS (j := 2) lb tS27 (.tmp rfl) rfl (cT (comp_api_Event_Payload t_1) rfl) rfl rfl) ?_
 obtain ⟨⟨v_18, v_19⟩, hv_18, hm⟩ := bnd_inv hm
 refine jx (op_call (js := []) ld cl114 (sim_wire_Blob k t_1.Payload (v_18, v_19) hv_18) .func (.cons (.tmp rfl) .nil) rfl) (fun q => ?_)
 obtain ⟨go_20, gc_21⟩ := q
 refine jc (op_extract (i := 0) lb (.tmp rfl) rfl) <| jc (op_extract (i := 1) lb (.tmp rfl) rfl) <| bI hm fun x_22 hv_x_22 hm => JL.pre (Imp.frz (j := 0) rfl (ImpK.tupAt (s := 26) (i := 0) (q := HL go_20 (rU UInt8) v_18 gc_21) rfl rfl ownHL (ImpK.slotH (s := 27) rfl ImpK.refl))) <| jx (op_call (js := [1, 1]) ld cl149 (sim_event_bytes_1'2 k v_18 v_19 x_15 gb_3 go_16 gc_17 x_22 hv_x_22) (.tmp rfl) (.cons (HasO.wk (.tmp rfl) wkHL) (.cons (.tmp rfl) .nil)) rfl) (fun q => ?_)
 obtain ⟨go_23, gc_24⟩ := q
 refine JL.nrm ⟨[(1, ov (PTR gb_2 0)), (3, ov (PTR gb_3 0)), (4, ov (CLO 149 [PTR gb_3 0]))], [cvar gb_3 (rW (HDR go_23 0 (List.length x_22) gc_24)) (), cown go_23 (rU UInt8) x_22 0 gc_24, cvar gb_2 r_api_Event t_1], []⟩ [0, 0, 1] rfl (.cons rfl (.cons rfl (.cons rfl .nil))) rfl <| jn <| jr <| jmv rfl rfl <| jc (op_fieldAddr (off := 4) lb tf32_3 (.tmp rfl)) <| jc (op_loadA (j := 2) lb tA29 (.tmp rfl) rfl (cT (comp_api_Event_Past t_1) rfl) rfl) <| bI hm fun v_25 hv_25 hm => jx (op_call (js := []) ld cl129 (sim_wire_Vector k t_1.Past v_25 hv_25) .func (.cons (.tmp rfl) .nil) rfl) (fun q => ?_)
 obtain ⟨go_26, gc_27⟩ := q
 refine bI hm fun x_28 hv_x_28 hm => JL.pre (Imp.frz (j := 0) rfl (ImpK.slotH (s := 33) rfl ImpK.refl)) <| jx (op_call (js := [1, 1]) ld cl149 (sim_event_bytes_1'2 k v_25 (0 : Int) x_22 gb_3 go_23 gc_24 x_28 hv_x_28) (.tmp rfl) (.cons (HasO.wk (.tmp rfl) wkHL) (.cons .cI .nil)) rfl) (fun q => ?_)
 obtain ⟨go_29, gc_30⟩ := q
 refine JL.nrm ⟨[(1, ov (PTR gb_2 0)), (3, ov (PTR gb_3 0)), (4, ov (CLO 149 [PTR gb_3 0]))], [cvar gb_3 (rW (HDR go_29 0 (List.length x_28) gc_30)) (), cown go_29 (rU UInt8) x_28 0 gc_30, cvar gb_2 r_api_Event t_1], []⟩ [0, 0, 1] rfl (.cons rfl (.cons rfl (.cons rfl .nil))) rfl <| jn <| jr <| jmv rfl rfl <| jc (op_fieldAddr (off := 20) lb tf32_4 (.tmp rfl)) <| jc (op_loadS (j := 2) lb tS30 (.tmp rfl) rfl (cT (comp_api_Event_To t_1) rfl) rfl rfl) <| jc (op_lenL lb tu30 (.tmp rfl)) <| lI hm fun v_31 hv_31 hm => jc (op_convIU lb tu3 tu24 (.tmp rfl) hv_31) ?_
 obtain ⟨⟨v_32, v_33⟩, hv_32, hm⟩ := bnd_inv hm
 refine jx (op_call (js := []) ld cl79 (sim_wire_Put k v_31 (2 : Int) (v_32, v_33) hv_32) .func (.cons (.tmp rfl) (.cons .cI .nil)) rfl) (fun q => ?_)
 obtain ⟨go_34, gc_35⟩ := q
 refine jc (op_extract (i := 0) lb (.tmp rfl) rfl) <| jc (op_extract (i := 1) lb (.tmp rfl) rfl) <| bI hm fun x_36 hv_x_36 hm => JL.pre (Imp.frz (j := 0) rfl (ImpK.tupAt (s := 40) (i := 0) (q := HL go_34 (rU UInt8) v_32 gc_35) rfl rfl ownHL (ImpK.slotH (s := 41) rfl ImpK.refl))) <| jx (op_call (js := [1, 1]) ld cl149 (sim_event_bytes_1'2 k v_32 v_33 x_28 gb_3 go_29 gc_30 x_36 hv_x_36) (.tmp rfl) (.cons (HasO.wk (.tmp rfl) wkHL) (.cons (.tmp rfl) .nil)) rfl) (fun q => ?_)
 obtain ⟨go_37, gc_38⟩ := q
 refine JL.nrm ⟨[(1, ov (PTR gb_2 0)), (3, ov (PTR gb_3 0)), (4, ov (CLO 149 [PTR gb_3 0]))], [cvar gb_3 (rW (HDR go_37 0 (List.length x_36) gc_38)) (), cown go_37 (rU UInt8) x_36 0 gc_38, cvar gb_2 r_api_Event t_1], []⟩ [0, 0, 1] rfl (.cons rfl (.cons rfl (.cons rfl .nil))) rfl <| jn <| bI hm fun x_61 hx1 hq1 => JC.seqJ (γ := Option Nat × Nat) (stj := fun q => ⟨[(3, ov (PTR gb_3 0))], [cvar gb_3 (rW (HDR q.1 0 (List.length x_61) q.2)) (), cown q.1 (rU UInt8) x_61 0 q.2], []⟩) (fun q => ?_) ?_
 · obtain ⟨go_62, gc_63⟩ := q
   refine JC.at ⟨[(3, ov (PTR gb_3 0))], [cvar gb_3 (rW (HDR go_62 0 (List.length x_61) gc_63)) (), cown go_62 (rU UInt8) x_61 0 gc_63], []⟩ <| jr <| jc (op_loadW (j := 0) lb tS27 (.tmp rfl) rfl (Comp.self (rW (HDR go_62 0 (List.length x_61) gc_63)) ())) <| jc (op_assign lb (.tmp rfl)) <| jn <| JC.ret ?_
   obtain rfl := so hq1
   exact JQ.done (js := [1]) (ss := [.val (HDR go_62 0 (List.length x_61) gc_63)]) (go_62, gc_63) (.inl rfl) (.nil rfl) rfl (.cons (.tmp rfl) .nil) rfl rfl rfl
 refine jr <| jc (op_fieldAddr (off := 20) lb tf32_4 (.tmp rfl)) <| jc (op_loadS (j := 2) lb tS30 (.tmp rfl) rfl (cT (comp_api_Event_To t_1) rfl) rfl rfl) <| jc (op_lenL lb tu30 (.tmp rfl)) <| jc (op_move lb .cI) <| jn <| JC.block <| JC.pre ?_ (JC.loop (γ := Option Nat × Nat) (stf := fun s q => ⟨[(3, ov (PTR gb_3 0)), (4, ov (CLO 149 [PTR gb_3 0])), (45, ov (S (rL r_api_Dest) t_1.To)), (46, ov (S (rI .i64) (List.length t_1.To : Int))), (47, ov (S (rI .i64) s.2))], [cvar gb_3 (rW (HDR q.1 0 (List.length s.1) q.2)) (), cown q.1 (rU UInt8) s.1 0 q.2], []⟩) (q := (go_37, gc_38)) hx1 ?_)
 · exact (Imp.norm (js := [0, 0]) rfl (.cons rfl (.cons rfl (.cons rfl (.cons rfl (.cons rfl .nil))))))
 intro s q x hx hr
 obtain ⟨x_39, x_40⟩ := s
 obtain ⟨go_41, gc_42⟩ := q
 change event_bytes.b1 k t_1 x_39 x_40 = some x at hx
 unfold event_bytes.b1 at hx
 refine JC.at ⟨[(3, ov (PTR gb_3 0)), (4, ov (CLO 149 [PTR gb_3 0])), (45, ov (S (rL r_api_Dest) t_1.To)), (46, ov (S (rI .i64) (List.length t_1.To : Int))), (47, ov (S (rI .i64) x_40))], [cvar gb_3 (rW (HDR go_41 0 (List.length x_39) gc_42)) (), cown go_41 (rU UInt8) x_39 0 gc_42], []⟩ <| jr <| lI hx fun v_43 hv_43 hx => jc (op_cmpI lb (.tmp rfl) (.tmp rfl) (cs hv_43)) <| jn <| JC.seq <| jif (.tmp rfl) hx (fun hc3 hx => ?_) (fun hc3 hx => ?_)
 · refine JC.skip <| JQ.then <| JC.seq <| JC.block <| jr <| bI hx fun v_44 hv_44 hx => jc (op_indexAddrLg lb tu30 tz125 (.tmp rfl) (.tmp rfl) hv_44) <| jc (op_loadPAg lb tA125 (.tmp rfl) rfl) <| jx (op_alloc lb tZ125 zr125) fun gb_45 => jc (op_storeA (j := 2) tA125 (.tmp rfl) (.tmp rfl) rfl (UpdR.self (by rfl)) rfl) <| jn <| jr <| jmv rfl rfl <| jc (op_fieldAddr (off := 0) lb tf125_0 (.tmp rfl)) <| jc (op_loadA (j := 2) lb tA26 (.tmp rfl) rfl (cT (comp_api_Dest_Dot v_44) rfl) rfl) <| JL.sub ⟨[(3, ov (PTR gb_3 0)), (4, ov (CLO 149 [PTR gb_3 0])), (6, ov (PTR gb_45 0)), (45, ov (S (rL r_api_Dest) t_1.To)), (46, ov (S (rI .i64) (List.length t_1.To : Int))), (47, ov (S (rI .i64) x_40)), (51, ov (CLO 149 [PTR gb_3 0])), (53, ov (A r_api_Dot v_44.Dot))], [cvar gb_3 (rW (HDR go_41 0 (List.length x_39) gc_42)) (), cown go_41 (rU UInt8) x_39 0 gc_42, cvar gb_45 r_api_Dest v_44], []⟩ (.cons rfl (.cons rfl (.cons rfl (.cons rfl (.cons rfl (.cons rfl (.cons rfl (.cons rfl .nil)))))))) rfl rfl ?_
   obtain ⟨⟨v_46, v_47⟩, hv_46, hx⟩ := bnd_inv hx
   refine jx (op_call (js := []) ld cl112 (sim_wire_Dot k v_44.Dot (v_46, v_47) hv_46) .func (.cons (.tmp rfl) .nil) rfl) (fun q => ?_)
   obtain ⟨go_48, gc_49⟩ := q
   refine jc (op_extract (i := 0) lb (.tmp rfl) rfl) <| jc (op_extract (i := 1) lb (.tmp rfl) rfl) <| bI hx fun x_50 hv_x_50 hx => JL.pre (Imp.frz (j := 0) rfl (ImpK.tupAt (s := 54) (i := 0) (q := HL go_48 (rU UInt8) v_46 gc_49) rfl rfl ownHL (ImpK.slotH (s := 55) rfl ImpK.refl))) <| jx (op_call (js := [1, 1]) ld cl149 (sim_event_bytes_1'2 k v_46 v_47 x_39 gb_3 go_41 gc_42 x_50 hv_x_50) (.tmp rfl) (.cons (HasO.wk (.tmp rfl) wkHL) (.cons (.tmp rfl) .nil)) rfl) (fun q => ?_)
   obtain ⟨go_51, gc_52⟩ := q
   refine JL.nrm ⟨[(3, ov (PTR gb_3 0)), (4, ov (CLO 149 [PTR gb_3 0])), (6, ov (PTR gb_45 0)), (45, ov (S (rL r_api_Dest) t_1.To)), (46, ov (S (rI .i64) (List.length t_1.To : Int))), (47, ov (S (rI .i64) x_40))], [cvar gb_3 (rW (HDR go_51 0 (List.length x_50) gc_52)) (), cown go_51 (rU UInt8) x_50 0 gc_52, cvar gb_45 r_api_Dest v_44], []⟩ [0, 0, 1] rfl (.cons rfl (.cons rfl (.cons rfl (.cons rfl (.cons rfl (.cons rfl .nil)))))) rfl <| jn <| JC.region <| jmv rfl rfl <| jc (op_fieldAddr (off := 2) lb tf125_1 (.tmp rfl)) <| jc (op_loadS (j := 2) lb tS9 (.tmp rfl) rfl (cT (comp_api_Dest_Device v_44) rfl) rfl rfl) <| jc (op_convSB lb tu9 tu27 tu5 (.tmp rfl)) ?_
   obtain ⟨⟨v_53, v_54⟩, hv_53, hx⟩ := bnd_inv hx
   refine jx (op_call (js := []) ld cl114 (sim_wire_Blob k v_44.Device (v_53, v_54) hv_53) .func (.cons (.tmp rfl) .nil) rfl) (fun q => ?_)
   obtain ⟨go_55, gc_56⟩ := q
   refine jc (op_extract (i := 0) lb (.tmp rfl) rfl) <| jc (op_extract (i := 1) lb (.tmp rfl) rfl) <| bI hx fun x_57 hv_x_57 hx => JL.pre (Imp.frz (j := 0) rfl (ImpK.tupAt (s := 62) (i := 0) (q := HL go_55 (rU UInt8) v_53 gc_56) rfl rfl ownHL (ImpK.slotH (s := 63) rfl ImpK.refl))) <| jx (op_call (js := [1, 1]) ld cl149 (sim_event_bytes_1'2 k v_53 v_54 x_50 gb_3 go_51 gc_52 x_57 hv_x_57) (.tmp rfl) (.cons (HasO.wk (.tmp rfl) wkHL) (.cons (.tmp rfl) .nil)) rfl) (fun q => ?_)
   obtain ⟨go_58, gc_59⟩ := q
   refine JL.nrm ⟨[(3, ov (PTR gb_3 0)), (4, ov (CLO 149 [PTR gb_3 0])), (45, ov (S (rL r_api_Dest) t_1.To)), (46, ov (S (rI .i64) (List.length t_1.To : Int))), (47, ov (S (rI .i64) x_40))], [cvar gb_3 (rW (HDR go_58 0 (List.length x_57) gc_59)) (), cown go_58 (rU UInt8) x_57 0 gc_59], []⟩ [0, 0] rfl (.cons rfl (.cons rfl (.cons rfl (.cons rfl (.cons rfl .nil))))) rfl <| JL.nil <| JQ.outNB <| JQ.then <| JC.region <| lI hx fun v_60 hv_60 hx => jc (op_arI lb (.tmp rfl) .cI (cs hv_60)) <| jmv rfl rfl <| JL.nil ?_
   try obtain rfl := so hx
   exact JQ.next (go_58, gc_59) rfl (Imp.norm (js := [0, 0]) rfl (.cons rfl (.cons rfl (.cons rfl (.cons rfl (.cons rfl .nil))))))
 refine JC.exit <| JQ.outX ?_
 try obtain rfl := so hx
 have ht := hr _ rfl
 have hq2 := cs ht
 clear hr ht
 refine JQ.outX <| JQ.here ?_
 try obtain rfl := so hq2
 exact JQ.join (go_41, gc_42) (Imp.norm (js := [0, 0]) rfl (.cons rfl .nil))

theorem sim_event_Bytes (k : Nat) (e_1 : api_Event) (r : (List UInt8) × Int) (hm : event_Bytes k e_1 = some r) : Sim Tryz.prog 126 [A r_api_Event e_1] [] (γ := Option Nat × Nat) (fun q => [cown q.1 (rU UInt8) r.1 0 q.2]) (fun q => .tup [.val (HDR q.1 0 (List.length r.1) q.2), .val (S (rI .i64) r.2)]) := by
 unfold event_Bytes at hm
 refine Sim.of Tryz.func126 rfl rfl (lE rfl) (fun e0 w0 => ?_)
 refine JC.at ⟨[(0, ov (A r_api_Event e_1))], [], []⟩ <| jr <| jx (op_boxA lb (.tmp rfl)) fun gb_2 => jc (op_assign lb HasO.nilH) <| jc (op_assign lb .cI) <| jn <| JC.seq <| jr <| jc (op_loadA (j := 0) lb tA32 (.tmp rfl) rfl (Comp.self r_api_Event e_1) rfl) <| bI hm fun v_3 hv_3 hm => jx (op_call (js := []) ld cl31 (sim_event_May k e_1 v_3 hv_3) .func (.cons (.tmp rfl) .nil) rfl) fun _ => lI hm fun v_4 hv_4 hm => jc (op_not lb (.tmp rfl) hv_4) <| jn ?_
 refine jif (.tmp rfl) hm (fun hc1 hm => ?_) (fun hc1 hm => ?_)
 · refine jr <| jc (op_assign lb HasO.nilH) <| jc (op_assign lb .cI) <| jn <| JC.ret <| JQ.outR ?_
   obtain rfl := so hm
   exact JQ.pre (Imp.nilown (rU UInt8)) <| JQ.done (js := [1]) (ss := [.val (HDR none 0 (List.length ([] : (List UInt8))) (0)), .val (S (rI .i64) (2 : Int))]) (none, 0) (.inl rfl) (.nil rfl) rfl (.cons (.tmp rfl) (.cons (.tmp rfl) .nil)) rfl rfl rfl
 refine JC.skip <| JQ.then <| jr <| jc (op_loadA (j := 0) lb tA32 (.tmp rfl) rfl (Comp.self r_api_Event e_1) rfl) <| bI hm fun v_5 hv_5 hm => jx (op_call (js := []) ld cl145 (sim_event_bytes k e_1 v_5 hv_5) .func (.cons (.tmp rfl) .nil) rfl) (fun q => ?_)
 obtain ⟨go_6, gc_7⟩ := q
 refine JL.nrm ⟨[(2, ov (HDR none 0 0 0)), (3, ov (S (rI .i64) (0 : Int))), (8, ov (HDR go_6 0 (List.length v_5) gc_7))], [cown go_6 (rU UInt8) v_5 0 gc_7], []⟩ [0] rfl (.cons rfl (.cons rfl (.cons rfl .nil))) rfl <| jc (op_assign lb (.tmp rfl)) <| jc (op_assign lb .cI) <| jn <| JC.ret ?_
 obtain rfl := so hm
 exact JQ.done (js := [0]) (ss := [.val (HDR go_6 0 (List.length v_5) gc_7), .val (S (rI .i64) (0 : Int))]) (go_6, gc_7) (.inl rfl) (.nil rfl) rfl (.cons (.tmp rfl) (.cons (.tmp rfl) .nil)) rfl rfl rfl

theorem sim_frame_writer_event (k : Nat) (f_1 : api_Frame) (x_3 : (List UInt8)) (gb_2 : Nat) (go_4 : Option Nat) (gc_5 : Nat) (r : (List UInt8)) (hm : frame_writer_event k f_1 x_3 = some r) : Sim Tryz.prog 94 [PTR gb_2 0, A r_api_Frame f_1] [cvar gb_2 (zq21 go_4 x_3 gc_5) ((), ()), cown go_4 (rU UInt8) x_3 0 gc_5] (γ := Option Nat × Nat) (fun q => [cvar gb_2 (rP (rW (HDR q.1 0 (List.length r) q.2)) r0) ((), ()), cown q.1 (rU UInt8) r 0 q.2]) (fun q => .tup []) := by
 unfold frame_writer_event at hm
 refine Sim.of Tryz.func94 rfl rfl (lE rfl) (fun e0 w0 => ?_)
 refine JC.at ⟨[(0, ov (PTR gb_2 0)), (1, ov (A r_api_Frame f_1))], [cvar gb_2 (zq21 go_4 x_3 gc_5) ((), ()), cown go_4 (rU UInt8) x_3 0 gc_5], []⟩ <| jr <| jx (op_boxA lb (.tmp rfl)) fun gb_6 => jn <| jr <| jc (op_fieldAddr (off := 4) lb tf39_4 (.tmp rfl)) <| jc (op_loadA (j := 2) lb tA32 (.tmp rfl) rfl (cT (comp_api_Frame_Event f_1) rfl) rfl) ?_
 obtain ⟨⟨v_7, v_8⟩, hv_7, hm⟩ := bnd_inv hm
 refine jx (op_call (js := []) ld cl126 (sim_event_Bytes k f_1.Event (v_7, v_8) hv_7) .func (.cons (.tmp rfl) .nil) rfl) (fun q => ?_)
 obtain ⟨go_9, gc_10⟩ := q
 refine jmv rfl rfl <| jc (op_extract (i := 0) lb (.tmp rfl) rfl) <| jc (op_extract (i := 1) lb (.tmp rfl) rfl) <| jc (op_assign lb (.tmp rfl)) <| JL.nrm ⟨[(0, ov (PTR gb_2 0)), (4, ov (HDR go_9 0 (List.length v_7) gc_10)), (11, ov (S (rI .i64) v_8))], [cown go_9 (rU UInt8) v_7 0 gc_10, cvar gb_2 (zq21 go_4 x_3 gc_5) ((), ()), cown go_4 (rU UInt8) x_3 0 gc_5], []⟩ [0, 0, 0] rfl (.cons rfl (.cons rfl (.cons rfl .nil))) rfl <| jc (op_assign lb (.tmp rfl)) <| jn <| jr <| jmv rfl rfl <| jmv rfl rfl <| jc (op_lenH lb tu27 (.tmp rfl)) <| lI hm fun v_11 hv_11 hm => jc (op_convIU lb tu3 tu24 (.tmp rfl) hv_11) ?_
 obtain ⟨⟨v_12, v_13⟩, hv_12, hm⟩ := bnd_inv hm
 refine jx (op_call (js := []) ld cl79 (sim_wire_Put k v_11 (4 : Int) (v_12, v_13) hv_12) .func (.cons (.tmp rfl) (.cons .cI .nil)) rfl) (fun q => ?_)
 obtain ⟨go_14, gc_15⟩ := q
 refine jc (op_extract (i := 0) lb (.tmp rfl) rfl) <| jc (op_extract (i := 1) lb (.tmp rfl) rfl) <| bI hm fun x_16 hv_x_16 hm => JL.pre (Imp.frz (j := 0) rfl (ImpK.tupAt (s := 16) (i := 0) (q := HL go_14 (rU UInt8) v_12 gc_15) rfl rfl ownHL (ImpK.slotH (s := 17) rfl ImpK.refl))) <| jx (op_call (js := [2, 2]) ld cl78 (sim_frame_writer_put'2 k v_12 v_13 x_3 gb_2 go_4 gc_5 x_16 hv_x_16) .func (.cons (.tmp rfl) (.cons (HasO.wk (.tmp rfl) wkHL) (.cons (.tmp rfl) .nil))) rfl) (fun q => ?_)
 obtain ⟨go_17, gc_18⟩ := q
 refine JL.nrm ⟨[(0, ov (PTR gb_2 0)), (4, ov (HDR go_9 0 (List.length v_7) gc_10))], [cvar gb_2 (zq21 go_17 x_16 gc_18) ((), ()), cown go_17 (rU UInt8) x_16 0 gc_18, cown go_9 (rU UInt8) v_7 0 gc_10], []⟩ [0, 0, 1] rfl (.cons rfl (.cons rfl .nil)) rfl <| jn <| JC.region <| jmv rfl rfl <| jmv rfl rfl <| jc (op_nilCheck lb (.tmp rfl) (fun e v h => by subst h; rfl)) <| jc (op_fieldAddr (off := 0) lb tf119_0 (.tmp rfl)) <| jc (op_loadW (j := 0) lb tS27 (.tmp rfl) rfl (Comp.trans (Comp.self (zq21 go_17 x_16 gc_18) ((), ())) (Comp.at' (Comp.inF (Comp.self (rW (HDR go_17 0 (List.length x_16) gc_18)) ()) (lE rfl)) (by rfl : _ = 0)) (lE rfl))) <| jmv rfl rfl <| bI hm fun x_19 hv_x_19 hm => jx (op_appendO (j := 1) (j' := 2) lb tu27 tu27 rfl tB5 rfl (Nat.lt_of_lt_of_le Nat.zero_lt_one (lE rfl)) (Nat.lt_of_lt_of_le Nat.zero_lt_one (lE rfl))  rfl (.tmp rfl) rfl (.tmp rfl) hv_x_19) (fun q => ?_)
 obtain ⟨go_20, gc_21⟩ := q
 refine jc (op_nilCheck lb (.tmp rfl) (fun e v h => by subst h; rfl)) <| jc (op_fieldAddr (off := 0) lb tf119_0 (.tmp rfl)) <| jc (op_storeW (j := 0) tS27 (.tmp rfl) (.tmp rfl) rfl ((UpdR.fst (UpdR.self (by rfl))).at (by change 0 = (0 + 0); omega)) rfl) <| JL.nrm ⟨[], [cvar gb_2 (zq21 go_20 x_19 gc_21) ((), ()), cown go_20 (rU UInt8) x_19 0 gc_21], []⟩ [0, 0] rfl .nil rfl <| JL.nil ?_
 obtain rfl := so hm
 exact JQ.done (js := [0, 0]) (ss := []) (go_20, gc_21) (.inr rfl) (.nil rfl) rfl .nil rfl rfl rfl

theorem sim_frame_writer_have (k : Nat) (f_1 : api_Frame) (x_3 : (List UInt8)) (gb_2 : Nat) (go_4 : Option Nat) (gc_5 : Nat) (r : (List UInt8)) (hm : frame_writer_have k f_1 x_3 = some r) : Sim Tryz.prog 96 [PTR gb_2 0, A r_api_Frame f_1] [cvar gb_2 (zq21 go_4 x_3 gc_5) ((), ()), cown go_4 (rU UInt8) x_3 0 gc_5] (γ := Option Nat × Nat) (fun q => [cvar gb_2 (rP (rW (HDR q.1 0 (List.length r) q.2)) r0) ((), ()), cown q.1 (rU UInt8) r 0 q.2]) (fun q => .tup []) := by
 unfold frame_writer_have at hm
 refine Sim.of Tryz.func96 rfl rfl (lE rfl) (fun e0 w0 => ?_)
 refine JC.at ⟨[(0, ov (PTR gb_2 0)), (1, ov (A r_api_Frame f_1))], [cvar gb_2 (zq21 go_4 x_3 gc_5) ((), ()), cown go_4 (rU UInt8) x_3 0 gc_5], []⟩ <| jr <| jx (op_boxA lb (.tmp rfl)) fun gb_6 => jn <| JC.region <| jmv rfl rfl <| jc (op_fieldAddr (off := 25) lb tf39_5 (.tmp rfl)) <| jc (op_loadA (j := 2) lb tA29 (.tmp rfl) rfl (cT (comp_api_Frame_Past f_1) rfl) rfl) <| bI hm fun v_7 hv_7 hm => jx (op_call (js := []) ld cl129 (sim_wire_Vector k f_1.Past v_7 hv_7) .func (.cons (.tmp rfl) .nil) rfl) (fun q => ?_)
 obtain ⟨go_8, gc_9⟩ := q
 refine bI hm fun x_10 hv_x_10 hm => JL.pre (Imp.frz (j := 0) rfl (ImpK.slotH (s := 7) rfl ImpK.refl)) <| jx (op_call (js := [1, 1]) ld cl78 (sim_frame_writer_put'2 k v_7 (0 : Int) x_3 gb_2 go_4 gc_5 x_10 hv_x_10) .func (.cons (.tmp rfl) (.cons (HasO.wk (.tmp rfl) wkHL) (.cons .cI .nil))) rfl) (fun q => ?_)
 obtain ⟨go_11, gc_12⟩ := q
 refine JL.nrm ⟨[], [cvar gb_2 (zq21 go_11 x_10 gc_12) ((), ()), cown go_11 (rU UInt8) x_10 0 gc_12], []⟩ [0, 0] rfl .nil rfl <| JL.nil ?_
 obtain rfl := so hm
 exact JQ.done (js := [0, 0]) (ss := []) (go_11, gc_12) (.inr rfl) (.nil rfl) rfl .nil rfl rfl rfl

theorem sim_frame_writer_dots (k : Nat) (l_1 : (List api_Dot)) (x_3 : (List UInt8)) (gb_2 : Nat) (go_4 : Option Nat) (gc_5 : Nat) (r : (List UInt8)) (hm : frame_writer_dots k l_1 x_3 = some r) : Sim Tryz.prog 132 [PTR gb_2 0, S (rL r_api_Dot) l_1] [cvar gb_2 (zq21 go_4 x_3 gc_5) ((), ()), cown go_4 (rU UInt8) x_3 0 gc_5] (γ := Option Nat × Nat) (fun q => [cvar gb_2 (rP (rW (HDR q.1 0 (List.length r) q.2)) r0) ((), ()), cown q.1 (rU UInt8) r 0 q.2]) (fun q => .tup []) := by
 unfold frame_writer_dots at hm
 refine Sim.of Tryz.func132 rfl rfl (lE rfl) (fun e0 w0 => ?_)
 refine JC.at ⟨[(0, ov (PTR gb_2 0)), (1, ov (S (rL r_api_Dot) l_1))], [cvar gb_2 (zq21 go_4 x_3 gc_5) ((), ()), cown go_4 (rU UInt8) x_3 0 gc_5], []⟩ <| jr <| jmv rfl rfl <| jmv rfl rfl <| jc (op_lenL lb tu33 (.tmp rfl)) <| lI hm fun v_6 hv_6 hm => jc (op_convIU lb tu3 tu24 (.tmp rfl) hv_6) ?_
 obtain ⟨⟨v_7, v_8⟩, hv_7, hm⟩ := bnd_inv hm
 refine jx (op_call (js := []) ld cl79 (sim_wire_Put k v_6 (2 : Int) (v_7, v_8) hv_7) .func (.cons (.tmp rfl) (.cons .cI .nil)) rfl) (fun q => ?_)
 obtain ⟨go_9, gc_10⟩ := q
 refine jc (op_extract (i := 0) lb (.tmp rfl) rfl) <| jc (op_extract (i := 1) lb (.tmp rfl) rfl) <| bI hm fun x_11 hv_x_11 hm => JL.pre (Imp.frz (j := 0) rfl (ImpK.tupAt (s := 10) (i := 0) (q := HL go_9 (rU UInt8) v_7 gc_10) rfl rfl ownHL (ImpK.slotH (s := 11) rfl ImpK.refl))) <| jx (op_call (js := [1, 1]) ld cl78 (sim_frame_writer_put'2 k v_7 v_8 x_3 gb_2 go_4 gc_5 x_11 hv_x_11) .func (.cons (.tmp rfl) (.cons (HasO.wk (.tmp rfl) wkHL) (.cons (.tmp rfl) .nil))) rfl) (fun q => ?_)
 obtain ⟨go_12, gc_13⟩ := q
 refine JL.nrm ⟨[(0, ov (PTR gb_2 0)), (1, ov (S (rL r_api_Dot) l_1))], [cvar gb_2 (zq21 go_12 x_11 gc_13) ((), ()), cown go_12 (rU UInt8) x_11 0 gc_13], []⟩ [0, 0] rfl (.cons rfl (.cons rfl .nil)) rfl <| jn <| jr <| jmv rfl rfl <| jc (op_lenL lb tu33 (.tmp rfl)) <| jc (op_move lb .cI) <| jn <| JC.block <| JC.pre ?_ (JC.loop (γ := Option Nat × Nat) (stf := fun s q => ⟨[(0, ov (PTR gb_2 0)), (14, ov (S (rL r_api_Dot) l_1)), (15, ov (S (rI .i64) (List.length l_1 : Int))), (16, ov (S (rI .i64) s.2))], [cvar gb_2 (rP (rW (HDR q.1 0 (List.length s.1) q.2)) r0) ((), ()), cown q.1 (rU UInt8) s.1 0 q.2], []⟩) (q := (go_12, gc_13)) hm ?_)
 · exact (Imp.norm (js := [0, 0]) rfl (.cons rfl (.cons rfl (.cons rfl (.cons rfl .nil)))))
 intro s q x hx hr
 obtain ⟨b_14, x_15⟩ := s
 obtain ⟨go_16, gc_17⟩ := q
 change frame_writer_dots.b1 k l_1 b_14 x_15 = some x at hx
 unfold frame_writer_dots.b1 at hx
 refine JC.at ⟨[(0, ov (PTR gb_2 0)), (14, ov (S (rL r_api_Dot) l_1)), (15, ov (S (rI .i64) (List.length l_1 : Int))), (16, ov (S (rI .i64) x_15))], [cvar gb_2 (zq21 go_16 b_14 gc_17) ((), ()), cown go_16 (rU UInt8) b_14 0 gc_17], []⟩ <| jr <| lI hx fun v_18 hv_18 hx => jc (op_cmpI lb (.tmp rfl) (.tmp rfl) (cs hv_18)) <| jn <| JC.seq <| jif (.tmp rfl) hx (fun hc2 hx => ?_) (fun hc2 hx => ?_)
 · refine JC.skip <| JQ.then <| JC.seq <| JC.block <| jr <| bI hx fun v_19 hv_19 hx => jc (op_indexAddrLg lb tu33 tz26 (.tmp rfl) (.tmp rfl) hv_19) <| jc (op_loadPAg lb tA26 (.tmp rfl) rfl) <| jx (op_alloc lb tZ26 zr26) fun gb_20 => jc (op_storeA (j := 2) tA26 (.tmp rfl) (.tmp rfl) rfl (UpdR.self (by rfl)) rfl) <| jn <| JC.region <| jmv rfl rfl <| jc (op_loadA (j := 2) lb tA26 (.tmp rfl) rfl (Comp.self r_api_Dot v_19) rfl) ?_
   obtain ⟨⟨v_21, v_22⟩, hv_21, hx⟩ := bnd_inv hx
   refine jx (op_call (js := []) ld cl112 (sim_wire_Dot k v_19 (v_21, v_22) hv_21) .func (.cons (.tmp rfl) .nil) rfl) (fun q => ?_)
   obtain ⟨go_23, gc_24⟩ := q
   refine JL.nrm ⟨[(0, ov (PTR gb_2 0)), (14, ov (S (rL r_api_Dot) l_1)), (15, ov (S (rI .i64) (List.length l_1 : Int))), (16, ov (S (rI .i64) x_15)), (20, ov (PTR gb_2 0)), (22, .tup [.val (HDR go_23 0 (List.length v_21) gc_24), .val (S (rI .i64) v_22)])], [cown go_23 (rU UInt8) v_21 0 gc_24, cvar gb_2 (zq21 go_16 b_14 gc_17) ((), ()), cown go_16 (rU UInt8) b_14 0 gc_17], []⟩ [0, 0, 0] rfl (.cons rfl (.cons rfl (.cons rfl (.cons rfl (.cons rfl (.cons rfl .nil)))))) rfl <| jc (op_extract (i := 0) lb (.tmp rfl) rfl) <| jc (op_extract (i := 1) lb (.tmp rfl) rfl) <| bI hx fun x_25 hv_x_25 hx => JL.pre (Imp.frz (j := 0) rfl (ImpK.tupAt (s := 22) (i := 0) (q := HL go_23 (rU UInt8) v_21 gc_24) rfl rfl ownHL (ImpK.slotH (s := 23) rfl ImpK.refl))) <| jx (op_call (js := [1, 1]) ld cl78 (sim_frame_writer_put'2 k v_21 v_22 b_14 gb_2 go_16 gc_17 x_25 hv_x_25) .func (.cons (.tmp rfl) (.cons (HasO.wk (.tmp rfl) wkHL) (.cons (.tmp rfl) .nil))) rfl) (fun q => ?_)
   obtain ⟨go_26, gc_27⟩ := q
   refine JL.nrm ⟨[(0, ov (PTR gb_2 0)), (14, ov (S (rL r_api_Dot) l_1)), (15, ov (S (rI .i64) (List.length l_1 : Int))), (16, ov (S (rI .i64) x_15))], [cvar gb_2 (zq21 go_26 x_25 gc_27) ((), ()), cown go_26 (rU UInt8) x_25 0 gc_27], []⟩ [0, 0] rfl (.cons rfl (.cons rfl (.cons rfl (.cons rfl .nil)))) rfl <| JL.nil <| JQ.outNB <| JQ.then <| JC.region <| lI hx fun v_28 hv_28 hx => jc (op_arI lb (.tmp rfl) .cI (cs hv_28)) <| jmv rfl rfl <| JL.nil ?_
   try obtain rfl := so hx
   exact JQ.next (go_26, gc_27) rfl (Imp.norm (js := [0, 0]) rfl (.cons rfl (.cons rfl (.cons rfl (.cons rfl .nil)))))
 refine JC.exit <| JQ.outX ?_
 try obtain rfl := so hx
 have ht := hr _ rfl
 have hq1 := cs ht
 clear hr ht
 refine JQ.outX <| JQ.here ?_
 obtain rfl := so hq1
 exact JQ.done (js := [0, 0]) (ss := []) (go_16, gc_17) (.inr rfl) (.nil rfl) rfl .nil rfl rfl rfl

theorem sim_frame_writer_seen (k : Nat) (f_1 : api_Frame) (x_3 : (List UInt8)) (gb_2 : Nat) (go_4 : Option Nat) (gc_5 : Nat) (r : (List UInt8)) (hm : frame_writer_seen k f_1 x_3 = some r) : Sim Tryz.prog 131 [PTR gb_2 0, A r_api_Frame f_1] [cvar gb_2 (zq21 go_4 x_3 gc_5) ((), ()), cown go_4 (rU UInt8) x_3 0 gc_5] (γ := Option Nat × Nat) (fun q => [cvar gb_2 (rP (rW (HDR q.1 0 (List.length r) q.2)) r0) ((), ()), cown q.1 (rU UInt8) r 0 q.2]) (fun q => .tup []) := by
 unfold frame_writer_seen at hm
 refine Sim.of Tryz.func131 rfl rfl (lE rfl) (fun e0 w0 => ?_)
 refine JC.at ⟨[(0, ov (PTR gb_2 0)), (1, ov (A r_api_Frame f_1))], [cvar gb_2 (zq21 go_4 x_3 gc_5) ((), ()), cown go_4 (rU UInt8) x_3 0 gc_5], []⟩ <| jr <| jx (op_boxA lb (.tmp rfl)) fun gb_6 => jn <| jr <| jmv rfl rfl <| jc (op_fieldAddr (off := 41) lb tf39_6 (.tmp rfl)) <| jc (op_loadA (j := 2) lb tA29 (.tmp rfl) rfl (cT (comp_api_Frame_Seen f_1) rfl) rfl) <| bI hm fun v_7 hv_7 hm => jx (op_call (js := []) ld cl129 (sim_wire_Vector k f_1.Seen v_7 hv_7) .func (.cons (.tmp rfl) .nil) rfl) (fun q => ?_)
 obtain ⟨go_8, gc_9⟩ := q
 refine bI hm fun x_10 hv_x_10 hm => JL.pre (Imp.frz (j := 0) rfl (ImpK.slotH (s := 7) rfl ImpK.refl)) <| jx (op_call (js := [1, 1]) ld cl78 (sim_frame_writer_put'2 k v_7 (0 : Int) x_3 gb_2 go_4 gc_5 x_10 hv_x_10) .func (.cons (.tmp rfl) (.cons (HasO.wk (.tmp rfl) wkHL) (.cons .cI .nil))) rfl) (fun q => ?_)
 obtain ⟨go_11, gc_12⟩ := q
 refine JL.nrm ⟨[(0, ov (PTR gb_2 0)), (3, ov (PTR gb_6 0))], [cvar gb_2 (zq21 go_11 x_10 gc_12) ((), ()), cown go_11 (rU UInt8) x_10 0 gc_12, cvar gb_6 r_api_Frame f_1], []⟩ [0, 0, 1] rfl (.cons rfl (.cons rfl .nil)) rfl <| jn <| JC.region <| jmv rfl rfl <| jc (op_fieldAddr (off := 57) lb tf39_7 (.tmp rfl)) <| jc (op_loadS (j := 2) lb tS33 (.tmp rfl) rfl (cT (comp_api_Frame_Extra f_1) rfl) rfl rfl) <| bI hm fun x_13 hv_x_13 hm => jx (op_call (js := [0, 0]) ld cl132 (sim_frame_writer_dots k f_1.Extra x_10 gb_2 go_11 gc_12 x_13 hv_x_13) .func (.cons (.tmp rfl) (.cons (.tmp rfl) .nil)) rfl) (fun q => ?_)
 obtain ⟨go_14, gc_15⟩ := q
 refine JL.nil ?_
 obtain rfl := so hm
 exact JQ.done (js := [0, 0]) (ss := []) (go_14, gc_15) (.inr rfl) (.nil rfl) rfl .nil rfl rfl rfl

theorem sim_frame_writer_known (k : Nat) (f_1 : api_Frame) (x_3 : (List UInt8)) (gb_2 : Nat) (go_4 : Option Nat) (gc_5 : Nat) (r : (List UInt8)) (hm : frame_writer_known k f_1 x_3 = some r) : Sim Tryz.prog 98 [PTR gb_2 0, A r_api_Frame f_1] [cvar gb_2 (zq21 go_4 x_3 gc_5) ((), ()), cown go_4 (rU UInt8) x_3 0 gc_5] (γ := Option Nat × Nat) (fun q => [cvar gb_2 (rP (rW (HDR q.1 0 (List.length r) q.2)) r0) ((), ()), cown q.1 (rU UInt8) r 0 q.2]) (fun q => .tup []) := by
 unfold frame_writer_known at hm
 refine Sim.of Tryz.func98 rfl rfl (lE rfl) (fun e0 w0 => ?_)
 refine JC.at ⟨[(0, ov (PTR gb_2 0)), (1, ov (A r_api_Frame f_1))], [cvar gb_2 (zq21 go_4 x_3 gc_5) ((), ()), cown go_4 (rU UInt8) x_3 0 gc_5], []⟩ <| jr <| jx (op_boxA lb (.tmp rfl)) fun gb_6 => jn <| jr <| jmv rfl rfl <| jc (op_loadA (j := 2) lb tA39 (.tmp rfl) rfl (Comp.self r_api_Frame f_1) rfl) <| bI hm fun x_7 hv_x_7 hm => jx (op_call (js := [0, 0]) ld cl131 (sim_frame_writer_seen k f_1 x_3 gb_2 go_4 gc_5 x_7 hv_x_7) .func (.cons (.tmp rfl) (.cons (.tmp rfl) .nil)) rfl) (fun q => ?_)
 obtain ⟨go_8, gc_9⟩ := q
 refine jn <| JC.region <| jmv rfl rfl <| jc (op_fieldAddr (off := 58) lb tf39_8 (.tmp rfl)) <| jc (op_loadS (j := 2) lb tS33 (.tmp rfl) rfl (cT (comp_api_Frame_Live f_1) rfl) rfl rfl) <| bI hm fun x_10 hv_x_10 hm => jx (op_call (js := [0, 0]) ld cl132 (sim_frame_writer_dots k f_1.Live x_7 gb_2 go_8 gc_9 x_10 hv_x_10) .func (.cons (.tmp rfl) (.cons (.tmp rfl) .nil)) rfl) (fun q => ?_)
 obtain ⟨go_11, gc_12⟩ := q
 refine JL.nrm ⟨[], [cvar gb_2 (zq21 go_11 x_10 gc_12) ((), ()), cown go_11 (rU UInt8) x_10 0 gc_12], []⟩ [0, 0] rfl .nil rfl <| JL.nil ?_
 obtain rfl := so hm
 exact JQ.done (js := [0, 0]) (ss := []) (go_11, gc_12) (.inr rfl) (.nil rfl) rfl .nil rfl rfl rfl

theorem sim_frame_writer_root (k : Nat) (f_1 : api_Frame) (x_3 : (List UInt8)) (gb_2 : Nat) (go_4 : Option Nat) (gc_5 : Nat) (r : (List UInt8)) (hm : frame_writer_root k f_1 x_3 = some r) : Sim Tryz.prog 100 [PTR gb_2 0, A r_api_Frame f_1] [cvar gb_2 (zq21 go_4 x_3 gc_5) ((), ()), cown go_4 (rU UInt8) x_3 0 gc_5] (γ := Option Nat × Nat) (fun q => [cvar gb_2 (rP (rW (HDR q.1 0 (List.length r) q.2)) r0) ((), ()), cown q.1 (rU UInt8) r 0 q.2]) (fun q => .tup []) := by
 unfold frame_writer_root at hm
 refine Sim.of Tryz.func100 rfl rfl (lE rfl) (fun e0 w0 => ?_)
 refine JC.at ⟨[(0, ov (PTR gb_2 0)), (1, ov (A r_api_Frame f_1))], [cvar gb_2 (zq21 go_4 x_3 gc_5) ((), ()), cown go_4 (rU UInt8) x_3 0 gc_5], []⟩ <| jr <| jx (op_boxA lb (.tmp rfl)) fun gb_6 => jn <| JC.pre (Imp.frzVar (j := 2) rfl (ImpK.slotP (s := 3) rfl (Comp.self r_api_Frame f_1) ImpK.refl)) <| bI hm fun v_7 hv_7 hm => ?_
 obtain ⟨x_8, hv_x_8, hm⟩ := bnd_inv hm
 refine JC.anyF (base := [(0, ov (PTR gb_2 0)), (3, ov (PT r_api_Frame f_1))])
     (fs := fun γ => [⟨some 4, ov (PTR gb_2 0)⟩, ⟨some 5, ov (PTR gb_2 0)⟩, ⟨some 6, ov (PTR gb_2 0)⟩, ⟨some 7, ov (PTR gb_2 (0 + 0))⟩, ⟨some 8, ov (HDR go_4 0 (List.length x_3) gc_5)⟩, ⟨some 9, ov (PT (rV 32 (rU UInt8)) f_1.Hash)⟩, ⟨some 10, ov (S (rL (rU UInt8)) v_7)⟩, ⟨some 11, ov (HDR (deo (γ 7 0)) 0 (List.length x_8) (γ 7 1))⟩, ⟨some 12, ov (PTR gb_2 0)⟩, ⟨some 13, ov (PTR gb_2 (0 + 0))⟩, ⟨none, .one .any⟩])
     (rs := fun γ => [⟨cvar gb_2 (zq21 go_4 x_3 gc_5) ((), ()), none, (some 10), [4]⟩, ⟨cown go_4 (rU UInt8) x_3 0 gc_5, none, (some 7), []⟩, ⟨cown (deo (γ 7 0)) (rU UInt8) x_8 0 (γ 7 1), (some 7), none, []⟩, ⟨cvar gb_2 (zq21 (deo (γ 7 0)) x_8 (γ 7 1)) ((), ()), (some 10), none, []⟩])
     (afts := [[], [], [], [], [], [], [], [7, 8, 9, 10], [], [], []]) (js := [0, 0]) mixed (.cons rfl (.cons rfl .nil)) (fun _ => rfl)
     (by
      refine db 1 0 <| db 2 0 <| dS 3 (fun γ ρ B hb hd => op_nilCheck lb (tl hd 1 5) (fun e v h => by subst h; rfl)) <| dS 4 (fun γ ρ B hb hd => op_fieldAddr (off := 0) lb tf119_0 (tl hd 2 6)) <| dR 5 (fun γ ρ B hb hd => OpStep.lk ⟨ρ, (cvar gb_2 (zq21 go_4 x_3 gc_5) ((), ())) :: B, _⟩ (op_loadW (j := 0) lb tS27 (tl hd 3 7) rfl (Comp.trans (Comp.self (zq21 go_4 x_3 gc_5) ((), ())) (Comp.at' (Comp.inF (Comp.self (rW (HDR go_4 0 (List.length x_3) gc_5)) ()) (lE rfl)) (by rfl : _ = 0)) (lE rfl)))) ?_
      refine dS 6 (fun γ ρ B hb hd => op_fieldAddrP lb tf39_9 (.tmp (hb 3 _ rfl)) (comp_api_Frame_Hash f_1)) <| dS 7 (fun γ ρ B hb hd => op_sliceP lb tu35 tz5 (tl hd 5 9) .none .none hv_7) ?_
      refine DSteps.cons (j := 8) rfl (fun _ => rfl) (.runX (fun _ _ => rfl) (fun γ ρ B hb hd => ⟨.none, OpX.ghost (γ := Option Nat × Nat) (st' := fun q => setO ⟨ρ, (cown q.1 (rU UInt8) x_8 0 q.2) :: B, _⟩ (some 11) (ov (HDR q.1 0 (List.length x_8) q.2))) (fun q c => bif Nat.beq c 0 then eno q.1 else q.2) (op_appendL (j := 0) lb tu27 tu27 rfl tB5 rfl (Nat.lt_of_lt_of_le Nat.zero_lt_one (lE rfl)) (Nat.lt_of_lt_of_le Nat.zero_lt_one (lE rfl))  rfl (tl hd 4 8) (tl hd 6 10) hv_x_8) (fun q => by obtain ⟨q0, q1⟩ := q; cases q0 <;> exact Imp.refl)⟩) (fun _ _ => rfl) (fun _ _ => rfl)) ?_
      refine dS 9 (fun γ ρ B hb hd => op_nilCheck lb (tl hd 0 4) (fun e v h => by subst h; rfl)) <| dS 10 (fun γ ρ B hb hd => op_fieldAddr (off := 0) lb tf119_0 (tl hd 8 12)) <| dR 11 (fun γ ρ B hb hd => OpStep.at ⟨ρ, (cvar gb_2 (zq21 go_4 x_3 gc_5) ((), ())) :: B, _⟩ (setO ⟨ρ, (cvar gb_2 (zq21 (deo (γ 7 0)) x_8 (γ 7 1)) ((), ())) :: B, _⟩ _ _) (op_storeW (j := 0) tS27 (tl hd 9 13) (tl hd 7 11) rfl ((UpdR.fst (UpdR.self (by rfl))).at (by change 0 = (0 + 0); omega)) rfl)) ?_
      exact DSteps.nil)
     (by decide +kernel) (fun _ => rfl) (fun _ => rfl) (fun _ => rfl) rfl
     (ρ' := fun γ => [])
     (X' := fun γ => [cown (deo (γ 7 0)) (rU UInt8) x_8 0 (γ 7 1), cvar gb_2 (zq21 (deo (γ 7 0)) x_8 (γ 7 1)) ((), ())])
     (fun γ ρ hb hd => .nil) (fun _ => rfl) (fun γ => ?_)
 generalize (deo (γ 7 0)) = go_9
 generalize (γ 7 1) = gc_10
 clear γ
 refine JQ.at ⟨[], [cown go_9 (rU UInt8) x_8 0 gc_10, cvar gb_2 (zq21 go_9 x_8 gc_10) ((), ())], []⟩ ?_
 obtain rfl := so hm
 exact JQ.done (js := [1, 0]) (ss := []) (go_9, gc_10) (.inr rfl) (.nil rfl) rfl .nil rfl rfl rfl

theorem sim_frame_writer_leaves (k : Nat) (f_1 : api_Frame) (x_3 : (List UInt8)) (gb_2 : Nat) (go_4 : Option Nat) (gc_5 : Nat) (r : (List UInt8)) (hm : frame_writer_leaves k f_1 x_3 = some r) : Sim Tryz.prog 102 [PTR gb_2 0, A r_api_Frame f_1] [cvar gb_2 (zq21 go_4 x_3 gc_5) ((), ()), cown go_4 (rU UInt8) x_3 0 gc_5] (γ := Option Nat × Nat) (fun q => [cvar gb_2 (rP (rW (HDR q.1 0 (List.length r) q.2)) r0) ((), ()), cown q.1 (rU UInt8) r 0 q.2]) (fun q => .tup []) := by
 unfold frame_writer_leaves at hm
 refine Sim.of Tryz.func102 rfl rfl (lE rfl) (fun e0 w0 => ?_)
 refine JC.at ⟨[(0, ov (PTR gb_2 0)), (1, ov (A r_api_Frame f_1))], [cvar gb_2 (zq21 go_4 x_3 gc_5) ((), ()), cown go_4 (rU UInt8) x_3 0 gc_5], []⟩ <| jr <| jx (op_boxA lb (.tmp rfl)) fun gb_6 => jn <| jr <| jc (op_fieldAddr (off := 91) lb tf39_10 (.tmp rfl)) <| jc (op_loadS (j := 2) lb tS36 (.tmp rfl) rfl (cT (comp_api_Frame_Leaves f_1) rfl) rfl rfl) <| jc (op_lenL lb tu36 (.tmp rfl)) <| jc (op_move lb .cI) <| jn <| JC.block <| JC.pre ?_ (JC.loop (γ := Option Nat × Nat) (stf := fun s q => ⟨[(0, ov (PTR gb_2 0)), (7, ov (S (rL (rV 32 (rU UInt8))) f_1.Leaves)), (8, ov (S (rI .i64) (List.length f_1.Leaves : Int))), (9, ov (S (rI .i64) s.2))], [cvar gb_2 (rP (rW (HDR q.1 0 (List.length s.1) q.2)) r0) ((), ()), cown q.1 (rU UInt8) s.1 0 q.2], []⟩) (q := (go_4, gc_5)) hm ?_)
 · exact (Imp.norm (js := [0, 0]) rfl (.cons rfl (.cons rfl (.cons rfl (.cons rfl .nil)))))
 intro s q x hx hr
 obtain ⟨b_7, x_8⟩ := s
 obtain ⟨go_9, gc_10⟩ := q
 change frame_writer_leaves.b1 k f_1 b_7 x_8 = some x at hx
 unfold frame_writer_leaves.b1 at hx
 refine JC.at ⟨[(0, ov (PTR gb_2 0)), (7, ov (S (rL (rV 32 (rU UInt8))) f_1.Leaves)), (8, ov (S (rI .i64) (List.length f_1.Leaves : Int))), (9, ov (S (rI .i64) x_8))], [cvar gb_2 (zq21 go_9 b_7 gc_10) ((), ()), cown go_9 (rU UInt8) b_7 0 gc_10], []⟩ <| jr <| lI hx fun v_11 hv_11 hx => jc (op_cmpI lb (.tmp rfl) (.tmp rfl) (cs hv_11)) <| jn <| JC.seq <| jif (.tmp rfl) hx (fun hc2 hx => ?_) (fun hc2 hx => ?_)
 · refine JC.skip <| JQ.then <| JC.seq <| JC.block <| jr <| bI hx fun v_12 hv_12 hx => jc (op_indexAddrLg lb tu36 tz35 (.tmp rfl) (.tmp rfl) hv_12) <| jc (op_loadPAg lb tA35 (.tmp rfl) rfl) <| jx (op_alloc lb tZ35 zr35) fun gb_13 => jc (op_storeA (j := 2) tA35 (.tmp rfl) (.tmp rfl) rfl (UpdR.self (by rfl)) rfl) <| jn <| JC.pre (Imp.frzVar (j := 2) rfl (ImpK.slotP (s := 5) rfl (Comp.self (rV 32 (rU UInt8)) v_12) ImpK.refl)) <| bI hx fun v_14 hv_14 hx => ?_
   obtain ⟨x_15, hv_x_15, hx⟩ := bnd_inv hx
   refine JC.anyF (base := [(0, ov (PTR gb_2 0)), (5, ov (PT (rV 32 (rU UInt8)) v_12)), (7, ov (S (rL (rV 32 (rU UInt8))) f_1.Leaves)), (8, ov (S (rI .i64) (List.length f_1.Leaves : Int))), (9, ov (S (rI .i64) x_8))])
       (fs := fun γ => [⟨some 13, ov (PTR gb_2 0)⟩, ⟨some 14, ov (PTR gb_2 0)⟩, ⟨some 15, ov (PTR gb_2 0)⟩, ⟨some 16, ov (PTR gb_2 (0 + 0))⟩, ⟨some 17, ov (HDR go_9 0 (List.length b_7) gc_10)⟩, ⟨some 18, ov (S (rL (rU UInt8)) v_14)⟩, ⟨some 19, ov (HDR (deo (γ 6 0)) 0 (List.length x_15) (γ 6 1))⟩, ⟨some 20, ov (PTR gb_2 0)⟩, ⟨some 21, ov (PTR gb_2 (0 + 0))⟩, ⟨none, .one .any⟩])
       (rs := fun γ => [⟨cvar gb_2 (zq21 go_9 b_7 gc_10) ((), ()), none, (some 9), [4]⟩, ⟨cown go_9 (rU UInt8) b_7 0 gc_10, none, (some 6), []⟩, ⟨cown (deo (γ 6 0)) (rU UInt8) x_15 0 (γ 6 1), (some 6), none, []⟩, ⟨cvar gb_2 (zq21 (deo (γ 6 0)) x_15 (γ 6 1)) ((), ()), (some 9), none, []⟩])
       (afts := [[], [], [], [], [], [], [6, 7, 8, 9], [], [], []]) (js := [0, 0]) mixed (.cons rfl (.cons rfl (.cons rfl (.cons rfl (.cons rfl .nil))))) (fun _ => rfl)
       (by
      refine db 1 0 <| db 2 0 <| dS 3 (fun γ ρ B hb hd => op_nilCheck lb (tl hd 1 14) (fun e v h => by subst h; rfl)) <| dS 4 (fun γ ρ B hb hd => op_fieldAddr (off := 0) lb tf119_0 (tl hd 2 15)) <| dR 5 (fun γ ρ B hb hd => OpStep.lk ⟨ρ, (cvar gb_2 (zq21 go_9 b_7 gc_10) ((), ())) :: B, _⟩ (op_loadW (j := 0) lb tS27 (tl hd 3 16) rfl (Comp.trans (Comp.self (zq21 go_9 b_7 gc_10) ((), ())) (Comp.at' (Comp.inF (Comp.self (rW (HDR go_9 0 (List.length b_7) gc_10)) ()) (lE rfl)) (by rfl : _ = 0)) (lE rfl)))) ?_
      refine dS 6 (fun γ ρ B hb hd => op_sliceP lb tu35 tz5 (.tmp (hb 5 _ rfl)) .none .none hv_14) ?_
      refine DSteps.cons (j := 7) rfl (fun _ => rfl) (.runX (fun _ _ => rfl) (fun γ ρ B hb hd => ⟨.none, OpX.ghost (γ := Option Nat × Nat) (st' := fun q => setO ⟨ρ, (cown q.1 (rU UInt8) x_15 0 q.2) :: B, _⟩ (some 19) (ov (HDR q.1 0 (List.length x_15) q.2))) (fun q c => bif Nat.beq c 0 then eno q.1 else q.2) (op_appendL (j := 0) lb tu27 tu27 rfl tB5 rfl (Nat.lt_of_lt_of_le Nat.zero_lt_one (lE rfl)) (Nat.lt_of_lt_of_le Nat.zero_lt_one (lE rfl))  rfl (tl hd 4 17) (tl hd 5 18) hv_x_15) (fun q => by obtain ⟨q0, q1⟩ := q; cases q0 <;> exact Imp.refl)⟩) (fun _ _ => rfl) (fun _ _ => rfl)) ?_
      refine dS 8 (fun γ ρ B hb hd => op_nilCheck lb (tl hd 0 13) (fun e v h => by subst h; rfl)) <| dS 9 (fun γ ρ B hb hd => op_fieldAddr (off := 0) lb tf119_0 (tl hd 7 20)) <| dR 10 (fun γ ρ B hb hd => OpStep.at ⟨ρ, (cvar gb_2 (zq21 go_9 b_7 gc_10) ((), ())) :: B, _⟩ (setO ⟨ρ, (cvar gb_2 (zq21 (deo (γ 6 0)) x_15 (γ 6 1)) ((), ())) :: B, _⟩ _ _) (op_storeW (j := 0) tS27 (tl hd 8 21) (tl hd 6 19) rfl ((UpdR.fst (UpdR.self (by rfl))).at (by change 0 = (0 + 0); omega)) rfl)) ?_
      exact DSteps.nil)
       (by decide +kernel) (fun _ => rfl) (fun _ => rfl) (fun _ => rfl) rfl
       (ρ' := fun γ => [(0, ov (PTR gb_2 0)), (7, ov (S (rL (rV 32 (rU UInt8))) f_1.Leaves)), (8, ov (S (rI .i64) (List.length f_1.Leaves : Int))), (9, ov (S (rI .i64) x_8))])
       (X' := fun γ => [cown (deo (γ 6 0)) (rU UInt8) x_15 0 (γ 6 1), cvar gb_2 (zq21 (deo (γ 6 0)) x_15 (γ 6 1)) ((), ())])
       (fun γ ρ hb hd => (.cons (hb 0 _ rfl) (.cons (hb 7 _ rfl) (.cons (hb 8 _ rfl) (.cons (hb 9 _ rfl) .nil))))) (fun _ => rfl) (fun γ => ?_)
   generalize (deo (γ 6 0)) = go_16
   generalize (γ 6 1) = gc_17
   clear γ
   refine JQ.at ⟨[(0, ov (PTR gb_2 0)), (7, ov (S (rL (rV 32 (rU UInt8))) f_1.Leaves)), (8, ov (S (rI .i64) (List.length f_1.Leaves : Int))), (9, ov (S (rI .i64) x_8))], [cown go_16 (rU UInt8) x_15 0 gc_17, cvar gb_2 (zq21 go_16 x_15 gc_17) ((), ())], []⟩ <| JQ.outNB <| JQ.then <| JC.region <| lI hx fun v_18 hv_18 hx => jc (op_arI lb (.tmp rfl) .cI (cs hv_18)) <| jmv rfl rfl <| JL.nil ?_
   try obtain rfl := so hx
   exact JQ.next (go_16, gc_17) rfl (Imp.norm (js := [1, 0]) rfl (.cons rfl (.cons rfl (.cons rfl (.cons rfl .nil)))))
 refine JC.exit <| JQ.outX ?_
 try obtain rfl := so hx
 have ht := hr _ rfl
 have hq1 := cs ht
 clear hr ht
 refine JQ.outX <| JQ.here ?_
 obtain rfl := so hq1
 exact JQ.done (js := [0, 0]) (ss := []) (go_9, gc_10) (.inr rfl) (.nil rfl) rfl .nil rfl rfl rfl

end Go.Proofs.YtklnihlchhhhlaaGreat
