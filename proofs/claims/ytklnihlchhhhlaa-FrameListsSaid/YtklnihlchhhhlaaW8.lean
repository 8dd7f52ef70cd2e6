/- Walks. -/
import Derived.Test.YtklnihlchhhhlaaT
namespace Go.Proofs.Ytklnihlchhhhlaa
open Go Fw
set_option linter.unusedVariables false
set_option maxRecDepth 100000
set_option maxHeartbeats 4000000

theorem sim_frame_forms (k : Nat) (r : (List (Int × frame_form))) (hm : frame_forms k = some r) : Sim Try.prog 19 [] [] (γ := Option Nat) (fun q => [cmap q (S (rI .i64)) (A r_frame_form) (some r)]) (fun q => .one (.val (MPV q))) := by
 unfold frame_forms at hm
 refine Sim.of Try.func19 rfl rfl (lE rfl) (fun e0 w0 => ?_)
 refine JC.at ⟨[], [], []⟩ ?_
 refine jr <| jc (op_assign lb (HasO.const (p := MPV none) fun _ => rfl)) <| jn <| jr ?_
 refine jx (op_makeMap lb (S (rI .i64)) (A r_frame_form)) (fun q => ?_)
 obtain ⟨gb_1, hqq⟩ : ∃ z, z = q := ⟨_, rfl⟩
 subst hqq
 refine jc (op_build lb tZ72 zs72 tp72 (.S (off := 0) (s := rW (CLO 42 [])) (u := ()) rfl (HasO.wk (q := S (rW (CLO 42 [])) ()) .func wkV) rfl ((UpdR.fst (UpdR.self (by rfl))).at (by rfl)) (.S (off := 1) (s := rW (CLO 43 [])) (u := ()) rfl (HasO.wk (q := S (rW (CLO 43 [])) ()) .func wkV) rfl ((UpdR.snd (UpdR.fst (UpdR.self (by rfl)))).at (by rfl)) .nil)) rfl) ?_
 replace hm := lt1_inv hm
 obtain ⟨x_2, hv_x_2, hm⟩ := hm
 refine jc (op_insert (j := 0) tu74 ky38 rfl (.tmp rfl) .cI (HasO.wk (q := A r_frame_form (frame_form.mk (some 42 : Option Nat) (some 43 : Option Nat))) (.tmp rfl) (wkAK (Wk.st (Wk.pair Wk.clo (Wk.pair Wk.clo Wk.refl))))) (congrArg (fun z => some (some z)) hv_x_2)) <| jc (op_build lb tZ72 zs72 tp72 (.S (off := 0) (s := rW (CLO 44 [])) (u := ()) rfl (HasO.wk (q := S (rW (CLO 44 [])) ()) .func wkV) rfl ((UpdR.fst (UpdR.self (by rfl))).at (by rfl)) (.S (off := 1) (s := rW (CLO 45 [])) (u := ()) rfl (HasO.wk (q := S (rW (CLO 45 [])) ()) .func wkV) rfl ((UpdR.snd (UpdR.fst (UpdR.self (by rfl)))).at (by rfl)) .nil)) rfl) ?_
 replace hm := lt1_inv hm
 obtain ⟨x_3, hv_x_3, hm⟩ := hm
 refine jc (op_insert (j := 0) tu74 ky38 rfl (.tmp rfl) .cI (HasO.wk (q := A r_frame_form (frame_form.mk (some 44 : Option Nat) (some 45 : Option Nat))) (.tmp rfl) (wkAK (Wk.st (Wk.pair Wk.clo (Wk.pair Wk.clo Wk.refl))))) (congrArg (fun z => some (some z)) hv_x_3)) ?_
 refine JL.sub ⟨[(0, ov (MPV none)), (1, ov (MPV (some gb_1)))], [cmap (some gb_1) (S (rI .i64)) (A r_frame_form) (some x_3)], []⟩ (.cons rfl (.cons rfl .nil)) rfl rfl ?_
 refine jc (op_build lb tZ72 zs72 tp72 (.S (off := 0) (s := rW (CLO 46 [])) (u := ()) rfl (HasO.wk (q := S (rW (CLO 46 [])) ()) .func wkV) rfl ((UpdR.fst (UpdR.self (by rfl))).at (by rfl)) (.S (off := 1) (s := rW (CLO 47 [])) (u := ()) rfl (HasO.wk (q := S (rW (CLO 47 [])) ()) .func wkV) rfl ((UpdR.snd (UpdR.fst (UpdR.self (by rfl)))).at (by rfl)) .nil)) rfl) ?_
 replace hm := lt1_inv hm
 obtain ⟨x_4, hv_x_4, hm⟩ := hm
 refine jc (op_insert (j := 0) tu74 ky38 rfl (.tmp rfl) .cI (HasO.wk (q := A r_frame_form (frame_form.mk (some 46 : Option Nat) (some 47 : Option Nat))) (.tmp rfl) (wkAK (Wk.st (Wk.pair Wk.clo (Wk.pair Wk.clo Wk.refl))))) (congrArg (fun z => some (some z)) hv_x_4)) <| jc (op_build lb tZ72 zs72 tp72 (.S (off := 0) (s := rW (CLO 48 [])) (u := ()) rfl (HasO.wk (q := S (rW (CLO 48 [])) ()) .func wkV) rfl ((UpdR.fst (UpdR.self (by rfl))).at (by rfl)) (.S (off := 1) (s := rW (CLO 49 [])) (u := ()) rfl (HasO.wk (q := S (rW (CLO 49 [])) ()) .func wkV) rfl ((UpdR.snd (UpdR.fst (UpdR.self (by rfl)))).at (by rfl)) .nil)) rfl) ?_
 replace hm := lt1_inv hm
 obtain ⟨x_5, hv_x_5, hm⟩ := hm
 refine jc (op_insert (j := 0) tu74 ky38 rfl (.tmp rfl) .cI (HasO.wk (q := A r_frame_form (frame_form.mk (some 48 : Option Nat) (some 49 : Option Nat))) (.tmp rfl) (wkAK (Wk.st (Wk.pair Wk.clo (Wk.pair Wk.clo Wk.refl))))) (congrArg (fun z => some (some z)) hv_x_5)) <| jc (op_build lb tZ72 zs72 tp72 (.S (off := 0) (s := rW (CLO 50 [])) (u := ()) rfl (HasO.wk (q := S (rW (CLO 50 [])) ()) .func wkV) rfl ((UpdR.fst (UpdR.self (by rfl))).at (by rfl)) (.S (off := 1) (s := rW (CLO 51 [])) (u := ()) rfl (HasO.wk (q := S (rW (CLO 51 [])) ()) .func wkV) rfl ((UpdR.snd (UpdR.fst (UpdR.self (by rfl)))).at (by rfl)) .nil)) rfl) ?_
 replace hm := lt1_inv hm
 obtain ⟨x_6, hv_x_6, hm⟩ := hm
 refine jc (op_insert (j := 0) tu74 ky38 rfl (.tmp rfl) .cI (HasO.wk (q := A r_frame_form (frame_form.mk (some 50 : Option Nat) (some 51 : Option Nat))) (.tmp rfl) (wkAK (Wk.st (Wk.pair Wk.clo (Wk.pair Wk.clo Wk.refl))))) (congrArg (fun z => some (some z)) hv_x_6)) ?_
 refine JL.sub ⟨[(0, ov (MPV none)), (1, ov (MPV (some gb_1)))], [cmap (some gb_1) (S (rI .i64)) (A r_frame_form) (some x_6)], []⟩ (.cons rfl (.cons rfl .nil)) rfl rfl ?_
 refine jc (op_build lb tZ72 zs72 tp72 (.S (off := 0) (s := rW (CLO 52 [])) (u := ()) rfl (HasO.wk (q := S (rW (CLO 52 [])) ()) .func wkV) rfl ((UpdR.fst (UpdR.self (by rfl))).at (by rfl)) (.S (off := 1) (s := rW (CLO 53 [])) (u := ()) rfl (HasO.wk (q := S (rW (CLO 53 [])) ()) .func wkV) rfl ((UpdR.snd (UpdR.fst (UpdR.self (by rfl)))).at (by rfl)) .nil)) rfl) ?_
 replace hm := lt1_inv hm
 obtain ⟨x_7, hv_x_7, hm⟩ := hm
 refine jc (op_insert (j := 0) tu74 ky38 rfl (.tmp rfl) .cI (HasO.wk (q := A r_frame_form (frame_form.mk (some 52 : Option Nat) (some 53 : Option Nat))) (.tmp rfl) (wkAK (Wk.st (Wk.pair Wk.clo (Wk.pair Wk.clo Wk.refl))))) (congrArg (fun z => some (some z)) hv_x_7)) <| jc (op_build lb tZ72 zs72 tp72 (.S (off := 0) (s := rW (CLO 54 [])) (u := ()) rfl (HasO.wk (q := S (rW (CLO 54 [])) ()) .func wkV) rfl ((UpdR.fst (UpdR.self (by rfl))).at (by rfl)) (.S (off := 1) (s := rW (CLO 55 [])) (u := ()) rfl (HasO.wk (q := S (rW (CLO 55 [])) ()) .func wkV) rfl ((UpdR.snd (UpdR.fst (UpdR.self (by rfl)))).at (by rfl)) .nil)) rfl) ?_
 replace hm := lt1_inv hm
 obtain ⟨x_8, hv_x_8, hm⟩ := hm
 refine jc (op_insert (j := 0) tu74 ky38 rfl (.tmp rfl) .cI (HasO.wk (q := A r_frame_form (frame_form.mk (some 54 : Option Nat) (some 55 : Option Nat))) (.tmp rfl) (wkAK (Wk.st (Wk.pair Wk.clo (Wk.pair Wk.clo Wk.refl))))) (congrArg (fun z => some (some z)) hv_x_8)) <| jmv rfl rfl <| jc (op_assign lb (.tmp rfl)) <| jn ?_
 refine JC.ret ?_
 replace hm := Option.some.inj hm
 subst hm
 exact JQ.done (js := [0]) (ss := [.val (MPV (some gb_1))]) (some gb_1) (.inl rfl) (.nil rfl) rfl (.cons (.tmp rfl) .nil) rfl rfl rfl

theorem sim_wire_Put (k : Nat) (n_1 : UInt64) (size_2 : Int) (r : (List UInt8) × Int) (hm : wire_Put k n_1 size_2 = some r) : Sim Try.prog 34 [S (rU UInt64) n_1, S (rI .i64) size_2] [] (γ := Option Nat × Nat) (fun q => [cown q.1 (rU UInt8) r.1 0 q.2]) (fun q => .tup [.val (HDR q.1 0 (List.length r.1) q.2), .val (S (rI .i64) r.2)]) := by
 unfold wire_Put at hm
 refine Sim.of Try.func34 rfl rfl (lE rfl) (fun e0 w0 => ?_)
 refine JC.at ⟨[(0, ov (S (rU UInt64) n_1)), (1, ov (S (rI .i64) size_2))], [], []⟩ ?_
 refine jr <| jc (op_assign lb HasO.nilH) <| jc (op_assign lb .cI) <| jn <| JC.seq ?_
 replace hm := bnd_inv hm
 obtain ⟨x_12, hx1, hq1⟩ := hm
 refine JC.seqJ (γ := Unit) (stj := fun _ => ⟨[(0, ov (S (rU UInt64) n_1)), (1, ov (S (rI .i64) size_2)), (24, ov (S rB x_12))], [], []⟩) (fun _ => ?_) ?_
 · replace hq1 := iteB_inv hq1
   rcases hq1 with ⟨hc16, hq1⟩ | ⟨hc16, hq1⟩
   · refine JC.condT (.tmp rfl) hc16 ?_
     refine jr <| jc (op_assign lb HasO.nilH) <| jc (op_assign lb .cI) <| jn ?_
     refine JC.ret ?_
     refine JQ.outR ?_
     replace hq1 := Option.some.inj hq1
     subst hq1
     refine JQ.pre (Imp.nilown (rU UInt8)) ?_
     exact JQ.done (js := [0]) (ss := [.val (HDR none 0 (List.length ([] : (List UInt8))) (0)), .val (S (rI .i64) (2 : Int))]) (none, 0) (.inl rfl) (.nil rfl) rfl (.cons (.tmp rfl) (.cons (.tmp rfl) .nil)) rfl rfl rfl
   refine JC.condF (.tmp rfl) hc16 ?_
   refine JC.skip ?_
   refine JQ.then <| jr <| jc (op_assign lb HasO.nilH) <| jn ?_
   replace hq1 := bnd_inv hq1
   obtain ⟨b_27, hx17, hq17⟩ := hq1
   refine JC.seqJ (γ := Option Nat × Nat) (stj := fun q => ⟨[(6, ov (HDR q.1 0 (List.length b_27) q.2))], [cown q.1 (rU UInt8) b_27 0 q.2], []⟩) (fun q => ?_) ?_
   · obtain ⟨go_28, gc_29⟩ := q
     refine JC.at ⟨[(6, ov (HDR go_28 0 (List.length b_27) gc_29))], [cown go_28 (rU UInt8) b_27 0 gc_29], []⟩ ?_
     refine jr <| jmv rfl rfl <| jc (op_assign lb (.tmp rfl)) <| jc (op_assign lb .cI) <| jn ?_
     refine JC.ret ?_
     replace hq17 := Option.some.inj hq17
     subst hq17
     exact JQ.done (js := [0]) (ss := [.val (HDR go_28 0 (List.length b_27) gc_29), .val (S (rI .i64) (0 : Int))]) (go_28, gc_29) (.inl rfl) (.nil rfl) rfl (.cons (.tmp rfl) (.cons (.tmp rfl) .nil)) rfl rfl rfl
   refine jr <| jmv rfl rfl <| jc (op_move lb .cI) <| jn <| JC.block ?_
   refine JC.pre (Imp.nilown (rU UInt8)) ?_
   refine JC.pre ?_ (JC.loop (γ := Option Nat × Nat) (stf := fun s q => ⟨[(0, ov (S (rU UInt64) n_1)), (1, ov (S (rI .i64) size_2)), (6, ov (HDR q.1 0 (List.length s.1) q.2)), (25, ov (S (rI .i64) size_2)), (26, ov (S (rI .i64) s.2))], [cown q.1 (rU UInt8) s.1 0 q.2], []⟩) (q := (none, 0)) hx17 ?_)
   · exact (Imp.norm (js := [0]) rfl (.cons rfl (.cons rfl (.cons rfl (.cons rfl (.cons rfl .nil))))))
   intro s q x hx hr
   obtain ⟨b_13, x_14⟩ := s
   obtain ⟨go_15, gc_16⟩ := q
   change wire_Put.b1 k size_2 n_1 b_13 x_14 = some x at hx
   unfold wire_Put.b1 at hx
   refine JC.at ⟨[(0, ov (S (rU UInt64) n_1)), (1, ov (S (rI .i64) size_2)), (6, ov (HDR go_15 0 (List.length b_13) gc_16)), (25, ov (S (rI .i64) size_2)), (26, ov (S (rI .i64) x_14))], [cown go_15 (rU UInt8) b_13 0 gc_16], []⟩ ?_
   refine jr ?_
   replace hx := lt1_inv hx
   obtain ⟨v_17, hv_v_17, hx⟩ := hx
   refine jc (op_cmpI lb (.tmp rfl) (.tmp rfl) (congrArg some hv_v_17)) <| jn <| JC.seq ?_
   replace hx := iteB_inv hx
   rcases hx with ⟨hc19, hx⟩ | ⟨hc19, hx⟩
   · refine JC.condT (.tmp rfl) hc19 ?_
     refine JC.skip ?_
     refine JQ.then <| JC.seq <| JC.block <| jr <| jmv rfl rfl ?_
     refine jc (op_assign lb (.tmp rfl)) <| jn <| JC.region <| jmv rfl rfl <| jmv rfl rfl ?_
     refine jmv rfl rfl ?_
     replace hx := lt1_inv hx
     obtain ⟨v_18, hv_v_18, hx⟩ := hx
     refine jc (op_arI lb (.tmp rfl) .cI (congrArg some hv_v_18)) <| jmv rfl rfl ?_
     replace hx := lt1_inv hx
     obtain ⟨v_19, hv_v_19, hx⟩ := hx
     refine jc (op_arI lb (.tmp rfl) (.tmp rfl) (congrArg some hv_v_19)) ?_
     replace hx := lt1_inv hx
     obtain ⟨v_20, hv_v_20, hx⟩ := hx
     refine jc (op_arI lb .cI (.tmp rfl) (congrArg some hv_v_20)) ?_
     replace hx := bnd_inv hx
     obtain ⟨v_21, hv_v_21, hx⟩ := hx
     refine jc (op_shrUI lb (.tmp rfl) (.tmp rfl) hv_v_21) ?_
     replace hx := lt1_inv hx
     obtain ⟨v_22, hv_v_22, hx⟩ := hx
     refine jc (op_convUU lb tu27 tu5 (.tmp rfl) hv_v_22) ?_
     refine JL.sub ⟨[(0, ov (S (rU UInt64) n_1)), (1, ov (S (rI .i64) size_2)), (6, ov (HDR go_15 0 (List.length b_13) gc_16)), (25, ov (S (rI .i64) size_2)), (26, ov (S (rI .i64) x_14)), (29, ov (HDR go_15 0 (List.length b_13) gc_16)), (37, ov (S (rU UInt8) v_22))], [cown go_15 (rU UInt8) b_13 0 gc_16], []⟩ (.cons rfl (.cons rfl (.cons rfl (.cons rfl (.cons rfl (.cons rfl (.cons rfl .nil))))))) rfl rfl ?_
     refine jc (op_buildF (r := (rU UInt8)) lb tu25 tz5 tZ5 rfl (lE rfl) (.S rfl (.tmp rfl) .nil) rfl) ?_
     replace hx := bnd_inv hx
     obtain ⟨b_23, hv_b_23, hx⟩ := hx
     refine jx (op_appendL (j := 0) lb tu25 tu25 rfl tB5 rfl (Nat.lt_of_lt_of_le Nat.zero_lt_one (lE rfl)) (Nat.lt_of_lt_of_le Nat.zero_lt_one (lE rfl))  rfl (.tmp rfl) (.tmp rfl) hv_b_23) (fun q => ?_)
     obtain ⟨go_24, gc_25⟩ := q
     refine jc (op_assign lb (.tmp rfl)) <| JL.nil ?_
     refine JQ.outNB ?_
     refine JQ.then <| JC.region ?_
     replace hx := lt1_inv hx
     obtain ⟨v_26, hv_v_26, hx⟩ := hx
     refine jc (op_arI lb (.tmp rfl) .cI (congrArg some hv_v_26)) <| jmv rfl rfl <| JL.nil ?_
     replace hx := Option.some.inj hx
     first | subst hx | clear hx
     exact JQ.next (go_24, gc_25) rfl (Imp.norm (js := [0]) rfl (.cons rfl (.cons rfl (.cons rfl (.cons rfl (.cons rfl .nil))))))
   refine JC.condF (.tmp rfl) hc19 ?_
   refine JC.exit ?_
   refine JQ.outX ?_
   replace hx := Option.some.inj hx
   first | subst hx | clear hx
   have ht := hr _ rfl
   have hq18 := congrArg some ht
   clear hr ht
   refine JQ.outX ?_
   refine JQ.here ?_
   replace hq18 := Option.some.inj hq18
   first | subst hq18 | clear hq18
   exact JQ.join (go_15, gc_16) (Imp.norm (js := [0]) rfl (.cons rfl .nil))
 refine JC.region <| jmv rfl rfl ?_
 replace hx1 := lt1_inv hx1
 obtain ⟨v_3, hv_v_3, hx1⟩ := hx1
 refine jc (op_cmpI lb (.tmp rfl) .cI (congrArg some hv_v_3)) <| jmv rfl rfl ?_
 refine JL.cnd (sv := ov (S (rI .i64) size_2)) (Guard.isF (ltB rfl) rfl rfl) rfl (ltB rfl) (fun hq_2 => op_move lb (.tmp rfl)) ?_
 replace hx1 := lt1_inv hx1
 obtain ⟨v_4, hv_v_4, hx1⟩ := hx1
 refine JL.cnd (sv := ov (S rB v_4)) (Guard.isF (ltB rfl) rfl rfl) rfl (ltB rfl) (fun hq_3 => op_cmpI lb (HasO.cnd (.tmp rfl) (notT (notF hq_3))) .cI (congrArg some hv_v_4)) ?_
 replace hx1 := lt1_inv hx1
 obtain ⟨v_5, hv_v_5, hx1⟩ := hx1
 refine jc (op_pickCS lb (.tmp rfl) (fun hb4 => .cB) (fun hb4 => (HasO.cnd (.tmp rfl) (notT hb4))) hv_v_5) <| jmv rfl rfl ?_
 refine JL.cnd (sv := ov (S (rI .i64) size_2)) (Guard.isF (ltB rfl) rfl rfl) rfl (ltB rfl) (fun hq_5 => op_move lb (.tmp rfl)) ?_
 replace hx1 := lt1_inv hx1
 obtain ⟨v_6, hv_v_6, hx1⟩ := hx1
 refine JL.cnd (sv := ov (S rB v_6)) (Guard.isF (ltB rfl) rfl rfl) rfl (ltB rfl) (fun hq_6 => op_cmpI lb (HasO.cnd (.tmp rfl) (notT (notF hq_6))) .cI (congrArg some hv_v_6)) ?_
 refine JL.cnd (sv := ov (S rB v_6)) (Guard.isF (ltB rfl) rfl rfl) rfl (ltB rfl) (fun hq_7 => op_move lb (HasO.cnd (.tmp rfl) (notT (notF hq_7)))) ?_
 refine JL.sub ⟨[(0, ov (S (rU UInt64) n_1)), (1, ov (S (rI .i64) size_2)), (14, ov (S rB v_5)), (17, bif (!v_5) then ov (S rB v_6) else .one .und)], [], []⟩ (.cons rfl (.cons rfl (.cons rfl (.cons rfl .nil)))) rfl rfl ?_
 refine JL.cnd (sv := ov (S (rU UInt64) n_1)) (Guard.cT (q := (!v_5)) (ltB rfl) rfl rfl) rfl (ltB rfl) (fun hq_8 => op_move lb (.tmp rfl)) ?_
 refine JL.cnd (sv := ov (S (rI .i64) size_2)) (Guard.cT (q := (!v_5)) (ltB rfl) rfl rfl) rfl (ltB rfl) (fun hq_9 => op_move lb (.tmp rfl)) ?_
 replace hx1 := lt1_inv hx1
 obtain ⟨v_7, hv_v_7, hx1⟩ := hx1
 refine JL.cnd (sv := ov (S (rI .i64) v_7)) (Guard.cT (q := (!v_5)) (ltB rfl) rfl rfl) rfl (ltB rfl) (fun hq_10 => op_arI lb .cI (HasO.cnd (.tmp rfl) (andI (notT (notF (andL hq_10))) (andR hq_10))) (congrArg some hv_v_7)) ?_
 replace hx1 := bnd_inv hx1
 obtain ⟨v_8, hv_v_8, hx1⟩ := hx1
 refine JL.cnd (sv := ov (S (rU UInt64) v_8)) (Guard.cT (q := (!v_5)) (ltB rfl) rfl rfl) rfl (ltB rfl) (fun hq_11 => op_shrUI lb (HasO.cnd (.tmp rfl) (andI (notT (notF (andL hq_11))) (andR hq_11))) (HasO.cnd (.tmp rfl) (andI (notT (notF (andL hq_11))) (andR hq_11))) (ifT hv_v_8 hq_11)) ?_
 replace hx1 := lt1_inv hx1
 obtain ⟨v_9, hv_v_9, hx1⟩ := hx1
 refine JL.cnd (sv := ov (S rB v_9)) (Guard.cT (q := (!v_5)) (ltB rfl) rfl rfl) rfl (ltB rfl) (fun hq_12 => op_cmpU lb (HasO.cnd (.tmp rfl) (andI (notT (notF (andL hq_12))) (andR hq_12))) (HasO.cU (x := (0 : UInt64)) rfl (by decide)) (congrArg some hv_v_9)) ?_
 replace hx1 := lt1_inv hx1
 obtain ⟨v_10, hv_v_10, hx1⟩ := hx1
 refine JL.cnd (sv := ov (S rB v_10)) (Guard.isF (ltB rfl) rfl rfl) rfl (ltB rfl) (fun hq_13 => op_pickCS lb (HasO.cnd (.tmp rfl) (notT (notF hq_13))) (fun hb14 => (HasO.cnd (.tmp rfl) (andI (notT (notF hq_13)) hb14))) (fun hb14 => .cB) hv_v_10) ?_
 replace hx1 := lt1_inv hx1
 obtain ⟨v_11, hv_v_11, hx1⟩ := hx1
 refine jc (op_pickCS lb (.tmp rfl) (fun hb15 => .cB) (fun hb15 => (HasO.cnd (.tmp rfl) (notT hb15))) hv_v_11) <| JL.nil ?_
 replace hx1 := Option.some.inj hx1
 first | subst hx1 | clear hx1
 exact JQ.join () (Imp.norm (js := []) rfl (.cons rfl (.cons rfl (.cons rfl .nil))))

theorem sim_frame_writer_put'2 (k : Nat) (b_1 : (List UInt8)) (v_2 : Int) (x_4 : (List UInt8)) (gb_3 : Nat) (go_5 : Option Nat) (gc_6 : Nat) (r : (List UInt8)) (hm : frame_writer_put'2 k b_1 v_2 x_4 = some r) : Sim Try.prog 33 [PTR gb_3 0, S (rL (rU UInt8)) b_1, S (rI .i64) v_2] [cvar gb_3 (zq21 go_5 x_4 gc_6) ((), ()), cown go_5 (rU UInt8) x_4 0 gc_6] (γ := Option Nat × Nat) (fun q => [cvar gb_3 (rP (rW (HDR q.1 0 (List.length r) q.2)) r0) ((), ()), cown q.1 (rU UInt8) r 0 q.2]) (fun q => .tup []) := by
 unfold frame_writer_put'2 at hm
 refine Sim.of Try.func33 rfl rfl (lE rfl) (fun e0 w0 => ?_)
 refine JC.at ⟨[(0, ov (PTR gb_3 0)), (1, ov (S (rL (rU UInt8)) b_1)), (2, ov (S (rI .i64) v_2))], [cvar gb_3 (zq21 go_5 x_4 gc_6) ((), ()), cown go_5 (rU UInt8) x_4 0 gc_6], []⟩ ?_
 refine JC.region <| jmv rfl rfl <| jmv rfl rfl <| jc (op_nilCheck lb (.tmp rfl) (fun e v h => by subst h; rfl)) <| jc (op_fieldAddr (off := 0) lb tf60_0 (.tmp rfl)) ?_
 refine jc (op_loadW (j := 0) lb tS25 (.tmp rfl) rfl (Comp.trans (Comp.self (zq21 go_5 x_4 gc_6) ((), ())) (Comp.at' (Comp.inF (Comp.self (rW (HDR go_5 0 (List.length x_4) gc_6)) ()) (lE rfl)) (by rfl : _ = 0)) (lE rfl))) <| jmv rfl rfl ?_
 replace hm := bnd_inv hm
 obtain ⟨x_7, hv_x_7, hm⟩ := hm
 refine jx (op_appendL (j := 1) lb tu25 tu25 rfl tB5 rfl (Nat.lt_of_lt_of_le Nat.zero_lt_one (lE rfl)) (Nat.lt_of_lt_of_le Nat.zero_lt_one (lE rfl))  rfl (.tmp rfl) (.tmp rfl) hv_x_7) (fun q => ?_)
 obtain ⟨go_8, gc_9⟩ := q
 refine jc (op_nilCheck lb (.tmp rfl) (fun e v h => by subst h; rfl)) <| jc (op_fieldAddr (off := 0) lb tf60_0 (.tmp rfl)) <| jc (op_storeW (j := 0) tS25 (.tmp rfl) (.tmp rfl) rfl ((UpdR.fst (UpdR.self (by rfl))).at (by change 0 = (0 + 0); omega)) rfl) ?_
 refine JL.sub ⟨[], [cvar gb_3 (zq21 go_8 x_7 gc_9) ((), ()), cown go_8 (rU UInt8) x_7 0 gc_9], []⟩ .nil rfl rfl ?_
 refine JL.nil ?_
 replace hm := Option.some.inj hm
 subst hm
 exact JQ.done (js := [0, 0]) (ss := []) (go_8, gc_9) (.inr rfl) (.nil rfl) rfl .nil rfl rfl rfl

theorem sim_wire_Dot (k : Nat) (d_1 : api_Dot) (r : (List UInt8) × Int) (hm : wire_Dot k d_1 = some r) : Sim Try.prog 35 [A r_api_Dot d_1] [] (γ := Option Nat × Nat) (fun q => [cown q.1 (rU UInt8) r.1 0 q.2]) (fun q => .tup [.val (HDR q.1 0 (List.length r.1) q.2), .val (S (rI .i64) r.2)]) := by
 unfold wire_Dot at hm
 refine Sim.of Try.func35 rfl rfl (lE rfl) (fun e0 w0 => ?_)
 refine JC.at ⟨[(0, ov (A r_api_Dot d_1))], [], []⟩ ?_
 refine jr ?_
 refine jx (op_boxA lb (.tmp rfl)) (fun q => ?_)
 obtain ⟨gb_2, hqq⟩ : ∃ z, z = q := ⟨_, rfl⟩
 subst hqq
 refine jc (op_assign lb HasO.nilH) <| jc (op_assign lb .cI) <| jn <| JC.seq ?_
 replace hm := bnd_inv hm
 obtain ⟨x_5, hx1, hq1⟩ := hm
 refine JC.seqJ (γ := Unit) (stj := fun _ => ⟨[(1, ov (PTR gb_2 0)), (13, ov (S rB x_5))], [cvar gb_2 r_api_Dot d_1], []⟩) (fun _ => ?_) ?_
 · replace hq1 := iteB_inv hq1
   rcases hq1 with ⟨hc4, hq1⟩ | ⟨hc4, hq1⟩
   · refine JC.condT (.tmp rfl) hc4 ?_
     refine jr <| jc (op_assign lb HasO.nilH) <| jc (op_assign lb .cI) <| jn ?_
     refine JC.ret ?_
     refine JQ.outR ?_
     replace hq1 := Option.some.inj hq1
     subst hq1
     refine JQ.pre (Imp.nilown (rU UInt8)) ?_
     exact JQ.done (js := [1]) (ss := [.val (HDR none 0 (List.length ([] : (List UInt8))) (0)), .val (S (rI .i64) (2 : Int))]) (none, 0) (.inl rfl) (.nil rfl) rfl (.cons (.tmp rfl) (.cons (.tmp rfl) .nil)) rfl rfl rfl
   refine JC.condF (.tmp rfl) hc4 ?_
   refine JC.skip ?_
   refine JQ.then <| jr <| jc (op_fieldAddr (off := 1) lb tf29_1 (.tmp rfl)) <| jc (op_loadS (j := 0) lb tS27 (.tmp rfl) rfl (cT (comp_api_Dot_Count d_1) rfl) rfl rfl) ?_
   replace hq1 := bnd_inv hq1
   obtain ⟨⟨v_6, v_7⟩, hv_v_6, hq1⟩ := hq1
   refine jx (op_call (js := []) ld cl34 (sim_wire_Put k d_1.Count (8 : Int) (v_6, v_7) hv_v_6) .func (.cons (.tmp rfl) (.cons .cI .nil)) rfl) (fun q => ?_)
   obtain ⟨go_8, gc_9⟩ := q
   refine jmv rfl rfl <| jc (op_extract (i := 0) lb (.tmp rfl) rfl) <| jc (op_extract (i := 1) lb (.tmp rfl) rfl) <| jc (op_assign lb (.tmp rfl)) <| jc (op_assign lb (.tmp rfl)) ?_
   refine jn <| jr <| jc (op_fieldAddr (off := 0) lb tf29_0 (.tmp rfl)) <| jc (op_loadS (j := 1) lb tS3 (.tmp rfl) rfl (cT (comp_api_Dot_Region d_1) rfl) rfl rfl) ?_
   refine JL.nrm ⟨[(4, ov (HDR go_8 0 (List.length v_6) gc_9)), (21, ov (S (rI .i64) d_1.Region))], [cown go_8 (rU UInt8) v_6 0 gc_9], []⟩ [0] rfl (.cons rfl (.cons rfl .nil)) rfl ?_
   replace hq1 := lt1_inv hq1
   obtain ⟨v_10, hv_v_10, hq1⟩ := hq1
   refine jc (op_convIU lb tu3 tu5 (.tmp rfl) hv_v_10) ?_
   refine jx (op_buildO (r := (rU UInt8)) lb tu25 tz5 tZ5 rfl (lE rfl) (.S rfl (.tmp rfl) .nil) rfl) (fun q => ?_)
   obtain ⟨gb_11, hqq⟩ : ∃ z, z = q := ⟨_, rfl⟩
   subst hqq
   refine jmv rfl rfl ?_
   replace hq1 := bnd_inv hq1
   obtain ⟨x_12, hv_x_12, hq1⟩ := hq1
   refine jx (op_appendO (j := 1) (j' := 0) lb tu25 tu25 rfl tB5 rfl (Nat.lt_of_lt_of_le Nat.zero_lt_one (lE rfl)) (Nat.lt_of_lt_of_le Nat.zero_lt_one (lE rfl))  rfl (.tmp rfl) rfl (.tmp rfl) hv_x_12) (fun q => ?_)
   obtain ⟨go_13, gc_14⟩ := q
   refine jc (op_assign lb (.tmp rfl)) <| jc (op_assign lb .cI) <| jn ?_
   refine JC.ret ?_
   replace hq1 := Option.some.inj hq1
   subst hq1
   exact JQ.done (js := [1]) (ss := [.val (HDR go_13 0 (List.length x_12) gc_14), .val (S (rI .i64) (0 : Int))]) (go_13, gc_14) (.inl rfl) (.nil rfl) rfl (.cons (.tmp rfl) (.cons (.tmp rfl) .nil)) rfl rfl rfl
 refine JC.region <| jc (op_fieldAddr (off := 0) lb tf29_0 (.tmp rfl)) <| jc (op_loadS (j := 0) lb tS3 (.tmp rfl) rfl (cT (comp_api_Dot_Region d_1) rfl) rfl rfl) ?_
 replace hx1 := lt1_inv hx1
 obtain ⟨v_3, hv_v_3, hx1⟩ := hx1
 refine jc (op_cmpI lb (.tmp rfl) .cI (congrArg some hv_v_3)) <| jmv rfl rfl ?_
 replace hx1 := iteB_inv hx1
 rcases hx1 with ⟨hc3, hx1⟩ | ⟨hc3, hx1⟩
 · refine JL.sk (.no rfl (ltB rfl) rfl hc3) <| JL.sk (.no rfl (ltB rfl) rfl hc3) <| JL.sk (.no rfl (ltB rfl) rfl hc3) <| jc (op_pickT lb (.tmp rfl) hc3 .cB) <| JL.nil ?_
   replace hx1 := Option.some.inj hx1
   first | subst hx1 | clear hx1
   exact JQ.join () (Imp.norm (js := [0]) rfl (.cons rfl (.cons rfl .nil)))
 refine JL.run (.yes rfl (ltB rfl) rfl hc3) (op_fieldAddr (off := 0) lb tf29_0 (.tmp rfl)) ?_
 refine JL.run (.yes rfl (ltB rfl) rfl hc3) (op_loadS (j := 0) lb tS3 (.tmp rfl) rfl (cT (comp_api_Dot_Region d_1) rfl) rfl rfl) ?_
 replace hx1 := lt1_inv hx1
 obtain ⟨v_4, hv_v_4, hx1⟩ := hx1
 refine JL.run (.yes rfl (ltB rfl) rfl hc3) (op_cmpI lb (.tmp rfl) .cI (congrArg some hv_v_4)) ?_
 refine JL.sub ⟨[(1, ov (PTR gb_2 0)), (9, ov (S rB v_3)), (12, ov (S rB v_4))], [cvar gb_2 r_api_Dot d_1], []⟩ (.cons rfl (.cons rfl (.cons rfl .nil))) rfl rfl ?_
 refine jc (op_pickF lb (.tmp rfl) hc3 (.tmp rfl)) <| JL.nil ?_
 replace hx1 := Option.some.inj hx1
 first | subst hx1 | clear hx1
 exact JQ.join () (Imp.norm (js := [0]) rfl (.cons rfl (.cons rfl .nil)))

theorem sim_frame_writer_flag (k : Nat) (is_1 : Bool) (x_3 : (List UInt8)) (gb_2 : Nat) (go_4 : Option Nat) (gc_5 : Nat) (r : (List UInt8)) (hm : frame_writer_flag k is_1 x_3 = some r) : Sim Try.prog 36 [PTR gb_2 0, S rB is_1] [cvar gb_2 (zq21 go_4 x_3 gc_5) ((), ()), cown go_4 (rU UInt8) x_3 0 gc_5] (γ := Option Nat × Nat) (fun q => [cvar gb_2 (rP (rW (HDR q.1 0 (List.length r) q.2)) r0) ((), ()), cown q.1 (rU UInt8) r 0 q.2]) (fun q => .tup []) := by
 unfold frame_writer_flag at hm
 refine Sim.of Try.func36 rfl rfl (lE rfl) (fun e0 w0 => ?_)
 refine JC.at ⟨[(0, ov (PTR gb_2 0)), (1, ov (S rB is_1))], [cvar gb_2 (zq21 go_4 x_3 gc_5) ((), ()), cown go_4 (rU UInt8) x_3 0 gc_5], []⟩ ?_
 refine jr <| jc (op_assign lb (HasO.cU (x := (0 : UInt8)) rfl (by decide))) <| jn ?_
 replace hm := bnd_inv hm
 obtain ⟨b_6, hx1, hq1⟩ := hm
 refine JC.seqJ (γ := Unit) (stj := fun _ => ⟨[(0, ov (PTR gb_2 0)), (4, ov (S (rU UInt8) b_6))], [cvar gb_2 (zq21 go_4 x_3 gc_5) ((), ()), cown go_4 (rU UInt8) x_3 0 gc_5], []⟩) (fun _ => ?_) ?_
 · refine JC.region <| jmv rfl rfl <| jmv rfl rfl <| jc (op_nilCheck lb (.tmp rfl) (fun e v h => by subst h; rfl)) <| jc (op_fieldAddr (off := 0) lb tf60_0 (.tmp rfl)) ?_
   refine jc (op_loadW (j := 0) lb tS25 (.tmp rfl) rfl (Comp.trans (Comp.self (zq21 go_4 x_3 gc_5) ((), ())) (Comp.at' (Comp.inF (Comp.self (rW (HDR go_4 0 (List.length x_3) gc_5)) ()) (lE rfl)) (by rfl : _ = 0)) (lE rfl))) <| jmv rfl rfl <| jc (op_buildF (r := (rU UInt8)) lb tu25 tz5 tZ5 rfl (lE rfl) (.S rfl (.tmp rfl) .nil) rfl) ?_
   replace hq1 := bnd_inv hq1
   obtain ⟨x_7, hv_x_7, hq1⟩ := hq1
   refine jx (op_appendL (j := 1) lb tu25 tu25 rfl tB5 rfl (Nat.lt_of_lt_of_le Nat.zero_lt_one (lE rfl)) (Nat.lt_of_lt_of_le Nat.zero_lt_one (lE rfl))  rfl (.tmp rfl) (.tmp rfl) hv_x_7) (fun q => ?_)
   obtain ⟨go_8, gc_9⟩ := q
   refine jc (op_nilCheck lb (.tmp rfl) (fun e v h => by subst h; rfl)) <| jc (op_fieldAddr (off := 0) lb tf60_0 (.tmp rfl)) ?_
   refine JL.sub ⟨[(13, ov (HDR go_8 0 (List.length x_7) gc_9)), (15, ov (PTR gb_2 (0 + 0)))], [cvar gb_2 (zq21 go_4 x_3 gc_5) ((), ()), cown go_8 (rU UInt8) x_7 0 gc_9], []⟩ (.cons rfl (.cons rfl .nil)) rfl rfl ?_
   refine jc (op_storeW (j := 0) tS25 (.tmp rfl) (.tmp rfl) rfl ((UpdR.fst (UpdR.self (by rfl))).at (by change 0 = (0 + 0); omega)) rfl) <| JL.nil ?_
   replace hq1 := Option.some.inj hq1
   subst hq1
   exact JQ.done (js := [0, 0]) (ss := []) (go_8, gc_9) (.inr rfl) (.nil rfl) rfl .nil rfl rfl rfl
 refine jr <| jmv rfl rfl <| jn ?_
 replace hx1 := iteB_inv hx1
 rcases hx1 with ⟨hc2, hx1⟩ | ⟨hc2, hx1⟩
 · refine JC.condT (.tmp rfl) hc2 ?_
   refine JC.region <| jc (op_assign lb (HasO.cU (x := (1 : UInt8)) rfl (by decide))) <| JL.nil ?_
   replace hx1 := Option.some.inj hx1
   first | subst hx1 | clear hx1
   exact JQ.join () (Imp.norm (js := [0, 0]) rfl (.cons rfl (.cons rfl .nil)))
 refine JC.condF (.tmp rfl) hc2 ?_
 refine JC.skip ?_
 replace hx1 := Option.some.inj hx1
 first | subst hx1 | clear hx1
 exact JQ.join () (Imp.norm (js := [0, 0]) rfl (.cons rfl (.cons rfl .nil)))

theorem sim_wire_Blob (k : Nat) (b_1 : (List UInt8)) (r : (List UInt8) × Int) (hm : wire_Blob k b_1 = some r) : Sim Try.prog 37 [S (rL (rU UInt8)) b_1] [] (γ := Option Nat × Nat) (fun q => [cown q.1 (rU UInt8) r.1 0 q.2]) (fun q => .tup [.val (HDR q.1 0 (List.length r.1) q.2), .val (S (rI .i64) r.2)]) := by
 unfold wire_Blob at hm
 refine Sim.of Try.func37 rfl rfl (lE rfl) (fun e0 w0 => ?_)
 refine JC.at ⟨[(0, ov (S (rL (rU UInt8)) b_1))], [], []⟩ ?_
 refine jr <| jc (op_assign lb HasO.nilH) <| jc (op_assign lb .cI) <| jn <| JC.seq ?_
 refine jr <| jmv rfl rfl <| jc (op_lenL lb tu25 (.tmp rfl)) ?_
 replace hm := lt1_inv hm
 obtain ⟨v_2, hv_v_2, hm⟩ := hm
 refine jc (op_cmpI lb (.tmp rfl) .cI (congrArg some hv_v_2)) <| jn ?_
 replace hm := iteB_inv hm
 rcases hm with ⟨hc1, hm⟩ | ⟨hc1, hm⟩
 · refine JC.condT (.tmp rfl) hc1 ?_
   refine jr <| jc (op_assign lb HasO.nilH) <| jc (op_assign lb .cI) <| jn ?_
   refine JC.ret ?_
   refine JQ.outR ?_
   replace hm := Option.some.inj hm
   subst hm
   refine JQ.pre (Imp.nilown (rU UInt8)) ?_
   exact JQ.done (js := [0]) (ss := [.val (HDR none 0 (List.length ([] : (List UInt8))) (0)), .val (S (rI .i64) (3 : Int))]) (none, 0) (.inl rfl) (.nil rfl) rfl (.cons (.tmp rfl) (.cons (.tmp rfl) .nil)) rfl rfl rfl
 refine JC.condF (.tmp rfl) hc1 ?_
 refine JC.skip ?_
 refine JQ.then <| jr <| jmv rfl rfl <| jc (op_lenL lb tu25 (.tmp rfl)) ?_
 replace hm := lt1_inv hm
 obtain ⟨v_3, hv_v_3, hm⟩ := hm
 refine jc (op_convIU lb tu3 tu27 (.tmp rfl) hv_v_3) ?_
 replace hm := bnd_inv hm
 obtain ⟨⟨v_4, v_5⟩, hv_v_4, hm⟩ := hm
 refine jx (op_call (js := []) ld cl34 (sim_wire_Put k v_3 (2 : Int) (v_4, v_5) hv_v_4) .func (.cons (.tmp rfl) (.cons .cI .nil)) rfl) (fun q => ?_)
 obtain ⟨go_6, gc_7⟩ := q
 refine jmv rfl rfl ?_
 refine JL.sub ⟨[(0, ov (S (rL (rU UInt8)) b_1)), (9, .tup [.val (HDR go_6 0 (List.length v_4) gc_7), .val (S (rI .i64) v_5)])], [cown go_6 (rU UInt8) v_4 0 gc_7], []⟩ (.cons rfl (.cons rfl .nil)) rfl rfl ?_
 refine jc (op_extract (i := 0) lb (.tmp rfl) rfl) <| jc (op_extract (i := 1) lb (.tmp rfl) rfl) <| jc (op_assign lb (.tmp rfl)) <| jc (op_assign lb (.tmp rfl)) <| jn ?_
 refine jr <| jmv rfl rfl <| jmv rfl rfl ?_
 replace hm := bnd_inv hm
 obtain ⟨n_8, hv_n_8, hm⟩ := hm
 refine jx (op_appendL (j := 0) lb tu25 tu25 rfl tB5 rfl (Nat.lt_of_lt_of_le Nat.zero_lt_one (lE rfl)) (Nat.lt_of_lt_of_le Nat.zero_lt_one (lE rfl))  rfl (.tmp rfl) (.tmp rfl) hv_n_8) (fun q => ?_)
 obtain ⟨go_9, gc_10⟩ := q
 refine jc (op_assign lb (.tmp rfl)) <| jc (op_assign lb .cI) <| jn ?_
 refine JC.ret ?_
 replace hm := Option.some.inj hm
 subst hm
 exact JQ.done (js := [0]) (ss := [.val (HDR go_9 0 (List.length n_8) gc_10), .val (S (rI .i64) (0 : Int))]) (go_9, gc_10) (.inl rfl) (.nil rfl) rfl (.cons (.tmp rfl) (.cons (.tmp rfl) .nil)) rfl rfl rfl

theorem sim_frame_writer_items'3 (k : Nat) (l_1 : (List api_Item)) (x_3 : (List UInt8)) (gb_2 : Nat) (go_4 : Option Nat) (gc_5 : Nat) (r : (List UInt8)) (hm : frame_writer_items'3 k l_1 x_3 = some r) : Sim Try.prog 15 [PTR gb_2 0, S (rL r_api_Item) l_1] [cvar gb_2 (zq21 go_4 x_3 gc_5) ((), ()), cown go_4 (rU UInt8) x_3 0 gc_5] (γ := Option Nat × Nat) (fun q => [cvar gb_2 (rP (rW (HDR q.1 0 (List.length r) q.2)) r0) ((), ()), cown q.1 (rU UInt8) r 0 q.2]) (fun q => .tup []) := by
 unfold frame_writer_items'3 at hm
 refine Sim.of Try.func15 rfl rfl (lE rfl) (fun e0 w0 => ?_)
 refine JC.at ⟨[(0, ov (PTR gb_2 0)), (1, ov (S (rL r_api_Item) l_1))], [cvar gb_2 (zq21 go_4 x_3 gc_5) ((), ()), cown go_4 (rU UInt8) x_3 0 gc_5], []⟩ ?_
 refine jr <| jmv rfl rfl <| jmv rfl rfl <| jc (op_lenL lb tu22 (.tmp rfl)) ?_
 replace hm := lt1_inv hm
 obtain ⟨v_6, hv_v_6, hm⟩ := hm
 refine jc (op_convIU lb tu3 tu27 (.tmp rfl) hv_v_6) ?_
 replace hm := bnd_inv hm
 obtain ⟨⟨v_7, v_8⟩, hv_v_7, hm⟩ := hm
 refine jx (op_call (js := []) ld cl34 (sim_wire_Put k v_6 (2 : Int) (v_7, v_8) hv_v_7) .func (.cons (.tmp rfl) (.cons .cI .nil)) rfl) (fun q => ?_)
 obtain ⟨go_9, gc_10⟩ := q
 refine jc (op_extract (i := 0) lb (.tmp rfl) rfl) <| jc (op_extract (i := 1) lb (.tmp rfl) rfl) ?_
 replace hm := bnd_inv hm
 obtain ⟨x_11, hv_x_11, hm⟩ := hm
 refine JL.pre (Imp.frz (j := 0) rfl (ImpK.tupAt (s := 10) (i := 0) (q := HL go_9 (rU UInt8) v_7 gc_10) rfl rfl ownHL (ImpK.slotH (s := 11) rfl ImpK.refl))) ?_
 refine jx (op_call (js := [1, 1]) ld cl33 (sim_frame_writer_put'2 k v_7 v_8 x_3 gb_2 go_4 gc_5 x_11 hv_x_11) .func (.cons (.tmp rfl) (.cons (HasO.wk (.tmp rfl) wkHL) (.cons (.tmp rfl) .nil))) rfl) (fun q => ?_)
 obtain ⟨go_12, gc_13⟩ := q
 refine JL.nrm ⟨[(0, ov (PTR gb_2 0)), (1, ov (S (rL r_api_Item) l_1))], [cvar gb_2 (zq21 go_12 x_11 gc_13) ((), ()), cown go_12 (rU UInt8) x_11 0 gc_13], []⟩ [0, 0] rfl (.cons rfl (.cons rfl .nil)) rfl ?_
 refine jn <| jr <| jmv rfl rfl <| jc (op_lenL lb tu22 (.tmp rfl)) <| jc (op_move lb .cI) ?_
 refine jn <| JC.block ?_
 refine JC.pre ?_ (JC.loop (γ := Option Nat × Nat) (stf := fun s q => ⟨[(0, ov (PTR gb_2 0)), (14, ov (S (rL r_api_Item) l_1)), (15, ov (S (rI .i64) (List.length l_1 : Int))), (16, ov (S (rI .i64) s.2))], [cvar gb_2 (rP (rW (HDR q.1 0 (List.length s.1) q.2)) r0) ((), ()), cown q.1 (rU UInt8) s.1 0 q.2], []⟩) (q := (go_12, gc_13)) hm ?_)
 · exact (Imp.norm (js := [0, 0]) rfl (.cons rfl (.cons rfl (.cons rfl (.cons rfl .nil)))))
 intro s q x hx hr
 obtain ⟨b_14, x_15⟩ := s
 obtain ⟨go_16, gc_17⟩ := q
 change frame_writer_items'3.b1 k l_1 b_14 x_15 = some x at hx
 unfold frame_writer_items'3.b1 at hx
 refine JC.at ⟨[(0, ov (PTR gb_2 0)), (14, ov (S (rL r_api_Item) l_1)), (15, ov (S (rI .i64) (List.length l_1 : Int))), (16, ov (S (rI .i64) x_15))], [cvar gb_2 (zq21 go_16 b_14 gc_17) ((), ()), cown go_16 (rU UInt8) b_14 0 gc_17], []⟩ ?_
 refine jr ?_
 replace hx := lt1_inv hx
 obtain ⟨v_18, hv_v_18, hx⟩ := hx
 refine jc (op_cmpI lb (.tmp rfl) (.tmp rfl) (congrArg some hv_v_18)) <| jn <| JC.seq ?_
 replace hx := iteB_inv hx
 rcases hx with ⟨hc2, hx⟩ | ⟨hc2, hx⟩
 · refine JC.condT (.tmp rfl) hc2 ?_
   refine JC.skip ?_
   refine JQ.then ?_
   replace hx := bnd_inv hx
   obtain ⟨b_46, hx3, hq3⟩ := hx
   refine JC.seqJ (γ := Option Nat × Nat) (stj := fun q => ⟨[(0, ov (PTR gb_2 0)), (14, ov (S (rL r_api_Item) l_1)), (15, ov (S (rI .i64) (List.length l_1 : Int))), (16, ov (S (rI .i64) x_15))], [cvar gb_2 (rP (rW (HDR q.1 0 (List.length b_46) q.2)) r0) ((), ()), cown q.1 (rU UInt8) b_46 0 q.2], []⟩) (fun q => ?_) ?_
   · obtain ⟨go_47, gc_48⟩ := q
     refine JC.at ⟨[(0, ov (PTR gb_2 0)), (14, ov (S (rL r_api_Item) l_1)), (15, ov (S (rI .i64) (List.length l_1 : Int))), (16, ov (S (rI .i64) x_15))], [cvar gb_2 (zq21 go_47 b_46 gc_48) ((), ()), cown go_47 (rU UInt8) b_46 0 gc_48], []⟩ ?_
     refine JC.region ?_
     replace hq3 := lt1_inv hq3
     obtain ⟨v_49, hv_v_49, hq3⟩ := hq3
     refine jc (op_arI lb (.tmp rfl) .cI (congrArg some hv_v_49)) <| jmv rfl rfl <| JL.nil ?_
     replace hq3 := Option.some.inj hq3
     first | subst hq3 | clear hq3
     exact JQ.next (go_47, gc_48) rfl (Imp.norm (js := [0, 0]) rfl (.cons rfl (.cons rfl (.cons rfl (.cons rfl .nil)))))
   refine JC.block <| jr ?_
   replace hx3 := bnd_inv hx3
   obtain ⟨v_19, hv_v_19, hx3⟩ := hx3
   refine jc (op_indexAddrLg lb tu22 tz33 (.tmp rfl) (.tmp rfl) hv_v_19) <| jc (op_loadPAg lb tA33 (.tmp rfl) rfl) ?_
   refine jx (op_alloc lb tZ33 zr33) (fun q => ?_)
   obtain ⟨gb_20, hqq⟩ : ∃ z, z = q := ⟨_, rfl⟩
   subst hqq
   refine jc (op_storeA (j := 2) tA33 (.tmp rfl) (.tmp rfl) rfl (UpdR.self (by rfl)) rfl) <| jn <| jr <| jmv rfl rfl <| jc (op_fieldAddr (off := 0) lb tf33_0 (.tmp rfl)) ?_
   refine jc (op_loadA (j := 2) lb tA29 (.tmp rfl) rfl (cT (comp_api_Item_Dot v_19) rfl) rfl) ?_
   refine JL.sub ⟨[(0, ov (PTR gb_2 0)), (5, ov (PTR gb_20 0)), (14, ov (S (rL r_api_Item) l_1)), (15, ov (S (rI .i64) (List.length l_1 : Int))), (16, ov (S (rI .i64) x_15)), (20, ov (PTR gb_2 0)), (22, ov (A r_api_Dot v_19.Dot))], [cvar gb_2 (zq21 go_16 b_14 gc_17) ((), ()), cown go_16 (rU UInt8) b_14 0 gc_17, cvar gb_20 r_api_Item v_19], []⟩ (.cons rfl (.cons rfl (.cons rfl (.cons rfl (.cons rfl (.cons rfl (.cons rfl .nil))))))) rfl rfl ?_
   replace hx3 := bnd_inv hx3
   obtain ⟨⟨v_21, v_22⟩, hv_v_21, hx3⟩ := hx3
   refine jx (op_call (js := []) ld cl35 (sim_wire_Dot k v_19.Dot (v_21, v_22) hv_v_21) .func (.cons (.tmp rfl) .nil) rfl) (fun q => ?_)
   obtain ⟨go_23, gc_24⟩ := q
   refine jc (op_extract (i := 0) lb (.tmp rfl) rfl) <| jc (op_extract (i := 1) lb (.tmp rfl) rfl) ?_
   replace hx3 := bnd_inv hx3
   obtain ⟨x_25, hv_x_25, hx3⟩ := hx3
   refine JL.pre (Imp.frz (j := 0) rfl (ImpK.tupAt (s := 23) (i := 0) (q := HL go_23 (rU UInt8) v_21 gc_24) rfl rfl ownHL (ImpK.slotH (s := 24) rfl ImpK.refl))) ?_
   refine jx (op_call (js := [1, 1]) ld cl33 (sim_frame_writer_put'2 k v_21 v_22 b_14 gb_2 go_16 gc_17 x_25 hv_x_25) .func (.cons (.tmp rfl) (.cons (HasO.wk (.tmp rfl) wkHL) (.cons (.tmp rfl) .nil))) rfl) (fun q => ?_)
   obtain ⟨go_26, gc_27⟩ := q
   refine JL.nrm ⟨[(0, ov (PTR gb_2 0)), (5, ov (PTR gb_20 0)), (14, ov (S (rL r_api_Item) l_1)), (15, ov (S (rI .i64) (List.length l_1 : Int))), (16, ov (S (rI .i64) x_15))], [cvar gb_2 (zq21 go_26 x_25 gc_27) ((), ()), cown go_26 (rU UInt8) x_25 0 gc_27, cvar gb_20 r_api_Item v_19], []⟩ [0, 0, 1] rfl (.cons rfl (.cons rfl (.cons rfl (.cons rfl (.cons rfl .nil))))) rfl ?_
   refine jn <| jr <| jmv rfl rfl <| jc (op_fieldAddr (off := 4) lb tf33_2 (.tmp rfl)) <| jc (op_loadS (j := 2) lb tS4 (.tmp rfl) rfl (cT (comp_api_Item_Gone v_19) rfl) rfl rfl) ?_
   replace hx3 := bnd_inv hx3
   obtain ⟨x_28, hv_x_28, hx3⟩ := hx3
   refine jx (op_call (js := [0, 0]) ld cl36 (sim_frame_writer_flag k v_19.Gone x_25 gb_2 go_26 gc_27 x_28 hv_x_28) .func (.cons (.tmp rfl) (.cons (.tmp rfl) .nil)) rfl) (fun q => ?_)
   obtain ⟨go_29, gc_30⟩ := q
   refine jn <| jr <| jc (op_fieldAddr (off := 4) lb tf33_2 (.tmp rfl)) <| jc (op_loadS (j := 2) lb tS4 (.tmp rfl) rfl (cT (comp_api_Item_Gone v_19) rfl) rfl rfl) ?_
   replace hx3 := lt1_inv hx3
   obtain ⟨v_31, hv_v_31, hx3⟩ := hx3
   refine jc (op_not lb (.tmp rfl) hv_v_31) <| jn ?_
   replace hx3 := iteB_inv hx3
   rcases hx3 with ⟨hc4, hx3⟩ | ⟨hc4, hx3⟩
   · refine JC.condT (.tmp rfl) hc4 ?_
     refine jr <| jmv rfl rfl <| jc (op_fieldAddr (off := 2) lb tf33_1 (.tmp rfl)) <| jc (op_fieldAddr (off := 0) lb tf31_0 (.tmp rfl)) ?_
     refine JL.sub ⟨[(0, ov (PTR gb_2 0)), (5, ov (PTR gb_20 0)), (14, ov (S (rL r_api_Item) l_1)), (15, ov (S (rI .i64) (List.length l_1 : Int))), (16, ov (S (rI .i64) x_15)), (34, ov (PTR gb_2 0)), (36, ov (PTR gb_20 ((0 + 2) + 0)))], [cvar gb_2 (zq21 go_29 x_28 gc_30) ((), ()), cown go_29 (rU UInt8) x_28 0 gc_30, cvar gb_20 r_api_Item v_19], []⟩ (.cons rfl (.cons rfl (.cons rfl (.cons rfl (.cons rfl (.cons rfl (.cons rfl .nil))))))) rfl rfl ?_
     refine jc (op_loadS (j := 2) lb tS9 (.tmp rfl) rfl (Comp.trans (cT (comp_api_Item_Key v_19) rfl) (comp_api_Key_Topic v_19.Key) (lE rfl)) rfl rfl) <| jc (op_convSB lb tu9 tu25 tu5 (.tmp rfl)) ?_
     replace hx3 := bnd_inv hx3
     obtain ⟨⟨v_32, v_33⟩, hv_v_32, hx3⟩ := hx3
     refine jx (op_call (js := []) ld cl37 (sim_wire_Blob k v_19.Key.Topic (v_32, v_33) hv_v_32) .func (.cons (.tmp rfl) .nil) rfl) (fun q => ?_)
     obtain ⟨go_34, gc_35⟩ := q
     refine jc (op_extract (i := 0) lb (.tmp rfl) rfl) <| jc (op_extract (i := 1) lb (.tmp rfl) rfl) ?_
     replace hx3 := bnd_inv hx3
     obtain ⟨x_36, hv_x_36, hx3⟩ := hx3
     refine JL.pre (Imp.frz (j := 0) rfl (ImpK.tupAt (s := 39) (i := 0) (q := HL go_34 (rU UInt8) v_32 gc_35) rfl rfl ownHL (ImpK.slotH (s := 40) rfl ImpK.refl))) ?_
     refine jx (op_call (js := [1, 1]) ld cl33 (sim_frame_writer_put'2 k v_32 v_33 x_28 gb_2 go_29 gc_30 x_36 hv_x_36) .func (.cons (.tmp rfl) (.cons (HasO.wk (.tmp rfl) wkHL) (.cons (.tmp rfl) .nil))) rfl) (fun q => ?_)
     obtain ⟨go_37, gc_38⟩ := q
     refine JL.nrm ⟨[(0, ov (PTR gb_2 0)), (5, ov (PTR gb_20 0)), (14, ov (S (rL r_api_Item) l_1)), (15, ov (S (rI .i64) (List.length l_1 : Int))), (16, ov (S (rI .i64) x_15))], [cvar gb_2 (zq21 go_37 x_36 gc_38) ((), ()), cown go_37 (rU UInt8) x_36 0 gc_38, cvar gb_20 r_api_Item v_19], []⟩ [0, 0, 1] rfl (.cons rfl (.cons rfl (.cons rfl (.cons rfl (.cons rfl .nil))))) rfl ?_
     refine jn <| JC.region <| jmv rfl rfl <| jc (op_fieldAddr (off := 2) lb tf33_1 (.tmp rfl)) <| jc (op_fieldAddr (off := 1) lb tf31_1 (.tmp rfl)) ?_
     refine jc (op_loadS (j := 2) lb tS9 (.tmp rfl) rfl (Comp.trans (cT (comp_api_Item_Key v_19) rfl) (comp_api_Key_Device v_19.Key) (lE rfl)) rfl rfl) <| jc (op_convSB lb tu9 tu25 tu5 (.tmp rfl)) ?_
     replace hx3 := bnd_inv hx3
     obtain ⟨⟨v_39, v_40⟩, hv_v_39, hx3⟩ := hx3
     refine jx (op_call (js := []) ld cl37 (sim_wire_Blob k v_19.Key.Device (v_39, v_40) hv_v_39) .func (.cons (.tmp rfl) .nil) rfl) (fun q => ?_)
     obtain ⟨go_41, gc_42⟩ := q
     refine jc (op_extract (i := 0) lb (.tmp rfl) rfl) <| jc (op_extract (i := 1) lb (.tmp rfl) rfl) ?_
     replace hx3 := bnd_inv hx3
     obtain ⟨x_43, hv_x_43, hx3⟩ := hx3
     refine JL.pre (Imp.frz (j := 0) rfl (ImpK.tupAt (s := 48) (i := 0) (q := HL go_41 (rU UInt8) v_39 gc_42) rfl rfl ownHL (ImpK.slotH (s := 49) rfl ImpK.refl))) ?_
     refine jx (op_call (js := [1, 1]) ld cl33 (sim_frame_writer_put'2 k v_39 v_40 x_36 gb_2 go_37 gc_38 x_43 hv_x_43) .func (.cons (.tmp rfl) (.cons (HasO.wk (.tmp rfl) wkHL) (.cons (.tmp rfl) .nil))) rfl) (fun q => ?_)
     obtain ⟨go_44, gc_45⟩ := q
     refine JL.nrm ⟨[(0, ov (PTR gb_2 0)), (14, ov (S (rL r_api_Item) l_1)), (15, ov (S (rI .i64) (List.length l_1 : Int))), (16, ov (S (rI .i64) x_15))], [cvar gb_2 (zq21 go_44 x_43 gc_45) ((), ()), cown go_44 (rU UInt8) x_43 0 gc_45], []⟩ [0, 0] rfl (.cons rfl (.cons rfl (.cons rfl (.cons rfl .nil)))) rfl ?_
     refine JL.nil ?_
     refine JQ.outNB ?_
     replace hx3 := Option.some.inj hx3
     first | subst hx3 | clear hx3
     exact JQ.join (go_44, gc_45) (Imp.norm (js := [0, 0]) rfl (.cons rfl (.cons rfl (.cons rfl (.cons rfl .nil)))))
   refine JC.condF (.tmp rfl) hc4 ?_
   refine JC.skip ?_
   refine JQ.outNB ?_
   replace hx3 := Option.some.inj hx3
   first | subst hx3 | clear hx3
   exact JQ.join (go_29, gc_30) (Imp.norm (js := [0, 0]) rfl (.cons rfl (.cons rfl (.cons rfl (.cons rfl .nil)))))
 refine JC.condF (.tmp rfl) hc2 ?_
 refine JC.exit ?_
 refine JQ.outX ?_
 replace hx := Option.some.inj hx
 first | subst hx | clear hx
 have ht := hr _ rfl
 have hq1 := congrArg some ht
 clear hr ht
 refine JQ.outX ?_
 refine JQ.here ?_
 replace hq1 := Option.some.inj hq1
 subst hq1
 exact JQ.done (js := [0, 0]) (ss := []) (go_16, gc_17) (.inr rfl) (.nil rfl) rfl .nil rfl rfl rfl

theorem sim_frame_writer_delta'4 (k : Nat) (f_1 : api_Frame) (x_3 : (List UInt8)) (gb_2 : Nat) (go_4 : Option Nat) (gc_5 : Nat) (r : (List UInt8)) (hm : frame_writer_delta'4 k f_1 x_3 = some r) : Sim Try.prog 42 [PTR gb_2 0, A r_api_Frame f_1] [cvar gb_2 (zq21 go_4 x_3 gc_5) ((), ()), cown go_4 (rU UInt8) x_3 0 gc_5] (γ := Option Nat × Nat) (fun q => [cvar gb_2 (rP (rW (HDR q.1 0 (List.length r) q.2)) r0) ((), ()), cown q.1 (rU UInt8) r 0 q.2]) (fun q => .tup []) := by
 unfold frame_writer_delta'4 at hm
 refine Sim.of Try.func42 rfl rfl (lE rfl) (fun e0 w0 => ?_)
 refine JC.at ⟨[(0, ov (PTR gb_2 0)), (1, ov (A r_api_Frame f_1))], [cvar gb_2 (zq21 go_4 x_3 gc_5) ((), ()), cown go_4 (rU UInt8) x_3 0 gc_5], []⟩ ?_
 refine jr ?_
 refine jx (op_boxA lb (.tmp rfl)) (fun q => ?_)
 obtain ⟨gb_6, hqq⟩ : ∃ z, z = q := ⟨_, rfl⟩
 subst hqq
 refine jn <| JC.region <| jmv rfl rfl <| jc (op_fieldAddr (off := 3) lb tf50_3 (.tmp rfl)) <| jc (op_loadS (j := 2) lb tS22 (.tmp rfl) rfl (cT (comp_api_Frame_Items f_1) rfl) rfl rfl) ?_
 replace hm := bnd_inv hm
 obtain ⟨x_7, hv_x_7, hm⟩ := hm
 refine jx (op_call (js := [0, 0]) ld cl15 (sim_frame_writer_items'3 k f_1.Items x_3 gb_2 go_4 gc_5 x_7 hv_x_7) .func (.cons (.tmp rfl) (.cons (.tmp rfl) .nil)) rfl) (fun q => ?_)
 obtain ⟨go_8, gc_9⟩ := q
 refine JL.nil ?_
 replace hm := Option.some.inj hm
 subst hm
 exact JQ.done (js := [0, 0]) (ss := []) (go_8, gc_9) (.inr rfl) (.nil rfl) rfl .nil rfl rfl rfl

theorem sim_event_bytes_1 (k : Nat) (x_1 : (List UInt8)) (v_2 : Int) (gb_3 : Nat) (r : (List UInt8)) (hm : event_bytes_1 k x_1 v_2 = some r) : Sim Try.prog 101 [S (rL (rU UInt8)) x_1, S (rI .i64) v_2, PTR gb_3 0] [cvar gb_3 (rW (HDR none 0 0 0)) ()] (γ := Option Nat × Nat) (fun q => [cvar gb_3 (rW (HDR q.1 0 (List.length r) q.2)) (), cown q.1 (rU UInt8) r 0 q.2]) (fun q => .tup []) := by
 unfold event_bytes_1 at hm
 refine Sim.of Try.func101 rfl rfl (lE rfl) (fun e0 w0 => ?_)
 refine JC.at ⟨[(0, ov (S (rL (rU UInt8)) x_1)), (1, ov (S (rI .i64) v_2)), (2, ov (PTR gb_3 0))], [cvar gb_3 (rW (HDR none 0 0 0)) ()], []⟩ ?_
 refine JC.region <| jc (op_loadW (j := 0) lb tS25 (.tmp rfl) rfl (Comp.self (rW (HDR none 0 0 0)) ())) <| jmv rfl rfl ?_
 replace hm := bnd_inv hm
 obtain ⟨v_4, hv_v_4, hm⟩ := hm
 refine JL.pre (Imp.nilown (rU UInt8)) ?_
 refine jx (op_appendL (j := 1) lb tu25 tu25 rfl tB5 rfl (Nat.lt_of_lt_of_le Nat.zero_lt_one (lE rfl)) (Nat.lt_of_lt_of_le Nat.zero_lt_one (lE rfl))  rfl (.tmp rfl) (.tmp rfl) hv_v_4) (fun q => ?_)
 obtain ⟨go_5, gc_6⟩ := q
 refine JL.sub ⟨[(2, ov (PTR gb_3 0)), (7, ov (HDR go_5 0 (List.length v_4) gc_6))], [cvar gb_3 (rW (HDR none 0 0 0)) (), cown go_5 (rU UInt8) v_4 0 gc_6], []⟩ (.cons rfl (.cons rfl .nil)) rfl rfl ?_
 refine jc (op_storeW (j := 0) tS25 (.tmp rfl) (.tmp rfl) rfl (UpdR.self (by rfl)) rfl) <| JL.nil ?_
 replace hm := Option.some.inj hm
 subst hm
 exact JQ.done (js := [0, 0]) (ss := []) (go_5, gc_6) (.inr rfl) (.nil rfl) rfl .nil rfl rfl rfl

theorem sim_event_bytes_1'2 (k : Nat) (x_1 : (List UInt8)) (v_2 : Int) (x_4 : (List UInt8)) (gb_3 : Nat) (go_5 : Option Nat) (gc_6 : Nat) (r : (List UInt8)) (hm : event_bytes_1'2 k x_1 v_2 x_4 = some r) : Sim Try.prog 101 [S (rL (rU UInt8)) x_1, S (rI .i64) v_2, PTR gb_3 0] [cvar gb_3 (rW (HDR go_5 0 (List.length x_4) gc_6)) (), cown go_5 (rU UInt8) x_4 0 gc_6] (γ := Option Nat × Nat) (fun q => [cvar gb_3 (rW (HDR q.1 0 (List.length r) q.2)) (), cown q.1 (rU UInt8) r 0 q.2]) (fun q => .tup []) := by
 unfold event_bytes_1'2 at hm
 refine Sim.of Try.func101 rfl rfl (lE rfl) (fun e0 w0 => ?_)
 refine JC.at ⟨[(0, ov (S (rL (rU UInt8)) x_1)), (1, ov (S (rI .i64) v_2)), (2, ov (PTR gb_3 0))], [cvar gb_3 (rW (HDR go_5 0 (List.length x_4) gc_6)) (), cown go_5 (rU UInt8) x_4 0 gc_6], []⟩ ?_
 refine JC.region <| jc (op_loadW (j := 0) lb tS25 (.tmp rfl) rfl (Comp.self (rW (HDR go_5 0 (List.length x_4) gc_6)) ())) <| jmv rfl rfl ?_
 replace hm := bnd_inv hm
 obtain ⟨x_7, hv_x_7, hm⟩ := hm
 refine jx (op_appendL (j := 1) lb tu25 tu25 rfl tB5 rfl (Nat.lt_of_lt_of_le Nat.zero_lt_one (lE rfl)) (Nat.lt_of_lt_of_le Nat.zero_lt_one (lE rfl))  rfl (.tmp rfl) (.tmp rfl) hv_x_7) (fun q => ?_)
 obtain ⟨go_8, gc_9⟩ := q
 refine jc (op_storeW (j := 0) tS25 (.tmp rfl) (.tmp rfl) rfl (UpdR.self (by rfl)) rfl) <| JL.nil ?_
 replace hm := Option.some.inj hm
 subst hm
 exact JQ.done (js := [0, 0]) (ss := []) (go_8, gc_9) (.inr rfl) (.nil rfl) rfl .nil rfl rfl rfl

theorem sim_wire_Vector (k : Nat) (v_1 : (Vector UInt64 16)) (r : (List UInt8)) (hm : wire_Vector k v_1 = some r) : Sim Try.prog 76 [A (rV 16 (rU UInt64)) v_1] [] (γ := Option Nat × Nat) (fun q => [cown q.1 (rU UInt8) r 0 q.2]) (fun q => .one (.val (HDR q.1 0 (List.length r) q.2))) := by
 unfold wire_Vector at hm
 refine Sim.of Try.func76 rfl rfl (lE rfl) (fun e0 w0 => ?_)
 refine JC.at ⟨[(0, ov (A (rV 16 (rU UInt64)) v_1))], [], []⟩ ?_
 refine jr ?_
 refine jx (op_boxA lb (.tmp rfl)) (fun q => ?_)
 obtain ⟨gb_2, hqq⟩ : ∃ z, z = q := ⟨_, rfl⟩
 subst hqq
 refine jc (op_assign lb HasO.nilH) <| jn <| jr <| jc (op_assign lb HasO.nilH) <| jn ?_
 replace hm := bnd_inv hm
 obtain ⟨b_17, hx1, hq1⟩ := hm
 refine JC.seqJ (γ := Option Nat × Nat) (stj := fun q => ⟨[(3, ov (HDR q.1 0 (List.length b_17) q.2))], [cown q.1 (rU UInt8) b_17 0 q.2], []⟩) (fun q => ?_) ?_
 · obtain ⟨go_18, gc_19⟩ := q
   refine JC.at ⟨[(3, ov (HDR go_18 0 (List.length b_17) gc_19))], [cown go_18 (rU UInt8) b_17 0 gc_19], []⟩ ?_
   refine jr <| jmv rfl rfl <| jc (op_assign lb (.tmp rfl)) <| jn ?_
   refine JC.ret ?_
   replace hq1 := Option.some.inj hq1
   subst hq1
   exact JQ.done (js := [0]) (ss := [.val (HDR go_18 0 (List.length b_17) gc_19)]) (go_18, gc_19) (.inl rfl) (.nil rfl) rfl (.cons (.tmp rfl) .nil) rfl rfl rfl
 refine jr <| jc (op_loadA (j := 0) lb tA40 (.tmp rfl) rfl (Comp.self (rV 16 (rU UInt64)) v_1) rfl) <| jc (op_move lb .cI) <| jn <| JC.block ?_
 refine JC.pre (Imp.nilown (rU UInt8)) ?_
 refine JC.pre ?_ (JC.loop (γ := Option Nat × Nat) (stf := fun s q => ⟨[(3, ov (HDR q.1 0 (List.length s.1) q.2)), (8, ov (A (rV 16 (rU UInt64)) v_1)), (9, ov (S (rI .i64) s.2))], [cown q.1 (rU UInt8) s.1 0 q.2], []⟩) (q := (none, 0)) hx1 ?_)
 · exact (Imp.norm (js := [1]) rfl (.cons rfl (.cons rfl (.cons rfl .nil))))
 intro s q x hx hr
 obtain ⟨b_3, x_4⟩ := s
 obtain ⟨go_5, gc_6⟩ := q
 change wire_Vector.b1 k v_1 b_3 x_4 = some x at hx
 unfold wire_Vector.b1 at hx
 refine JC.at ⟨[(3, ov (HDR go_5 0 (List.length b_3) gc_6)), (8, ov (A (rV 16 (rU UInt64)) v_1)), (9, ov (S (rI .i64) x_4))], [cown go_5 (rU UInt8) b_3 0 gc_6], []⟩ ?_
 refine jr ?_
 replace hx := lt1_inv hx
 obtain ⟨v_7, hv_v_7, hx⟩ := hx
 refine jc (op_cmpI lb (.tmp rfl) .cI (congrArg some hv_v_7)) <| jn <| JC.seq ?_
 replace hx := iteB_inv hx
 rcases hx with ⟨hc3, hx⟩ | ⟨hc3, hx⟩
 · refine JC.condT (.tmp rfl) hc3 ?_
   refine JC.skip ?_
   refine JQ.then <| JC.seq <| JC.block <| jr ?_
   replace hx := bnd_inv hx
   obtain ⟨v_8, hv_v_8, hx⟩ := hx
   refine jc (op_indexSg lb tu40 tS27 rfl (.tmp rfl) (.tmp rfl) hv_v_8) <| jc (op_assign lb (.tmp rfl)) <| jn <| jr <| jmv rfl rfl ?_
   replace hx := bnd_inv hx
   obtain ⟨⟨v_9, v_10⟩, hv_v_9, hx⟩ := hx
   refine jx (op_call (js := []) ld cl34 (sim_wire_Put k v_8 (8 : Int) (v_9, v_10) hv_v_9) .func (.cons (.tmp rfl) (.cons .cI .nil)) rfl) (fun q => ?_)
   obtain ⟨go_11, gc_12⟩ := q
   refine jmv rfl rfl <| jc (op_extract (i := 0) lb (.tmp rfl) rfl) <| jc (op_extract (i := 1) lb (.tmp rfl) rfl) <| jc (op_assign lb (.tmp rfl)) <| jc (op_assign lb (.tmp rfl)) ?_
   refine JL.sub ⟨[(3, ov (HDR go_5 0 (List.length b_3) gc_6)), (6, ov (HDR go_11 0 (List.length v_9) gc_12)), (8, ov (A (rV 16 (rU UInt64)) v_1)), (9, ov (S (rI .i64) x_4))], [cown go_11 (rU UInt8) v_9 0 gc_12, cown go_5 (rU UInt8) b_3 0 gc_6], []⟩ (.cons rfl (.cons rfl (.cons rfl (.cons rfl .nil)))) rfl rfl ?_
   refine jn <| JC.region <| jmv rfl rfl <| jmv rfl rfl ?_
   replace hx := bnd_inv hx
   obtain ⟨b_13, hv_b_13, hx⟩ := hx
   refine jx (op_appendO (j := 1) (j' := 0) lb tu25 tu25 rfl tB5 rfl (Nat.lt_of_lt_of_le Nat.zero_lt_one (lE rfl)) (Nat.lt_of_lt_of_le Nat.zero_lt_one (lE rfl))  rfl (.tmp rfl) rfl (.tmp rfl) hv_b_13) (fun q => ?_)
   obtain ⟨go_14, gc_15⟩ := q
   refine jc (op_assign lb (.tmp rfl)) <| JL.nil ?_
   refine JQ.outNB ?_
   refine JQ.then <| JC.region ?_
   replace hx := lt1_inv hx
   obtain ⟨v_16, hv_v_16, hx⟩ := hx
   refine jc (op_arI lb (.tmp rfl) .cI (congrArg some hv_v_16)) <| jmv rfl rfl <| JL.nil ?_
   replace hx := Option.some.inj hx
   first | subst hx | clear hx
   exact JQ.next (go_14, gc_15) rfl (Imp.norm (js := [1]) rfl (.cons rfl (.cons rfl (.cons rfl .nil))))
 refine JC.condF (.tmp rfl) hc3 ?_
 refine JC.exit ?_
 refine JQ.outX ?_
 replace hx := Option.some.inj hx
 first | subst hx | clear hx
 have ht := hr _ rfl
 have hq2 := congrArg some ht
 clear hr ht
 refine JQ.outX ?_
 refine JQ.here ?_
 replace hq2 := Option.some.inj hq2
 first | subst hq2 | clear hq2
 exact JQ.join (go_5, gc_6) (Imp.norm (js := [0]) rfl (.cons rfl .nil))

end Go.Proofs.Ytklnihlchhhhlaa
