/- Walks. -/
import Derived.Test.YtbflmobpbjnekaaT
namespace Go.Proofs.Ytbflmobpbjnekaa
open Go Fw
set_option linter.unusedVariables false
set_option maxRecDepth 100000
set_option maxHeartbeats 4000000

theorem sim_law08_much (k : Nat) (l_1 : (List law08_Step)) (r : Bool) (hm : law08_much k l_1 = some r) : Sim Try.prog 11 [S (rL r_law08_Step) l_1] [] (γ := Unit) (fun q => []) (fun q => .one (.val (S rB r))) := by
 unfold law08_much at hm
 refine Sim.of Try.func11 rfl rfl (lE rfl) (fun e0 w0 => ?_)
 refine JC.at ⟨[(0, ov (S (rL r_law08_Step) l_1))], [], []⟩ <| jr <| jc (op_assign lb .cB) <| jn <| jr <| jc (op_assign lb .cI) <| jn <| bI hm fun n_12 hx1 hq1 => JC.seqJ (γ := Unit) (stj := fun _ => ⟨[(0, ov (S (rL r_law08_Step) l_1)), (3, ov (S (rI .i64) n_12))], [], []⟩) (fun _ => ?_) ?_
 · refine bI hq1 fun x_16 hx8 hq8 => JC.seqJ (γ := Unit) (stj := fun _ => ⟨[(2, ov (S rB x_16))], [], []⟩) (fun _ => ?_) ?_
   · refine JC.ret ?_
     obtain rfl := so hq8
     exact jd (.val (S rB x_16)) rfl rfl rfl rfl rfl rfl
   refine JC.region <| jmv rfl rfl <| lI hx8 fun v_13 hv_13 hx8 => jc (op_cmpI lb tR .cI (cs hv_13)) <| jmv rfl rfl <| jF (ov (S (rL r_law08_Step) l_1)) rfl rfl rfl rfl (fun hq_9 => op_move lb tR) <| jF (ov (S (rI .i64) (List.length l_1 : Int))) rfl rfl rfl rfl (fun hq_10 => op_lenL lb tu33 (HasO.cnd tR (notT (notF hq_10)))) <| lI hx8 fun v_14 hv_14 hx8 => jF (ov (S rB v_14)) rfl rfl rfl rfl (fun hq_11 => op_cmpI lb (HasO.cnd tR (notT (notF hq_11))) .cI (cs hv_14)) <| lI hx8 fun v_15 hv_15 hx8 => jc (op_pickCS lb tR (fun hb12 => .cB) (fun hb12 => (HasO.cnd tR (notT hb12))) hv_15) <| jc (op_assign lb tR) <| JL.nil ?_
   try obtain rfl := so hx8
   exact jo rfl rfl rfl
 refine jr <| jc (op_assign lb .cI) <| jn <| JC.block <| JC.pre ?_ (JC.loop (γ := Unit) (stf := fun s q => ⟨[(0, ov (S (rL r_law08_Step) l_1)), (3, ov (S (rI .i64) s.1)), (4, ov (S (rI .i64) s.2))], [], []⟩) (q := ()) hx1 ?_)
 · exact (Imp.norm (js := []) rfl (.cons rfl (.cons rfl (.cons rfl .nil))))
 intro s q x hx hr
 obtain ⟨n_2, i_3⟩ := s
 obtain _ := q
 change law08_much.b1 k l_1 n_2 i_3 = some x at hx
 unfold law08_much.b1 at hx
 refine JC.at ⟨[(0, ov (S (rL r_law08_Step) l_1)), (3, ov (S (rI .i64) n_2)), (4, ov (S (rI .i64) i_3))], [], []⟩ <| JC.seq <| bI hx fun x_7 hx3 hq3 => JC.seqJ (γ := Unit) (stj := fun _ => ⟨[(0, ov (S (rL r_law08_Step) l_1)), (3, ov (S (rI .i64) n_2)), (4, ov (S (rI .i64) i_3)), (12, ov (S rB x_7))], [], []⟩) (fun _ => ?_) ?_
 · refine jif tR hq3 (fun hc7 hq3 => ?_) (fun hc7 hq3 => ?_)
   · refine JC.skip <| JQ.then <| JC.seq <| JC.block <| JC.region <| jmv rfl rfl <| jmv rfl rfl <| jmv rfl rfl <| bI hq3 fun v_8 hv_8 hq3 => jc (op_indexAddrLg lb tu33 tz39 tR tR hv_8) <| jc (op_fieldAddrP lb tf39_1 tR (comp_law08_Step_B v_8)) <| jc (op_loadPSg lb tS37 rfl tR rfl) <| jc (op_lenL lb tu37 tR) <| lI hq3 fun v_9 hv_9 hq3 => jc (op_minI lb tR .cI hv_9) <| lI hq3 fun v_10 hv_10 hq3 => jc (op_arI lb tR tR (cs hv_10)) <| jc (op_assign lb tR) <| JL.nil ?_
     refine JQ.outNB <| JQ.then <| JC.region <| jmv rfl rfl <| lI hq3 fun v_11 hv_11 hq3 => jc (op_arI lb tR .cI (cs hv_11)) <| JL.sub ⟨[(0, ov (S (rL r_law08_Step) l_1)), (3, ov (S (rI .i64) v_10)), (4, ov (S (rI .i64) i_3)), (14, ov (S (rI .i64) v_11))], [], []⟩ (.cons rfl (.cons rfl (.cons rfl (.cons rfl .nil)))) rfl rfl <| jc (op_assign lb tR) <| JL.nil ?_
     try obtain rfl := so hq3
     exact JQ.next () rfl (Imp.norm (js := []) rfl (.cons rfl (.cons rfl (.cons rfl .nil))))
   refine JC.exit <| JQ.outX ?_
   try obtain rfl := so hq3
   have ht := hr _ rfl
   have hq2 := cs ht
   clear hr ht
   refine JQ.outX <| JQ.here ?_
   try obtain rfl := so hq2
   exact JQ.join () (Imp.norm (js := []) rfl (.cons rfl (.cons rfl .nil)))
 refine JC.region <| jmv rfl rfl <| jmv rfl rfl <| jc (op_lenL lb tu33 tR) <| lI hx3 fun v_4 hv_4 hx3 => jc (op_cmpI lb tR tR (cs hv_4)) <| jmv rfl rfl <| jT (ov (S (rI .i64) i_3)) rfl rfl rfl rfl (fun hq_4 => op_move lb tR) <| lI hx3 fun v_5 hv_5 hx3 => jT (ov (S rB v_5)) rfl rfl rfl rfl (fun hq_5 => op_cmpI lb (HasO.cnd tR hq_5) .cI (cs hv_5)) <| lI hx3 fun v_6 hv_6 hx3 => jc (op_pickCS lb tR (fun hb6 => (HasO.cnd tR hb6)) (fun hb6 => .cB) hv_6) <| JL.nil ?_
 try obtain rfl := so hx3
 exact JQ.join () (Imp.norm (js := []) rfl (.cons rfl (.cons rfl (.cons rfl (.cons rfl .nil)))))

theorem sim_sha_primes_1 (k : Nat) (p_1 : UInt64) (x_2 : UInt64) (gb_3 : Nat) (r : Bool) (hm : sha_primes_1 k p_1 x_2 = some r) : Sim Try.prog 53 [S (rU UInt64) p_1, PTR gb_3 0] [cvar gb_3 (rU UInt64) x_2] (γ := Unit) (fun q => [cvar gb_3 (rU UInt64) x_2]) (fun q => .one (.val (S rB r))) := by
 unfold sha_primes_1 at hm
 refine Sim.of Try.func53 rfl rfl (lE rfl) (fun e0 w0 => ?_)
 refine JC.at ⟨[(0, ov (S (rU UInt64) p_1)), (1, ov (PTR gb_3 0))], [cvar gb_3 (rU UInt64) x_2], []⟩ <| jr <| jc (op_assign lb .cB) <| jn <| jr <| jc (op_loadS (j := 0) lb tS71 tR rfl (Comp.self (rU UInt64) x_2) rfl rfl) <| jmv rfl rfl <| bI hm fun v_4 hv_4 hm => jc (op_arU lb tR tR hv_4) <| lI hm fun v_5 hv_5 hm => jc (op_cmpU lb tR (HasO.cU (x := (0 : UInt64)) rfl (by decide)) (cs hv_5)) <| jc (op_assign lb tR) <| jn <| JC.ret ?_
 obtain rfl := so hm
 exact JQ.done (js := [0]) (ss := [.val (S rB v_5)]) () (.inl rfl) (.nil rfl) rfl (.cons (.tmp rfl) .nil) rfl rfl rfl

theorem sim_slices_IndexFuncuint64_uint64 (k : Nat) (s_1 : (List UInt64)) (x_2 : UInt64) (gb_3 : Nat) (r : Int) (hm : slices_IndexFuncuint64_uint64 k s_1 x_2 = some r) : Sim Try.prog 63 [S (rL (rU UInt64)) s_1, CLO 53 [PTR gb_3 0]] [cvar gb_3 (rU UInt64) x_2] (γ := Unit) (fun q => [cvar gb_3 (rU UInt64) x_2]) (fun q => .one (.val (S (rI .i64) r))) := by
 unfold slices_IndexFuncuint64_uint64 at hm
 refine Sim.of Try.func63 rfl rfl (lE rfl) (fun e0 w0 => ?_)
 refine JC.at ⟨[(0, ov (S (rL (rU UInt64)) s_1)), (1, ov (CLO 53 [PTR gb_3 0]))], [cvar gb_3 (rU UInt64) x_2], []⟩ <| jr <| jc (op_assign lb .cI) <| jn <| bI hm fun tv1 hx1 hq1 => JC.seqK (α := Unit) (γ := Unit) (stj := fun v q => ⟨[], [cvar gb_3 (rU UInt64) x_2], []⟩) (p := fun v => tv1 = (.inl v)) (fun v q hv => ?_) ?_
 · subst hv
   skip
   obtain _ := q
   dsimp only at hq1
   refine JC.at ⟨[], [cvar gb_3 (rU UInt64) x_2], []⟩ <| jr <| jc (op_assign lb .cI) <| jn <| JC.ret ?_
   obtain rfl := so hq1
   exact JQ.done (js := [0]) (ss := [.val (S (rI .i64) (-1 : Int))]) () (.inl rfl) (.nil rfl) rfl (.cons (.tmp rfl) .nil) rfl rfl rfl
 refine jr <| jmv rfl rfl <| jc (op_lenL lb tu82 tR) <| jc (op_move lb .cI) <| jn <| JC.block <| bI hx1 fun tv2 hL2 hq2 => JC.pre ?_ (JC.loop (γ := Unit) (stf := fun s q => ⟨[(0, ov (S (rL (rU UInt64)) s_1)), (1, ov (CLO 53 [PTR gb_3 0])), (7, ov (S (rI .i64) (List.length s_1 : Int))), (8, ov (S (rI .i64) s))], [cvar gb_3 (rU UInt64) x_2], []⟩) (q := ()) hL2 ?_)
 · exact (Imp.norm (js := [0]) rfl (.cons rfl (.cons rfl (.cons rfl (.cons rfl .nil)))))
 intro x_4 q x hx hr
 obtain _ := q
 change slices_IndexFuncuint64_uint64.b1 k s_1 x_2 x_4 = some x at hx
 unfold slices_IndexFuncuint64_uint64.b1 at hx
 refine JC.at ⟨[(0, ov (S (rL (rU UInt64)) s_1)), (1, ov (CLO 53 [PTR gb_3 0])), (7, ov (S (rI .i64) (List.length s_1 : Int))), (8, ov (S (rI .i64) x_4))], [cvar gb_3 (rU UInt64) x_2], []⟩ <| jr <| lI hx fun v_5 hv_5 hx => jc (op_cmpI lb tR tR (cs hv_5)) <| jn <| JC.seq <| jif tR hx (fun hc3 hx => ?_) (fun hc3 hx => ?_)
 · refine JC.skip <| JQ.then <| JC.seq <| JC.block <| jr <| jmv rfl rfl <| jc (op_assign lb tR) <| jn <| jr <| jmv rfl rfl <| jmv rfl rfl <| jmv rfl rfl <| bI hx fun v_6 hv_6 hx => jc (op_indexAddrLg lb tu82 tz71 tR tR hv_6) <| jc (op_loadPSg lb tS71 rfl tR rfl) <| bI hx fun v_7 hv_7 hx => jx (op_call (js := [0]) ld cl53 (sim_sha_primes_1 k v_6 x_2 gb_3 v_7 hv_7) tR (.cons tR .nil) rfl) fun _ => jn ?_
   refine jif tR hx (fun hc4 hx => ?_) (fun hc4 hx => ?_)
   · refine jr <| jmv rfl rfl <| jc (op_assign lb tR) <| jn <| JC.ret <| JQ.outRB <| JQ.outR ?_
     try obtain rfl := so hx
     try obtain rfl := hr _ rfl
     dsimp only at hq2
     refine JQ.outR <| JQ.outRB ?_
     try obtain rfl := so hq2
     dsimp only at hq1
     refine JQ.outR ?_
     obtain rfl := so hq1
     exact JQ.done (js := [0]) (ss := [.val (S (rI .i64) x_4)]) () (.inl rfl) (.nil rfl) rfl (.cons (.tmp rfl) .nil) rfl rfl rfl
   refine JC.skip <| JQ.outNB <| JQ.then <| JC.region <| lI hx fun v_8 hv_8 hx => jc (op_arI lb tR .cI (cs hv_8)) <| jmv rfl rfl <| JL.nil ?_
   try obtain rfl := so hx
   exact JQ.next () rfl (Imp.norm (js := [0]) rfl (.cons rfl (.cons rfl (.cons rfl (.cons rfl .nil)))))
 refine JC.exit <| JQ.outX ?_
 try obtain rfl := so hx
 try obtain rfl := hr _ rfl
 dsimp only at hq2
 refine JQ.outX <| JQ.here ?_
 try obtain rfl := so hq2
 exact JQ.joinK () () rfl (Imp.norm (js := [0]) rfl .nil)

theorem sim_slices_ContainsFuncuint64_uint64 (k : Nat) (s_1 : (List UInt64)) (x_2 : UInt64) (gb_3 : Nat) (r : Bool) (hm : slices_ContainsFuncuint64_uint64 k s_1 x_2 = some r) : Sim Try.prog 52 [S (rL (rU UInt64)) s_1, CLO 53 [PTR gb_3 0]] [cvar gb_3 (rU UInt64) x_2] (γ := Unit) (fun q => [cvar gb_3 (rU UInt64) x_2]) (fun q => .one (.val (S rB r))) := by
 unfold slices_ContainsFuncuint64_uint64 at hm
 refine Sim.of Try.func52 rfl rfl (lE rfl) (fun e0 w0 => ?_)
 refine JC.at ⟨[(0, ov (S (rL (rU UInt64)) s_1)), (1, ov (CLO 53 [PTR gb_3 0]))], [cvar gb_3 (rU UInt64) x_2], []⟩ <| jr <| jc (op_assign lb .cB) <| jn <| jr <| jmv rfl rfl <| jmv rfl rfl <| bI hm fun v_4 hv_4 hm => jx (op_call (js := [0]) ld cl63 (sim_slices_IndexFuncuint64_uint64 k s_1 x_2 gb_3 v_4 hv_4) .func (.cons tR (.cons tR .nil)) rfl) fun _ => lI hm fun v_5 hv_5 hm => jc (op_cmpI lb tR .cI (cs hv_5)) <| jc (op_assign lb tR) <| jn <| JC.ret ?_
 obtain rfl := so hm
 exact JQ.done (js := [0]) (ss := [.val (S rB v_5)]) () (.inl rfl) (.nil rfl) rfl (.cons (.tmp rfl) .nil) rfl rfl rfl

theorem sim_sha_primes (k : Nat) (r : (List UInt64)) (hm : sha_primes k = some r) : Sim Try.prog 45 [] [] (γ := Option Nat × Nat) (fun q => [cown q.1 (rU UInt64) r (List.length r) q.2]) (fun q => .one (.val (HDR q.1 0 (List.length r) q.2))) := by
 unfold sha_primes at hm
 refine Sim.of Try.func45 rfl rfl (lE rfl) (fun e0 w0 => ?_)
 refine JC.at ⟨[], [], []⟩ <| jr <| jc (op_assign lb HasO.nilH) <| jn <| jr <| jc (op_assign lb HasO.nilH) <| jn <| bI hm fun l_18 hx1 hq1 => JC.seqJ (γ := Option Nat × Nat) (stj := fun q => ⟨[(1, ov (HDR q.1 0 (List.length l_18) q.2))], [cown q.1 (rU UInt64) l_18 (List.length l_18) q.2], []⟩) (fun q => ?_) ?_
 · obtain ⟨go_19, gc_20⟩ := q
   refine JC.at ⟨[(1, ov (HDR go_19 0 (List.length l_18) gc_20))], [cown go_19 (rU UInt64) l_18 (List.length l_18) gc_20], []⟩ <| jr <| jmv rfl rfl <| jc (op_assign lb tR) <| jn <| JC.ret ?_
   obtain rfl := so hq1
   exact JQ.done (js := [0]) (ss := [.val (HDR go_19 0 (List.length l_18) gc_20)]) (go_19, gc_20) (.inl rfl) (.nil rfl) rfl (.cons (.tmp rfl) .nil) rfl rfl rfl
 refine jr <| jx (op_alloc lb tZ71 zr71) fun gb_1 => jc (op_storeS (j := 0) tS71 tR (HasO.cU (x := (2 : UInt64)) rfl (by decide)) rfl rfl (UpdR.self (by rfl)) rfl) <| jn <| JC.block <| JC.pre (Imp.nilown (rU UInt64)) <| JC.pre (Imp.frz (j := 1) rfl ImpK.refl) <| JC.pre ?_ (JC.loop (γ := Option Nat × Nat × Nat) (stf := fun s q => ⟨[(1, ov (HDR q.1 0 (List.length s.1) q.2.1)), (2, ov (PTR q.2.2 0))], [cown q.1 (rU UInt64) s.1 (List.length s.1) q.2.1, cvar q.2.2 (rU UInt64) s.2], []⟩) (q := (none, 0, gb_1)) hx1 ?_)
 · exact (Imp.norm (js := [1, 0]) rfl (.cons rfl (.cons rfl .nil)))
 intro s q x hx hr
 obtain ⟨l_2, n_3⟩ := s
 obtain ⟨go_4, gc_5, gb_6⟩ := q
 change sha_primes.b1 k l_2 n_3 = some x at hx
 unfold sha_primes.b1 at hx
 refine JC.at ⟨[(1, ov (HDR go_4 0 (List.length l_2) gc_5)), (2, ov (PTR gb_6 0))], [cown go_4 (rU UInt64) l_2 (List.length l_2) gc_5, cvar gb_6 (rU UInt64) n_3], []⟩ <| JC.seq <| jr <| jmv rfl rfl <| jc (op_lenH lb tu82 tR) <| lI hx fun v_7 hv_7 hx => jc (op_cmpI lb tR .cI (cs hv_7)) <| jn <| jif tR hx (fun hc3 hx => ?_) (fun hc3 hx => ?_)
 · refine JC.skip <| JQ.then <| bI hx fun l_13 hx4 hq4 => JC.seqJ (γ := Option Nat × Nat) (stj := fun q => ⟨[(1, ov (HDR q.1 0 (List.length l_13) q.2)), (2, ov (PTR gb_6 0))], [cown q.1 (rU UInt64) l_13 (List.length l_13) q.2, cvar gb_6 (rU UInt64) n_3], []⟩) (fun q => ?_) ?_
   · obtain ⟨go_14, gc_15⟩ := q
     refine JC.at ⟨[(1, ov (HDR go_14 0 (List.length l_13) gc_15)), (2, ov (PTR gb_6 0))], [cown go_14 (rU UInt64) l_13 (List.length l_13) gc_15, cvar gb_6 (rU UInt64) n_3], []⟩ <| JC.seq <| jr <| jc (op_loadS (j := 1) lb tS71 tR rfl (Comp.self (rU UInt64) n_3) rfl rfl) <| jn <| JC.region <| jx (op_alloc lb tZ71 zr71) fun gb_16 => jc (op_storeS (j := 2) tS71 tR tR rfl rfl (UpdR.self (by rfl)) rfl) <| jn <| JC.region <| jc (op_loadS (j := 2) lb tS71 tR rfl (Comp.self (rU UInt64) n_3) rfl rfl) <| lI hq4 fun v_17 hv_17 hq4 => jc (op_arU lb tR (HasO.cU (x := (1 : UInt64)) rfl (by decide)) (cs hv_17)) <| jc (op_storeS (j := 2) tS71 tR tR rfl rfl (UpdR.self (by rfl)) rfl) <| JL.nrm ⟨[(1, ov (HDR go_14 0 (List.length l_13) gc_15)), (2, ov (PTR gb_16 0))], [cown go_14 (rU UInt64) l_13 (List.length l_13) gc_15, cvar gb_16 (rU UInt64) v_17], []⟩ [0, 1] rfl (.cons rfl (.cons rfl .nil)) rfl <| JL.nil ?_
     try obtain rfl := so hq4
     exact JQ.next (go_14, gc_15, gb_16) rfl (Imp.norm (js := [0, 0]) rfl (.cons rfl (.cons rfl .nil)))
   refine JC.block <| jr <| jmv rfl rfl <| jc (op_makeFunc lb (.cons tR .nil)) <| bI hx4 fun v_8 hv_8 hx4 => JL.pre (Imp.frz (j := 0) rfl (ImpK.slotH (s := 1) rfl (ImpK.slotH (s := 3) rfl (ImpK.slotH (s := 8) rfl ImpK.refl)))) <| jx (op_call (js := [1]) ld cl52 (sim_slices_ContainsFuncuint64_uint64 k l_2 n_3 gb_6 v_8 hv_8) .func (.cons (HasO.wk tR wkHL) (.cons tR .nil)) rfl) fun _ => lI hx4 fun v_9 hv_9 hx4 => jc (op_not lb tR hv_9) <| jn <| jif tR hx4 (fun hc5 hx4 => ?_) (fun hc5 hx4 => ?_)
   · refine JC.region <| jmv rfl rfl <| jc (op_loadS (j := 0) lb tS71 tR rfl (Comp.self (rU UInt64) n_3) rfl rfl) <| jc (op_buildF (r := (rU UInt64)) lb tu82 tz71 tZ71 rfl (lE rfl) (.S rfl tR .nil) rfl) <| JL.sub ⟨[(1, ov (HL go_4 (rU UInt64) l_2 gc_5)), (2, ov (PTR gb_6 0)), (12, ov (HL go_4 (rU UInt64) l_2 gc_5)), (14, ov (S (rL (rU UInt64)) ([n_3] : (List UInt64))))], [cvar gb_6 (rU UInt64) n_3, cown go_4 (rU UInt64) l_2 (List.length l_2) gc_5], []⟩ (.cons rfl (.cons rfl (.cons rfl (.cons rfl .nil)))) rfl rfl <| bI hx4 fun x_10 hv_x_10 hx4 => JL.pre (Imp.slot (s := 12) rfl wkHH) <| JL.pre (Imp.slot (s := 1) rfl wkHL) <| jx (op_appendL (j := 1) lb tu82 tu82 rfl tB71 rfl (Nat.lt_of_lt_of_le Nat.zero_lt_one (lE rfl)) (Nat.lt_of_lt_of_le Nat.zero_lt_one (lE rfl))  rfl tR tR hv_x_10) (fun q => ?_)
     obtain ⟨go_11, gc_12⟩ := q
     refine JL.sub ⟨[(1, ov (S (rL (rU UInt64)) l_2)), (2, ov (PTR gb_6 0)), (15, ov (HDR go_11 0 (List.length x_10) gc_12))], [cvar gb_6 (rU UInt64) n_3, cown go_11 (rU UInt64) x_10 (List.length l_2) gc_12], []⟩ (.cons rfl (.cons rfl (.cons rfl .nil))) rfl rfl <| jc (op_assign lb tR) <| JL.nil <| JQ.outNB ?_
     try obtain rfl := so hx4
     exact JQ.pre (Imp.frz (j := 1) rfl ImpK.refl) <| JQ.join (go_11, gc_12) (Imp.norm (js := [1, 0]) rfl (.cons rfl (.cons rfl .nil)))
   refine JC.skip <| JQ.outNB ?_
   try obtain rfl := so hx4
   exact JQ.pre (Imp.slot (s := 1) rfl wkHH) <| JQ.join (go_4, gc_5) (Imp.norm (js := [1, 0]) rfl (.cons rfl (.cons rfl .nil)))
 refine JC.exit <| JQ.outX ?_
 try obtain rfl := so hx
 have ht := hr _ rfl
 have hq2 := cs ht
 clear hr ht
 refine JQ.outX <| JQ.here ?_
 try obtain rfl := so hq2
 exact JQ.join (go_4, gc_5) (Imp.norm (js := [0]) rfl (.cons rfl .nil))

theorem sim_math_bits_Mul64 (k : Nat) (x_1 : UInt64) (y_2 : UInt64) (r : UInt64 × UInt64) (hm : math_bits_Mul64 k x_1 y_2 = some r) : Sim Try.prog 50 [S (rU UInt64) x_1, S (rU UInt64) y_2] [] (γ := Unit) (fun q => []) (fun q => .tup [.val (S (rU UInt64) r.1), .val (S (rU UInt64) r.2)]) := by
 unfold math_bits_Mul64 at hm
 refine Sim.of Try.func50 rfl rfl (lE rfl) (fun e0 w0 => ?_)
 refine JC.at ⟨[(0, ov (S (rU UInt64) x_1)), (1, ov (S (rU UInt64) y_2))], [], []⟩ <| jr <| jc (op_assign lb (HasO.cU (x := (0 : UInt64)) rfl (by decide))) <| jc (op_assign lb (HasO.cU (x := (0 : UInt64)) rfl (by decide))) <| jn <| jr <| jmv rfl rfl <| lI hm fun v_3 hv_3 hm => jc (op_arU lb tR (HasO.cU (x := (4294967295 : UInt64)) rfl (by decide)) (cs hv_3)) <| jc (op_assign lb tR) <| jn <| jr <| jmv rfl rfl <| lI hm fun v_4 hv_4 hm => jc (op_shrUU lb tR (HasO.cU (x := (32 : UInt64)) rfl (by decide)) hv_4) <| jc (op_assign lb tR) <| jn <| jr <| jmv rfl rfl <| lI hm fun v_5 hv_5 hm => jc (op_arU lb tR (HasO.cU (x := (4294967295 : UInt64)) rfl (by decide)) (cs hv_5)) <| jc (op_assign lb tR) <| jn <| jr <| jmv rfl rfl ?_
 refine JL.sub ⟨[(0, ov (S (rU UInt64) x_1)), (1, ov (S (rU UInt64) y_2)), (6, ov (S (rU UInt64) v_3)), (7, ov (S (rU UInt64) v_4)), (8, ov (S (rU UInt64) v_5)), (20, ov (S (rU UInt64) y_2))], [], []⟩ (.cons rfl (.cons rfl (.cons rfl (.cons rfl (.cons rfl (.cons rfl .nil)))))) rfl rfl <| lI hm fun v_6 hv_6 hm => jc (op_shrUU lb tR (HasO.cU (x := (32 : UInt64)) rfl (by decide)) hv_6) <| jc (op_assign lb tR) <| jn <| jr <| jmv rfl rfl <| jmv rfl rfl <| lI hm fun v_7 hv_7 hm => jc (op_arU lb tR tR (cs hv_7)) <| jc (op_assign lb tR) <| jn <| jr <| jmv rfl rfl <| jmv rfl rfl <| lI hm fun v_8 hv_8 hm => jc (op_arU lb tR tR (cs hv_8)) <| jmv rfl rfl ?_
 refine lI hm fun v_9 hv_9 hm => jc (op_shrUU lb tR (HasO.cU (x := (32 : UInt64)) rfl (by decide)) hv_9) <| lI hm fun v_10 hv_10 hm => jc (op_arU lb tR tR (cs hv_10)) <| JL.sub ⟨[(0, ov (S (rU UInt64) x_1)), (1, ov (S (rU UInt64) y_2)), (6, ov (S (rU UInt64) v_3)), (7, ov (S (rU UInt64) v_4)), (9, ov (S (rU UInt64) v_6)), (30, ov (S (rU UInt64) v_10))], [], []⟩ (.cons rfl (.cons rfl (.cons rfl (.cons rfl (.cons rfl (.cons rfl .nil)))))) rfl rfl <| jc (op_assign lb tR) <| jn <| jr <| jmv rfl rfl <| lI hm fun v_11 hv_11 hm => jc (op_arU lb tR (HasO.cU (x := (4294967295 : UInt64)) rfl (by decide)) (cs hv_11)) <| jc (op_assign lb tR) <| jn <| jr <| jmv rfl rfl ?_
 obtain ⟨v_12, hv_12, hm⟩ := lt1_inv hm
 refine jc (op_shrUU lb tR (HasO.cU (x := (32 : UInt64)) rfl (by decide)) hv_12) <| jc (op_assign lb tR) <| jn <| jr <| jmv rfl rfl <| jmv rfl rfl <| jmv rfl rfl <| lI hm fun v_13 hv_13 hm => jc (op_arU lb tR tR (cs hv_13)) <| lI hm fun v_14 hv_14 hm => jc (op_arU lb tR tR (cs hv_14)) <| JL.sub ⟨[(0, ov (S (rU UInt64) x_1)), (1, ov (S (rU UInt64) y_2)), (7, ov (S (rU UInt64) v_4)), (9, ov (S (rU UInt64) v_6)), (12, ov (S (rU UInt64) v_11)), (13, ov (S (rU UInt64) v_12)), (39, ov (S (rU UInt64) v_14))], [], []⟩ (.cons rfl (.cons rfl (.cons rfl (.cons rfl (.cons rfl (.cons rfl (.cons rfl .nil))))))) rfl rfl <| jc (op_assign lb tR) <| jn <| jr <| jmv rfl rfl <| jmv rfl rfl ?_
 obtain ⟨v_15, hv_15, hm⟩ := lt1_inv hm
 refine jc (op_arU lb tR tR (cs hv_15)) <| jmv rfl rfl <| lI hm fun v_16 hv_16 hm => jc (op_arU lb tR tR (cs hv_16)) <| jmv rfl rfl <| lI hm fun v_17 hv_17 hm => jc (op_shrUU lb tR (HasO.cU (x := (32 : UInt64)) rfl (by decide)) hv_17) <| lI hm fun v_18 hv_18 hm => jc (op_arU lb tR tR (cs hv_18)) <| jc (op_assign lb tR) <| jn <| jr <| jmv rfl rfl <| jmv rfl rfl <| JL.sub ⟨[(4, ov (S (rU UInt64) v_18)), (48, ov (S (rU UInt64) x_1)), (49, ov (S (rU UInt64) y_2))], [], []⟩ (.cons rfl (.cons rfl (.cons rfl .nil))) rfl rfl ?_
 refine lI hm fun v_19 hv_19 hm => jc (op_arU lb tR tR (cs hv_19)) <| jc (op_assign lb tR) <| jn <| JC.ret ?_
 obtain rfl := so hm
 exact JQ.done (js := []) (ss := [.val (S (rU UInt64) v_18), .val (S (rU UInt64) v_19)]) () (.inl rfl) (.nil rfl) rfl (.cons (.tmp rfl) (.cons (.tmp rfl) .nil)) rfl rfl rfl

theorem sim_sha_square (k : Nat) (x_1 : UInt64) (r : (Vector UInt64 2)) (hm : sha_square k x_1 = some r) : Sim Try.prog 59 [S (rU UInt64) x_1] [] (γ := Unit) (fun q => []) (fun q => .one (.val (A (rV 2 (rU UInt64)) r))) := by
 unfold sha_square at hm
 refine Sim.of Try.func59 rfl rfl (lE rfl) (fun e0 w0 => ?_)
 refine JC.at ⟨[(0, ov (S (rU UInt64) x_1))], [], []⟩ <| jr <| jx (op_alloc lb tZ93 zr93) fun gb_2 => jn <| jr <| jmv rfl rfl <| jmv rfl rfl ?_
 obtain ⟨⟨v_3, v_4⟩, hv_3, hm⟩ := bnd_inv hm
 refine jx (op_call (js := []) ld cl50 (sim_math_bits_Mul64 k x_1 x_1 (v_3, v_4) hv_3) .func (.cons tR (.cons tR .nil)) rfl) fun _ => jmv rfl rfl <| jc (op_extract (i := 0) lb tR rfl) <| jc (op_extract (i := 1) lb tR rfl) <| jc (op_assign lb tR) <| jc (op_assign lb tR) <| jn <| jr <| jmv rfl rfl <| JL.sub ⟨[(2, ov (PTR gb_2 0)), (4, ov (S (rU UInt64) v_4)), (11, ov (S (rU UInt64) v_3))], [cvar gb_2 (rV 2 (rU UInt64)) (Vector.replicate 2 (0 : UInt64))], []⟩ (.cons rfl (.cons rfl (.cons rfl .nil))) rfl rfl <| jmv rfl rfl <| jc (op_build lb tZ93 zv93 tp93 (.S (off := 0) rfl tR rfl ((Upd.at (off := 0) (i := 0) (Comp.self (rV 2 (rU UInt64)) (Vector.replicate 2 (0 : UInt64))) (by decide) rfl (Upd.self (rV 2 (rU UInt64)) (Vector.replicate 2 (0 : UInt64)) _)).R.at rfl) (.S (off := 1) rfl tR rfl ((Upd.at (off := 0) (i := 1) (Comp.self (rV 2 (rU UInt64)) (Vector.set (Vector.replicate 2 (0 : UInt64)) 0 v_3 (by decide))) (by decide) rfl (Upd.self (rV 2 (rU UInt64)) (Vector.set (Vector.replicate 2 (0 : UInt64)) 0 v_3 (by decide)) _)).R.at rfl) .nil)) rfl) <| jc (op_storeA (j := 0) tA93 tR tR rfl (UpdR.self (by rfl)) rfl) <| jn <| JC.ret ?_
 obtain rfl := so hm
 exact JQ.done (js := []) (ss := [.val (A (rV 2 (rU UInt64)) (#v[v_3, v_4] : (Vector UInt64 2)))]) () (.inl rfl) (.nil rfl) rfl (.cons (.cellA (j := 0) tA93 rfl rfl) .nil) rfl rfl rfl

theorem sim_sha_cube (k : Nat) (x_1 : UInt64) (r : (Vector UInt64 2) × Bool) (hm : sha_cube k x_1 = some r) : Sim Try.prog 56 [S (rU UInt64) x_1] [] (γ := Unit) (fun q => []) (fun q => .tup [.val (A (rV 2 (rU UInt64)) r.1), .val (S rB r.2)]) := by
 unfold sha_cube at hm
 refine Sim.of Try.func56 rfl rfl (lE rfl) (fun e0 w0 => ?_)
 refine JC.at ⟨[(0, ov (S (rU UInt64) x_1))], [], []⟩ <| jr <| jx (op_alloc lb tZ93 zr93) fun gb_2 => jc (op_assign lb .cB) <| jn <| jr <| jmv rfl rfl <| bI hm fun v_3 hv_3 hm => jx (op_call (js := []) ld cl59 (sim_sha_square k x_1 v_3 hv_3) .func (.cons tR .nil) rfl) fun _ => jx (op_alloc lb tZ93 zr93) fun gb_4 => jc (op_storeA (j := 1) tA93 tR tR rfl (UpdR.self (by rfl)) rfl) <| JL.sub ⟨[(0, ov (S (rU UInt64) x_1)), (2, ov (PTR gb_2 0)), (4, ov (PTR gb_4 0))], [cvar gb_2 (rV 2 (rU UInt64)) (Vector.replicate 2 (0 : UInt64)), cvar gb_4 (rV 2 (rU UInt64)) v_3], []⟩ (.cons rfl (.cons rfl (.cons rfl .nil))) rfl rfl ?_
 refine jn <| jr <| bI hm fun i_5 hv_i_5 hm => jc (op_indexAddrIF lb tr93 tR .cI hv_i_5) <| lI hm fun v_6 hv_6 hm => jc (op_loadS (j := 1) lb tS71 tR rfl (Comp.at (Comp.self (rV 2 (rU UInt64)) v_3) i_5.2 rfl) rfl hv_6) <| jmv rfl rfl ?_
 obtain ⟨⟨v_7, v_8⟩, hv_7, hm⟩ := bnd_inv hm
 refine jx (op_call (js := []) ld cl50 (sim_math_bits_Mul64 k v_6 x_1 (v_7, v_8) hv_7) .func (.cons tR (.cons tR .nil)) rfl) fun _ => jmv rfl rfl <| jc (op_extract (i := 0) lb tR rfl) <| jc (op_extract (i := 1) lb tR rfl) <| jc (op_assign lb tR) <| jc (op_assign lb tR) <| jn <| jr <| bI hm fun i_9 hv_i_9 hm => jc (op_indexAddrIF lb tr93 tR .cI hv_i_9) <| lI hm fun v_10 hv_10 hm => jc (op_loadS (j := 1) lb tS71 tR rfl (Comp.at (Comp.self (rV 2 (rU UInt64)) v_3) i_9.2 rfl) rfl hv_10) <| jmv rfl rfl <| JL.nrm ⟨[(2, ov (PTR gb_2 0)), (5, ov (S (rU UInt64) v_7)), (6, ov (S (rU UInt64) v_8)), (22, ov (S (rU UInt64) v_10)), (23, ov (S (rU UInt64) x_1))], [cvar gb_2 (rV 2 (rU UInt64)) (Vector.replicate 2 (0 : UInt64))], []⟩ [0] rfl (.cons rfl (.cons rfl (.cons rfl (.cons rfl (.cons rfl .nil))))) rfl ?_
 obtain ⟨⟨v_11, v_12⟩, hv_11, hm⟩ := bnd_inv hm
 refine jx (op_call (js := []) ld cl50 (sim_math_bits_Mul64 k v_10 x_1 (v_11, v_12) hv_11) .func (.cons tR (.cons tR .nil)) rfl) fun _ => jmv rfl rfl <| jc (op_extract (i := 0) lb tR rfl) <| jc (op_extract (i := 1) lb tR rfl) <| jc (op_assign lb tR) <| jc (op_assign lb tR) <| jn <| jr <| jmv rfl rfl <| jmv rfl rfl ?_
 obtain ⟨⟨s_13, o_14⟩, hv_s_13, hm⟩ := bnd_inv hm
 refine jc (op_add64 lb ex51 .func tR tR (HasO.cU (x := (0 : UInt64)) rfl (by decide)) hv_s_13) <| jmv rfl rfl <| jc (op_extract (i := 0) lb tR rfl) <| jc (op_extract (i := 1) lb tR rfl) <| JL.sub ⟨[(2, ov (PTR gb_2 0)), (6, ov (S (rU UInt64) v_8)), (7, ov (S (rU UInt64) v_11)), (8, ov (S (rU UInt64) v_12)), (31, ov (S (rU UInt64) s_13)), (32, ov (S (rU UInt64) o_14))], [cvar gb_2 (rV 2 (rU UInt64)) (Vector.replicate 2 (0 : UInt64))], []⟩ (.cons rfl (.cons rfl (.cons rfl (.cons rfl (.cons rfl (.cons rfl .nil)))))) rfl rfl <| jc (op_assign lb tR) <| jc (op_assign lb tR) <| jn <| jr <| jmv rfl rfl <| jmv rfl rfl <| lI hm fun v_15 hv_15 hm => jc (op_arU lb tR tR (cs hv_15)) <| jc (op_assign lb tR) <| jn <| jr <| jmv rfl rfl <| lI hm fun v_16 hv_16 hm => jc (op_shlUU lb tR (HasO.cU (x := (32 : UInt64)) rfl (by decide)) hv_16) <| jmv rfl rfl ?_
 obtain ⟨v_17, hv_17, hm⟩ := lt1_inv hm
 refine jc (op_shrUU lb tR (HasO.cU (x := (32 : UInt64)) rfl (by decide)) hv_17) <| lI hm fun v_18 hv_18 hm => jc (op_arU lb tR tR (cs hv_18)) <| jmv rfl rfl <| JL.sub ⟨[(2, ov (PTR gb_2 0)), (6, ov (S (rU UInt64) v_8)), (40, ov (S (rU UInt64) v_18)), (41, ov (S (rU UInt64) s_13))], [cvar gb_2 (rV 2 (rU UInt64)) (Vector.replicate 2 (0 : UInt64))], []⟩ (.cons rfl (.cons rfl (.cons rfl (.cons rfl .nil)))) rfl rfl <| lI hm fun v_19 hv_19 hm => jc (op_shlUU lb tR (HasO.cU (x := (32 : UInt64)) rfl (by decide)) hv_19) <| jmv rfl rfl <| lI hm fun v_20 hv_20 hm => jc (op_shrUU lb tR (HasO.cU (x := (32 : UInt64)) rfl (by decide)) hv_20) ?_
 obtain ⟨v_21, hv_21, hm⟩ := lt1_inv hm
 refine jc (op_arU lb tR tR (cs hv_21)) <| jc (op_build lb tZ93 zv93 tp93 (.S (off := 0) rfl tR rfl ((Upd.at (off := 0) (i := 0) (Comp.self (rV 2 (rU UInt64)) (Vector.replicate 2 (0 : UInt64))) (by decide) rfl (Upd.self (rV 2 (rU UInt64)) (Vector.replicate 2 (0 : UInt64)) _)).R.at rfl) (.S (off := 1) rfl tR rfl ((Upd.at (off := 0) (i := 1) (Comp.self (rV 2 (rU UInt64)) (Vector.set (Vector.replicate 2 (0 : UInt64)) 0 v_18 (by decide))) (by decide) rfl (Upd.self (rV 2 (rU UInt64)) (Vector.set (Vector.replicate 2 (0 : UInt64)) 0 v_18 (by decide)) _)).R.at rfl) .nil)) rfl) <| jmv rfl rfl <| lI hm fun v_22 hv_22 hm => jc (op_shlUU lb tR (HasO.cU (x := (32 : UInt64)) rfl (by decide)) hv_22) <| lI hm fun v_23 hv_23 hm => jc (op_cmpU lb tR (HasO.cU (x := (0 : UInt64)) rfl (by decide)) (cs hv_23)) <| jc (op_storeA (j := 0) tA93 tR tR rfl (UpdR.self (by rfl)) rfl) <| jc (op_assign lb tR) <| JL.sub ⟨[(2, ov (PTR gb_2 0)), (3, ov (S rB v_23))], [cvar gb_2 (rV 2 (rU UInt64)) (#v[v_18, v_21] : (Vector UInt64 2))], []⟩ (.cons rfl (.cons rfl .nil)) rfl rfl <| jn <| JC.ret ?_
 obtain rfl := so hm
 exact JQ.done (js := []) (ss := [.val (A (rV 2 (rU UInt64)) (#v[v_18, v_21] : (Vector UInt64 2))), .val (S rB v_23)]) () (.inl rfl) (.nil rfl) rfl (.cons (.cellA (j := 0) tA93 rfl rfl) (.cons (.tmp rfl) .nil)) rfl rfl rfl

theorem sim_sha_above (k : Nat) (x_1 : (Vector UInt64 2)) (lost_2 : Bool) (p_3 : UInt64) (r : Bool) (hm : sha_above k x_1 lost_2 p_3 = some r) : Sim Try.prog 57 [A (rV 2 (rU UInt64)) x_1, S rB lost_2, S (rU UInt64) p_3] [] (γ := Unit) (fun q => []) (fun q => .one (.val (S rB r))) := by
 unfold sha_above at hm
 refine Sim.of Try.func57 rfl rfl (lE rfl) (fun e0 w0 => ?_)
 refine JC.at ⟨[(0, ov (A (rV 2 (rU UInt64)) x_1)), (1, ov (S rB lost_2)), (2, ov (S (rU UInt64) p_3))], [], []⟩ <| jr <| jx (op_boxA lb tR) fun gb_4 => jc (op_assign lb .cB) <| jn <| bI hm fun x_15 hx1 hq1 => JC.seqJ (γ := Unit) (stj := fun _ => ⟨[(6, ov (S rB x_15))], [], []⟩) (fun _ => ?_) ?_
 · refine JC.ret ?_
   obtain rfl := so hq1
   exact jd (.val (S rB x_15)) rfl rfl rfl rfl rfl rfl
 refine JC.region <| bI hx1 fun i_5 hv_i_5 hx1 => jc (op_indexAddrIF lb tr93 tR .cI hv_i_5) <| lI hx1 fun v_6 hv_6 hx1 => jc (op_loadS (j := 0) lb tS71 tR rfl (Comp.at (Comp.self (rV 2 (rU UInt64)) x_1) i_5.2 rfl) rfl hv_6) <| jmv rfl rfl <| lI hx1 fun v_7 hv_7 hx1 => jc (op_cmpU lb tR tR (cs hv_7)) <| jmv rfl rfl ?_
 rcases iteB_inv hx1 with ⟨hc3, hx1⟩ | ⟨hc3, hx1⟩
 · refine jk rfl hc3 <| jk rfl hc3 <| jk rfl hc3 <| jk rfl hc3 <| jk rfl hc3 <| ju rfl <| ju rfl <| ju rfl <| ju rfl <| ju rfl <| ju rfl <| jk rfl hc3 <| jc (op_pickT lb tR hc3 .cB) <| jc (op_assign lb tR) <| JL.nil ?_
   try obtain rfl := so hx1
   exact jo rfl rfl rfl
 refine bI hx1 fun i_8 hv_i_8 hx1 => JL.run (.yes rfl (ltB rfl) rfl hc3) (op_indexAddrIF lb tr93 tR .cI hv_i_8) <| lI hx1 fun v_9 hv_9 hx1 => JL.run (.yes rfl (ltB rfl) rfl hc3) (op_loadS (j := 0) lb tS71 tR rfl (Comp.at (Comp.self (rV 2 (rU UInt64)) x_1) i_8.2 rfl) rfl hv_9) <| JL.run (.yes rfl (ltB rfl) rfl hc3) (op_move lb tR) <| JL.sub ⟨[(1, ov (S rB lost_2)), (3, ov (PTR gb_4 0)), (6, ov (S rB false)), (11, ov (S rB v_7)), (13, ov (S (rU UInt64) v_9)), (14, ov (S (rU UInt64) p_3))], [cvar gb_4 (rV 2 (rU UInt64)) x_1], []⟩ (.cons rfl (.cons rfl (.cons rfl (.cons rfl (.cons rfl (.cons rfl .nil)))))) rfl rfl <| lI hx1 fun v_10 hv_10 hx1 => JL.run (.yes rfl (ltB rfl) rfl hc3) (op_cmpU lb tR tR (cs hv_10)) <| JL.run (.yes rfl (ltB rfl) rfl hc3) (op_move lb tR) ?_
 rcases iteB_inv hx1 with ⟨hc5, hx1⟩ | ⟨hc5, hx1⟩
 · refine bI hx1 fun i_11 hv_i_11 hx1 => JL.run (.yes rfl (ltB rfl) rfl hc5) (op_indexAddrIF lb tr93 tR .cI hv_i_11) <| lI hx1 fun v_12 hv_12 hx1 => JL.run (.yes rfl (ltB rfl) rfl hc5) (op_loadS (j := 0) lb tS71 tR rfl (Comp.at (Comp.self (rV 2 (rU UInt64)) x_1) i_11.2 rfl) rfl hv_12) <| lI hx1 fun v_13 hv_13 hx1 => JL.run (.yes rfl (ltB rfl) rfl hc5) (op_cmpU lb tR (HasO.cU (x := (0 : UInt64)) rfl (by decide)) (cs hv_13)) <| JL.run (.yes rfl (ltB rfl) rfl hc5) (op_move lb tR) <| jF (ov (S rB lost_2)) rfl rfl rfl rfl (fun hq_6 => op_move lb tR) ?_
   obtain ⟨v_14, hv_14, hx1⟩ := lt1_inv hx1
   refine JL.run (.yes rfl (ltB rfl) rfl hc5) (op_pickCS lb tR (fun hb7 => .cB) (fun hb7 => (HasO.cnd tR (notT hb7))) hv_14) <| JL.run (.yes rfl (ltB rfl) rfl hc3) (op_pickT lb tR hc5 tR) <| jc (op_pickF lb tR hc3 tR) <| jc (op_assign lb tR) <| JL.nil ?_
   try obtain rfl := so hx1
   exact jo rfl rfl rfl
 refine jk rfl hc5 <| jk rfl hc5 <| jk rfl hc5 <| jk rfl hc5 <| ju rfl <| jk rfl hc5 <| JL.run (.yes rfl (ltB rfl) rfl hc3) (op_pickF lb tR hc5 .cB) <| jc (op_pickF lb tR hc3 tR) <| jc (op_assign lb tR) <| JL.nil ?_
 try obtain rfl := so hx1
 exact jo rfl rfl rfl

theorem sim_sha_constant_1 (k : Nat) (x_1 : UInt64) (x_2 : UInt64) (gb_3 : Nat) (r : Bool) (hm : sha_constant_1 k x_1 x_2 = some r) : Sim Try.prog 55 [S (rU UInt64) x_1, PTR gb_3 0] [cvar gb_3 (rU UInt64) x_2] (γ := Unit) (fun q => [cvar gb_3 (rU UInt64) x_2]) (fun q => .one (.val (S rB r))) := by
 unfold sha_constant_1 at hm
 refine Sim.of Try.func55 rfl rfl (lE rfl) (fun e0 w0 => ?_)
 refine JC.at ⟨[(0, ov (S (rU UInt64) x_1)), (1, ov (PTR gb_3 0))], [cvar gb_3 (rU UInt64) x_2], []⟩ <| jr <| jc (op_assign lb .cB) <| jn <| jr <| jmv rfl rfl ?_
 obtain ⟨⟨v_4, v_5⟩, hv_4, hm⟩ := bnd_inv hm
 refine jx (op_call (js := []) ld cl56 (sim_sha_cube k x_1 (v_4, v_5) hv_4) .func (.cons tR .nil) rfl) fun _ => jmv rfl rfl <| jc (op_extract (i := 0) lb tR rfl) <| jc (op_extract (i := 1) lb tR rfl) <| jx (op_alloc lb tZ93 zr93) fun gb_6 => jc (op_storeA (j := 1) tA93 tR tR rfl (UpdR.self (by rfl)) rfl) <| JL.sub ⟨[(1, ov (PTR gb_3 0)), (4, ov (PTR gb_6 0)), (10, ov (S rB v_5))], [cvar gb_3 (rU UInt64) x_2, cvar gb_6 (rV 2 (rU UInt64)) v_4], []⟩ (.cons rfl (.cons rfl (.cons rfl .nil))) rfl rfl <| jc (op_assign lb tR) <| jn <| jr <| jc (op_loadA (j := 1) lb tA93 tR rfl (Comp.self (rV 2 (rU UInt64)) v_4) rfl) <| jmv rfl rfl <| jc (op_loadS (j := 0) lb tS71 tR rfl (Comp.self (rU UInt64) x_2) rfl rfl) <| bI hm fun v_7 hv_7 hm => jx (op_call (js := []) ld cl57 (sim_sha_above k v_4 v_5 x_2 v_7 hv_7) .func (.cons tR (.cons tR (.cons tR .nil))) rfl) (fun _ => ?_)
 refine jc (op_assign lb tR) <| jn <| JC.ret ?_
 obtain rfl := so hm
 exact JQ.done (js := [0]) (ss := [.val (S rB v_7)]) () (.inl rfl) (.nil rfl) rfl (.cons (.tmp rfl) .nil) rfl rfl rfl

theorem sim_sha_root (k : Nat) (x_1 : UInt64) (gb_2 : Nat) (r : UInt32) (hm : sha_root k x_1 = some r) : Sim Try.prog 54 [CLO 55 [PTR gb_2 0]] [cvar gb_2 (rU UInt64) x_1] (γ := Unit) (fun q => [cvar gb_2 (rU UInt64) x_1]) (fun q => .one (.val (S (rU UInt32) r))) := by
 unfold sha_root at hm
 refine Sim.of Try.func54 rfl rfl (lE rfl) (fun e0 w0 => ?_)
 refine JC.at ⟨[(0, ov (CLO 55 [PTR gb_2 0]))], [cvar gb_2 (rU UInt64) x_1], []⟩ <| jr <| jc (op_assign lb (HasO.cU (x := (0 : UInt32)) rfl (by decide))) <| jn <| jr <| jc (op_assign lb (HasO.cU (x := (0 : UInt64)) rfl (by decide))) <| jn <| bI hm fun x_13 hx1 hq1 => JC.seqJ (γ := Unit) (stj := fun _ => ⟨[(3, ov (S (rU UInt64) x_13))], [cvar gb_2 (rU UInt64) x_1], []⟩) (fun _ => ?_) ?_
 · refine jr <| jmv rfl rfl <| lI hq1 fun v_14 hv_14 hq1 => jc (op_convUU lb tu71 tu60 tR hv_14) <| jc (op_assign lb tR) <| jn <| JC.ret ?_
   obtain rfl := so hq1
   exact JQ.done (js := [0]) (ss := [.val (S (rU UInt32) v_14)]) () (.inl rfl) (.nil rfl) rfl (.cons (.tmp rfl) .nil) rfl rfl rfl
 refine jr <| jc (op_move lb .cI) <| jn <| JC.block <| JC.pre ?_ (JC.loop (γ := Unit) (stf := fun s q => ⟨[(0, ov (CLO 55 [PTR gb_2 0])), (3, ov (S (rU UInt64) s.1)), (6, ov (S (rI .i64) s.2))], [cvar gb_2 (rU UInt64) x_1], []⟩) (q := ()) hx1 ?_)
 · exact (Imp.norm (js := [0]) rfl (.cons rfl (.cons rfl (.cons rfl .nil))))
 intro s q x hx hr
 obtain ⟨x_3, x_4⟩ := s
 obtain _ := q
 change sha_root.b1 k x_1 x_3 x_4 = some x at hx
 unfold sha_root.b1 at hx
 refine JC.at ⟨[(0, ov (CLO 55 [PTR gb_2 0])), (3, ov (S (rU UInt64) x_3)), (6, ov (S (rI .i64) x_4))], [cvar gb_2 (rU UInt64) x_1], []⟩ <| jr <| lI hx fun v_5 hv_5 hx => jc (op_cmpI lb tR .cI (cs hv_5)) <| jn <| JC.seq <| jif tR hx (fun hc3 hx => ?_) (fun hc3 hx => ?_)
 · refine JC.skip <| JQ.then <| bI hx fun x_11 hx4 hq4 => JC.seqJ (γ := Unit) (stj := fun _ => ⟨[(0, ov (CLO 55 [PTR gb_2 0])), (3, ov (S (rU UInt64) x_11)), (6, ov (S (rI .i64) x_4))], [cvar gb_2 (rU UInt64) x_1], []⟩) (fun _ => ?_) ?_
   · refine JC.region <| lI hq4 fun v_12 hv_12 hq4 => jc (op_arI lb tR .cI (cs hv_12)) <| jmv rfl rfl <| JL.nil ?_
     try obtain rfl := so hq4
     exact JQ.next () rfl (Imp.norm (js := [0]) rfl (.cons rfl (.cons rfl (.cons rfl .nil))))
   refine JC.block <| jr <| jmv rfl rfl <| jc (op_assign lb tR) <| jn <| jr <| jmv rfl rfl <| jmv rfl rfl <| lI hx4 fun v_6 hv_6 hx4 => jc (op_arI lb .cI tR (cs hv_6)) <| bI hx4 fun v_7 hv_7 hx4 => jc (op_shlUI lb (HasO.cU (x := (1 : UInt64)) rfl (by decide)) tR hv_7) <| lI hx4 fun v_8 hv_8 hx4 => jc (op_arU lb tR tR (cs hv_8)) <| jc (op_assign lb tR) <| jn <| jr <| jmv rfl rfl <| jmv rfl rfl ?_
   refine bI hx4 fun v_9 hv_9 hx4 => jx (op_call (js := [0]) ld cl55 (sim_sha_constant_1 k v_8 x_1 gb_2 v_9 hv_9) tR (.cons tR .nil) rfl) fun _ => JL.sub ⟨[(0, ov (CLO 55 [PTR gb_2 0])), (3, ov (S (rU UInt64) x_3)), (5, ov (S (rU UInt64) v_8)), (6, ov (S (rI .i64) x_4)), (16, ov (S rB v_9))], [cvar gb_2 (rU UInt64) x_1], []⟩ (.cons rfl (.cons rfl (.cons rfl (.cons rfl (.cons rfl .nil))))) rfl rfl <| lI hx4 fun v_10 hv_10 hx4 => jc (op_not lb tR hv_10) <| jn <| jif tR hx4 (fun hc5 hx4 => ?_) (fun hc5 hx4 => ?_)
   · refine JC.region <| jmv rfl rfl <| jc (op_assign lb tR) <| JL.nil <| JQ.outNB ?_
     try obtain rfl := so hx4
     exact JQ.join () (Imp.norm (js := [0]) rfl (.cons rfl (.cons rfl (.cons rfl .nil))))
   refine JC.skip <| JQ.outNB ?_
   try obtain rfl := so hx4
   exact JQ.join () (Imp.norm (js := [0]) rfl (.cons rfl (.cons rfl (.cons rfl .nil))))
 refine JC.exit <| JQ.outX ?_
 try obtain rfl := so hx
 have ht := hr _ rfl
 have hq2 := cs ht
 clear hr ht
 refine JQ.outX <| JQ.here ?_
 try obtain rfl := so hq2
 exact JQ.join () (Imp.norm (js := [0]) rfl (.cons rfl .nil))

theorem sim_sha_constant (k : Nat) (p_1 : UInt64) (r : UInt32) (hm : sha_constant k p_1 = some r) : Sim Try.prog 46 [S (rU UInt64) p_1] [] (γ := Unit) (fun q => []) (fun q => .one (.val (S (rU UInt32) r))) := by
 unfold sha_constant at hm
 refine Sim.of Try.func46 rfl rfl (lE rfl) (fun e0 w0 => ?_)
 refine JC.at ⟨[(0, ov (S (rU UInt64) p_1))], [], []⟩ <| jr <| jx (op_boxS lb tR) fun gb_2 => jc (op_assign lb (HasO.cU (x := (0 : UInt32)) rfl (by decide))) <| jn <| jr <| jc (op_makeFunc lb (.cons tR .nil)) <| bI hm fun v_3 hv_3 hm => jx (op_call (js := [0]) ld cl54 (sim_sha_root k p_1 gb_2 v_3 hv_3) .func (.cons tR .nil) rfl) fun _ => jc (op_assign lb tR) <| jn <| JC.ret ?_
 obtain rfl := so hm
 exact jd (.val (S (rU UInt32) v_3)) rfl rfl rfl rfl rfl rfl

theorem sim_sha_start_1 (k : Nat) (x_1 : UInt64) (x_2 : UInt64) (gb_3 : Nat) (r : Bool) (hm : sha_start_1 k x_1 x_2 = some r) : Sim Try.prog 58 [S (rU UInt64) x_1, PTR gb_3 0] [cvar gb_3 (rU UInt64) x_2] (γ := Unit) (fun q => [cvar gb_3 (rU UInt64) x_2]) (fun q => .one (.val (S rB r))) := by
 unfold sha_start_1 at hm
 refine Sim.of Try.func58 rfl rfl (lE rfl) (fun e0 w0 => ?_)
 refine JC.at ⟨[(0, ov (S (rU UInt64) x_1)), (1, ov (PTR gb_3 0))], [cvar gb_3 (rU UInt64) x_2], []⟩ <| jr <| jc (op_assign lb .cB) <| jn <| JC.seq <| bI hm fun v_4 hv_4 hm => ?_
 obtain ⟨v_5, hv_5, hm⟩ := bnd_inv hm
 refine JC.anyF (base := [(0, ov (S (rU UInt64) x_1)), (1, ov (PTR gb_3 0))])
     (fs := fun γ => [⟨some 4, ov (S (rU UInt64) x_1)⟩, ⟨some 5, ov (A (rV 2 (rU UInt64)) v_4)⟩, ⟨some 6, ov (S (rU UInt64) x_2)⟩, ⟨some 7, ov (S rB v_5)⟩, ⟨some 3, ov (S rB v_5)⟩])
     (rs := fun γ => [⟨cvar gb_3 (rU UInt64) x_2, none, none, [2]⟩])
     (afts := nn 5) (js := [0]) mixed (.cons rfl (.cons rfl .nil)) (fun _ => rfl)
     (by
      refine db 1 0 <| dS 2 (fun γ ρ B hb hd => (op_call (js := []) ld cl59 (sim_sha_square k x_1 v_4 hv_4) .func (.cons (tl hd 0 4) .nil) rfl).post (fun _ => Imp.refl)) <| dR 3 (fun γ ρ B hb hd => OpStep.lk ⟨ρ, (cvar gb_3 (rU UInt64) x_2) :: B, _⟩ (op_loadS (j := 0) lb tS71 (.tmp (hb 1 _ rfl)) rfl (Comp.self (rU UInt64) x_2) rfl rfl)) <| dS 4 (fun γ ρ B hb hd => (op_call (js := []) ld cl57 (sim_sha_above k v_4 false x_2 v_5 hv_5) .func (.cons (tl hd 1 5) (.cons .cB (.cons (tl hd 2 6) .nil))) rfl).post (fun _ => Imp.refl)) <| dS 5 (fun γ ρ B hb hd => op_assign lb (tl hd 3 7)) ?_
      exact DSteps.nil)
     (by decide +kernel) (fun _ => rfl) (fun _ => rfl) (fun _ => rfl) rfl
     (ρ' := fun γ => [(3, ov (S rB v_5))])
     (X' := fun γ => [cvar gb_3 (rU UInt64) x_2])
     (fun γ ρ hb hd => (.cons (hdq hd 4 3 rfl) .nil)) (fun _ => rfl) (fun γ => ?_)
 refine JQ.at ⟨[(3, ov (S rB v_5))], [cvar gb_3 (rU UInt64) x_2], []⟩ <| JQ.then <| JC.ret ?_
 obtain rfl := so hm
 exact JQ.done (js := [0]) (ss := [.val (S rB v_5)]) () (.inl rfl) (.nil rfl) rfl (.cons (.tmp rfl) .nil) rfl rfl rfl

theorem sim_sha_root'2 (k : Nat) (x_1 : UInt64) (gb_2 : Nat) (r : UInt32) (hm : sha_root'2 k x_1 = some r) : Sim Try.prog 54 [CLO 58 [PTR gb_2 0]] [cvar gb_2 (rU UInt64) x_1] (γ := Unit) (fun q => [cvar gb_2 (rU UInt64) x_1]) (fun q => .one (.val (S (rU UInt32) r))) := by
 unfold sha_root'2 at hm
 refine Sim.of Try.func54 rfl rfl (lE rfl) (fun e0 w0 => ?_)
 refine JC.at ⟨[(0, ov (CLO 58 [PTR gb_2 0]))], [cvar gb_2 (rU UInt64) x_1], []⟩ <| jr <| jc (op_assign lb (HasO.cU (x := (0 : UInt32)) rfl (by decide))) <| jn <| jr <| jc (op_assign lb (HasO.cU (x := (0 : UInt64)) rfl (by decide))) <| jn <| bI hm fun x_13 hx1 hq1 => JC.seqJ (γ := Unit) (stj := fun _ => ⟨[(3, ov (S (rU UInt64) x_13))], [cvar gb_2 (rU UInt64) x_1], []⟩) (fun _ => ?_) ?_
 · refine jr <| jmv rfl rfl <| lI hq1 fun v_14 hv_14 hq1 => jc (op_convUU lb tu71 tu60 tR hv_14) <| jc (op_assign lb tR) <| jn <| JC.ret ?_
   obtain rfl := so hq1
   exact JQ.done (js := [0]) (ss := [.val (S (rU UInt32) v_14)]) () (.inl rfl) (.nil rfl) rfl (.cons (.tmp rfl) .nil) rfl rfl rfl
 refine jr <| jc (op_move lb .cI) <| jn <| JC.block <| JC.pre ?_ (JC.loop (γ := Unit) (stf := fun s q => ⟨[(0, ov (CLO 58 [PTR gb_2 0])), (3, ov (S (rU UInt64) s.1)), (6, ov (S (rI .i64) s.2))], [cvar gb_2 (rU UInt64) x_1], []⟩) (q := ()) hx1 ?_)
 · exact (Imp.norm (js := [0]) rfl (.cons rfl (.cons rfl (.cons rfl .nil))))
 intro s q x hx hr
 obtain ⟨x_3, x_4⟩ := s
 obtain _ := q
 change sha_root'2.b1 k x_1 x_3 x_4 = some x at hx
 unfold sha_root'2.b1 at hx
 refine JC.at ⟨[(0, ov (CLO 58 [PTR gb_2 0])), (3, ov (S (rU UInt64) x_3)), (6, ov (S (rI .i64) x_4))], [cvar gb_2 (rU UInt64) x_1], []⟩ <| jr <| lI hx fun v_5 hv_5 hx => jc (op_cmpI lb tR .cI (cs hv_5)) <| jn <| JC.seq <| jif tR hx (fun hc3 hx => ?_) (fun hc3 hx => ?_)
 · refine JC.skip <| JQ.then <| bI hx fun x_11 hx4 hq4 => JC.seqJ (γ := Unit) (stj := fun _ => ⟨[(0, ov (CLO 58 [PTR gb_2 0])), (3, ov (S (rU UInt64) x_11)), (6, ov (S (rI .i64) x_4))], [cvar gb_2 (rU UInt64) x_1], []⟩) (fun _ => ?_) ?_
   · refine JC.region <| lI hq4 fun v_12 hv_12 hq4 => jc (op_arI lb tR .cI (cs hv_12)) <| jmv rfl rfl <| JL.nil ?_
     try obtain rfl := so hq4
     exact JQ.next () rfl (Imp.norm (js := [0]) rfl (.cons rfl (.cons rfl (.cons rfl .nil))))
   refine JC.block <| jr <| jmv rfl rfl <| jc (op_assign lb tR) <| jn <| jr <| jmv rfl rfl <| jmv rfl rfl <| lI hx4 fun v_6 hv_6 hx4 => jc (op_arI lb .cI tR (cs hv_6)) <| bI hx4 fun v_7 hv_7 hx4 => jc (op_shlUI lb (HasO.cU (x := (1 : UInt64)) rfl (by decide)) tR hv_7) <| lI hx4 fun v_8 hv_8 hx4 => jc (op_arU lb tR tR (cs hv_8)) <| jc (op_assign lb tR) <| jn <| jr <| jmv rfl rfl <| jmv rfl rfl ?_
   refine bI hx4 fun v_9 hv_9 hx4 => jx (op_call (js := [0]) ld cl58 (sim_sha_start_1 k v_8 x_1 gb_2 v_9 hv_9) tR (.cons tR .nil) rfl) fun _ => JL.sub ⟨[(0, ov (CLO 58 [PTR gb_2 0])), (3, ov (S (rU UInt64) x_3)), (5, ov (S (rU UInt64) v_8)), (6, ov (S (rI .i64) x_4)), (16, ov (S rB v_9))], [cvar gb_2 (rU UInt64) x_1], []⟩ (.cons rfl (.cons rfl (.cons rfl (.cons rfl (.cons rfl .nil))))) rfl rfl <| lI hx4 fun v_10 hv_10 hx4 => jc (op_not lb tR hv_10) <| jn <| jif tR hx4 (fun hc5 hx4 => ?_) (fun hc5 hx4 => ?_)
   · refine JC.region <| jmv rfl rfl <| jc (op_assign lb tR) <| JL.nil <| JQ.outNB ?_
     try obtain rfl := so hx4
     exact JQ.join () (Imp.norm (js := [0]) rfl (.cons rfl (.cons rfl (.cons rfl .nil))))
   refine JC.skip <| JQ.outNB ?_
   try obtain rfl := so hx4
   exact JQ.join () (Imp.norm (js := [0]) rfl (.cons rfl (.cons rfl (.cons rfl .nil))))
 refine JC.exit <| JQ.outX ?_
 try obtain rfl := so hx
 have ht := hr _ rfl
 have hq2 := cs ht
 clear hr ht
 refine JQ.outX <| JQ.here ?_
 try obtain rfl := so hq2
 exact JQ.join () (Imp.norm (js := [0]) rfl (.cons rfl .nil))

theorem sim_sha_start (k : Nat) (p_1 : UInt64) (r : UInt32) (hm : sha_start k p_1 = some r) : Sim Try.prog 47 [S (rU UInt64) p_1] [] (γ := Unit) (fun q => []) (fun q => .one (.val (S (rU UInt32) r))) := by
 unfold sha_start at hm
 refine Sim.of Try.func47 rfl rfl (lE rfl) (fun e0 w0 => ?_)
 refine JC.at ⟨[(0, ov (S (rU UInt64) p_1))], [], []⟩ <| jr <| jx (op_boxS lb tR) fun gb_2 => jc (op_assign lb (HasO.cU (x := (0 : UInt32)) rfl (by decide))) <| jn <| jr <| jc (op_makeFunc lb (.cons tR .nil)) <| bI hm fun v_3 hv_3 hm => jx (op_call (js := [0]) ld cl54 (sim_sha_root'2 k p_1 gb_2 v_3 hv_3) .func (.cons tR .nil) rfl) fun _ => jc (op_assign lb tR) <| jn <| JC.ret ?_
 obtain rfl := so hm
 exact jd (.val (S (rU UInt32) v_3)) rfl rfl rfl rfl rfl rfl

theorem sim_sha_begun (k : Nat) (r : sha_state) (hm : sha_begun k = some r) : Sim Try.prog 42 [] [] (γ := Unit) (fun q => []) (fun q => .one (.val (A r_sha_state r))) := by
 unfold sha_begun at hm
 refine Sim.of Try.func42 rfl rfl (lE rfl) (fun e0 w0 => ?_)
 refine JC.at ⟨[], [], []⟩ <| jr <| jx (op_alloc lb tZ79 zr79) fun gb_1 => jn <| jr <| jx (op_alloc lb tZ79 zr79) fun gb_2 => jn <| bI hm fun s_20 hx1 hq1 => JC.seqJ (γ := Unit) (stj := fun _ => ⟨[(0, ov (PTR gb_1 0)), (1, ov (PTR gb_2 0))], [zq0 gb_1, cvar gb_2 r_sha_state s_20], []⟩) (fun _ => ?_) ?_
 · refine jr <| jc (op_loadA (j := 1) lb tA79 tR rfl (Comp.self r_sha_state s_20) rfl) <| jc (op_storeA (j := 0) tA79 tR tR rfl (UpdR.self (by rfl)) rfl) <| jn <| JC.ret ?_
   obtain rfl := so hq1
   exact JQ.done (js := []) (ss := [.val (A r_sha_state s_20)]) () (.inl rfl) (.nil rfl) rfl (.cons (.cellA (j := 0) tA79 rfl rfl) .nil) rfl rfl rfl
 refine jr <| bI hx1 fun v_3 hv_3 hx1 => jx (op_call (js := []) ld cl45 (sim_sha_primes k v_3 hv_3) .func .nil rfl) (fun q => ?_)
 obtain ⟨go_4, gc_5⟩ := q
 refine jc (op_lenH lb tu82 tR) <| jc (op_move lb .cI) <| jn <| JC.block <| JC.pre ?_ (JC.loop (γ := Unit) (stf := fun s q => ⟨[(0, ov (PTR gb_1 0)), (1, ov (PTR gb_2 0)), (4, ov (HDR go_4 0 (List.length v_3) gc_5)), (5, ov (S (rI .i64) (List.length v_3 : Int))), (6, ov (S (rI .i64) s.2))], [zq0 gb_1, cvar gb_2 r_sha_state s.1, cown go_4 (rU UInt64) v_3 (List.length v_3) gc_5], []⟩) (q := ()) hx1 ?_)
 · exact (Imp.norm (js := [1, 1, 0]) rfl (.cons rfl (.cons rfl (.cons rfl (.cons rfl (.cons rfl .nil))))))
 intro s q x hx hr
 obtain ⟨s_6, x_7⟩ := s
 obtain _ := q
 change sha_begun.b1 k v_3 s_6 x_7 = some x at hx
 unfold sha_begun.b1 at hx
 refine JC.at ⟨[(0, ov (PTR gb_1 0)), (1, ov (PTR gb_2 0)), (4, ov (HDR go_4 0 (List.length v_3) gc_5)), (5, ov (S (rI .i64) (List.length v_3 : Int))), (6, ov (S (rI .i64) x_7))], [zq0 gb_1, cvar gb_2 r_sha_state s_6, cown go_4 (rU UInt64) v_3 (List.length v_3) gc_5], []⟩ <| jr <| lI hx fun v_8 hv_8 hx => jc (op_cmpI lb tR tR (cs hv_8)) <| jn <| JC.seq <| jif tR hx (fun hc3 hx => ?_) (fun hc3 hx => ?_)
 · refine JC.skip <| JQ.then <| bI hx fun s_18 hx4 hq4 => JC.seqJ (γ := Unit) (stj := fun _ => ⟨[(0, ov (PTR gb_1 0)), (1, ov (PTR gb_2 0)), (4, ov (HDR go_4 0 (List.length v_3) gc_5)), (5, ov (S (rI .i64) (List.length v_3 : Int))), (6, ov (S (rI .i64) x_7))], [zq0 gb_1, cvar gb_2 r_sha_state s_18, cown go_4 (rU UInt64) v_3 (List.length v_3) gc_5], []⟩) (fun _ => ?_) ?_
   · refine JC.region <| lI hq4 fun v_19 hv_19 hq4 => jc (op_arI lb tR .cI (cs hv_19)) <| jmv rfl rfl <| JL.nil ?_
     try obtain rfl := so hq4
     exact JQ.next () rfl (Imp.norm (js := [0, 0, 0]) rfl (.cons rfl (.cons rfl (.cons rfl (.cons rfl (.cons rfl .nil))))))
   refine JC.block <| jr <| jmv rfl rfl <| bI hx4 fun i_9 hv_i_9 hx4 => jc (op_indexAddrOF (r := (rU UInt64)) (j := 2) lb tu82 tz71 rfl tR tR hv_i_9) <| bI hx4 fun v_10 hv_10 hx4 => jc (op_loadOS (r := (rU UInt64)) (i := i_9) (off := 0) (j := 2) lb tS71 rfl rfl tR hv_10 (Comp.self (rU UInt64) v_10) (by decide)) <| jc (op_assign lb tR) <| jc (op_assign lb tR) <| jn <| jr <| jmv rfl rfl <| jmv rfl rfl <| bI hx4 fun v_11 hv_11 hx4 => jx (op_call (js := []) ld cl46 (sim_sha_constant k v_10 v_11 hv_11) .func (.cons tR .nil) rfl) fun _ => jc (op_fieldAddr (off := 8) lb tf79_1 tR) ?_
   refine bI hx4 fun i_12 hv_i_12 hx4 => jc (op_indexAddrIF lb tr77 tR tR hv_i_12) <| lI hx4 fun s_13 hv_s_13 hx4 => jc (op_storeS (j := 1) tS60 tR tR rfl rfl (Upd.at (cT (comp_sha_state_k s_6) rfl) i_12.2 rfl (Upd.trans (Comp.self r_sha_state s_6) (Upd.self r_sha_state s_6 _) (upd_sha_state_k s_6 (putV s_6.k i_12 v_11)))).R hv_s_13) <| JL.sub ⟨[(0, ov (PTR gb_1 0)), (1, ov (PTR gb_2 0)), (2, ov (S (rI .i64) x_7)), (3, ov (S (rU UInt64) v_10)), (4, ov (HDR go_4 0 (List.length v_3) gc_5)), (5, ov (S (rI .i64) (List.length v_3 : Int))), (6, ov (S (rI .i64) x_7))], [zq0 gb_1, cvar gb_2 r_sha_state s_13, cown go_4 (rU UInt64) v_3 (List.length v_3) gc_5], []⟩ (.cons rfl (.cons rfl (.cons rfl (.cons rfl (.cons rfl (.cons rfl (.cons rfl .nil))))))) rfl rfl <| jn <| jr <| jmv rfl rfl <| lI hx4 fun v_14 hv_14 hx4 => jc (op_cmpI lb tR .cI (cs hv_14)) <| jn <| jif tR hx4 (fun hc5 hx4 => ?_) (fun hc5 hx4 => ?_)
   · refine JC.region <| jmv rfl rfl <| jmv rfl rfl <| bI hx4 fun v_15 hv_15 hx4 => jx (op_call (js := []) ld cl47 (sim_sha_start k v_10 v_15 hv_15) .func (.cons tR .nil) rfl) fun _ => jc (op_fieldAddr (off := 0) lb tf79_0 tR) <| bI hx4 fun i_16 hv_i_16 hx4 => jc (op_indexAddrIF lb tr61 tR tR hv_i_16) <| lI hx4 fun s_17 hv_s_17 hx4 => jc (op_storeS (j := 1) tS60 tR tR rfl rfl (Upd.at (cT (comp_sha_state_h s_13) rfl) i_16.2 rfl (Upd.trans (Comp.self r_sha_state s_13) (Upd.self r_sha_state s_13 _) (upd_sha_state_h s_13 (putV s_13.h i_16 v_15)))).R hv_s_17) <| JL.nil <| JQ.outNB ?_
     try obtain rfl := so hx4
     exact JQ.join () (Imp.norm (js := [0, 0, 0]) rfl (.cons rfl (.cons rfl (.cons rfl (.cons rfl (.cons rfl .nil))))))
   refine JC.skip <| JQ.outNB ?_
   try obtain rfl := so hx4
   exact JQ.join () (Imp.norm (js := [0, 0, 0]) rfl (.cons rfl (.cons rfl (.cons rfl (.cons rfl (.cons rfl .nil))))))
 refine JC.exit <| JQ.outX ?_
 try obtain rfl := so hx
 have ht := hr _ rfl
 have hq2 := cs ht
 clear hr ht
 refine JQ.outX <| JQ.here ?_
 try obtain rfl := so hq2
 exact JQ.join () (Imp.norm (js := [0, 0]) rfl (.cons rfl (.cons rfl .nil)))

theorem sim_slices_Growbyte_byte (k : Nat) (n_1 : Int) (r : Unit) (hm : slices_Growbyte_byte k n_1 = some r) : Sim Try.prog 60 [HDR none 0 0 0, S (rI .i64) n_1] [] (γ := Option Nat × Nat) (fun q => [cown q.1 (rU UInt8) ([] : (List UInt8)) 0 q.2]) (fun q => .one (.val (HDR q.1 0 (List.length ([] : (List UInt8))) q.2))) := by
 unfold slices_Growbyte_byte at hm
 refine Sim.of Try.func60 rfl rfl (lE rfl) (fun e0 w0 => ?_)
 refine JC.at ⟨[(0, ov (HDR none 0 0 0)), (1, ov (S (rI .i64) n_1))], [], []⟩ <| jr <| jc (op_assign lb HasO.nilH) <| jn <| bI hm fun _ hx1 hq1 => JC.seqJ (γ := Unit) (stj := fun _ => ⟨[(0, ov (HDR none 0 0 0)), (1, ov (S (rI .i64) n_1))], [], []⟩) (fun _ => ?_) ?_
 · refine bI hq1 fun _ hx3 hq3 => JC.seqJ (γ := Option Nat × Nat) (stj := fun q => ⟨[(0, ov (HDR q.1 0 (List.length ([] : (List UInt8))) q.2))], [cown q.1 (rU UInt8) ([] : (List UInt8)) 0 q.2], []⟩) (fun q => ?_) ?_
   · obtain ⟨go_9, gc_10⟩ := q
     exact JC.at ⟨[(0, ov (HDR go_9 0 (List.length ([] : (List UInt8))) gc_10))], [cown go_9 (rU UInt8) ([] : (List UInt8)) 0 gc_10], []⟩ <| jr <| jmv rfl rfl <| jc (op_assign lb tR) <| jn <| JC.ret <| JQ.done (js := [0]) (ss := [.val (HDR go_9 0 (List.length ([] : (List UInt8))) gc_10)]) (go_9, gc_10) (.inl rfl) (.nil rfl) rfl (.cons (.tmp rfl) .nil) rfl rfl rfl
   refine jr <| jmv rfl rfl <| jmv rfl rfl <| jc (op_capH lb tu37 tR) <| jmv rfl rfl <| jc (op_lenH lb tu37 tR) <| lI hx3 fun v_3 hv_3 hx3 => jc (op_arI lb tR tR (cs hv_3)) <| lI hx3 fun v_4 hv_4 hx3 => jc (op_arI lb tR tR (cs hv_4)) <| jc (op_assign lb tR) <| jn <| jr <| jmv rfl rfl <| lI hx3 fun v_5 hv_5 hx3 => jc (op_cmpI lb tR .cI (cs hv_5)) <| jn <| jif tR hx3 (fun hc4 hx3 => ?_) (fun hc4 hx3 => ?_)
   · refine JC.region <| jmv rfl rfl <| jmv rfl rfl <| JL.sub ⟨[(0, ov (HDR none 0 0 0)), (1, ov (S (rI .i64) v_4)), (17, ov (HDR none 0 0 0)), (18, ov (HDR none 0 0 0))], [], []⟩ (.cons rfl (.cons rfl (.cons rfl (.cons rfl .nil)))) rfl rfl <| jc (op_capH lb tu37 tR) <| jc (op_sliceNil lb tu37 tz5 tR tR) <| jmv rfl rfl <| bI hx3 fun v_6 hv_6 hx3 => JL.pre (Imp.nilown (rU UInt8)) <| jx (op_appendZ (j := 0) lb tu37 tu3 tB5 zv5 rfl (Nat.lt_of_lt_of_le Nat.zero_lt_one (lE rfl)) (Nat.lt_of_lt_of_le Nat.zero_lt_one (lE rfl)) rfl tR tR hv_6) (fun q => ?_)
     obtain ⟨go_7, gc_8⟩ := q
     exact JL.sub ⟨[(0, ov (HDR none 0 0 0)), (22, ov (HDR go_7 0 (List.length v_6) gc_8))], [cown go_7 (rU UInt8) v_6 0 gc_8], []⟩ (.cons rfl (.cons rfl .nil)) rfl rfl <| jmv rfl rfl <| jc (op_lenH lb tu37 tR) <| jc (op_slicePre (j := 0) lb tu37 tz5 rfl tR tR) <| jc (op_assign lb tR) <| JL.nil <| JQ.join (go_7, gc_8) (Imp.norm (js := [0]) rfl (.cons rfl .nil))
   exact JC.skip <| JQ.pre (Imp.nilown (rU UInt8)) <| JQ.join (none, 0) (Imp.norm (js := [0]) rfl (.cons rfl .nil))
 refine jr <| jmv rfl rfl <| lI hx1 fun v_2 hv_2 hx1 => jc (op_cmpI lb tR .cI (cs hv_2)) <| jn <| jif tR hx1 (fun hc2 hx1 => ?_) (fun hc2 hx1 => ?_)
 · refine JC.region ?_
   cases hx1
 exact JC.skip <| JQ.join () (Imp.norm (js := []) rfl (.cons rfl (.cons rfl .nil)))

theorem sim_slices_Concatbyte_byte (k : Nat) (slices_1 : (List (List UInt8))) (r : (List UInt8)) (hm : slices_Concatbyte_byte k slices_1 = some r) : Sim Try.prog 48 [S (rL (rL (rU UInt8))) slices_1] [] (γ := Option Nat × Nat) (fun q => [cown q.1 (rU UInt8) r 0 q.2]) (fun q => .one (.val (HDR q.1 0 (List.length r) q.2))) := by
 unfold slices_Concatbyte_byte at hm
 refine Sim.of Try.func48 rfl rfl (lE rfl) (fun e0 w0 => ?_)
 refine JC.at ⟨[(0, ov (S (rL (rL (rU UInt8))) slices_1))], [], []⟩ <| jr <| jc (op_assign lb HasO.nilH) <| jn <| jr <| jc (op_assign lb .cI) <| jn <| bI hm fun size_10 hx1 hq1 => JC.seqJ (γ := Unit) (stj := fun _ => ⟨[(0, ov (S (rL (rL (rU UInt8))) slices_1)), (3, ov (S (rI .i64) size_10))], [], []⟩) (fun _ => ?_) ?_
 · refine jr <| jmv rfl rfl <| bI hq1 fun _ hv_u_13 hq1 => jx (op_call (js := []) ld cl60 (sim_slices_Growbyte_byte k size_10 () hv_u_13) .func (.cons HasO.nilH (.cons tR .nil)) rfl) (fun q => ?_)
   obtain ⟨go_11, gc_12⟩ := q
   refine jc (op_assign lb tR) <| jn <| bI hq1 fun newslice_24 hx6 hq6 => JC.seqJ (γ := Option Nat × Nat) (stj := fun q => ⟨[(6, ov (HDR q.1 0 (List.length newslice_24) q.2))], [cown q.1 (rU UInt8) newslice_24 0 q.2], []⟩) (fun q => ?_) ?_
   · obtain ⟨go_25, gc_26⟩ := q
     refine JC.at ⟨[(6, ov (HDR go_25 0 (List.length newslice_24) gc_26))], [cown go_25 (rU UInt8) newslice_24 0 gc_26], []⟩ <| jr <| jmv rfl rfl <| jc (op_assign lb tR) <| jn <| JC.ret ?_
     obtain rfl := so hq6
     exact JQ.done (js := [0]) (ss := [.val (HDR go_25 0 (List.length newslice_24) gc_26)]) (go_25, gc_26) (.inl rfl) (.nil rfl) rfl (.cons (.tmp rfl) .nil) rfl rfl rfl
   refine jr <| jmv rfl rfl <| jc (op_lenL lb tu76 tR) <| jc (op_move lb .cI) <| jn <| JC.block <| JC.pre ?_ (JC.loop (γ := Option Nat × Nat) (stf := fun s q => ⟨[(6, ov (HDR q.1 0 (List.length s.1) q.2)), (25, ov (S (rL (rL (rU UInt8))) slices_1)), (26, ov (S (rI .i64) (List.length slices_1 : Int))), (27, ov (S (rI .i64) s.2))], [cown q.1 (rU UInt8) s.1 0 q.2], []⟩) (q := (go_11, gc_12)) hx6 ?_)
   · exact (Imp.norm (js := [0]) rfl (.cons rfl (.cons rfl (.cons rfl (.cons rfl .nil)))))
   intro s q x hx hr
   obtain ⟨newslice_14, x_15⟩ := s
   obtain ⟨go_16, gc_17⟩ := q
   change slices_Concatbyte_byte.b2 k slices_1 newslice_14 x_15 = some x at hx
   unfold slices_Concatbyte_byte.b2 at hx
   refine JC.at ⟨[(6, ov (HDR go_16 0 (List.length newslice_14) gc_17)), (25, ov (S (rL (rL (rU UInt8))) slices_1)), (26, ov (S (rI .i64) (List.length slices_1 : Int))), (27, ov (S (rI .i64) x_15))], [cown go_16 (rU UInt8) newslice_14 0 gc_17], []⟩ <| jr <| lI hx fun v_18 hv_18 hx => jc (op_cmpI lb tR tR (cs hv_18)) <| jn <| JC.seq <| jif tR hx (fun hc8 hx => ?_) (fun hc8 hx => ?_)
   · refine JC.skip <| JQ.then <| JC.seq <| JC.block <| jr <| bI hx fun v_19 hv_19 hx => jc (op_indexAddrLg lb tu76 tz37 tR tR hv_19) <| jc (op_loadPSg lb tS37 rfl tR rfl) <| jc (op_assign lb tR) <| jn <| JC.region <| jmv rfl rfl <| jmv rfl rfl <| bI hx fun newslice_20 hv_newslice_20 hx => jx (op_appendL (j := 0) lb tu37 tu37 rfl tB5 rfl (Nat.lt_of_lt_of_le Nat.zero_lt_one (lE rfl)) (Nat.lt_of_lt_of_le Nat.zero_lt_one (lE rfl))  rfl tR tR hv_newslice_20) (fun q => ?_)
     obtain ⟨go_21, gc_22⟩ := q
     refine jc (op_assign lb tR) <| JL.nil <| JQ.outNB <| JQ.then <| JC.region <| lI hx fun v_23 hv_23 hx => jc (op_arI lb tR .cI (cs hv_23)) <| jmv rfl rfl <| JL.sub ⟨[(6, ov (HDR go_21 0 (List.length newslice_20) gc_22)), (25, ov (S (rL (rL (rU UInt8))) slices_1)), (26, ov (S (rI .i64) (List.length slices_1 : Int))), (27, ov (S (rI .i64) v_23))], [cown go_21 (rU UInt8) newslice_20 0 gc_22], []⟩ (.cons rfl (.cons rfl (.cons rfl (.cons rfl .nil)))) rfl rfl <| JL.nil ?_
     try obtain rfl := so hx
     exact JQ.next (go_21, gc_22) rfl (Imp.norm (js := [0]) rfl (.cons rfl (.cons rfl (.cons rfl (.cons rfl .nil)))))
   refine JC.exit <| JQ.outX ?_
   try obtain rfl := so hx
   have ht := hr _ rfl
   have hq7 := cs ht
   clear hr ht
   refine JQ.outX <| JQ.here ?_
   try obtain rfl := so hq7
   exact JQ.join (go_16, gc_17) (Imp.norm (js := [0]) rfl (.cons rfl .nil))
 refine jr <| jmv rfl rfl <| jc (op_lenL lb tu76 tR) <| jc (op_move lb .cI) <| jn <| JC.block <| JC.pre ?_ (JC.loop (γ := Unit) (stf := fun s q => ⟨[(0, ov (S (rL (rL (rU UInt8))) slices_1)), (3, ov (S (rI .i64) s.1)), (9, ov (S (rL (rL (rU UInt8))) slices_1)), (10, ov (S (rI .i64) (List.length slices_1 : Int))), (11, ov (S (rI .i64) s.2))], [], []⟩) (q := ()) hx1 ?_)
 · exact (Imp.norm (js := []) rfl (.cons rfl (.cons rfl (.cons rfl (.cons rfl (.cons rfl .nil))))))
 intro s q x hx hr
 obtain ⟨size_2, x_3⟩ := s
 obtain _ := q
 change slices_Concatbyte_byte.b1 k slices_1 size_2 x_3 = some x at hx
 unfold slices_Concatbyte_byte.b1 at hx
 refine JC.at ⟨[(0, ov (S (rL (rL (rU UInt8))) slices_1)), (3, ov (S (rI .i64) size_2)), (9, ov (S (rL (rL (rU UInt8))) slices_1)), (10, ov (S (rI .i64) (List.length slices_1 : Int))), (11, ov (S (rI .i64) x_3))], [], []⟩ <| jr <| lI hx fun v_4 hv_4 hx => jc (op_cmpI lb tR tR (cs hv_4)) <| jn <| JC.seq <| jif tR hx (fun hc3 hx => ?_) (fun hc3 hx => ?_)
 · refine JC.skip <| JQ.then <| bI hx fun size_8 hx4 hq4 => JC.seqJ (γ := Unit) (stj := fun _ => ⟨[(0, ov (S (rL (rL (rU UInt8))) slices_1)), (3, ov (S (rI .i64) size_8)), (9, ov (S (rL (rL (rU UInt8))) slices_1)), (10, ov (S (rI .i64) (List.length slices_1 : Int))), (11, ov (S (rI .i64) x_3))], [], []⟩) (fun _ => ?_) ?_
   · refine JC.region <| lI hq4 fun v_9 hv_9 hq4 => jc (op_arI lb tR .cI (cs hv_9)) <| jmv rfl rfl <| JL.nil ?_
     try obtain rfl := so hq4
     exact JQ.next () rfl (Imp.norm (js := []) rfl (.cons rfl (.cons rfl (.cons rfl (.cons rfl (.cons rfl .nil))))))
   refine JC.block <| jr <| bI hx4 fun v_5 hv_5 hx4 => jc (op_indexAddrLg lb tu76 tz37 tR tR hv_5) <| jc (op_loadPSg lb tS37 rfl tR rfl) <| jc (op_assign lb tR) <| jn <| jr <| jmv rfl rfl <| jmv rfl rfl <| jc (op_lenL lb tu37 tR) <| lI hx4 fun v_6 hv_6 hx4 => jc (op_arI lb tR tR (cs hv_6)) <| jc (op_assign lb tR) <| jn <| jr <| jmv rfl rfl <| lI hx4 fun v_7 hv_7 hx4 => jc (op_cmpI lb tR .cI (cs hv_7)) <| jn <| jif tR hx4 (fun hc5 hx4 => ?_) (fun hc5 hx4 => ?_)
   · refine JC.region ?_
     cases hx4
   refine JC.skip <| JQ.outNB ?_
   try obtain rfl := so hx4
   exact JQ.join () (Imp.norm (js := []) rfl (.cons rfl (.cons rfl (.cons rfl (.cons rfl (.cons rfl .nil))))))
 refine JC.exit <| JQ.outX ?_
 try obtain rfl := so hx
 have ht := hr _ rfl
 have hq2 := cs ht
 clear hr ht
 refine JQ.outX <| JQ.here ?_
 try obtain rfl := so hq2
 exact JQ.join () (Imp.norm (js := []) rfl (.cons rfl (.cons rfl .nil)))

theorem sim_math_bits_RotateLeft32 (k : Nat) (x_1 : UInt32) (k_2 : Int) (r : UInt32) (hm : math_bits_RotateLeft32 k x_1 k_2 = some r) : Sim Try.prog 62 [S (rU UInt32) x_1, S (rI .i64) k_2] [] (γ := Unit) (fun q => []) (fun q => .one (.val (S (rU UInt32) r))) := by
 unfold math_bits_RotateLeft32 at hm
 refine Sim.of Try.func62 rfl rfl (lE rfl) (fun e0 w0 => ?_)
 refine JC.at ⟨[(0, ov (S (rU UInt32) x_1)), (1, ov (S (rI .i64) k_2))], [], []⟩ <| jr <| jc (op_assign lb (HasO.cU (x := (0 : UInt32)) rfl (by decide))) <| jn <| jr <| jmv rfl rfl <| lI hm fun v_3 hv_3 hm => jc (op_convIU lb tu3 tu67 tR hv_3) <| lI hm fun v_4 hv_4 hm => jc (op_arU lb tR (HasO.cU (x := (31 : UInt64)) rfl (by decide)) (cs hv_4)) <| jc (op_assign lb tR) <| jn <| jr <| jmv rfl rfl <| jmv rfl rfl <| lI hm fun v_5 hv_5 hm => jc (op_shlUU lb tR tR hv_5) <| jmv rfl rfl <| jmv rfl rfl ?_
 refine lI hm fun v_6 hv_6 hm => jc (op_arU lb (HasO.cU (x := (32 : UInt64)) rfl (by decide)) tR (cs hv_6)) <| lI hm fun v_7 hv_7 hm => jc (op_shrUU lb tR tR hv_7) <| JL.sub ⟨[(4, ov (S (rU UInt32) (0 : UInt32))), (11, ov (S (rU UInt32) v_5)), (15, ov (S (rU UInt32) v_7))], [], []⟩ (.cons rfl (.cons rfl (.cons rfl .nil))) rfl rfl <| lI hm fun v_8 hv_8 hm => jc (op_arU lb tR tR (cs hv_8)) <| jc (op_assign lb tR) <| jn <| JC.ret ?_
 obtain rfl := so hm
 exact jd (.val (S (rU UInt32) v_8)) rfl rfl rfl rfl rfl rfl

end Go.Proofs.Ytbflmobpbjnekaa
