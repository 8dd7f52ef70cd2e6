/- Walks. -/
import Derived.Test.YtbflmobpbjnekaaT
import Derived.Test.YtbflmobpbjnekaaW0
namespace Go.Proofs.Ytbflmobpbjnekaa
open Go Fw
set_option linter.unusedVariables false
set_option maxRecDepth 100000
set_option maxHeartbeats 4000000

theorem sim_ref03_power (k : Nat) (t_1 : UInt64) (a_2 : Int) (a_3 : UInt64) (r : Bool) (hm : ref03_power k t_1 a_2 a_3 = some r) : Sim Try.prog 44 [S (rU UInt64) t_1, S (rI .i64) a_2, S (rU UInt64) a_3] [] (γ := Unit) (fun q => []) (fun q => .one (.val (S rB r))) := by
 unfold ref03_power at hm
 refine Sim.of Try.func44 rfl rfl (lE rfl) (fun e0 w0 => ?_)
 refine JC.at ⟨[(0, ov (S (rU UInt64) t_1)), (1, ov (S (rI .i64) a_2)), (2, ov (S (rU UInt64) a_3))], [], []⟩ <| jr <| jc (op_assign lb .cB) <| jn <| jr <| jmv rfl rfl <| jmv rfl rfl ?_
 obtain ⟨⟨v_4, v_5⟩, hv_4, hm⟩ := bnd_inv hm
 refine jx (op_call (js := []) ld cl50 (sim_math_bits_Mul64 k t_1 t_1 (v_4, v_5) hv_4) .func (.cons tR (.cons tR .nil)) rfl) fun _ => jmv rfl rfl <| jc (op_extract (i := 0) lb tR rfl) <| jc (op_extract (i := 1) lb tR rfl) <| jc (op_assign lb tR) <| jc (op_assign lb tR) <| jn <| JC.seq <| jr <| jmv rfl rfl <| lI hm fun v_6 hv_6 hm => jc (op_cmpI lb tR .cI (cs hv_6)) <| jn <| jif tR hm (fun hc1 hm => ?_) (fun hc1 hm => ?_)
 · refine bI hm fun x_12 hx2 hq2 => JC.seqJ (γ := Unit) (stj := fun _ => ⟨[(6, ov (S rB x_12))], [], []⟩) (fun _ => ?_) ?_
   · refine JC.ret <| JQ.outR ?_
     obtain rfl := so hq2
     exact jd (.val (S rB x_12)) rfl rfl rfl rfl rfl rfl
   refine JC.region <| jmv rfl rfl <| JL.sub ⟨[(2, ov (S (rU UInt64) a_3)), (6, ov (S rB false)), (7, ov (S (rU UInt64) v_4)), (8, ov (S (rU UInt64) v_5)), (24, ov (S (rU UInt64) v_4))], [], []⟩ (.cons rfl (.cons rfl (.cons rfl (.cons rfl (.cons rfl .nil))))) rfl rfl <| jmv rfl rfl <| lI hx2 fun v_7 hv_7 hx2 => jc (op_cmpU lb tR tR (cs hv_7)) <| jmv rfl rfl <| jF (ov (S (rU UInt64) v_4)) rfl rfl rfl rfl (fun hq_3 => op_move lb tR) <| jF (ov (S (rU UInt64) a_3)) rfl rfl rfl rfl (fun hq_4 => op_move lb tR) <| lI hx2 fun v_8 hv_8 hx2 => jF (ov (S rB v_8)) rfl rfl rfl rfl (fun hq_5 => op_cmpU lb (HasO.cnd tR (notT (notF hq_5))) (HasO.cnd tR (notT (notF hq_5))) (cs hv_8)) ?_
   refine jF (ov (S rB v_8)) rfl rfl rfl rfl (fun hq_6 => op_move lb (HasO.cnd tR (notT (notF hq_6)))) <| JL.cnd (sv := ov (S (rU UInt64) v_5)) (Guard.cT (q := (!v_7)) (ltB rfl) rfl rfl) rfl (ltB rfl) (fun hq_7 => op_move lb tR) <| lI hx2 fun v_9 hv_9 hx2 => JL.cnd (sv := ov (S rB v_9)) (Guard.cT (q := (!v_7)) (ltB rfl) rfl rfl) rfl (ltB rfl) (fun hq_8 => op_cmpU lb (HasO.cnd tR (andI (notT (notF (andL hq_8))) (andR hq_8))) (HasO.cU (x := (0 : UInt64)) rfl (by decide)) (cs hv_9)) <| lI hx2 fun v_10 hv_10 hx2 => jF (ov (S rB v_10)) rfl rfl rfl rfl (fun hq_9 => op_pickCS lb (HasO.cnd tR (notT (notF hq_9))) (fun hb10 => (HasO.cnd tR (andI (notT (notF hq_9)) hb10))) (fun hb10 => .cB) hv_10) <| lI hx2 fun v_11 hv_11 hx2 => jc (op_pickCS lb tR (fun hb11 => .cB) (fun hb11 => (HasO.cnd tR (notT hb11))) hv_11) <| jc (op_assign lb tR) <| JL.sub ⟨[(6, ov (S rB v_11))], [], []⟩ (.cons rfl .nil) rfl rfl ?_
   refine JL.nil ?_
   try obtain rfl := so hx2
   exact jo rfl rfl rfl
 refine JC.skip <| JQ.then <| jr <| jmv rfl rfl <| JL.sub ⟨[(0, ov (S (rU UInt64) t_1)), (2, ov (S (rU UInt64) a_3)), (7, ov (S (rU UInt64) v_4)), (37, ov (S (rU UInt64) v_5))], [], []⟩ (.cons rfl (.cons rfl (.cons rfl (.cons rfl .nil)))) rfl rfl <| jmv rfl rfl ?_
 obtain ⟨⟨v_13, v_14⟩, hv_13, hm⟩ := bnd_inv hm
 refine jx (op_call (js := []) ld cl50 (sim_math_bits_Mul64 k v_5 t_1 (v_13, v_14) hv_13) .func (.cons tR (.cons tR .nil)) rfl) fun _ => jmv rfl rfl <| jc (op_extract (i := 0) lb tR rfl) <| jc (op_extract (i := 1) lb tR rfl) <| jc (op_assign lb tR) <| jc (op_assign lb tR) <| jn <| jr <| jmv rfl rfl <| jmv rfl rfl ?_
 obtain ⟨⟨v_15, v_16⟩, hv_15, hm⟩ := bnd_inv hm
 refine jx (op_call (js := []) ld cl50 (sim_math_bits_Mul64 k v_4 t_1 (v_15, v_16) hv_15) .func (.cons tR (.cons tR .nil)) rfl) fun _ => jmv rfl rfl <| jc (op_extract (i := 0) lb tR rfl) <| JL.sub ⟨[(2, ov (S (rU UInt64) a_3)), (9, ov (S (rU UInt64) v_13)), (10, ov (S (rU UInt64) v_14)), (42, .tup [.val (S (rU UInt64) v_15), .val (S (rU UInt64) v_16)]), (46, ov (S (rU UInt64) v_15))], [], []⟩ (.cons rfl (.cons rfl (.cons rfl (.cons rfl (.cons rfl .nil))))) rfl rfl <| jc (op_extract (i := 1) lb tR rfl) <| jc (op_assign lb tR) <| jc (op_assign lb tR) <| jn <| jr <| jmv rfl rfl <| jmv rfl rfl ?_
 obtain ⟨⟨s_17, o_18⟩, hv_s_17, hm⟩ := bnd_inv hm
 refine jc (op_add64 lb ex51 .func tR tR (HasO.cU (x := (0 : UInt64)) rfl (by decide)) hv_s_17) <| jmv rfl rfl <| jc (op_extract (i := 0) lb tR rfl) <| jc (op_extract (i := 1) lb tR rfl) <| jc (op_assign lb tR) <| jc (op_assign lb tR) <| jn <| jr <| jmv rfl rfl <| JL.sub ⟨[(2, ov (S (rU UInt64) a_3)), (10, ov (S (rU UInt64) v_14)), (13, ov (S (rU UInt64) s_17)), (14, ov (S (rU UInt64) o_18)), (54, ov (S (rU UInt64) v_15))], [], []⟩ (.cons rfl (.cons rfl (.cons rfl (.cons rfl (.cons rfl .nil))))) rfl rfl <| jmv rfl rfl <| lI hm fun v_19 hv_19 hm => jc (op_arU lb tR tR (cs hv_19)) <| jc (op_assign lb tR) <| jn <| JC.seq <| jr <| jmv rfl rfl <| jmv rfl rfl <| lI hm fun v_20 hv_20 hm => jc (op_shrUU lb tR (HasO.cU (x := (32 : UInt64)) rfl (by decide)) hv_20) ?_
 refine lI hm fun v_21 hv_21 hm => jc (op_cmpU lb tR tR (cs hv_21)) <| jn <| jif tR hm (fun hc12 hm => ?_) (fun hc12 hm => ?_)
 · refine jr <| jmv rfl rfl <| jmv rfl rfl <| lI hm fun v_22 hv_22 hm => jc (op_shrUU lb tR (HasO.cU (x := (32 : UInt64)) rfl (by decide)) hv_22) <| lI hm fun v_23 hv_23 hm => jc (op_cmpU lb tR tR (cs hv_23)) <| jc (op_assign lb tR) <| JL.sub ⟨[(6, ov (S rB v_23))], [], []⟩ (.cons rfl .nil) rfl rfl <| jn <| JC.ret <| JQ.outR ?_
   obtain rfl := so hm
   exact jd (.val (S rB v_23)) rfl rfl rfl rfl rfl rfl
 refine JC.skip <| JQ.then <| bI hm fun x_31 hx13 hq13 => JC.seqJ (γ := Unit) (stj := fun _ => ⟨[(6, ov (S rB x_31))], [], []⟩) (fun _ => ?_) ?_
 · refine JC.ret ?_
   obtain rfl := so hq13
   exact jd (.val (S rB x_31)) rfl rfl rfl rfl rfl rfl
 refine JC.region <| jmv rfl rfl <| jmv rfl rfl <| lI hx13 fun v_24 hv_24 hx13 => jc (op_shlUU lb tR (HasO.cU (x := (32 : UInt64)) rfl (by decide)) hv_24) <| lI hx13 fun v_25 hv_25 hx13 => jc (op_cmpU lb tR tR (cs hv_25)) <| jmv rfl rfl <| JL.sub ⟨[(2, ov (S (rU UInt64) a_3)), (10, ov (S (rU UInt64) v_14)), (13, ov (S (rU UInt64) s_17)), (69, ov (S rB v_25))], [], []⟩ (.cons rfl (.cons rfl (.cons rfl (.cons rfl .nil)))) rfl rfl <| jF (ov (S (rU UInt64) s_17)) rfl rfl rfl rfl (fun hq_14 => op_move lb tR) <| jF (ov (S (rU UInt64) a_3)) rfl rfl rfl rfl (fun hq_15 => op_move lb tR) ?_
 obtain ⟨v_26, hv_26, hx13⟩ := lt1_inv hx13
 refine jF (ov (S (rU UInt64) v_26)) rfl rfl rfl rfl (fun hq_16 => op_shlUU lb (HasO.cnd tR (notT (notF hq_16))) (HasO.cU (x := (32 : UInt64)) rfl (by decide)) hv_26) <| lI hx13 fun v_27 hv_27 hx13 => jF (ov (S rB v_27)) rfl rfl rfl rfl (fun hq_17 => op_cmpU lb (HasO.cnd tR (notT (notF hq_17))) (HasO.cnd tR (notT (notF hq_17))) (cs hv_27)) <| jF (ov (S rB v_27)) rfl rfl rfl rfl (fun hq_18 => op_move lb (HasO.cnd tR (notT (notF hq_18)))) <| JL.cnd (sv := ov (S (rU UInt64) v_14)) (Guard.cT (q := (!v_25)) (ltB rfl) rfl rfl) rfl (ltB rfl) (fun hq_19 => op_move lb tR) <| lI hx13 fun v_28 hv_28 hx13 => JL.cnd (sv := ov (S rB v_28)) (Guard.cT (q := (!v_25)) (ltB rfl) rfl rfl) rfl (ltB rfl) (fun hq_20 => op_cmpU lb (HasO.cnd tR (andI (notT (notF (andL hq_20))) (andR hq_20))) (HasO.cU (x := (0 : UInt64)) rfl (by decide)) (cs hv_28)) <| lI hx13 fun v_29 hv_29 hx13 => jF (ov (S rB v_29)) rfl rfl rfl rfl (fun hq_21 => op_pickCS lb (HasO.cnd tR (notT (notF hq_21))) (fun hb22 => (HasO.cnd tR (andI (notT (notF hq_21)) hb22))) (fun hb22 => .cB) hv_29) ?_
 refine lI hx13 fun v_30 hv_30 hx13 => jc (op_pickCS lb tR (fun hb23 => .cB) (fun hb23 => (HasO.cnd tR (notT hb23))) hv_30) <| jc (op_assign lb tR) <| JL.nil ?_
 try obtain rfl := so hx13
 exact jo rfl rfl rfl

theorem sim_ref03_root (k : Nat) (p_1 : UInt64) (n_2 : Int) (r : UInt32) (hm : ref03_root k p_1 n_2 = some r) : Sim Try.prog 38 [S (rU UInt64) p_1, S (rI .i64) n_2] [] (γ := Unit) (fun q => []) (fun q => .one (.val (S (rU UInt32) r))) := by
 unfold ref03_root at hm
 refine Sim.of Try.func38 rfl rfl (lE rfl) (fun e0 w0 => ?_)
 refine JC.at ⟨[(0, ov (S (rU UInt64) p_1)), (1, ov (S (rI .i64) n_2))], [], []⟩ <| jr <| jc (op_assign lb (HasO.cU (x := (0 : UInt32)) rfl (by decide))) <| jn <| jr <| jc (op_assign lb (HasO.cU (x := (0 : UInt64)) rfl (by decide))) <| jn <| bI hm fun x_12 hx1 hq1 => JC.seqJ (γ := Unit) (stj := fun _ => ⟨[(5, ov (S (rU UInt64) x_12))], [], []⟩) (fun _ => ?_) ?_
 · refine jr <| jmv rfl rfl <| lI hq1 fun v_13 hv_13 hq1 => jc (op_convUU lb tu71 tu60 tR hv_13) <| jc (op_assign lb tR) <| jn <| JC.ret ?_
   obtain rfl := so hq1
   exact jd (.val (S (rU UInt32) v_13)) rfl rfl rfl rfl rfl rfl
 refine jr <| jc (op_assign lb .cI) <| jn <| JC.block <| JC.pre ?_ (JC.loop (γ := Unit) (stf := fun s q => ⟨[(0, ov (S (rU UInt64) p_1)), (1, ov (S (rI .i64) n_2)), (5, ov (S (rU UInt64) s.1)), (6, ov (S (rI .i64) s.2))], [], []⟩) (q := ()) hx1 ?_)
 · exact (Imp.norm (js := []) rfl (.cons rfl (.cons rfl (.cons rfl (.cons rfl .nil)))))
 intro s q x hx hr
 obtain ⟨x_3, b_4⟩ := s
 obtain _ := q
 change ref03_root.b1 k n_2 p_1 x_3 b_4 = some x at hx
 unfold ref03_root.b1 at hx
 refine JC.at ⟨[(0, ov (S (rU UInt64) p_1)), (1, ov (S (rI .i64) n_2)), (5, ov (S (rU UInt64) x_3)), (6, ov (S (rI .i64) b_4))], [], []⟩ <| JC.seq <| jr <| jmv rfl rfl <| lI hx fun v_5 hv_5 hx => jc (op_cmpI lb tR .cI (cs hv_5)) <| jn <| jif tR hx (fun hc3 hx => ?_) (fun hc3 hx => ?_)
 · refine JC.skip <| JQ.then <| bI hx fun x_10 hx4 hq4 => JC.seqJ (γ := Unit) (stj := fun _ => ⟨[(0, ov (S (rU UInt64) p_1)), (1, ov (S (rI .i64) n_2)), (5, ov (S (rU UInt64) x_10)), (6, ov (S (rI .i64) b_4))], [], []⟩) (fun _ => ?_) ?_
   · refine JC.region <| jmv rfl rfl <| lI hq4 fun v_11 hv_11 hq4 => jc (op_arI lb tR .cI (cs hv_11)) <| jc (op_assign lb tR) <| JL.nil ?_
     try obtain rfl := so hq4
     exact JQ.next () rfl (Imp.norm (js := []) rfl (.cons rfl (.cons rfl (.cons rfl (.cons rfl .nil)))))
   refine JC.block <| jr <| jmv rfl rfl <| jmv rfl rfl <| lI hx4 fun v_6 hv_6 hx4 => jc (op_convIU lb tu3 tu67 tR hv_6) <| lI hx4 fun v_7 hv_7 hx4 => jc (op_shlUU lb (HasO.cU (x := (1 : UInt64)) rfl (by decide)) tR hv_7) <| lI hx4 fun v_8 hv_8 hx4 => jc (op_arU lb tR tR (cs hv_8)) <| jc (op_assign lb tR) <| jn <| jr <| jmv rfl rfl <| jmv rfl rfl <| jmv rfl rfl ?_
   obtain ⟨v_9, hv_9, hx4⟩ := bnd_inv hx4
   refine jx (op_call (js := []) ld cl44 (sim_ref03_power k v_8 n_2 p_1 v_9 hv_9) .func (.cons tR (.cons tR (.cons tR .nil))) rfl) fun _ => JL.sub ⟨[(0, ov (S (rU UInt64) p_1)), (1, ov (S (rI .i64) n_2)), (5, ov (S (rU UInt64) x_3)), (6, ov (S (rI .i64) b_4)), (7, ov (S (rU UInt64) v_8)), (20, ov (S rB v_9))], [], []⟩ (.cons rfl (.cons rfl (.cons rfl (.cons rfl (.cons rfl (.cons rfl .nil)))))) rfl rfl <| jn <| jif tR hx4 (fun hc5 hx4 => ?_) (fun hc5 hx4 => ?_)
   · refine JC.region <| jmv rfl rfl <| jc (op_assign lb tR) <| JL.nil <| JQ.outNB ?_
     try obtain rfl := so hx4
     exact JQ.join () (Imp.norm (js := []) rfl (.cons rfl (.cons rfl (.cons rfl (.cons rfl .nil)))))
   refine JC.skip <| JQ.outNB ?_
   try obtain rfl := so hx4
   exact JQ.join () (Imp.norm (js := []) rfl (.cons rfl (.cons rfl (.cons rfl (.cons rfl .nil)))))
 refine JC.exit <| JQ.outX ?_
 try obtain rfl := so hx
 have ht := hr _ rfl
 have hq2 := cs ht
 clear hr ht
 refine JQ.outX <| JQ.here ?_
 try obtain rfl := so hq2
 exact jo rfl rfl rfl

theorem sim_ref03_begun (k : Nat) (r : (Vector UInt32 8) × (List UInt32)) (hm : ref03_begun k = some r) : Sim Try.prog 30 [] [] (γ := Option Nat × Nat) (fun q => [cown q.1 (rU UInt32) r.2 0 q.2]) (fun q => .tup [.val (A (rV 8 (rU UInt32)) r.1), .val (HDR q.1 0 (List.length r.2) q.2)]) := by
 unfold ref03_begun at hm
 refine Sim.of Try.func30 rfl rfl (lE rfl) (fun e0 w0 => ?_)
 refine JC.at ⟨[], [], []⟩ <| jr <| jx (op_alloc lb tZ61 zr61) fun gb_1 => jc (op_assign lb HasO.nilH) <| jn <| jr <| jx (op_alloc lb tZ61 zr61) fun gb_2 => jn <| jr <| jc (op_assign lb HasO.nilH) <| jn ?_
 obtain ⟨⟨h_34, k_35⟩, hx1, hq1⟩ := bnd_inv hm
 refine JC.seqJ (γ := Option Nat × Nat) (stj := fun q => ⟨[(0, ov (PTR gb_1 0)), (2, ov (PTR gb_2 0)), (3, ov (HDR q.1 0 (List.length k_35) q.2))], [cvar gb_1 (rV 8 (rU UInt32)) (Vector.replicate 8 (0 : UInt32)), cvar gb_2 (rV 8 (rU UInt32)) h_34, cown q.1 (rU UInt32) k_35 0 q.2], []⟩) (fun q => ?_) ?_
 · obtain ⟨go_36, gc_37⟩ := q
   refine JC.at ⟨[(0, ov (PTR gb_1 0)), (2, ov (PTR gb_2 0)), (3, ov (HDR go_36 0 (List.length k_35) gc_37))], [cvar gb_1 (rV 8 (rU UInt32)) (Vector.replicate 8 (0 : UInt32)), cvar gb_2 (rV 8 (rU UInt32)) h_34, cown go_36 (rU UInt32) k_35 0 gc_37], []⟩ <| jr <| jc (op_loadA (j := 1) lb tA61 tR rfl (Comp.self (rV 8 (rU UInt32)) h_34) rfl) <| jmv rfl rfl <| jc (op_storeA (j := 0) tA61 tR tR rfl (UpdR.self (by rfl)) rfl) <| jc (op_assign lb tR) <| jn <| JC.ret ?_
   obtain rfl := so hq1
   exact JQ.done (js := [2]) (ss := [.val (A (rV 8 (rU UInt32)) h_34), .val (HDR go_36 0 (List.length k_35) gc_37)]) (go_36, gc_37) (.inl rfl) (.nil rfl) rfl (.cons (.cellA (j := 0) tA61 rfl rfl) (.cons (.tmp rfl) .nil)) rfl rfl rfl
 refine jr <| jc (op_assign lb (HasO.cU (x := (2 : UInt64)) rfl (by decide))) <| jn <| JC.block <| JC.pre (Imp.nilown (rU UInt32)) <| JC.pre ?_ (JC.loop (γ := Option Nat × Nat) (stf := fun s q => ⟨[(0, ov (PTR gb_1 0)), (2, ov (PTR gb_2 0)), (3, ov (HDR q.1 0 (List.length s.2.1) q.2)), (4, ov (S (rU UInt64) s.2.2))], [cvar gb_1 (rV 8 (rU UInt32)) (Vector.replicate 8 (0 : UInt32)), cvar gb_2 (rV 8 (rU UInt32)) s.1, cown q.1 (rU UInt32) s.2.1 0 q.2], []⟩) (q := (none, 0)) hx1 ?_)
 · exact (Imp.norm (js := [0, 0, 0]) rfl (.cons rfl (.cons rfl (.cons rfl (.cons rfl .nil)))))
 intro s q x hx hr
 obtain ⟨h_3, k_4, n_5⟩ := s
 obtain ⟨go_6, gc_7⟩ := q
 change ref03_begun.b1 k h_3 k_4 n_5 = some x at hx
 unfold ref03_begun.b1 at hx
 refine JC.at ⟨[(0, ov (PTR gb_1 0)), (2, ov (PTR gb_2 0)), (3, ov (HDR go_6 0 (List.length k_4) gc_7)), (4, ov (S (rU UInt64) n_5))], [cvar gb_1 (rV 8 (rU UInt32)) (Vector.replicate 8 (0 : UInt32)), cvar gb_2 (rV 8 (rU UInt32)) h_3, cown go_6 (rU UInt32) k_4 0 gc_7], []⟩ <| JC.seq <| jr <| jmv rfl rfl <| jc (op_lenH lb tu62 tR) <| lI hx fun v_8 hv_8 hx => jc (op_cmpI lb tR .cI (cs hv_8)) <| jn <| jif tR hx (fun hc3 hx => ?_) (fun hc3 hx => ?_)
 · refine JC.skip <| JQ.then ?_
   obtain ⟨⟨h_29, k_30⟩, hx4, hq4⟩ := bnd_inv hx
   refine JC.seqJ (γ := Option Nat × Nat) (stj := fun q => ⟨[(0, ov (PTR gb_1 0)), (2, ov (PTR gb_2 0)), (3, ov (HDR q.1 0 (List.length k_30) q.2)), (4, ov (S (rU UInt64) n_5))], [cvar gb_1 (rV 8 (rU UInt32)) (Vector.replicate 8 (0 : UInt32)), cvar gb_2 (rV 8 (rU UInt32)) h_29, cown q.1 (rU UInt32) k_30 0 q.2], []⟩) (fun q => ?_) ?_
   · obtain ⟨go_31, gc_32⟩ := q
     refine JC.at ⟨[(0, ov (PTR gb_1 0)), (2, ov (PTR gb_2 0)), (3, ov (HDR go_31 0 (List.length k_30) gc_32)), (4, ov (S (rU UInt64) n_5))], [cvar gb_1 (rV 8 (rU UInt32)) (Vector.replicate 8 (0 : UInt32)), cvar gb_2 (rV 8 (rU UInt32)) h_29, cown go_31 (rU UInt32) k_30 0 gc_32], []⟩ <| JC.region <| jmv rfl rfl <| lI hq4 fun v_33 hv_33 hq4 => jc (op_arU lb tR (HasO.cU (x := (1 : UInt64)) rfl (by decide)) (cs hv_33)) <| jc (op_assign lb tR) <| JL.nil ?_
     try obtain rfl := so hq4
     exact JQ.next (go_31, gc_32) rfl (Imp.norm (js := [0, 0, 0]) rfl (.cons rfl (.cons rfl (.cons rfl (.cons rfl .nil)))))
   refine JC.block <| jr <| jc (op_assign lb .cB) <| jn <| bI hx4 fun is_18 hx5 hq5 => JC.seqJ (γ := Unit) (stj := fun _ => ⟨[(0, ov (PTR gb_1 0)), (2, ov (PTR gb_2 0)), (3, ov (HDR go_6 0 (List.length k_4) gc_7)), (4, ov (S (rU UInt64) n_5)), (5, ov (S rB is_18))], [cvar gb_1 (rV 8 (rU UInt32)) (Vector.replicate 8 (0 : UInt32)), cvar gb_2 (rV 8 (rU UInt32)) h_3, cown go_6 (rU UInt32) k_4 0 gc_7], []⟩) (fun _ => ?_) ?_
   · refine bI hq5 fun h_24 hx14 hq14 => JC.seqJ (γ := Unit) (stj := fun _ => ⟨[(0, ov (PTR gb_1 0)), (2, ov (PTR gb_2 0)), (3, ov (HDR go_6 0 (List.length k_4) gc_7)), (4, ov (S (rU UInt64) n_5)), (5, ov (S rB is_18))], [cvar gb_1 (rV 8 (rU UInt32)) (Vector.replicate 8 (0 : UInt32)), cvar gb_2 (rV 8 (rU UInt32)) h_24, cown go_6 (rU UInt32) k_4 0 gc_7], []⟩) (fun _ => ?_) ?_
     · refine jr <| jmv rfl rfl <| jn <| jif tR hq14 (fun hc19 hq14 => ?_) (fun hc19 hq14 => ?_)
       · refine JC.region <| jmv rfl rfl <| jmv rfl rfl <| bI hq14 fun v_25 hv_25 hq14 => jx (op_call (js := []) ld cl38 (sim_ref03_root k n_5 (3 : Int) v_25 hv_25) .func (.cons tR (.cons .cI .nil)) rfl) fun _ => jc (op_buildF (r := (rU UInt32)) lb tu62 tz60 tZ60 rfl (lE rfl) (.S rfl tR .nil) rfl) <| bI hq14 fun k_26 hv_k_26 hq14 => jx (op_appendL (j := 2) lb tu62 tu62 rfl tB60 rfl (Nat.lt_of_lt_of_le Nat.zero_lt_one (lE rfl)) (Nat.lt_of_lt_of_le Nat.zero_lt_one (lE rfl))  rfl tR tR hv_k_26) (fun q => ?_)
         obtain ⟨go_27, gc_28⟩ := q
         refine jc (op_assign lb tR) <| JL.nil <| JQ.outNB ?_
         have hz := Option.some.inj hq14
         replace hz := Prod.mk.inj hz
         obtain ⟨hz_a, hz⟩ := hz
         first | subst hz_a | clear hz_a
         first | subst hz | clear hz
         exact JQ.join (go_27, gc_28) (Imp.norm (js := [0, 0, 0]) rfl (.cons rfl (.cons rfl (.cons rfl (.cons rfl .nil)))))
       refine JC.skip <| JQ.outNB ?_
       have hz := Option.some.inj hq14
       replace hz := Prod.mk.inj hz
       obtain ⟨hz_a, hz⟩ := hz
       first | subst hz_a | clear hz_a
       first | subst hz | clear hz
       exact JQ.join (go_6, gc_7) (Imp.norm (js := [0, 0, 0]) rfl (.cons rfl (.cons rfl (.cons rfl (.cons rfl .nil)))))
     refine bI hx14 fun x_20 hx15 hq15 => JC.seqJ (γ := Unit) (stj := fun _ => ⟨[(0, ov (PTR gb_1 0)), (2, ov (PTR gb_2 0)), (3, ov (HDR go_6 0 (List.length k_4) gc_7)), (4, ov (S (rU UInt64) n_5)), (5, ov (S rB is_18)), (31, ov (S rB x_20))], [cvar gb_1 (rV 8 (rU UInt32)) (Vector.replicate 8 (0 : UInt32)), cvar gb_2 (rV 8 (rU UInt32)) h_3, cown go_6 (rU UInt32) k_4 0 gc_7], []⟩) (fun _ => ?_) ?_
     · refine jif tR hq15 (fun hc18 hq15 => ?_) (fun hc18 hq15 => ?_)
       · refine JC.region <| jmv rfl rfl <| jc (op_lenH lb tu62 tR) <| jmv rfl rfl <| bI hq15 fun v_21 hv_21 hq15 => jx (op_call (js := []) ld cl38 (sim_ref03_root k n_5 (2 : Int) v_21 hv_21) .func (.cons tR (.cons .cI .nil)) rfl) fun _ => bI hq15 fun i_22 hv_i_22 hq15 => jc (op_indexAddrIF lb tr61 tR tR hv_i_22) <| lI hq15 fun h_23 hv_h_23 hq15 => jc (op_storeS (j := 1) tS60 tR tR rfl rfl (Upd.at (Comp.self (rV 8 (rU UInt32)) h_3) i_22.2 rfl (Upd.self (rV 8 (rU UInt32)) h_3 _)).R hv_h_23) <| JL.nil ?_
         try obtain rfl := so hq15
         exact JQ.join () (Imp.norm (js := [0, 0, 0]) rfl (.cons rfl (.cons rfl (.cons rfl (.cons rfl (.cons rfl .nil))))))
       refine JC.skip ?_
       try obtain rfl := so hq15
       exact JQ.join () (Imp.norm (js := [0, 0, 0]) rfl (.cons rfl (.cons rfl (.cons rfl (.cons rfl (.cons rfl .nil))))))
     refine JC.region <| jmv rfl rfl <| jmv rfl rfl ?_
     rcases iteB_inv hx15 with ⟨hc17, hx15⟩ | ⟨hc17, hx15⟩
     · refine JL.run (.yes rfl (ltB rfl) rfl hc17) (op_move lb tR) <| JL.run (.yes rfl (ltB rfl) rfl hc17) (op_lenH lb tu62 tR) <| lI hx15 fun v_19 hv_19 hx15 => JL.run (.yes rfl (ltB rfl) rfl hc17) (op_cmpI lb tR .cI (cs hv_19)) <| jc (op_pickT lb tR hc17 tR) <| JL.nil ?_
       try obtain rfl := so hx15
       exact JQ.join () (Imp.norm (js := [0, 0, 0]) rfl (.cons rfl (.cons rfl (.cons rfl (.cons rfl (.cons rfl (.cons rfl .nil)))))))
     refine jk rfl hc17 <| jk rfl hc17 <| jk rfl hc17 <| jc (op_pickF lb tR hc17 .cB) <| JL.nil ?_
     try obtain rfl := so hx15
     exact JQ.join () (Imp.norm (js := [0, 0, 0]) rfl (.cons rfl (.cons rfl (.cons rfl (.cons rfl (.cons rfl (.cons rfl .nil)))))))
   refine jr <| jc (op_assign lb (HasO.cU (x := (2 : UInt64)) rfl (by decide))) <| jn <| JC.block <| JC.pre ?_ (JC.loop (γ := Unit) (stf := fun s q => ⟨[(0, ov (PTR gb_1 0)), (2, ov (PTR gb_2 0)), (3, ov (HDR go_6 0 (List.length k_4) gc_7)), (4, ov (S (rU UInt64) n_5)), (5, ov (S rB s.1)), (6, ov (S (rU UInt64) s.2))], [cvar gb_1 (rV 8 (rU UInt32)) (Vector.replicate 8 (0 : UInt32)), cvar gb_2 (rV 8 (rU UInt32)) h_3, cown go_6 (rU UInt32) k_4 0 gc_7], []⟩) (q := ()) hx5 ?_)
   · exact (Imp.norm (js := [0, 0, 0]) rfl (.cons rfl (.cons rfl (.cons rfl (.cons rfl (.cons rfl (.cons rfl .nil)))))))
   intro s q x hx hr
   obtain ⟨is_9, d_10⟩ := s
   obtain _ := q
   change ref03_begun.b2 k n_5 is_9 d_10 = some x at hx
   unfold ref03_begun.b2 at hx
   refine JC.at ⟨[(0, ov (PTR gb_1 0)), (2, ov (PTR gb_2 0)), (3, ov (HDR go_6 0 (List.length k_4) gc_7)), (4, ov (S (rU UInt64) n_5)), (5, ov (S rB is_9)), (6, ov (S (rU UInt64) d_10))], [cvar gb_1 (rV 8 (rU UInt32)) (Vector.replicate 8 (0 : UInt32)), cvar gb_2 (rV 8 (rU UInt32)) h_3, cown go_6 (rU UInt32) k_4 0 gc_7], []⟩ <| JC.seq <| jr <| jmv rfl rfl <| jmv rfl rfl <| lI hx fun v_11 hv_11 hx => jc (op_arU lb tR tR (cs hv_11)) <| jmv rfl rfl <| lI hx fun v_12 hv_12 hx => jc (op_cmpU lb tR tR (cs hv_12)) <| jn <| jif tR hx (fun hc7 hx => ?_) (fun hc7 hx => ?_)
   · refine JC.skip <| JQ.then <| bI hx fun is_16 hx8 hq8 => JC.seqJ (γ := Unit) (stj := fun _ => ⟨[(0, ov (PTR gb_1 0)), (2, ov (PTR gb_2 0)), (3, ov (HDR go_6 0 (List.length k_4) gc_7)), (4, ov (S (rU UInt64) n_5)), (5, ov (S rB is_16)), (6, ov (S (rU UInt64) d_10))], [cvar gb_1 (rV 8 (rU UInt32)) (Vector.replicate 8 (0 : UInt32)), cvar gb_2 (rV 8 (rU UInt32)) h_3, cown go_6 (rU UInt32) k_4 0 gc_7], []⟩) (fun _ => ?_) ?_
     · refine JC.region <| jmv rfl rfl <| lI hq8 fun v_17 hv_17 hq8 => jc (op_arU lb tR (HasO.cU (x := (1 : UInt64)) rfl (by decide)) (cs hv_17)) <| jc (op_assign lb tR) <| JL.nil ?_
       try obtain rfl := so hq8
       exact JQ.next () rfl (Imp.norm (js := [0, 0, 0]) rfl (.cons rfl (.cons rfl (.cons rfl (.cons rfl (.cons rfl (.cons rfl .nil)))))))
     refine JC.block <| JC.region <| jmv rfl rfl <| jmv rfl rfl <| jT (ov (S (rU UInt64) n_5)) rfl rfl rfl rfl (fun hq_9 => op_move lb tR) <| jT (ov (S (rU UInt64) d_10)) rfl rfl rfl rfl (fun hq_10 => op_move lb tR) <| bI hx8 fun v_13 hv_13 hx8 => jT (ov (S (rU UInt64) v_13)) rfl rfl rfl rfl (fun hq_11 => op_arU lb (HasO.cnd tR hq_11) (HasO.cnd tR hq_11) (ifT hv_13 hq_11)) <| lI hx8 fun v_14 hv_14 hx8 => jT (ov (S rB v_14)) rfl rfl rfl rfl (fun hq_12 => op_cmpU lb (HasO.cnd tR hq_12) (HasO.cU (x := (0 : UInt64)) rfl (by decide)) (cs hv_14)) <| lI hx8 fun v_15 hv_15 hx8 => jc (op_pickCS lb tR (fun hb13 => (HasO.cnd tR hb13)) (fun hb13 => .cB) hv_15) ?_
     refine JL.sub ⟨[(0, ov (PTR gb_1 0)), (2, ov (PTR gb_2 0)), (3, ov (HDR go_6 0 (List.length k_4) gc_7)), (4, ov (S (rU UInt64) n_5)), (5, ov (S rB is_9)), (6, ov (S (rU UInt64) d_10)), (25, ov (S rB v_15))], [cvar gb_1 (rV 8 (rU UInt32)) (Vector.replicate 8 (0 : UInt32)), cvar gb_2 (rV 8 (rU UInt32)) h_3, cown go_6 (rU UInt32) k_4 0 gc_7], []⟩ (.cons rfl (.cons rfl (.cons rfl (.cons rfl (.cons rfl (.cons rfl (.cons rfl .nil))))))) rfl rfl <| jc (op_assign lb tR) <| JL.nil <| JQ.outNB ?_
     try obtain rfl := so hx8
     exact JQ.join () (Imp.norm (js := [0, 0, 0]) rfl (.cons rfl (.cons rfl (.cons rfl (.cons rfl (.cons rfl (.cons rfl .nil)))))))
   refine JC.exit <| JQ.outX ?_
   try obtain rfl := so hx
   have ht := hr _ rfl
   have hq6 := cs ht
   clear hr ht
   refine JQ.outX <| JQ.here ?_
   try obtain rfl := so hq6
   exact JQ.join () (Imp.norm (js := [0, 0, 0]) rfl (.cons rfl (.cons rfl (.cons rfl (.cons rfl (.cons rfl .nil))))))
 refine JC.exit <| JQ.outX ?_
 try obtain rfl := so hx
 have ht := hr _ rfl
 have hq2 := cs ht
 clear hr ht
 refine JQ.outX <| JQ.here ?_
 have hz := Option.some.inj hq2
 replace hz := Prod.mk.inj hz
 obtain ⟨hz_a, hz⟩ := hz
 first | subst hz_a | clear hz_a
 first | subst hz | clear hz
 exact JQ.join (go_6, gc_7) (Imp.norm (js := [0, 0, 0]) rfl (.cons rfl (.cons rfl (.cons rfl .nil))))

theorem sim_ref01_Put (k : Nat) (n_1 : UInt64) (size_2 : Int) (r : (List UInt8)) (hm : ref01_Put k n_1 size_2 = some r) : Sim Try.prog 39 [S (rU UInt64) n_1, S (rI .i64) size_2] [] (γ := Option Nat) (fun q => [cown q (rU UInt8) r 0 (Int.toNat size_2)]) (fun q => .one (.val (HDR q 0 (List.length r) (Int.toNat size_2)))) := by
 unfold ref01_Put at hm
 refine Sim.of Try.func39 rfl rfl (lE rfl) (fun e0 w0 => ?_)
 refine JC.at ⟨[(0, ov (S (rU UInt64) n_1)), (1, ov (S (rI .i64) size_2))], [], []⟩ <| jr <| jc (op_assign lb HasO.nilH) <| jn <| jr <| jmv rfl rfl <| bI hm fun v_3 hv_3 hm => jx (op_makeOg lb tu37 tB5 zv5 tR tR hv_3) fun gb_4 => jc (op_assign lb tR) <| jn <| bI hm fun b_16 hx1 hq1 => JC.seqJ (γ := Unit) (stj := fun _ => ⟨[(5, ov (HDR (some gb_4) 0 (List.length b_16) (Int.toNat size_2)))], [cown (some gb_4) (rU UInt8) b_16 0 (Int.toNat size_2)], []⟩) (fun _ => ?_) ?_
 · refine jr <| jmv rfl rfl <| jc (op_assign lb tR) <| jn <| JC.ret ?_
   obtain rfl := so hq1
   exact JQ.done (js := [0]) (ss := [.val (HDR (some gb_4) 0 (List.length b_16) (Int.toNat size_2))]) (some gb_4) (.inl rfl) (.nil rfl) rfl (.cons (.tmp rfl) .nil) rfl rfl rfl
 refine jr <| jmv rfl rfl <| lI hx1 fun v_5 hv_5 hx1 => jc (op_arI lb tR .cI (cs hv_5)) <| jc (op_assign lb tR) <| jn <| JC.block <| JC.pre ?_ (JC.loop (γ := Unit) (stf := fun s q => ⟨[(0, ov (S (rU UInt64) s.1)), (5, ov (HDR (some gb_4) 0 (List.length s.2.1) (Int.toNat size_2))), (6, ov (S (rI .i64) s.2.2))], [cown (some gb_4) (rU UInt8) s.2.1 0 (Int.toNat size_2)], []⟩) (q := ()) hx1 ?_)
 · exact (Imp.norm (js := [0]) rfl (.cons rfl (.cons rfl (.cons rfl .nil))))
 intro s q x hx hr
 obtain ⟨n_6, b_7, i_8⟩ := s
 obtain _ := q
 change ref01_Put.b1 k n_6 b_7 i_8 = some x at hx
 unfold ref01_Put.b1 at hx
 refine JC.at ⟨[(0, ov (S (rU UInt64) n_6)), (5, ov (HDR (some gb_4) 0 (List.length b_7) (Int.toNat size_2))), (6, ov (S (rI .i64) i_8))], [cown (some gb_4) (rU UInt8) b_7 0 (Int.toNat size_2)], []⟩ <| JC.seq <| jr <| jmv rfl rfl <| lI hx fun v_9 hv_9 hx => jc (op_cmpI lb tR .cI (cs hv_9)) <| jn <| jif tR hx (fun hc3 hx => ?_) (fun hc3 hx => ?_)
 · refine JC.skip <| JQ.then <| JC.seq <| JC.block <| jr <| jmv rfl rfl <| jmv rfl rfl <| jmv rfl rfl <| bI hx fun v_10 hv_10 hx => jc (op_arU lb tR (HasO.cU (x := (256 : UInt64)) rfl (by decide)) hv_10) <| lI hx fun v_11 hv_11 hx => jc (op_convUU lb tu71 tu5 tR hv_11) <| bI hx fun i_12 hv_i_12 hx => jc (op_indexAddrOF (r := (rU UInt8)) (j := 0) lb tu37 tz5 rfl tR tR hv_i_12) ?_
   refine bI hx fun b_13 hv_b_13 hx => jc (op_storeOSg (r := (rU UInt8)) (j := 0) tS5 rfl rfl tR tR hv_b_13) <| JL.pre (Imp.slot (s := 5) (q := HDR (some gb_4) 0 (List.length b_13) (Int.toNat size_2)) rfl (wkLen (setO'_len hv_b_13))) <| JL.pre (Imp.slot (s := 15) (q := HDR (some gb_4) 0 (List.length b_13) (Int.toNat size_2)) rfl (wkLen (setO'_len hv_b_13))) <| jn <| JC.region <| jmv rfl rfl <| JL.sub ⟨[(0, ov (S (rU UInt64) n_6)), (5, ov (HDR (some gb_4) 0 (List.length b_13) (Int.toNat size_2))), (6, ov (S (rI .i64) i_8)), (21, ov (S (rU UInt64) n_6))], [cown (some gb_4) (rU UInt8) b_13 0 (Int.toNat size_2)], []⟩ (.cons rfl (.cons rfl (.cons rfl (.cons rfl .nil)))) rfl rfl <| bI hx fun v_14 hv_14 hx => jc (op_arU lb tR (HasO.cU (x := (256 : UInt64)) rfl (by decide)) hv_14) <| jc (op_assign lb tR) <| JL.nil <| JQ.outNB ?_
   refine JQ.then <| JC.region <| jmv rfl rfl <| lI hx fun v_15 hv_15 hx => jc (op_arI lb tR .cI (cs hv_15)) <| jc (op_assign lb tR) <| JL.nil ?_
   try obtain rfl := so hx
   exact JQ.next () rfl (Imp.norm (js := [0]) rfl (.cons rfl (.cons rfl (.cons rfl .nil))))
 refine JC.exit <| JQ.outX ?_
 try obtain rfl := so hx
 have ht := hr _ rfl
 have hq2 := cs ht
 clear hr ht
 refine JQ.outX <| JQ.here ?_
 try obtain rfl := so hq2
 exact JQ.join () (Imp.norm (js := [0]) rfl (.cons rfl .nil))

theorem sim_ref03_pad (k : Nat) (b_1 : (List UInt8)) (r : (List UInt8)) (hm : ref03_pad k b_1 = some r) : Sim Try.prog 31 [S (rL (rU UInt8)) b_1] [] (γ := Option Nat × Nat) (fun q => [cown q.1 (rU UInt8) r 0 q.2]) (fun q => .one (.val (HDR q.1 0 (List.length r) q.2))) := by
 unfold ref03_pad at hm
 refine Sim.of Try.func31 rfl rfl (lE rfl) (fun e0 w0 => ?_)
 refine JC.at ⟨[(0, ov (S (rL (rU UInt8)) b_1))], [], []⟩ <| jr <| jc (op_assign lb HasO.nilH) <| jn <| jr <| jmv rfl rfl <| bI hm fun v_2 hv_2 hm => JL.pre (Imp.nilown (rU UInt8)) <| jx (op_appendL (j := 0) lb tu37 tu37 rfl tB5 rfl (Nat.lt_of_lt_of_le Nat.zero_lt_one (lE rfl)) (Nat.lt_of_lt_of_le Nat.zero_lt_one (lE rfl))  rfl HasO.nilH tR hv_2) (fun q => ?_)
 obtain ⟨go_3, gc_4⟩ := q
 refine JL.sub ⟨[(0, ov (S (rL (rU UInt8)) b_1)), (5, ov (HDR go_3 0 (List.length v_2) gc_4))], [cown go_3 (rU UInt8) v_2 0 gc_4], []⟩ (.cons rfl (.cons rfl .nil)) rfl rfl <| jc (op_buildF (r := (rU UInt8)) lb tu37 tz5 tZ5 rfl (lE rfl) (.S rfl (HasO.cU (x := (128 : UInt8)) rfl (by decide)) .nil) rfl) <| bI hm fun x_5 hv_x_5 hm => jx (op_appendL (j := 0) lb tu37 tu37 rfl tB5 rfl (Nat.lt_of_lt_of_le Nat.zero_lt_one (lE rfl)) (Nat.lt_of_lt_of_le Nat.zero_lt_one (lE rfl))  rfl tR tR hv_x_5) (fun q => ?_)
 obtain ⟨go_6, gc_7⟩ := q
 refine jc (op_assign lb tR) <| jn <| bI hm fun o_16 hx1 hq1 => JC.seqJ (γ := Option Nat × Nat) (stj := fun q => ⟨[(0, ov (S (rL (rU UInt8)) b_1)), (3, ov (HDR q.1 0 (List.length o_16) q.2))], [cown q.1 (rU UInt8) o_16 0 q.2], []⟩) (fun q => ?_) ?_
 · obtain ⟨go_17, gc_18⟩ := q
   refine JC.at ⟨[(0, ov (S (rL (rU UInt8)) b_1)), (3, ov (HDR go_17 0 (List.length o_16) gc_18))], [cown go_17 (rU UInt8) o_16 0 gc_18], []⟩ <| jr <| jmv rfl rfl <| jmv rfl rfl <| jc (op_lenL lb tu37 tR) <| lI hq1 fun v_19 hv_19 hq1 => jc (op_convIU lb tu3 tu71 tR hv_19) <| lI hq1 fun v_20 hv_20 hq1 => jc (op_arU lb tR (HasO.cU (x := (8 : UInt64)) rfl (by decide)) (cs hv_20)) <| bI hq1 fun v_21 hv_21 hq1 => jx (op_call (js := []) ld cl39 (sim_ref01_Put k v_20 (8 : Int) v_21 hv_21) .func (.cons tR (.cons .cI .nil)) rfl) fun go_22 => ?_
   obtain ⟨o_23, hv_o_23, hq1⟩ := bnd_inv hq1
   refine jx (op_appendO (j := 1) (j' := 0) lb tu37 tu37 rfl tB5 rfl (Nat.lt_of_lt_of_le Nat.zero_lt_one (lE rfl)) (Nat.lt_of_lt_of_le Nat.zero_lt_one (lE rfl))  rfl tR rfl tR hv_o_23) (fun q => ?_)
   obtain ⟨go_24, gc_25⟩ := q
   refine jc (op_assign lb tR) <| JL.nrm ⟨[(2, ov (HDR go_24 0 (List.length o_23) gc_25))], [cown go_24 (rU UInt8) o_23 0 gc_25], []⟩ [1] rfl (.cons rfl .nil) rfl <| jn <| JC.ret ?_
   obtain rfl := so hq1
   exact JQ.done (js := [0]) (ss := [.val (HDR go_24 0 (List.length o_23) gc_25)]) (go_24, gc_25) (.inl rfl) (.nil rfl) rfl (.cons (.tmp rfl) .nil) rfl rfl rfl
 refine JC.block <| JC.pre ?_ (JC.loop (γ := Option Nat × Nat) (stf := fun s q => ⟨[(0, ov (S (rL (rU UInt8)) b_1)), (3, ov (HDR q.1 0 (List.length s) q.2))], [cown q.1 (rU UInt8) s 0 q.2], []⟩) (q := (go_6, gc_7)) hx1 ?_)
 · exact (Imp.norm (js := [0]) rfl (.cons rfl (.cons rfl .nil)))
 intro o_8 q x hx hr
 obtain ⟨go_9, gc_10⟩ := q
 change ref03_pad.b1 k o_8 = some x at hx
 unfold ref03_pad.b1 at hx
 refine JC.at ⟨[(0, ov (S (rL (rU UInt8)) b_1)), (3, ov (HDR go_9 0 (List.length o_8) gc_10))], [cown go_9 (rU UInt8) o_8 0 gc_10], []⟩ <| JC.seq <| jr <| jmv rfl rfl <| jc (op_lenH lb tu37 tR) <| bI hx fun v_11 hv_11 hx => jc (op_arI lb tR .cI hv_11) <| lI hx fun v_12 hv_12 hx => jc (op_cmpI lb tR .cI (cs hv_12)) <| jn <| jif tR hx (fun hc3 hx => ?_) (fun hc3 hx => ?_)
 · refine JC.skip <| JQ.then <| JC.block <| JC.region <| jmv rfl rfl <| jc (op_buildF (r := (rU UInt8)) lb tu37 tz5 tZ5 rfl (lE rfl) (.S rfl (HasO.cU (x := (0 : UInt8)) rfl (by decide)) .nil) rfl) <| bI hx fun o_13 hv_o_13 hx => jx (op_appendL (j := 0) lb tu37 tu37 rfl tB5 rfl (Nat.lt_of_lt_of_le Nat.zero_lt_one (lE rfl)) (Nat.lt_of_lt_of_le Nat.zero_lt_one (lE rfl))  rfl tR tR hv_o_13) (fun q => ?_)
   obtain ⟨go_14, gc_15⟩ := q
   refine jc (op_assign lb tR) <| JL.nil <| JQ.outNB ?_
   try obtain rfl := so hx
   exact JQ.next (go_14, gc_15) rfl (Imp.norm (js := [0]) rfl (.cons rfl (.cons rfl .nil)))
 refine JC.exit <| JQ.outX ?_
 try obtain rfl := so hx
 have ht := hr _ rfl
 have hq2 := cs ht
 clear hr ht
 refine JQ.outX <| JQ.here ?_
 try obtain rfl := so hq2
 exact JQ.join (go_9, gc_10) (Imp.norm (js := [0]) rfl (.cons rfl (.cons rfl .nil)))

theorem sim_ref01_Get (k : Nat) (b_1 : (List UInt8)) (r : UInt64) (hm : ref01_Get k b_1 = some r) : Sim Try.prog 40 [S (rL (rU UInt8)) b_1] [] (γ := Unit) (fun q => []) (fun q => .one (.val (S (rU UInt64) r))) := by
 unfold ref01_Get at hm
 refine Sim.of Try.func40 rfl rfl (lE rfl) (fun e0 w0 => ?_)
 refine JC.at ⟨[(0, ov (S (rL (rU UInt8)) b_1))], [], []⟩ <| jr <| jc (op_assign lb (HasO.cU (x := (0 : UInt64)) rfl (by decide))) <| jn <| jr <| jc (op_assign lb (HasO.cU (x := (0 : UInt64)) rfl (by decide))) <| jn <| bI hm fun n_10 hx1 hq1 => JC.seqJ (γ := Unit) (stj := fun _ => ⟨[(3, ov (S (rU UInt64) n_10))], [], []⟩) (fun _ => ?_) ?_
 · refine jr <| jmv rfl rfl <| jc (op_assign lb tR) <| jn <| JC.ret ?_
   obtain rfl := so hq1
   exact jd (.val (S (rU UInt64) n_10)) rfl rfl rfl rfl rfl rfl
 refine jr <| jc (op_assign lb .cI) <| jn <| JC.block <| JC.pre ?_ (JC.loop (γ := Unit) (stf := fun s q => ⟨[(0, ov (S (rL (rU UInt8)) b_1)), (3, ov (S (rU UInt64) s.1)), (4, ov (S (rI .i64) s.2))], [], []⟩) (q := ()) hx1 ?_)
 · exact (Imp.norm (js := []) rfl (.cons rfl (.cons rfl (.cons rfl .nil))))
 intro s q x hx hr
 obtain ⟨n_2, i_3⟩ := s
 obtain _ := q
 change ref01_Get.b1 k b_1 n_2 i_3 = some x at hx
 unfold ref01_Get.b1 at hx
 refine JC.at ⟨[(0, ov (S (rL (rU UInt8)) b_1)), (3, ov (S (rU UInt64) n_2)), (4, ov (S (rI .i64) i_3))], [], []⟩ <| JC.seq <| jr <| jmv rfl rfl <| jmv rfl rfl <| jc (op_lenL lb tu37 tR) <| lI hx fun v_4 hv_4 hx => jc (op_cmpI lb tR tR (cs hv_4)) <| jn <| jif tR hx (fun hc3 hx => ?_) (fun hc3 hx => ?_)
 · refine JC.skip <| JQ.then <| JC.seq <| JC.block <| JC.region <| jmv rfl rfl <| lI hx fun v_5 hv_5 hx => jc (op_arU lb tR (HasO.cU (x := (256 : UInt64)) rfl (by decide)) (cs hv_5)) <| jmv rfl rfl <| jmv rfl rfl <| bI hx fun v_6 hv_6 hx => jc (op_indexAddrLg lb tu37 tz5 tR tR hv_6) <| jc (op_loadPSg lb tS5 rfl tR rfl) <| lI hx fun v_7 hv_7 hx => jc (op_convUU lb tu5 tu71 tR hv_7) ?_
   obtain ⟨v_8, hv_8, hx⟩ := lt1_inv hx
   refine jc (op_arU lb tR tR (cs hv_8)) <| JL.sub ⟨[(0, ov (S (rL (rU UInt8)) b_1)), (3, ov (S (rU UInt64) n_2)), (4, ov (S (rI .i64) i_3)), (18, ov (S (rU UInt64) v_8))], [], []⟩ (.cons rfl (.cons rfl (.cons rfl (.cons rfl .nil)))) rfl rfl <| jc (op_assign lb tR) <| JL.nil <| JQ.outNB <| JQ.then <| JC.region <| jmv rfl rfl <| lI hx fun v_9 hv_9 hx => jc (op_arI lb tR .cI (cs hv_9)) <| jc (op_assign lb tR) <| JL.nil ?_
   try obtain rfl := so hx
   exact JQ.next () rfl (Imp.norm (js := []) rfl (.cons rfl (.cons rfl (.cons rfl .nil))))
 refine JC.exit <| JQ.outX ?_
 try obtain rfl := so hx
 have ht := hr _ rfl
 have hq2 := cs ht
 clear hr ht
 refine JQ.outX <| JQ.here ?_
 try obtain rfl := so hq2
 exact jo rfl rfl rfl

theorem sim_ref03_ror (k : Nat) (x_1 : UInt32) (n_2 : UInt64) (r : UInt32) (hm : ref03_ror k x_1 n_2 = some r) : Sim Try.prog 41 [S (rU UInt32) x_1, S (rU UInt64) n_2] [] (γ := Unit) (fun q => []) (fun q => .one (.val (S (rU UInt32) r))) := by
 unfold ref03_ror at hm
 refine Sim.of Try.func41 rfl rfl (lE rfl) (fun e0 w0 => ?_)
 refine JC.at ⟨[(0, ov (S (rU UInt32) x_1)), (1, ov (S (rU UInt64) n_2))], [], []⟩ <| jr <| jc (op_assign lb (HasO.cU (x := (0 : UInt32)) rfl (by decide))) <| jn <| jr <| jmv rfl rfl <| jmv rfl rfl <| lI hm fun v_3 hv_3 hm => jc (op_shrUU lb tR tR hv_3) <| jmv rfl rfl <| jmv rfl rfl <| lI hm fun v_4 hv_4 hm => jc (op_arU lb (HasO.cU (x := (32 : UInt64)) rfl (by decide)) tR (cs hv_4)) <| lI hm fun v_5 hv_5 hm => jc (op_shlUU lb tR tR hv_5) ?_
 refine lI hm fun v_6 hv_6 hm => jc (op_arU lb tR tR (cs hv_6)) <| jc (op_assign lb tR) <| jn <| JC.ret ?_
 obtain rfl := so hm
 exact jd (.val (S (rU UInt32) v_6)) rfl rfl rfl rfl rfl rfl

end Go.Proofs.Ytbflmobpbjnekaa
