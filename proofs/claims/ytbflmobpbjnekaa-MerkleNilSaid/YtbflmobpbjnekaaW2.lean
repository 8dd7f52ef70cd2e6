/- Walks. -/
import Derived.Test.YtbflmobpbjnekaaT
import Derived.Test.YtbflmobpbjnekaaW1
namespace Go.Proofs.Ytbflmobpbjnekaa
open Go Fw
set_option linter.unusedVariables false
set_option maxRecDepth 100000
set_option maxHeartbeats 4000000

theorem sim_merkle_Leaf (k : Nat) (bucket_1 : Int) (b_2 : (List UInt8)) (r : (Vector UInt8 32) × Int) (hm : merkle_Leaf k bucket_1 b_2 = some r) : Sim Try.prog 28 [S (rI .i64) bucket_1, S (rL (rU UInt8)) b_2] [] (γ := Unit) (fun q => []) (fun q => .tup [.val (A (rV 32 (rU UInt8)) r.1), .val (S (rI .i64) r.2)]) := by
 unfold merkle_Leaf at hm
 refine Sim.of Try.func28 rfl rfl (lE rfl) (fun e0 w0 => ?_)
 refine JC.at ⟨[(0, ov (S (rI .i64) bucket_1)), (1, ov (S (rL (rU UInt8)) b_2))], [], []⟩ <| jr <| jx (op_alloc lb tZ30 zr30) fun gb_3 => jc (op_assign lb .cI) <| jn <| JC.seq <| bI hm fun x_7 hx1 hq1 => JC.seqJ (γ := Unit) (stj := fun _ => ⟨[(0, ov (S (rI .i64) bucket_1)), (1, ov (S (rL (rU UInt8)) b_2)), (4, ov (PTR gb_3 0)), (11, ov (S rB x_7))], [cvar gb_3 (rV 32 (rU UInt8)) (Vector.replicate 32 (0 : UInt8))], []⟩) (fun _ => ?_) ?_
 · refine jif tR hq1 (fun hc5 hq1 => ?_) (fun hc5 hq1 => ?_)
   · refine jr <| jc (op_build lb tZ30 zv30 tp30 .nil rfl) <| jc (op_storeA (j := 0) tA30 tR tR rfl (UpdR.self (by rfl)) rfl) <| jc (op_assign lb .cI) <| jn <| JC.ret <| JQ.outR ?_
     obtain rfl := so hq1
     exact JQ.done (js := []) (ss := [.val (A (rV 32 (rU UInt8)) (Vector.replicate 32 (0 : UInt8))), .val (S (rI .i64) (2 : Int))]) () (.inl rfl) (.nil rfl) rfl (.cons (.cellA (j := 0) tA30 rfl rfl) (.cons (.tmp rfl) .nil)) rfl rfl rfl
   refine JC.skip <| JQ.then <| jr <| jmv rfl rfl <| lI hq1 fun v_8 hv_8 hq1 => jc (op_convIU lb tu3 tu5 tR hv_8) <| jc (op_buildF (r := (rU UInt8)) lb tu37 tz5 tZ5 rfl (lE rfl) (.S rfl (HasO.cU (x := (0 : UInt8)) rfl (by decide)) (.S rfl tR .nil)) rfl) <| jmv rfl rfl <| jc (op_buildF (r := (rL (rU UInt8))) lb tu76 tz37 tZ37 rfl (lE rfl) (.S rfl tR (.S rfl tR .nil)) rfl) <| bI hq1 fun v_9 hv_9 hq1 => jx (op_call (js := []) ld cl37 (sim_sha_Sum k ([([(0 : UInt8), v_8] : (List UInt8)), b_2] : (List (List UInt8))) v_9 hv_9) .func (.cons tR .nil) rfl) fun _ => jc (op_storeA (j := 0) tA30 tR tR rfl (UpdR.self (by rfl)) rfl) <| jc (op_assign lb .cI) <| jn <| JC.ret ?_
   obtain rfl := so hq1
   exact JQ.done (js := []) (ss := [.val (A (rV 32 (rU UInt8)) v_9), .val (S (rI .i64) (0 : Int))]) () (.inl rfl) (.nil rfl) rfl (.cons (.cellA (j := 0) tA30 rfl rfl) (.cons (.tmp rfl) .nil)) rfl rfl rfl
 refine JC.region <| jmv rfl rfl <| lI hx1 fun v_4 hv_4 hx1 => jc (op_cmpI lb tR .cI (cs hv_4)) <| jmv rfl rfl <| jF (ov (S (rI .i64) bucket_1)) rfl rfl rfl rfl (fun hq_2 => op_move lb tR) <| lI hx1 fun v_5 hv_5 hx1 => jF (ov (S rB v_5)) rfl rfl rfl rfl (fun hq_3 => op_cmpI lb (HasO.cnd tR (notT (notF hq_3))) .cI (cs hv_5)) <| lI hx1 fun v_6 hv_6 hx1 => jc (op_pickCS lb tR (fun hb4 => .cB) (fun hb4 => (HasO.cnd tR (notT hb4))) hv_6) <| JL.nil ?_
 try obtain rfl := so hx1
 exact JQ.join () (Imp.norm (js := [0]) rfl (.cons rfl (.cons rfl (.cons rfl (.cons rfl .nil)))))

theorem sim_merkle_Tree_inner (k : Nat) (n_1 : Int) (t_2 : merkle_Tree) (gb_3 : Nat) (r : merkle_Tree) (hm : merkle_Tree_inner k n_1 t_2 = some r) : Sim Try.prog 26 [PTR gb_3 0, S (rI .i64) n_1] [cvar gb_3 r_merkle_Tree t_2] (γ := Unit) (fun q => [cvar gb_3 r_merkle_Tree r]) (fun q => .tup []) := by
 unfold merkle_Tree_inner at hm
 refine Sim.of Try.func26 rfl rfl (lE rfl) (fun e0 w0 => ?_)
 refine JC.at ⟨[(0, ov (PTR gb_3 0)), (1, ov (S (rI .i64) n_1))], [cvar gb_3 r_merkle_Tree t_2], []⟩ <| lI hm fun v_4 hv_4 hm => bI hm fun i_5 hv_i_5 hm => bI hm fun v_6 hv_6 hm => lI hm fun v_7 hv_7 hm => lI hm fun v_8 hv_8 hm => bI hm fun i_9 hv_i_9 hm => bI hm fun v_10 hv_10 hm => ?_
 obtain ⟨v_11, hv_11, hm⟩ := bnd_inv hm
 refine bI hm fun i_12 hv_i_12 hm => ?_
 obtain ⟨t_13, hv_t_13, hm⟩ := lt1_inv hm
 refine JC.anyF (base := [(0, ov (PTR gb_3 0)), (1, ov (S (rI .i64) n_1))])
     (fs := fun γ => [⟨some 4, ov (PTR gb_3 0)⟩, ⟨some 5, ov (S (rI .i64) n_1)⟩, ⟨some 6, ov (S (rL (rU UInt8)) ([(1 : UInt8)] : (List UInt8)))⟩, ⟨some 7, ov (PTR gb_3 0)⟩, ⟨some 8, ov (S (rI .i64) n_1)⟩, ⟨some 9, ov (S (rI .i64) v_4)⟩, ⟨some 10, ov (PTR gb_3 0)⟩, ⟨some 11, ov (PTR gb_3 (0 + 0))⟩, ⟨some 12, ov (PTR gb_3 ((0 + 0) + i_5.1 * 32))⟩, ⟨some 13, ov (S (rBo (KV r_merkle_Tree t_2 gb_3) (rL (rU UInt8))) v_6)⟩, ⟨some 14, ov (PTR gb_3 0)⟩, ⟨some 15, ov (S (rI .i64) n_1)⟩, ⟨some 16, ov (S (rI .i64) v_7)⟩, ⟨some 17, ov (S (rI .i64) v_8)⟩, ⟨some 18, ov (PTR gb_3 0)⟩, ⟨some 19, ov (PTR gb_3 (0 + 0))⟩, ⟨some 20, ov (PTR gb_3 ((0 + 0) + i_9.1 * 32))⟩, ⟨some 21, ov (S (rBo (KV r_merkle_Tree t_2 gb_3) (rL (rU UInt8))) v_10)⟩, ⟨some 22, ov (S (rL (rBo (KV r_merkle_Tree t_2 gb_3) (rL (rU UInt8)))) ([([(1 : UInt8)] : (List UInt8)), v_6, v_10] : (List (List UInt8))))⟩, ⟨some 23, ov (A (rV 32 (rU UInt8)) v_11)⟩, ⟨some 24, ov (PTR gb_3 0)⟩, ⟨some 25, ov (PTR gb_3 (0 + 0))⟩, ⟨some 26, ov (PTR gb_3 ((0 + 0) + i_12.1 * 32))⟩, ⟨none, .one .any⟩])
     (rs := fun γ => [⟨cvar gb_3 r_merkle_Tree t_2, none, (some 23), [19]⟩, ⟨cvar gb_3 r_merkle_Tree t_13, (some 23), none, []⟩])
     (afts := nn 24) (js := [0]) mixed (.cons rfl (.cons rfl .nil)) (fun _ => rfl)
     (by
      refine db 1 0 <| db 2 1 <| dS 3 (fun γ ρ B hb hd => op_buildF (r := (rU UInt8)) lb tu37 tz5 tZ5 rfl (lE rfl) (.S rfl (HasO.cU (x := (1 : UInt8)) rfl (by decide)) .nil) rfl) <| db 4 0 <| db 5 1 ?_
      refine dS 6 (fun γ ρ B hb hd => op_arI lb .cI (tl hd 4 8) (cs hv_4)) <| dS 7 (fun γ ρ B hb hd => op_nilCheck lb (tl hd 3 7) (fun e v h => by subst h; rfl)) <| dS 8 (fun γ ρ B hb hd => op_fieldAddr (off := 0) lb tf52_0 (tl hd 6 10)) <| dS 9 (fun γ ρ B hb hd => op_indexAddrIF lb tr50 (tl hd 7 11) (tl hd 5 9) hv_i_5) <| dS 10 (fun γ ρ B hb hd => op_sliceB lb tu30 tz5 (tl hd 8 12) (Comp.at (cT (comp_merkle_Tree_n t_2) rfl) i_5.2 rfl) .none .none hv_6) ?_
      refine db 11 0 <| db 12 1 <| dS 13 (fun γ ρ B hb hd => op_arI lb .cI (tl hd 11 15) (cs hv_7)) <| dS 14 (fun γ ρ B hb hd => op_arI lb (tl hd 12 16) .cI (cs hv_8)) <| dS 15 (fun γ ρ B hb hd => op_nilCheck lb (tl hd 10 14) (fun e v h => by subst h; rfl)) ?_
      refine dS 16 (fun γ ρ B hb hd => op_fieldAddr (off := 0) lb tf52_0 (tl hd 14 18)) <| dS 17 (fun γ ρ B hb hd => op_indexAddrIF lb tr50 (tl hd 15 19) (tl hd 13 17) hv_i_9) <| dS 18 (fun γ ρ B hb hd => op_sliceB lb tu30 tz5 (tl hd 16 20) (Comp.at (cT (comp_merkle_Tree_n t_2) rfl) i_9.2 rfl) .none .none hv_10) <| dS 19 (fun γ ρ B hb hd => op_buildF (r := rBo (KV r_merkle_Tree t_2 gb_3) (rL (rU UInt8))) lb tu76 tz37 tZ37 rfl (lE rfl) (.S rfl (HasO.wk (q := S (rBo (KV r_merkle_Tree t_2 gb_3) (rL (rU UInt8))) ([(1 : UInt8)] : (List UInt8))) (tl hd 2 6) wkBo) (.S rfl (tl hd 9 13) (.S rfl (tl hd 17 21) .nil))) rfl) <| dR 20 (fun γ ρ B hb hd => OpStep.lk ⟨ρ, (cvar gb_3 r_merkle_Tree t_2) :: B, _⟩ ((op_callL (j := 0) ld cl37 rfl (sim_sha_Sum k ([([(1 : UInt8)] : (List UInt8)), v_6, v_10] : (List (List UInt8))) v_11 hv_11) .func (.cons (tl hd 18 22) .nil) (ArgsB.cons boL ArgsB.nil) (fun _ => EF.sA (EF.v EF.u))).post (fun _ => Imp.refl))) ?_
      refine dS 21 (fun γ ρ B hb hd => op_nilCheck lb (tl hd 0 4) (fun e v h => by subst h; rfl)) <| dS 22 (fun γ ρ B hb hd => op_fieldAddr (off := 0) lb tf52_0 (tl hd 20 24)) <| dS 23 (fun γ ρ B hb hd => op_indexAddrIF lb tr50 (tl hd 21 25) (tl hd 1 5) hv_i_12) <| dR 24 (fun γ ρ B hb hd => OpStep.at ⟨ρ, (cvar gb_3 r_merkle_Tree t_2) :: B, _⟩ (setO ⟨ρ, (cvar gb_3 r_merkle_Tree t_13) :: B, _⟩ _ _) (op_storeA (j := 0) tA30 (tl hd 22 26) (tl hd 19 23) rfl (Upd.at (cT (comp_merkle_Tree_n t_2) rfl) i_12.2 rfl (Upd.trans (Comp.self r_merkle_Tree t_2) (Upd.self r_merkle_Tree t_2 _) (upd_merkle_Tree_n t_2 (putV t_2.n i_12 v_11)))).R hv_t_13)) ?_
      exact DSteps.nil)
     (by decide +kernel) (fun _ => rfl) (fun _ => rfl) (fun _ => rfl) rfl
     (ρ' := fun γ => [])
     (X' := fun γ => [cvar gb_3 r_merkle_Tree t_13])
     (fun γ ρ hb hd => .nil) (fun _ => rfl) (fun γ => ?_)
 refine JQ.at ⟨[], [cvar gb_3 r_merkle_Tree t_13], []⟩ ?_
 obtain rfl := so hm
 exact JQ.done (js := [0]) (ss := []) () (.inr rfl) (.nil rfl) rfl .nil rfl rfl rfl

theorem sim_merkle_Of_v0 (k : Nat) (leaves_1 : (List (Vector UInt8 32))) (r : merkle_Tree) (hm : merkle_Of k leaves_1 = some (.inl r)) : Sim Try.prog 8 [S (rL (rV 32 (rU UInt8))) leaves_1] [] (γ := Nat) (fun q => [cvar q r_merkle_Tree r]) (fun q => .tup [.val (PTR q 0), .val (S (rI .i64) (0 : Int))]) := by
 unfold merkle_Of at hm
 refine Sim.of Try.func8 rfl rfl (lE rfl) (fun e0 w0 => ?_)
 refine JC.at ⟨[(0, ov (S (rL (rV 32 (rU UInt8))) leaves_1))], [], []⟩ <| jr <| jc (op_assign lb (HasO.const (p := PTO none) fun _ => rfl)) <| jc (op_assign lb .cI) <| jn <| JC.seq <| jr <| jmv rfl rfl <| jc (op_lenL lb tu22 tR) <| lI hm fun v_2 hv_2 hm => jc (op_cmpI lb tR .cI (cs hv_2)) <| jn <| jif tR hm (fun hc1 hm => ?_) (fun hc1 hm => ?_)
 · refine jr <| jc (op_assign lb (HasO.const (p := PTO none) fun _ => rfl)) <| jc (op_assign lb .cI) <| jn <| JC.ret <| JQ.outR ?_
   cases hm
 refine JC.skip <| JQ.then <| jr <| jc (op_build lb tZ52 zs52 tp52 (.S (off := 4096) rfl .cB rfl ((UpdR.snd (UpdR.fst (UpdR.self (by rfl)))).at (by rfl)) .nil) rfl) <| jx (op_boxA lb tR) fun gb_3 => jc (op_assign lb tR) <| jn <| jr <| jmv rfl rfl <| jc (op_nilCheck lb tR (fun e v h => by subst h; rfl)) <| JL.sub ⟨[(0, ov (S (rL (rV 32 (rU UInt8))) leaves_1)), (4, ov (PTR gb_3 0)), (12, ov (PTR gb_3 0))], [cvar gb_3 zq1 zq3], []⟩ (.cons rfl (.cons rfl (.cons rfl .nil))) rfl rfl <| jc (op_fieldAddr (off := 0) lb tf52_0 tR) <| jc (op_sliceAV (l := 64) (h := 128) lb tu50 tz30 tR (.some .cI) .none (lE rfl) (lE rfl) (ltB rfl)) <| jmv rfl rfl <| lI hm fun t_4 hv_t_4 hm => jc (op_copyAV (j := 0) ld tu22 tz30 tR rfl (Comp.trans (Comp.self zq1 zq3) (Comp.at' (Comp.inF (Comp.self (rV 128 (rV 32 (rU UInt8))) ((merkle_Tree.mk (Vector.replicate 128 (Vector.replicate 32 (0 : UInt8))) false).n)) (lE rfl)) (by rfl : _ = 0)) (lE rfl)) (UpdR.fst (UpdR.self (by rfl))) (fun e a w => SrcN.list tR) (lE rfl) hv_t_4 rfl rfl) <| jn ?_
 obtain ⟨t_10, hx2, hq2⟩ := bnd_inv hm
 refine JC.seqJ (γ := Unit) (stj := fun _ => ⟨[(4, ov (PTR gb_3 0))], [cvar gb_3 r_merkle_Tree t_10], []⟩) (fun _ => ?_) ?_
 · refine jr <| jmv rfl rfl <| jc (op_assign lb tR) <| jc (op_assign lb .cI) <| jn <| JC.ret ?_
   injection hq2 with hq2
   injection hq2 with hq2
   subst hq2
   exact JQ.done (js := [0]) (ss := [.val (PTR gb_3 0), .val (S (rI .i64) (0 : Int))]) gb_3 (.inl rfl) (.nil rfl) rfl (.cons (.tmp rfl) (.cons (.tmp rfl) .nil)) rfl rfl rfl
 refine jr <| jc (op_assign lb .cI) <| jn <| JC.block <| JC.pre (Imp.var (j := 0) (q := r_merkle_Tree) (y := (merkle_Tree.mk t_4 true)) rfl (Wk.st Wk.refl)) ?_
 refine JC.pre ?_ (JC.loop (γ := Unit) (stf := fun s q => ⟨[(4, ov (PTR gb_3 0)), (5, ov (S (rI .i64) s.2))], [cvar gb_3 r_merkle_Tree s.1], []⟩) (q := ()) hx2 ?_)
 · exact (Imp.norm (js := [0]) rfl (.cons rfl (.cons rfl .nil)))
 intro s q x hx hr
 obtain ⟨t_5, n_6⟩ := s
 obtain _ := q
 change merkle_Of.b1 k t_5 n_6 = some x at hx
 unfold merkle_Of.b1 at hx
 refine JC.at ⟨[(4, ov (PTR gb_3 0)), (5, ov (S (rI .i64) n_6))], [cvar gb_3 r_merkle_Tree t_5], []⟩ <| JC.seq <| jr <| jmv rfl rfl <| lI hx fun v_7 hv_7 hx => jc (op_cmpI lb tR .cI (cs hv_7)) <| jn <| jif tR hx (fun hc4 hx => ?_) (fun hc4 hx => ?_)
 · refine JC.skip <| JQ.then <| JC.seq <| JC.block <| JC.region <| jmv rfl rfl <| jmv rfl rfl <| bI hx fun x_8 hv_x_8 hx => jx (op_call (js := [0]) ld cl26 (sim_merkle_Tree_inner k n_6 t_5 gb_3 x_8 hv_x_8) .func (.cons tR (.cons tR .nil)) rfl) fun _ => JL.nil <| JQ.outNB <| JQ.then <| JC.region <| jmv rfl rfl ?_
   obtain ⟨v_9, hv_9, hx⟩ := lt1_inv hx
   refine jc (op_arI lb tR .cI (cs hv_9)) <| jc (op_assign lb tR) <| JL.nil ?_
   try obtain rfl := so hx
   exact JQ.next () rfl (Imp.norm (js := [0]) rfl (.cons rfl (.cons rfl .nil)))
 refine JC.exit <| JQ.outX ?_
 try obtain rfl := so hx
 have ht := hr _ rfl
 have hq3 := cs ht
 clear hr ht
 refine JQ.outX <| JQ.here ?_
 try obtain rfl := so hq3
 exact JQ.join () (Imp.norm (js := [0]) rfl (.cons rfl .nil))

theorem sim_merkle_Of_v1 (k : Nat) (leaves_1 : (List (Vector UInt8 32))) (r : Unit) (hm : merkle_Of k leaves_1 = some (.inr r)) : Sim Try.prog 8 [S (rL (rV 32 (rU UInt8))) leaves_1] [] (γ := Unit) (fun q => []) (fun q => .tup [.val (PTO none), .val (S (rI .i64) (2 : Int))]) := by
 unfold merkle_Of at hm
 refine Sim.of Try.func8 rfl rfl (lE rfl) (fun e0 w0 => ?_)
 refine JC.at ⟨[(0, ov (S (rL (rV 32 (rU UInt8))) leaves_1))], [], []⟩ <| jr <| jc (op_assign lb (HasO.const (p := PTO none) fun _ => rfl)) <| jc (op_assign lb .cI) <| jn <| JC.seq <| jr <| jmv rfl rfl <| jc (op_lenL lb tu22 tR) <| lI hm fun v_2 hv_2 hm => jc (op_cmpI lb tR .cI (cs hv_2)) <| jn <| jif tR hm (fun hc1 hm => ?_) (fun hc1 hm => ?_)
 · exact jr <| jc (op_assign lb (HasO.const (p := PTO none) fun _ => rfl)) <| jc (op_assign lb .cI) <| jn <| JC.ret <| JQ.outR <| JQ.done (js := []) (ss := [.val (PTO none), .val (S (rI .i64) (2 : Int))]) () (.inl rfl) (.nil rfl) rfl (.cons (.tmp rfl) (.cons (.tmp rfl) .nil)) rfl rfl rfl
 refine JC.skip <| JQ.then <| jr <| jc (op_build lb tZ52 zs52 tp52 (.S (off := 4096) rfl .cB rfl ((UpdR.snd (UpdR.fst (UpdR.self (by rfl)))).at (by rfl)) .nil) rfl) <| jx (op_boxA lb tR) fun gb_3 => jc (op_assign lb tR) <| jn <| jr <| jmv rfl rfl <| jc (op_nilCheck lb tR (fun e v h => by subst h; rfl)) <| JL.sub ⟨[(0, ov (S (rL (rV 32 (rU UInt8))) leaves_1)), (4, ov (PTR gb_3 0)), (12, ov (PTR gb_3 0))], [cvar gb_3 zq1 zq3], []⟩ (.cons rfl (.cons rfl (.cons rfl .nil))) rfl rfl <| jc (op_fieldAddr (off := 0) lb tf52_0 tR) <| jc (op_sliceAV (l := 64) (h := 128) lb tu50 tz30 tR (.some .cI) .none (lE rfl) (lE rfl) (ltB rfl)) <| jmv rfl rfl <| lI hm fun t_4 hv_t_4 hm => jc (op_copyAV (j := 0) ld tu22 tz30 tR rfl (Comp.trans (Comp.self zq1 zq3) (Comp.at' (Comp.inF (Comp.self (rV 128 (rV 32 (rU UInt8))) ((merkle_Tree.mk (Vector.replicate 128 (Vector.replicate 32 (0 : UInt8))) false).n)) (lE rfl)) (by rfl : _ = 0)) (lE rfl)) (UpdR.fst (UpdR.self (by rfl))) (fun e a w => SrcN.list tR) (lE rfl) hv_t_4 rfl rfl) <| jn ?_
 obtain ⟨t_10, hx2, hq2⟩ := bnd_inv hm
 refine JC.seqJ (γ := Unit) (stj := fun _ => ⟨[(4, ov (PTR gb_3 0))], [cvar gb_3 r_merkle_Tree t_10], []⟩) (fun _ => ?_) ?_
 · refine jr <| jmv rfl rfl <| jc (op_assign lb tR) <| jc (op_assign lb .cI) <| jn <| JC.ret ?_
   cases hq2
 refine jr <| jc (op_assign lb .cI) <| jn <| JC.block <| JC.pre (Imp.var (j := 0) (q := r_merkle_Tree) (y := (merkle_Tree.mk t_4 true)) rfl (Wk.st Wk.refl)) ?_
 refine JC.pre ?_ (JC.loop (γ := Unit) (stf := fun s q => ⟨[(4, ov (PTR gb_3 0)), (5, ov (S (rI .i64) s.2))], [cvar gb_3 r_merkle_Tree s.1], []⟩) (q := ()) hx2 ?_)
 · exact (Imp.norm (js := [0]) rfl (.cons rfl (.cons rfl .nil)))
 intro s q x hx hr
 obtain ⟨t_5, n_6⟩ := s
 obtain _ := q
 change merkle_Of.b1 k t_5 n_6 = some x at hx
 unfold merkle_Of.b1 at hx
 refine JC.at ⟨[(4, ov (PTR gb_3 0)), (5, ov (S (rI .i64) n_6))], [cvar gb_3 r_merkle_Tree t_5], []⟩ <| JC.seq <| jr <| jmv rfl rfl <| lI hx fun v_7 hv_7 hx => jc (op_cmpI lb tR .cI (cs hv_7)) <| jn <| jif tR hx (fun hc4 hx => ?_) (fun hc4 hx => ?_)
 · refine JC.skip <| JQ.then <| JC.seq <| JC.block <| JC.region <| jmv rfl rfl <| jmv rfl rfl <| bI hx fun x_8 hv_x_8 hx => jx (op_call (js := [0]) ld cl26 (sim_merkle_Tree_inner k n_6 t_5 gb_3 x_8 hv_x_8) .func (.cons tR (.cons tR .nil)) rfl) fun _ => JL.nil <| JQ.outNB <| JQ.then <| JC.region <| jmv rfl rfl ?_
   obtain ⟨v_9, hv_9, hx⟩ := lt1_inv hx
   refine jc (op_arI lb tR .cI (cs hv_9)) <| jc (op_assign lb tR) <| JL.nil ?_
   try obtain rfl := so hx
   exact JQ.next () rfl (Imp.norm (js := [0]) rfl (.cons rfl (.cons rfl .nil)))
 refine JC.exit <| JQ.outX ?_
 try obtain rfl := so hx
 have ht := hr _ rfl
 have hq3 := cs ht
 clear hr ht
 refine JQ.outX <| JQ.here ?_
 try obtain rfl := so hq3
 exact JQ.join () (Imp.norm (js := [0]) rfl (.cons rfl .nil))

theorem sim_merkle_New_v0 (k : Nat) (r : merkle_Tree) (hm : merkle_New k = some (.inl r)) : Sim Try.prog 12 [] [] (γ := Nat) (fun q => [cvar q r_merkle_Tree r]) (fun q => .one (.val (PTR q 0))) := by
 unfold merkle_New at hm
 refine Sim.of Try.func12 rfl rfl (lE rfl) (fun e0 w0 => ?_)
 refine JC.at ⟨[], [], []⟩ <| jr <| jc (op_assign lb (HasO.const (p := PTO none) fun _ => rfl)) <| jn <| jr <| jc (op_assign lb HasO.nilH) <| jn <| bI hm fun l_13 hx1 hq1 => JC.seqJ (γ := Option Nat × Nat) (stj := fun q => ⟨[(1, ov (HDR q.1 0 (List.length l_13) q.2))], [cown q.1 (rV 32 (rU UInt8)) l_13 0 q.2], []⟩) (fun q => ?_) ?_
 · obtain ⟨go_14, gc_15⟩ := q
   refine JC.at ⟨[(1, ov (HDR go_14 0 (List.length l_13) gc_15))], [cown go_14 (rV 32 (rU UInt8)) l_13 0 gc_15], []⟩ <| jr <| jmv rfl rfl <| JL.pre (Imp.frz (j := 0) rfl (ImpK.slotH (s := 1) rfl (ImpK.slotH (s := 21) rfl ImpK.refl))) ?_
   obtain ⟨ts4, hs4, hq1⟩ := bnd_inv hq1
   rcases ts4 with ts4 | ts4
   · obtain ⟨v_16, hvv⟩ : ∃ z, z = ts4 := ⟨_, rfl⟩
     subst hvv
     dsimp only at hq1
     refine jx (op_call (js := []) ld cl8 (sim_merkle_Of_v0 k l_13 v_16 hs4) .func (.cons (HasO.wk tR wkHL) .nil) rfl) fun gb_17 => jmv rfl rfl <| jc (op_extract (i := 0) lb tR rfl) <| jc (op_extract (i := 1) lb tR rfl) <| jc (op_assign lb tR) <| jc (op_assign lb tR) <| jn <| jr <| jmv rfl rfl <| jc (op_assign lb tR) <| jn <| JC.ret ?_
     injection hq1 with hq1
     injection hq1 with hq1
     subst hq1
     exact JQ.done (js := [0]) (ss := [.val (PTR gb_17 0)]) gb_17 (.inl rfl) (.nil rfl) rfl (.cons (.tmp rfl) .nil) rfl rfl rfl
   obtain _ := ts4
   dsimp only at hq1
   refine jx (op_call (js := []) ld cl8 (sim_merkle_Of_v1 k l_13 () hs4) .func (.cons (HasO.wk tR wkHL) .nil) rfl) fun _ => jmv rfl rfl <| jc (op_extract (i := 0) lb tR rfl) <| jc (op_extract (i := 1) lb tR rfl) <| jc (op_assign lb tR) <| jc (op_assign lb tR) <| jn <| jr <| jmv rfl rfl <| jc (op_assign lb tR) <| jn <| JC.ret ?_
   cases hq1
 refine jr <| jc (op_move lb .cI) <| jn <| JC.block <| JC.pre (Imp.nilown (rV 32 (rU UInt8))) <| JC.pre ?_ (JC.loop (γ := Option Nat × Nat) (stf := fun s q => ⟨[(1, ov (HDR q.1 0 (List.length s.1) q.2)), (7, ov (S (rI .i64) s.2))], [cown q.1 (rV 32 (rU UInt8)) s.1 0 q.2], []⟩) (q := (none, 0)) hx1 ?_)
 · exact (Imp.norm (js := [0]) rfl (.cons rfl (.cons rfl .nil)))
 intro s q x hx hr
 obtain ⟨l_1, x_2⟩ := s
 obtain ⟨go_3, gc_4⟩ := q
 change merkle_New.b1 k l_1 x_2 = some x at hx
 unfold merkle_New.b1 at hx
 refine JC.at ⟨[(1, ov (HDR go_3 0 (List.length l_1) gc_4)), (7, ov (S (rI .i64) x_2))], [cown go_3 (rV 32 (rU UInt8)) l_1 0 gc_4], []⟩ <| jr <| lI hx fun v_5 hv_5 hx => jc (op_cmpI lb tR .cI (cs hv_5)) <| jn <| JC.seq <| jif tR hx (fun hc3 hx => ?_) (fun hc3 hx => ?_)
 · refine JC.skip <| JQ.then <| JC.seq <| JC.block <| jr <| jmv rfl rfl <| jc (op_assign lb tR) <| jn <| jr <| jmv rfl rfl ?_
   obtain ⟨⟨v_6, v_7⟩, hv_6, hx⟩ := bnd_inv hx
   refine jx (op_call (js := []) ld cl28 (sim_merkle_Leaf k x_2 ([] : (List UInt8)) (v_6, v_7) hv_6) .func (.cons tR (.cons (HasO.wk (q := S (rL (rU UInt8)) []) HasO.nilH wkNil) .nil)) rfl) fun _ => jmv rfl rfl <| jc (op_extract (i := 0) lb tR rfl) <| jc (op_extract (i := 1) lb tR rfl) <| jx (op_alloc lb tZ30 zr30) fun gb_8 => jc (op_storeA (j := 1) tA30 tR tR rfl (UpdR.self (by rfl)) rfl) <| JL.sub ⟨[(1, ov (HDR go_3 0 (List.length l_1) gc_4)), (3, ov (PTR gb_8 0)), (7, ov (S (rI .i64) x_2)), (14, ov (S (rI .i64) v_7))], [cown go_3 (rV 32 (rU UInt8)) l_1 0 gc_4, cvar gb_8 (rV 32 (rU UInt8)) v_6], []⟩ (.cons rfl (.cons rfl (.cons rfl (.cons rfl .nil)))) rfl rfl <| jc (op_assign lb tR) <| jn <| JC.region <| jmv rfl rfl <| jc (op_loadA (j := 1) lb tA30 tR rfl (Comp.self (rV 32 (rU UInt8)) v_6) rfl) <| jc (op_buildF (r := (rV 32 (rU UInt8))) lb tu22 tz30 tZ30 rfl (lE rfl) (.A tR .nil) rfl) <| bI hx fun l_9 hv_l_9 hx => jx (op_appendL (j := 0) lb tu22 tu22 rfl tB30 rfl (Nat.lt_of_lt_of_le Nat.zero_lt_one (lE rfl)) (Nat.lt_of_lt_of_le Nat.zero_lt_one (lE rfl))  rfl tR tR hv_l_9) (fun q => ?_)
   obtain ⟨go_10, gc_11⟩ := q
   refine jc (op_assign lb tR) <| JL.nil <| JQ.outNB <| JQ.then <| JC.region <| lI hx fun v_12 hv_12 hx => jc (op_arI lb tR .cI (cs hv_12)) <| jmv rfl rfl <| JL.nil ?_
   try obtain rfl := so hx
   exact JQ.next (go_10, gc_11) rfl (Imp.norm (js := [0]) rfl (.cons rfl (.cons rfl .nil)))
 refine JC.exit <| JQ.outX ?_
 try obtain rfl := so hx
 have ht := hr _ rfl
 have hq2 := cs ht
 clear hr ht
 refine JQ.outX <| JQ.here ?_
 try obtain rfl := so hq2
 exact JQ.join (go_3, gc_4) (Imp.norm (js := [0]) rfl (.cons rfl .nil))

theorem sim_merkle_New_v1 (k : Nat) (r : Unit) (hm : merkle_New k = some (.inr r)) : Sim Try.prog 12 [] [] (γ := Unit) (fun q => []) (fun q => .one (.val (PTO none))) := by
 unfold merkle_New at hm
 refine Sim.of Try.func12 rfl rfl (lE rfl) (fun e0 w0 => ?_)
 refine JC.at ⟨[], [], []⟩ <| jr <| jc (op_assign lb (HasO.const (p := PTO none) fun _ => rfl)) <| jn <| jr <| jc (op_assign lb HasO.nilH) <| jn <| bI hm fun l_13 hx1 hq1 => JC.seqJ (γ := Option Nat × Nat) (stj := fun q => ⟨[(1, ov (HDR q.1 0 (List.length l_13) q.2))], [cown q.1 (rV 32 (rU UInt8)) l_13 0 q.2], []⟩) (fun q => ?_) ?_
 · obtain ⟨go_14, gc_15⟩ := q
   refine JC.at ⟨[(1, ov (HDR go_14 0 (List.length l_13) gc_15))], [cown go_14 (rV 32 (rU UInt8)) l_13 0 gc_15], []⟩ <| jr <| jmv rfl rfl <| JL.pre (Imp.frz (j := 0) rfl (ImpK.slotH (s := 1) rfl (ImpK.slotH (s := 21) rfl ImpK.refl))) ?_
   obtain ⟨ts4, hs4, hq1⟩ := bnd_inv hq1
   rcases ts4 with ts4 | ts4
   · obtain ⟨v_16, hvv⟩ : ∃ z, z = ts4 := ⟨_, rfl⟩
     subst hvv
     dsimp only at hq1
     refine jx (op_call (js := []) ld cl8 (sim_merkle_Of_v0 k l_13 v_16 hs4) .func (.cons (HasO.wk tR wkHL) .nil) rfl) fun gb_17 => jmv rfl rfl <| jc (op_extract (i := 0) lb tR rfl) <| jc (op_extract (i := 1) lb tR rfl) <| jc (op_assign lb tR) <| jc (op_assign lb tR) <| jn <| jr <| jmv rfl rfl <| jc (op_assign lb tR) <| jn <| JC.ret ?_
     cases hq1
   obtain _ := ts4
   dsimp only at hq1
   exact jx (op_call (js := []) ld cl8 (sim_merkle_Of_v1 k l_13 () hs4) .func (.cons (HasO.wk tR wkHL) .nil) rfl) fun _ => jmv rfl rfl <| jc (op_extract (i := 0) lb tR rfl) <| jc (op_extract (i := 1) lb tR rfl) <| jc (op_assign lb tR) <| jc (op_assign lb tR) <| jn <| jr <| jmv rfl rfl <| jc (op_assign lb tR) <| jn <| JC.ret <| JQ.done (js := []) (ss := [.val (PTO none)]) () (.inl rfl) (.nil rfl) rfl (.cons (.tmp rfl) .nil) rfl rfl rfl
 refine jr <| jc (op_move lb .cI) <| jn <| JC.block <| JC.pre (Imp.nilown (rV 32 (rU UInt8))) <| JC.pre ?_ (JC.loop (γ := Option Nat × Nat) (stf := fun s q => ⟨[(1, ov (HDR q.1 0 (List.length s.1) q.2)), (7, ov (S (rI .i64) s.2))], [cown q.1 (rV 32 (rU UInt8)) s.1 0 q.2], []⟩) (q := (none, 0)) hx1 ?_)
 · exact (Imp.norm (js := [0]) rfl (.cons rfl (.cons rfl .nil)))
 intro s q x hx hr
 obtain ⟨l_1, x_2⟩ := s
 obtain ⟨go_3, gc_4⟩ := q
 change merkle_New.b1 k l_1 x_2 = some x at hx
 unfold merkle_New.b1 at hx
 refine JC.at ⟨[(1, ov (HDR go_3 0 (List.length l_1) gc_4)), (7, ov (S (rI .i64) x_2))], [cown go_3 (rV 32 (rU UInt8)) l_1 0 gc_4], []⟩ <| jr <| lI hx fun v_5 hv_5 hx => jc (op_cmpI lb tR .cI (cs hv_5)) <| jn <| JC.seq <| jif tR hx (fun hc3 hx => ?_) (fun hc3 hx => ?_)
 · refine JC.skip <| JQ.then <| JC.seq <| JC.block <| jr <| jmv rfl rfl <| jc (op_assign lb tR) <| jn <| jr <| jmv rfl rfl ?_
   obtain ⟨⟨v_6, v_7⟩, hv_6, hx⟩ := bnd_inv hx
   refine jx (op_call (js := []) ld cl28 (sim_merkle_Leaf k x_2 ([] : (List UInt8)) (v_6, v_7) hv_6) .func (.cons tR (.cons (HasO.wk (q := S (rL (rU UInt8)) []) HasO.nilH wkNil) .nil)) rfl) fun _ => jmv rfl rfl <| jc (op_extract (i := 0) lb tR rfl) <| jc (op_extract (i := 1) lb tR rfl) <| jx (op_alloc lb tZ30 zr30) fun gb_8 => jc (op_storeA (j := 1) tA30 tR tR rfl (UpdR.self (by rfl)) rfl) <| JL.sub ⟨[(1, ov (HDR go_3 0 (List.length l_1) gc_4)), (3, ov (PTR gb_8 0)), (7, ov (S (rI .i64) x_2)), (14, ov (S (rI .i64) v_7))], [cown go_3 (rV 32 (rU UInt8)) l_1 0 gc_4, cvar gb_8 (rV 32 (rU UInt8)) v_6], []⟩ (.cons rfl (.cons rfl (.cons rfl (.cons rfl .nil)))) rfl rfl <| jc (op_assign lb tR) <| jn <| JC.region <| jmv rfl rfl <| jc (op_loadA (j := 1) lb tA30 tR rfl (Comp.self (rV 32 (rU UInt8)) v_6) rfl) <| jc (op_buildF (r := (rV 32 (rU UInt8))) lb tu22 tz30 tZ30 rfl (lE rfl) (.A tR .nil) rfl) <| bI hx fun l_9 hv_l_9 hx => jx (op_appendL (j := 0) lb tu22 tu22 rfl tB30 rfl (Nat.lt_of_lt_of_le Nat.zero_lt_one (lE rfl)) (Nat.lt_of_lt_of_le Nat.zero_lt_one (lE rfl))  rfl tR tR hv_l_9) (fun q => ?_)
   obtain ⟨go_10, gc_11⟩ := q
   refine jc (op_assign lb tR) <| JL.nil <| JQ.outNB <| JQ.then <| JC.region <| lI hx fun v_12 hv_12 hx => jc (op_arI lb tR .cI (cs hv_12)) <| jmv rfl rfl <| JL.nil ?_
   try obtain rfl := so hx
   exact JQ.next (go_10, gc_11) rfl (Imp.norm (js := [0]) rfl (.cons rfl (.cons rfl .nil)))
 refine JC.exit <| JQ.outX ?_
 try obtain rfl := so hx
 have ht := hr _ rfl
 have hq2 := cs ht
 clear hr ht
 refine JQ.outX <| JQ.here ?_
 try obtain rfl := so hq2
 exact JQ.join (go_3, gc_4) (Imp.norm (js := [0]) rfl (.cons rfl .nil))

theorem sim_merkle_Tree_there_n (k : Nat) (r : Unit) (hm : merkle_Tree_there_n k = some r) : Sim Try.prog 29 [PTO none] [] (γ := Unit) (fun q => []) (fun q => .one (.val (S rB false))) := by
 unfold merkle_Tree_there_n at hm
 refine Sim.of Try.func29 rfl rfl (lE rfl) (fun e0 w0 => ?_)
 refine JC.at ⟨[(0, ov (PTO none))], [], []⟩ <| jr <| jc (op_assign lb .cB) <| jn <| bI hm fun _ hx1 hq1 => JC.seqJ (γ := Unit) (stj := fun _ => ⟨[(2, ov (S rB false))], [], []⟩) (fun _ => ?_) ?_
 · exact JC.ret <| jd (.val (S rB false)) rfl rfl rfl rfl rfl rfl
 exact JC.region <| jmv rfl rfl <| jc (op_nilO (neg := true) (ob := none) lb tu24 tR (HasO.const (p := PTO none) fun _ => rfl) rfl) <| jmv rfl rfl <| jk rfl rfl <| jk rfl rfl <| jk rfl rfl <| jk rfl rfl <| jc (op_pickF lb tR rfl .cB) <| jc (op_assign lb tR) <| JL.nil <| jo rfl rfl rfl

theorem sim_merkle_Tree_Node_nv (k : Nat) (n_1 : Int) (r : Unit) (hm : merkle_Tree_Node_nv k n_1 = some r) : Sim Try.prog 14 [PTO none, S (rI .i64) n_1] [] (γ := Unit) (fun q => []) (fun q => .tup [.val (A (rV 32 (rU UInt8)) (Vector.replicate 32 (0 : UInt8))), .val (S (rI .i64) (1 : Int))]) := by
 unfold merkle_Tree_Node_nv at hm
 refine Sim.of Try.func14 rfl rfl (lE rfl) (fun e0 w0 => ?_)
 refine JC.at ⟨[(0, ov (PTO none)), (1, ov (S (rI .i64) n_1))], [], []⟩ <| jr <| jx (op_alloc lb tZ30 zr30) fun gb_2 => jc (op_assign lb .cI) <| jn <| JC.seq <| JC.block <| jr <| jmv rfl rfl <| bI hm fun _ hv_u_3 hm => jx (op_call (js := []) ld cl29 (sim_merkle_Tree_there_n k () hv_u_3) .func (.cons tR .nil) rfl) fun _ => jc (op_not lb tR rfl) <| jc (op_assign lb tR) <| jn <| JC.condT tR rfl ?_
 exact jr <| jc (op_build lb tZ30 zv30 tp30 .nil rfl) <| jc (op_storeA (j := 0) tA30 tR tR rfl (UpdR.self (by rfl)) rfl) <| jc (op_assign lb .cI) <| jn <| JC.ret <| JQ.outRB <| JQ.outR <| JQ.done (js := []) (ss := [.val (A (rV 32 (rU UInt8)) (Vector.replicate 32 (0 : UInt8))), .val (S (rI .i64) (1 : Int))]) () (.inl rfl) (.nil rfl) rfl (.cons (.cellA (j := 0) tA30 rfl rfl) (.cons (.tmp rfl) .nil)) rfl rfl rfl

theorem sim_merkle_Tree_Diff_np (k : Nat) (o_1 : merkle_Tree) (gb_2 : Nat) (r : Unit) (hm : merkle_Tree_Diff_np k o_1 = some r) : Sim Try.prog 24 [PTO none, PTR gb_2 0] [cvar gb_2 r_merkle_Tree o_1] (γ := Unit) (fun q => [cvar gb_2 r_merkle_Tree o_1]) (fun q => .tup [.val (HDR none 0 0 0), .val (S (rI .i64) (0 : Int)), .val (S (rI .i64) (1 : Int))]) := by
 unfold merkle_Tree_Diff_np at hm
 refine Sim.of Try.func24 rfl rfl (lE rfl) (fun e0 w0 => ?_)
 refine JC.at ⟨[(0, ov (PTO none)), (1, ov (PTR gb_2 0))], [cvar gb_2 r_merkle_Tree o_1], []⟩ <| jr <| jx (op_boxW lb tR) fun gb_3 => jx (op_boxW lb tR) fun gb_4 => jc (op_assign lb HasO.nilH) <| jc (op_assign lb .cI) <| jc (op_assign lb .cI) <| jn <| JC.seq <| bI hm fun _ hx1 hq1 => JC.seqJ (γ := Unit) (stj := fun _ => ⟨[(2, ov (PTR gb_3 0)), (3, ov (PTR gb_4 0)), (17, ov (S rB true))], [cvar gb_3 (rW (PTO none)) (), cvar gb_4 (rW (PTR gb_2 0)) (), cvar gb_2 r_merkle_Tree o_1], []⟩) (fun _ => ?_) ?_
 · exact JC.condT tR rfl <| jr <| jc (op_assign lb HasO.nilH) <| jc (op_assign lb .cI) <| jc (op_assign lb .cI) <| jn <| JC.ret <| JQ.outR <| JQ.done (js := [2]) (ss := [.val (HDR none 0 0 0), .val (S (rI .i64) (0 : Int)), .val (S (rI .i64) (1 : Int))]) () (.inl rfl) (.nil rfl) rfl (.cons (.tmp rfl) (.cons (.tmp rfl) (.cons (.tmp rfl) .nil))) rfl rfl rfl
 exact JC.region <| jc (op_loadW (j := 1) lb tS24 tR rfl (Comp.self (rW (PTO none)) ())) <| bI hx1 fun _ hv_u_5 hx1 => jx (op_call (js := []) ld cl29 (sim_merkle_Tree_there_n k () hv_u_5) .func (.cons tR .nil) rfl) fun _ => jc (op_not lb tR rfl) <| JL.sub ⟨[(2, ov (PTR gb_3 0)), (3, ov (PTR gb_4 0)), (12, ov (S rB true))], [cvar gb_2 r_merkle_Tree o_1, cvar gb_3 (rW (PTO none)) (), cvar gb_4 (rW (PTR gb_2 0)) ()], []⟩ (.cons rfl (.cons rfl (.cons rfl .nil))) rfl rfl <| jmv rfl rfl <| jk rfl rfl <| jk rfl rfl <| jk rfl rfl <| jc (op_pickT lb tR rfl .cB) <| JL.nil <| JQ.join () (Imp.norm (js := [1, 1, 0]) rfl (.cons rfl (.cons rfl (.cons rfl .nil))))

theorem sim_merkle_Tree_there (k : Nat) (t_1 : merkle_Tree) (gb_2 : Nat) (r : Unit) (hm : merkle_Tree_there k t_1 = some r) : Sim Try.prog 29 [PTR gb_2 0] [cvar gb_2 r_merkle_Tree t_1] (γ := Unit) (fun q => [cvar gb_2 r_merkle_Tree t_1]) (fun q => .one (.val (S rB t_1.is))) := by
 unfold merkle_Tree_there at hm
 refine Sim.of Try.func29 rfl rfl (lE rfl) (fun e0 w0 => ?_)
 refine JC.at ⟨[(0, ov (PTR gb_2 0))], [cvar gb_2 r_merkle_Tree t_1], []⟩ <| jr <| jc (op_assign lb .cB) <| jn <| bI hm fun _ hx1 hq1 => JC.seqJ (γ := Unit) (stj := fun _ => ⟨[(2, ov (S rB t_1.is))], [cvar gb_2 r_merkle_Tree t_1], []⟩) (fun _ => ?_) ?_
 · exact JC.ret <| JQ.done (js := [0]) (ss := [.val (S rB t_1.is)]) () (.inl rfl) (.nil rfl) rfl (.cons (.tmp rfl) .nil) rfl rfl rfl
 exact JC.region <| jmv rfl rfl <| jc (op_nilP (neg := true) lb tu24 tR (HasO.const (p := PTO none) fun _ => rfl)) <| jmv rfl rfl <| JL.run (.yes rfl (ltB rfl) rfl rfl) (op_move lb tR) <| JL.run (.yes rfl (ltB rfl) rfl rfl) (op_nilCheck lb tR (fun e v h => by subst h; rfl)) <| JL.run (.yes rfl (ltB rfl) rfl rfl) (op_fieldAddr (off := 4096) lb tf52_1 tR) <| JL.run (.yes rfl (ltB rfl) rfl rfl) (op_loadS (j := 0) lb tS4 tR rfl (cT (comp_merkle_Tree_is t_1) rfl) rfl rfl) <| jc (op_pickT lb tR rfl tR) <| jc (op_assign lb tR) <| JL.nil <| JQ.join () (Imp.norm (js := [0]) rfl (.cons rfl .nil))

theorem sim_merkle_Tree_Diff_pn (k : Nat) (t_1 : merkle_Tree) (gb_2 : Nat) (r : Unit) (hm : merkle_Tree_Diff_pn k t_1 = some r) : Sim Try.prog 24 [PTR gb_2 0, PTO none] [cvar gb_2 r_merkle_Tree t_1] (γ := Unit) (fun q => [cvar gb_2 r_merkle_Tree t_1]) (fun q => .tup [.val (HDR none 0 0 0), .val (S (rI .i64) (0 : Int)), .val (S (rI .i64) (1 : Int))]) := by
 unfold merkle_Tree_Diff_pn at hm
 refine Sim.of Try.func24 rfl rfl (lE rfl) (fun e0 w0 => ?_)
 refine JC.at ⟨[(0, ov (PTR gb_2 0)), (1, ov (PTO none))], [cvar gb_2 r_merkle_Tree t_1], []⟩ <| jr <| jx (op_boxW lb tR) fun gb_3 => jx (op_boxW lb tR) fun gb_4 => jc (op_assign lb HasO.nilH) <| jc (op_assign lb .cI) <| jc (op_assign lb .cI) <| jn <| JC.seq <| bI hm fun x_9 hx1 hq1 => JC.seqJ (γ := Unit) (stj := fun _ => ⟨[(2, ov (PTR gb_3 0)), (3, ov (PTR gb_4 0)), (17, ov (S rB x_9))], [cvar gb_3 (rW (PTR gb_2 0)) (), cvar gb_2 r_merkle_Tree t_1, cvar gb_4 (rW (PTO none)) ()], []⟩) (fun _ => ?_) ?_
 · refine jif tR hq1 (fun hc6 hq1 => ?_) (fun hc6 hq1 => ?_)
   · exact jr <| jc (op_assign lb HasO.nilH) <| jc (op_assign lb .cI) <| jc (op_assign lb .cI) <| jn <| JC.ret <| JQ.outR <| JQ.done (js := [1]) (ss := [.val (HDR none 0 0 0), .val (S (rI .i64) (0 : Int)), .val (S (rI .i64) (1 : Int))]) () (.inl rfl) (.nil rfl) rfl (.cons (.tmp rfl) (.cons (.tmp rfl) (.cons (.tmp rfl) .nil))) rfl rfl rfl
   refine JC.skip <| JQ.then <| jr <| jx (op_alloc lb tZ53 zr53) fun gb_10 => jn <| jr <| jx (op_alloc lb tZ3 zr3) fun gb_11 => jc (op_storeS (j := 4) tS3 tR .cI rfl rfl (UpdR.self (by rfl)) rfl) <| jn <| jr <| jx (op_alloc lb tZ57 zr57) fun gb_12 => jn <| jr <| jc (op_makeFunc lb (.cons tR (.cons tR (.cons tR (.cons tR (.cons tR .nil)))))) <| jc (op_storeW (j := 5) tS57 tR tR rfl (UpdR.self (by rfl)) rfl) <| JL.sub ⟨[(7, ov (PTR gb_10 0)), (8, ov (PTR gb_11 0)), (9, ov (PTR gb_12 0))], [cvar gb_3 (rW (PTR gb_2 0)) (), cvar gb_2 r_merkle_Tree t_1, cvar gb_4 (rW (PTO none)) (), cvar gb_10 (rW (HDR none 0 0 0)) (), cvar gb_11 (rI .i64) (0 : Int), zq4 gb_12 gb_11 gb_3 gb_4 gb_10], []⟩ (.cons rfl (.cons rfl (.cons rfl .nil))) rfl rfl ?_
   refine jn <| jr <| jc (op_loadW (j := 5) lb tS57 tR rfl (Comp.self (rW (CLO 35 [PTR gb_11 0, PTR gb_3 0, PTR gb_4 0, PTR gb_10 0, PTR gb_12 0])) ())) ?_
   cases hq1
 refine JC.region <| jc (op_loadW (j := 1) lb tS24 tR rfl (Comp.self (rW (PTR gb_2 0)) ())) <| bI hx1 fun _ hv_u_5 hx1 => jx (op_call (js := [0]) ld cl29 (sim_merkle_Tree_there k t_1 gb_2 () hv_u_5) .func (.cons tR .nil) rfl) fun _ => JL.sub ⟨[(2, ov (PTR gb_3 0)), (3, ov (PTR gb_4 0)), (11, ov (S rB t_1.is))], [cvar gb_2 r_merkle_Tree t_1, cvar gb_3 (rW (PTR gb_2 0)) (), cvar gb_4 (rW (PTO none)) ()], []⟩ (.cons rfl (.cons rfl (.cons rfl .nil))) rfl rfl <| lI hx1 fun v_6 hv_6 hx1 => jc (op_not lb tR hv_6) <| jmv rfl rfl <| jF (ov (PTO none)) rfl rfl rfl rfl (fun hq_2 => op_loadW (j := 2) lb tS24 tR rfl (Comp.self (rW (PTO none)) ())) <| bI hx1 fun _ hv_u_7 hx1 => jF (ov (S rB false)) rfl rfl rfl rfl (fun hq_3 => (op_call (js := []) ld cl29 (sim_merkle_Tree_there_n k () (ifT hv_u_7 hq_3)) .func (.cons (HasO.cnd tR (notT (notF hq_3))) .nil) rfl).post (fun _ => Imp.refl)) ?_
 refine jF (ov (S rB true)) rfl rfl rfl rfl (fun hq_4 => op_not lb (HasO.cnd tR (notT (notF hq_4))) rfl) <| lI hx1 fun v_8 hv_8 hx1 => jc (op_pickCS lb tR (fun hb5 => .cB) (fun hb5 => (HasO.cnd tR (notT hb5))) hv_8) <| JL.nil ?_
 try obtain rfl := so hx1
 exact JQ.join () (Imp.norm (js := [1, 0, 0]) rfl (.cons rfl (.cons rfl (.cons rfl .nil))))

theorem sim_merkle_Tree_Set_nvv (k : Nat) (bucket_1 : Int) (b_2 : (List UInt8)) (r : Unit) (hm : merkle_Tree_Set_nvv k bucket_1 b_2 = some r) : Sim Try.prog 13 [PTO none, S (rI .i64) bucket_1, S (rL (rU UInt8)) b_2] [] (γ := Unit) (fun q => []) (fun q => .one (.val (S (rI .i64) (1 : Int)))) := by
 unfold merkle_Tree_Set_nvv at hm
 refine Sim.of Try.func13 rfl rfl (lE rfl) (fun e0 w0 => ?_)
 refine JC.at ⟨[(0, ov (PTO none)), (1, ov (S (rI .i64) bucket_1)), (2, ov (S (rL (rU UInt8)) b_2))], [], []⟩ <| jr <| jc (op_assign lb .cI) <| jn <| JC.seq <| jr <| jmv rfl rfl <| bI hm fun _ hv_u_3 hm => jx (op_call (js := []) ld cl29 (sim_merkle_Tree_there_n k () hv_u_3) .func (.cons tR .nil) rfl) fun _ => jc (op_not lb tR rfl) <| jn <| JC.condT tR rfl <| jr <| jc (op_assign lb .cI) <| jn <| JC.ret ?_
 exact JQ.outR <| jd (.val (S (rI .i64) (1 : Int))) rfl rfl rfl rfl rfl rfl

theorem sim_law08_num (k : Nat) (e_1 : Int) (r : Unit) (hm : law08_num k e_1 = some r) : Sim Try.prog 9 [S (rI .i64) e_1] [] (γ := Unit) (fun q => []) (fun q => .one (.val (S (rI .i64) e_1))) := by
 unfold law08_num at hm
 refine Sim.of Try.func9 rfl rfl (lE rfl) (fun e0 w0 => ?_)
 exact JC.at ⟨[(0, ov (S (rI .i64) e_1))], [], []⟩ <| jr <| jc (op_assign lb .cI) <| jn <| jr <| jmv rfl rfl <| jc (op_assign lb tR) <| jn <| JC.ret <| jd (.val (S (rI .i64) e_1)) rfl rfl rfl rfl rfl rfl

theorem sim_merkle_Tree_Root_n (k : Nat) (r : Unit) (hm : merkle_Tree_Root_n k = some r) : Sim Try.prog 16 [PTO none] [] (γ := Unit) (fun q => []) (fun q => .one (.val (A (rV 32 (rU UInt8)) (Vector.replicate 32 (0 : UInt8))))) := by
 unfold merkle_Tree_Root_n at hm
 refine Sim.of Try.func16 rfl rfl (lE rfl) (fun e0 w0 => ?_)
 refine JC.at ⟨[(0, ov (PTO none))], [], []⟩ <| jr <| jx (op_alloc lb tZ30 zr30) fun gb_1 => jn <| JC.seq <| jr <| jmv rfl rfl <| bI hm fun _ hv_u_2 hm => jx (op_call (js := []) ld cl29 (sim_merkle_Tree_there_n k () hv_u_2) .func (.cons tR .nil) rfl) fun _ => jc (op_not lb tR rfl) <| jn <| JC.condT tR rfl <| jr <| jc (op_build lb tZ30 zv30 tp30 .nil rfl) <| jc (op_storeA (j := 0) tA30 tR tR rfl (UpdR.self (by rfl)) rfl) <| jn ?_
 exact JC.ret <| JQ.outR <| JQ.done (js := []) (ss := [.val (A (rV 32 (rU UInt8)) (Vector.replicate 32 (0 : UInt8)))]) () (.inl rfl) (.nil rfl) rfl (.cons (.cellA (j := 0) tA30 rfl rfl) .nil) rfl rfl rfl

theorem sim_merkle_Tree_Leaves_n (k : Nat) (r : Unit) (hm : merkle_Tree_Leaves_n k = some r) : Sim Try.prog 23 [PTO none] [] (γ := Unit) (fun q => []) (fun q => .one (.val (HDR none 0 0 0))) := by
 unfold merkle_Tree_Leaves_n at hm
 refine Sim.of Try.func23 rfl rfl (lE rfl) (fun e0 w0 => ?_)
 refine JC.at ⟨[(0, ov (PTO none))], [], []⟩ <| jr <| jc (op_assign lb HasO.nilH) <| jn <| JC.seq <| jr <| jmv rfl rfl <| bI hm fun _ hv_u_1 hm => jx (op_call (js := []) ld cl29 (sim_merkle_Tree_there_n k () hv_u_1) .func (.cons tR .nil) rfl) fun _ => jc (op_not lb tR rfl) <| jn <| JC.condT tR rfl <| jr <| jc (op_assign lb HasO.nilH) <| jn <| JC.ret ?_
 exact JQ.outR <| JQ.done (js := []) (ss := [.val (HDR none 0 0 0)]) () (.inl rfl) (.nil rfl) rfl (.cons (.tmp rfl) .nil) rfl rfl rfl

theorem sim_merkle_Tree_Copy_n (k : Nat) (r : Unit) (hm : merkle_Tree_Copy_n k = some r) : Sim Try.prog 19 [PTO none] [] (γ := Unit) (fun q => []) (fun q => .one (.val (PTO none))) := by
 unfold merkle_Tree_Copy_n at hm
 refine Sim.of Try.func19 rfl rfl (lE rfl) (fun e0 w0 => ?_)
 refine JC.at ⟨[(0, ov (PTO none))], [], []⟩ <| jr <| jc (op_assign lb (HasO.const (p := PTO none) fun _ => rfl)) <| jn <| JC.seq <| jr <| jmv rfl rfl <| bI hm fun _ hv_u_1 hm => jx (op_call (js := []) ld cl29 (sim_merkle_Tree_there_n k () hv_u_1) .func (.cons tR .nil) rfl) fun _ => jc (op_not lb tR rfl) <| jn <| JC.condT tR rfl <| jr <| jc (op_assign lb (HasO.const (p := PTO none) fun _ => rfl)) <| jn <| JC.ret ?_
 exact JQ.outR <| JQ.done (js := []) (ss := [.val (PTO none)]) () (.inl rfl) (.nil rfl) rfl (.cons (.tmp rfl) .nil) rfl rfl rfl

theorem sim_merkle_Tree_Same_nn (k : Nat) (r : Bool) (hm : merkle_Tree_Same_nn k = some r) : Sim Try.prog 20 [PTO none, PTO none] [] (γ := Unit) (fun q => []) (fun q => .one (.val (S rB r))) := by
 unfold merkle_Tree_Same_nn at hm
 refine Sim.of Try.func20 rfl rfl (lE rfl) (fun e0 w0 => ?_)
 refine JC.at ⟨[(0, ov (PTO none)), (1, ov (PTO none))], [], []⟩ <| jr <| jc (op_assign lb .cB) <| jn <| JC.seq <| bI hm fun _ hx1 hq1 => JC.seqJ (γ := Unit) (stj := fun _ => ⟨[(0, ov (PTO none)), (1, ov (PTO none)), (12, ov (S rB true))], [], []⟩) (fun _ => ?_) ?_
 · refine JC.condT tR rfl <| jr <| jmv rfl rfl <| bI hq1 fun _ hv_u_2 hq1 => jx (op_call (js := []) ld cl29 (sim_merkle_Tree_there_n k () hv_u_2) .func (.cons tR .nil) rfl) fun _ => jmv rfl rfl <| bI hq1 fun _ hv_u_3 hq1 => jx (op_call (js := []) ld cl29 (sim_merkle_Tree_there_n k () hv_u_3) .func (.cons tR .nil) rfl) fun _ => lI hq1 fun v_4 hv_4 hq1 => jc (op_eqB lb tu4 tR tR hv_4) <| jc (op_assign lb tR) <| jn ?_
   refine JC.ret <| JQ.outR ?_
   obtain rfl := so hq1
   exact jd (.val (S rB v_4)) rfl rfl rfl rfl rfl rfl
 exact JC.region <| jmv rfl rfl <| bI hx1 fun _ hv_u_1 hx1 => jx (op_call (js := []) ld cl29 (sim_merkle_Tree_there_n k () hv_u_1) .func (.cons tR .nil) rfl) fun _ => jc (op_not lb tR rfl) <| jmv rfl rfl <| jk rfl rfl <| jk rfl rfl <| jk rfl rfl <| jc (op_pickT lb tR rfl .cB) <| JL.nil <| JQ.join () (Imp.norm (js := []) rfl (.cons rfl (.cons rfl (.cons rfl .nil))))

theorem sim_merkle_Tree_Same_np (k : Nat) (o_1 : merkle_Tree) (gb_2 : Nat) (r : Bool) (hm : merkle_Tree_Same_np k o_1 = some r) : Sim Try.prog 20 [PTO none, PTR gb_2 0] [cvar gb_2 r_merkle_Tree o_1] (γ := Unit) (fun q => [cvar gb_2 r_merkle_Tree o_1]) (fun q => .one (.val (S rB r))) := by
 unfold merkle_Tree_Same_np at hm
 refine Sim.of Try.func20 rfl rfl (lE rfl) (fun e0 w0 => ?_)
 refine JC.at ⟨[(0, ov (PTO none)), (1, ov (PTR gb_2 0))], [cvar gb_2 r_merkle_Tree o_1], []⟩ <| jr <| jc (op_assign lb .cB) <| jn <| JC.seq <| bI hm fun _ hx1 hq1 => JC.seqJ (γ := Unit) (stj := fun _ => ⟨[(0, ov (PTO none)), (1, ov (PTR gb_2 0)), (12, ov (S rB true))], [cvar gb_2 r_merkle_Tree o_1], []⟩) (fun _ => ?_) ?_
 · refine JC.condT tR rfl <| jr <| jmv rfl rfl <| bI hq1 fun _ hv_u_4 hq1 => jx (op_call (js := []) ld cl29 (sim_merkle_Tree_there_n k () hv_u_4) .func (.cons tR .nil) rfl) fun _ => jmv rfl rfl <| bI hq1 fun _ hv_u_5 hq1 => jx (op_call (js := [0]) ld cl29 (sim_merkle_Tree_there k o_1 gb_2 () hv_u_5) .func (.cons tR .nil) rfl) fun _ => lI hq1 fun v_6 hv_6 hq1 => jc (op_eqB lb tu4 tR tR hv_6) <| jc (op_assign lb tR) <| jn ?_
   refine JC.ret <| JQ.outR ?_
   obtain rfl := so hq1
   exact JQ.done (js := [0]) (ss := [.val (S rB v_6)]) () (.inl rfl) (.nil rfl) rfl (.cons (.tmp rfl) .nil) rfl rfl rfl
 exact JC.region <| jmv rfl rfl <| bI hx1 fun _ hv_u_3 hx1 => jx (op_call (js := []) ld cl29 (sim_merkle_Tree_there_n k () hv_u_3) .func (.cons tR .nil) rfl) fun _ => jc (op_not lb tR rfl) <| jmv rfl rfl <| jk rfl rfl <| jk rfl rfl <| jk rfl rfl <| jc (op_pickT lb tR rfl .cB) <| JL.nil <| JQ.join () (Imp.norm (js := [0]) rfl (.cons rfl (.cons rfl (.cons rfl .nil))))

theorem sim_merkle_Tree_Leaves (k : Nat) (t_1 : merkle_Tree) (gb_2 : Nat) (r : (List (Vector UInt8 32))) (hm : merkle_Tree_Leaves k t_1 = some r) : Sim Try.prog 23 [PTR gb_2 0] [cvar gb_2 r_merkle_Tree t_1] (γ := Option Nat × Nat) (fun q => [cown q.1 (rV 32 (rU UInt8)) r 0 q.2, cvar gb_2 r_merkle_Tree t_1]) (fun q => .one (.val (HDR q.1 0 (List.length r) q.2))) := by
 unfold merkle_Tree_Leaves at hm
 refine Sim.of Try.func23 rfl rfl (lE rfl) (fun e0 w0 => ?_)
 refine JC.at ⟨[(0, ov (PTR gb_2 0))], [cvar gb_2 r_merkle_Tree t_1], []⟩ <| jr <| jc (op_assign lb HasO.nilH) <| jn <| JC.seq <| jr <| jmv rfl rfl <| bI hm fun _ hv_u_3 hm => jx (op_call (js := [0]) ld cl29 (sim_merkle_Tree_there k t_1 gb_2 () hv_u_3) .func (.cons tR .nil) rfl) fun _ => lI hm fun v_4 hv_4 hm => jc (op_not lb tR hv_4) <| jn <| jif tR hm (fun hc1 hm => ?_) (fun hc1 hm => ?_)
 · refine jr <| jc (op_assign lb HasO.nilH) <| jn <| JC.ret <| JQ.outR ?_
   obtain rfl := so hm
   exact JQ.pre (Imp.nilown (rV 32 (rU UInt8))) <| JQ.done (js := [1, 0]) (ss := [.val (HDR none 0 (List.length ([] : (List (Vector UInt8 32)))) (0))]) (none, 0) (.inl rfl) (.nil rfl) rfl (.cons (.tmp rfl) .nil) rfl rfl rfl
 refine JC.skip <| JQ.then <| jr <| bI hm fun v_5 hv_5 hm => jx (op_makeOg lb tu22 tB30 zv30 .cI .cI hv_5) fun gb_6 => jc (op_assign lb tR) <| jn <| jr <| jmv rfl rfl <| jmv rfl rfl <| JL.sub ⟨[(3, ov (HDR (some gb_6) 0 (List.length v_5) (Int.toNat (64 : Int)))), (8, ov (HDR (some gb_6) 0 (List.length v_5) (Int.toNat (64 : Int)))), (9, ov (PTR gb_2 0))], [cvar gb_2 r_merkle_Tree t_1, cown (some gb_6) (rV 32 (rU UInt8)) v_5 0 (Int.toNat (64 : Int))], []⟩ (.cons rfl (.cons rfl (.cons rfl .nil))) rfl rfl <| jc (op_nilCheck lb tR (fun e v h => by subst h; rfl)) <| jc (op_fieldAddr (off := 0) lb tf52_0 tR) <| bI hm fun v_7 hv_7 hm => jc (op_sliceB lb tu50 tz30 tR (cT (comp_merkle_Tree_n t_1) rfl) (.some .cI) .none hv_7) ?_
 refine lI hm fun l_8 hv_l_8 hm => jc (op_copyO (j := 1) ld tu22 tz30 tR rfl (fun e a w => SrcN.bor (j := 0) rfl (EF.v EF.u) tR) hv_l_8 rfl) <| JL.pre (Imp.slot (s := 3) (q := HDR (some gb_6) 0 (List.length l_8) (Int.toNat (64 : Int))) rfl (wkLen (cpL_len hv_l_8))) <| JL.pre (Imp.slot (s := 8) (q := HDR (some gb_6) 0 (List.length l_8) (Int.toNat (64 : Int))) rfl (wkLen (cpL_len hv_l_8))) <| jn <| jr <| jmv rfl rfl <| jc (op_assign lb tR) <| jn <| JC.ret ?_
 obtain rfl := so hm
 exact JQ.done (js := [1, 0]) (ss := [.val (HDR (some gb_6) 0 (List.length l_8) (Int.toNat (64 : Int)))]) ((some gb_6), (Int.toNat (64 : Int))) (.inl rfl) (.nil rfl) rfl (.cons (.tmp rfl) .nil) rfl rfl rfl

theorem sim_slices_Equalapi_Hash_api_Hash (k : Nat) (s1_1 : (List (Vector UInt8 32))) (s2_2 : (List (Vector UInt8 32))) (r : Bool) (hm : slices_Equalapi_Hash_api_Hash k s1_1 s2_2 = some r) : Sim Try.prog 34 [S (rL (rV 32 (rU UInt8))) s1_1, S (rL (rV 32 (rU UInt8))) s2_2] [] (γ := Unit) (fun q => []) (fun q => .one (.val (S rB r))) := by
 unfold slices_Equalapi_Hash_api_Hash at hm
 refine Sim.of Try.func34 rfl rfl (lE rfl) (fun e0 w0 => ?_)
 refine JC.at ⟨[(0, ov (S (rL (rV 32 (rU UInt8))) s1_1)), (1, ov (S (rL (rV 32 (rU UInt8))) s2_2))], [], []⟩ <| jr <| jc (op_assign lb .cB) <| jn <| JC.seq <| jr <| jmv rfl rfl <| jc (op_lenL lb tu22 tR) <| jmv rfl rfl <| jc (op_lenL lb tu22 tR) <| lI hm fun v_3 hv_3 hm => jc (op_cmpI lb tR tR (cs hv_3)) <| jn <| jif tR hm (fun hc1 hm => ?_) (fun hc1 hm => ?_)
 · refine jr <| jc (op_assign lb .cB) <| jn <| JC.ret <| JQ.outR ?_
   obtain rfl := so hm
   exact jd (.val (S rB false)) rfl rfl rfl rfl rfl rfl
 refine JC.skip <| JQ.then <| bI hm fun tv2 hx2 hq2 => JC.seqK (α := Unit) (γ := Unit) (stj := fun v q => ⟨[], [], []⟩) (p := fun v => tv2 = (.inl v)) (fun v q hv => ?_) ?_
 · subst hv
   skip
   obtain _ := q
   dsimp only at hq2
   refine JC.at ⟨[], [], []⟩ <| jr <| jc (op_assign lb .cB) <| jn <| JC.ret ?_
   obtain rfl := so hq2
   exact jd (.val (S rB true)) rfl rfl rfl rfl rfl rfl
 refine jr <| jmv rfl rfl <| jc (op_lenL lb tu22 tR) <| jc (op_move lb .cI) <| jn <| JC.block <| bI hx2 fun tv3 hL3 hq3 => JC.pre ?_ (JC.loop (γ := Unit) (stf := fun s q => ⟨[(0, ov (S (rL (rV 32 (rU UInt8))) s1_1)), (1, ov (S (rL (rV 32 (rU UInt8))) s2_2)), (12, ov (S (rI .i64) (List.length s1_1 : Int))), (13, ov (S (rI .i64) s))], [], []⟩) (q := ()) hL3 ?_)
 · exact (Imp.norm (js := []) rfl (.cons rfl (.cons rfl (.cons rfl (.cons rfl .nil)))))
 intro x_4 q x hx hr
 obtain _ := q
 change slices_Equalapi_Hash_api_Hash.b1 k s1_1 s2_2 x_4 = some x at hx
 unfold slices_Equalapi_Hash_api_Hash.b1 at hx
 refine JC.at ⟨[(0, ov (S (rL (rV 32 (rU UInt8))) s1_1)), (1, ov (S (rL (rV 32 (rU UInt8))) s2_2)), (12, ov (S (rI .i64) (List.length s1_1 : Int))), (13, ov (S (rI .i64) x_4))], [], []⟩ <| jr <| lI hx fun v_5 hv_5 hx => jc (op_cmpI lb tR tR (cs hv_5)) <| jn <| JC.seq <| jif tR hx (fun hc4 hx => ?_) (fun hc4 hx => ?_)
 · refine JC.skip <| JQ.then <| JC.seq <| JC.block <| jr <| jmv rfl rfl <| jc (op_assign lb tR) <| jn <| JC.seq <| bI hx fun v_6 hv_6 hx => bI hx fun v_7 hv_7 hx => ?_
   obtain ⟨v_8, hv_8, hx⟩ := lt1_inv hx
   refine JC.anyF (base := [(0, ov (S (rL (rV 32 (rU UInt8))) s1_1)), (1, ov (S (rL (rV 32 (rU UInt8))) s2_2)), (5, ov (S (rI .i64) x_4)), (12, ov (S (rI .i64) (List.length s1_1 : Int))), (13, ov (S (rI .i64) x_4))])
       (fs := fun γ => [⟨some 16, ov (S (rL (rV 32 (rU UInt8))) s1_1)⟩, ⟨some 17, ov (S (rI .i64) x_4)⟩, ⟨some 18, ov (PT (rV 32 (rU UInt8)) v_6)⟩, ⟨some 19, ov (A (rV 32 (rU UInt8)) v_6)⟩, ⟨some 20, ov (S (rL (rV 32 (rU UInt8))) s2_2)⟩, ⟨some 21, ov (S (rI .i64) x_4)⟩, ⟨some 22, ov (PT (rV 32 (rU UInt8)) v_7)⟩, ⟨some 23, ov (A (rV 32 (rU UInt8)) v_7)⟩, ⟨some 24, ov (S rB v_8)⟩])
       (rs := fun γ => [])
       (afts := nn 9) (js := []) mixed (.cons rfl (.cons rfl (.cons rfl (.cons rfl (.cons rfl .nil))))) (fun _ => rfl)
       (by
      refine db 1 0 <| db 2 5 <| dS 3 (fun γ ρ B hb hd => op_indexAddrLg lb tu22 tz30 (tl hd 0 16) (tl hd 1 17) hv_6) <| dS 4 (fun γ ρ B hb hd => op_loadPAg lb tA30 (tl hd 2 18) rfl) <| db 5 1 ?_
      refine db 6 5 <| dS 7 (fun γ ρ B hb hd => op_indexAddrLg lb tu22 tz30 (tl hd 4 20) (tl hd 5 21) hv_7) <| dS 8 (fun γ ρ B hb hd => op_loadPAg lb tA30 (tl hd 6 22) rfl) <| dS 9 (fun γ ρ B hb hd => op_neA lb qa30 (by decide) ng30 (tl hd 3 19) (tl hd 7 23) hv_8) ?_
      exact DSteps.nil)
       (by decide +kernel) (fun _ => rfl) (fun _ => rfl) (fun _ => rfl) rfl
       (ρ' := fun γ => [(0, ov (S (rL (rV 32 (rU UInt8))) s1_1)), (1, ov (S (rL (rV 32 (rU UInt8))) s2_2)), (12, ov (S (rI .i64) (List.length s1_1 : Int))), (13, ov (S (rI .i64) x_4)), (24, ov (S rB v_8))])
       (X' := fun γ => [])
       (fun γ ρ hb hd => (.cons (hb 0 _ rfl) (.cons (hb 1 _ rfl) (.cons (hb 12 _ rfl) (.cons (hb 13 _ rfl) (.cons (hdq hd 8 24 rfl) .nil)))))) (fun _ => rfl) (fun γ => ?_)
   refine JQ.at ⟨[(0, ov (S (rL (rV 32 (rU UInt8))) s1_1)), (1, ov (S (rL (rV 32 (rU UInt8))) s2_2)), (12, ov (S (rI .i64) (List.length s1_1 : Int))), (13, ov (S (rI .i64) x_4)), (24, ov (S rB v_8))], [], []⟩ <| JQ.then <| jif tR hx (fun hc5 hx => ?_) (fun hc5 hx => ?_)
   · refine jr <| jc (op_assign lb .cB) <| jn <| JC.ret <| JQ.outRB <| JQ.outR ?_
     try obtain rfl := so hx
     try obtain rfl := hr _ rfl
     dsimp only at hq3
     refine JQ.outR <| JQ.outRB ?_
     try obtain rfl := so hq3
     dsimp only at hq2
     refine JQ.outR ?_
     obtain rfl := so hq2
     exact jd (.val (S rB false)) rfl rfl rfl rfl rfl rfl
   refine JC.skip <| JQ.outNB <| JQ.then <| JC.region <| lI hx fun v_9 hv_9 hx => jc (op_arI lb tR .cI (cs hv_9)) <| jmv rfl rfl <| JL.nil ?_
   try obtain rfl := so hx
   exact JQ.next () rfl (Imp.norm (js := []) rfl (.cons rfl (.cons rfl (.cons rfl (.cons rfl .nil)))))
 refine JC.exit <| JQ.outX ?_
 try obtain rfl := so hx
 try obtain rfl := hr _ rfl
 dsimp only at hq3
 refine JQ.outX <| JQ.here ?_
 try obtain rfl := so hq3
 exact JQ.joinK () () rfl (Imp.norm (js := []) rfl .nil)

theorem sim_merkle_Tree_Same_pn (k : Nat) (t_1 : merkle_Tree) (gb_2 : Nat) (r : Bool) (hm : merkle_Tree_Same_pn k t_1 = some r) : Sim Try.prog 20 [PTR gb_2 0, PTO none] [cvar gb_2 r_merkle_Tree t_1] (γ := Unit) (fun q => [cvar gb_2 r_merkle_Tree t_1]) (fun q => .one (.val (S rB r))) := by
 unfold merkle_Tree_Same_pn at hm
 refine Sim.of Try.func20 rfl rfl (lE rfl) (fun e0 w0 => ?_)
 refine JC.at ⟨[(0, ov (PTR gb_2 0)), (1, ov (PTO none))], [cvar gb_2 r_merkle_Tree t_1], []⟩ <| jr <| jc (op_assign lb .cB) <| jn <| JC.seq <| bI hm fun x_7 hx1 hq1 => JC.seqJ (γ := Unit) (stj := fun _ => ⟨[(0, ov (PTR gb_2 0)), (1, ov (PTO none)), (12, ov (S rB x_7))], [cvar gb_2 r_merkle_Tree t_1], []⟩) (fun _ => ?_) ?_
 · refine jif tR hq1 (fun hc6 hq1 => ?_) (fun hc6 hq1 => ?_)
   · refine jr <| jmv rfl rfl <| bI hq1 fun _ hv_u_8 hq1 => jx (op_call (js := [0]) ld cl29 (sim_merkle_Tree_there k t_1 gb_2 () hv_u_8) .func (.cons tR .nil) rfl) fun _ => jmv rfl rfl <| bI hq1 fun _ hv_u_9 hq1 => jx (op_call (js := []) ld cl29 (sim_merkle_Tree_there_n k () hv_u_9) .func (.cons tR .nil) rfl) fun _ => lI hq1 fun v_10 hv_10 hq1 => jc (op_eqB lb tu4 tR tR hv_10) <| jc (op_assign lb tR) <| jn <| JC.ret ?_
     refine JQ.outR ?_
     obtain rfl := so hq1
     exact JQ.done (js := [0]) (ss := [.val (S rB v_10)]) () (.inl rfl) (.nil rfl) rfl (.cons (.tmp rfl) .nil) rfl rfl rfl
   refine JC.skip <| JQ.then <| jr <| jmv rfl rfl <| bI hq1 fun v_11 hv_11 hq1 => jx (op_call (js := [0]) ld cl23 (sim_merkle_Tree_Leaves k t_1 gb_2 v_11 hv_11) .func (.cons tR .nil) rfl) (fun q => ?_)
   obtain ⟨go_12, gc_13⟩ := q
   refine jmv rfl rfl <| bI hq1 fun _ hv_u_14 hq1 => jx (op_call (js := []) ld cl23 (sim_merkle_Tree_Leaves_n k () hv_u_14) .func (.cons tR .nil) rfl) fun _ => bI hq1 fun v_15 hv_15 hq1 => JL.pre (Imp.frz (j := 0) rfl (ImpK.slotH (s := 19) rfl ImpK.refl)) <| jx (op_call (js := []) ld cl34 (sim_slices_Equalapi_Hash_api_Hash k v_11 ([] : (List (Vector UInt8 32))) v_15 hv_15) .func (.cons (HasO.wk tR wkHL) (.cons (HasO.wk (q := S (rL (rV 32 (rU UInt8))) []) tR wkNil) .nil)) rfl) fun _ => jc (op_assign lb tR) <| jn <| JC.ret ?_
   obtain rfl := so hq1
   exact JQ.done (js := [1]) (ss := [.val (S rB v_15)]) () (.inl rfl) (.nil rfl) rfl (.cons (.tmp rfl) .nil) rfl rfl rfl
 refine JC.region <| jmv rfl rfl <| bI hx1 fun _ hv_u_3 hx1 => jx (op_call (js := [0]) ld cl29 (sim_merkle_Tree_there k t_1 gb_2 () hv_u_3) .func (.cons tR .nil) rfl) fun _ => lI hx1 fun v_4 hv_4 hx1 => jc (op_not lb tR hv_4) <| jmv rfl rfl <| jF (ov (PTO none)) rfl rfl rfl rfl (fun hq_2 => op_move lb tR) <| bI hx1 fun _ hv_u_5 hx1 => jF (ov (S rB false)) rfl rfl rfl rfl (fun hq_3 => (op_call (js := []) ld cl29 (sim_merkle_Tree_there_n k () (ifT hv_u_5 hq_3)) .func (.cons (HasO.cnd tR (notT (notF hq_3))) .nil) rfl).post (fun _ => Imp.refl)) <| jF (ov (S rB true)) rfl rfl rfl rfl (fun hq_4 => op_not lb (HasO.cnd tR (notT (notF hq_4))) rfl) ?_
 refine lI hx1 fun v_6 hv_6 hx1 => jc (op_pickCS lb tR (fun hb5 => .cB) (fun hb5 => (HasO.cnd tR (notT hb5))) hv_6) <| JL.nil ?_
 try obtain rfl := so hx1
 exact JQ.join () (Imp.norm (js := [0]) rfl (.cons rfl (.cons rfl (.cons rfl .nil))))

theorem sim_merkle_Tree_Diff_nn (k : Nat) (r : Unit) (hm : merkle_Tree_Diff_nn k = some r) : Sim Try.prog 24 [PTO none, PTO none] [] (γ := Unit) (fun q => []) (fun q => .tup [.val (HDR none 0 0 0), .val (S (rI .i64) (0 : Int)), .val (S (rI .i64) (1 : Int))]) := by
 unfold merkle_Tree_Diff_nn at hm
 refine Sim.of Try.func24 rfl rfl (lE rfl) (fun e0 w0 => ?_)
 refine JC.at ⟨[(0, ov (PTO none)), (1, ov (PTO none))], [], []⟩ <| jr <| jx (op_boxW lb tR) fun gb_1 => jx (op_boxW lb tR) fun gb_2 => jc (op_assign lb HasO.nilH) <| jc (op_assign lb .cI) <| jc (op_assign lb .cI) <| jn <| JC.seq <| bI hm fun _ hx1 hq1 => JC.seqJ (γ := Unit) (stj := fun _ => ⟨[(2, ov (PTR gb_1 0)), (3, ov (PTR gb_2 0)), (17, ov (S rB true))], [cvar gb_1 (rW (PTO none)) (), cvar gb_2 (rW (PTO none)) ()], []⟩) (fun _ => ?_) ?_
 · exact JC.condT tR rfl <| jr <| jc (op_assign lb HasO.nilH) <| jc (op_assign lb .cI) <| jc (op_assign lb .cI) <| jn <| JC.ret <| JQ.outR <| JQ.done (js := []) (ss := [.val (HDR none 0 0 0), .val (S (rI .i64) (0 : Int)), .val (S (rI .i64) (1 : Int))]) () (.inl rfl) (.nil rfl) rfl (.cons (.tmp rfl) (.cons (.tmp rfl) (.cons (.tmp rfl) .nil))) rfl rfl rfl
 exact JC.region <| jc (op_loadW (j := 0) lb tS24 tR rfl (Comp.self (rW (PTO none)) ())) <| bI hx1 fun _ hv_u_3 hx1 => jx (op_call (js := []) ld cl29 (sim_merkle_Tree_there_n k () hv_u_3) .func (.cons tR .nil) rfl) fun _ => jc (op_not lb tR rfl) <| JL.sub ⟨[(2, ov (PTR gb_1 0)), (3, ov (PTR gb_2 0)), (12, ov (S rB true))], [cvar gb_1 (rW (PTO none)) (), cvar gb_2 (rW (PTO none)) ()], []⟩ (.cons rfl (.cons rfl (.cons rfl .nil))) rfl rfl <| jmv rfl rfl <| jk rfl rfl <| jk rfl rfl <| jk rfl rfl <| jc (op_pickT lb tR rfl .cB) <| JL.nil <| JQ.join () (Imp.norm (js := [0, 0]) rfl (.cons rfl (.cons rfl (.cons rfl .nil))))

end Go.Proofs.Ytbflmobpbjnekaa
