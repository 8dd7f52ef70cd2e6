/- Walks. -/
import Derived.Test.YtbflmobpbjnekaaT
import Derived.Test.YtbflmobpbjnekaaW2
import Derived.Test.YtbflmobpbjnekaaW3
namespace Go.Proofs.Ytbflmobpbjnekaa
open Go Fw
set_option linter.unusedVariables false
set_option maxRecDepth 100000
set_option maxHeartbeats 4000000

theorem sim_merkle_Tree_Set (k : Nat) (bucket_1 : Int) (b_2 : (List UInt8)) (t_3 : merkle_Tree) (gb_4 : Nat) (r : Int × merkle_Tree) (hm : merkle_Tree_Set k bucket_1 b_2 t_3 = some r) : Sim Try.prog 13 [PTR gb_4 0, S (rI .i64) bucket_1, S (rL (rU UInt8)) b_2] [cvar gb_4 r_merkle_Tree t_3] (γ := Unit) (fun q => [cvar gb_4 r_merkle_Tree r.2]) (fun q => .one (.val (S (rI .i64) r.1))) := by
 unfold merkle_Tree_Set at hm
 refine Sim.of Try.func13 rfl rfl (lE rfl) (fun e0 w0 => ?_)
 refine JC.at ⟨[(0, ov (PTR gb_4 0)), (1, ov (S (rI .i64) bucket_1)), (2, ov (S (rL (rU UInt8)) b_2))], [cvar gb_4 r_merkle_Tree t_3], []⟩ <| jr <| jc (op_assign lb .cI) <| jn <| JC.seq <| jr <| jmv rfl rfl <| bI hm fun _ hv_u_5 hm => jx (op_call (js := [0]) ld cl29 (sim_merkle_Tree_there k t_3 gb_4 () hv_u_5) .func (.cons tR .nil) rfl) fun _ => lI hm fun v_6 hv_6 hm => jc (op_not lb tR hv_6) <| jn <| jif tR hm (fun hc1 hm => ?_) (fun hc1 hm => ?_)
 · refine jr <| jc (op_assign lb .cI) <| jn <| JC.ret <| JQ.outR ?_
   obtain rfl := so hm
   exact JQ.done (js := [0]) (ss := [.val (S (rI .i64) (1 : Int))]) () (.inl rfl) (.nil rfl) rfl (.cons (.tmp rfl) .nil) rfl rfl rfl
 refine JC.skip <| JQ.then <| jr <| jmv rfl rfl <| jmv rfl rfl ?_
 obtain ⟨⟨v_7, v_8⟩, hv_7, hm⟩ := bnd_inv hm
 refine jx (op_call (js := []) ld cl28 (sim_merkle_Leaf k bucket_1 b_2 (v_7, v_8) hv_7) .func (.cons tR (.cons tR .nil)) rfl) fun _ => jmv rfl rfl <| jc (op_extract (i := 0) lb tR rfl) <| jc (op_extract (i := 1) lb tR rfl) <| JL.sub ⟨[(0, ov (PTR gb_4 0)), (1, ov (S (rI .i64) bucket_1)), (17, ov (A (rV 32 (rU UInt8)) v_7)), (18, ov (S (rI .i64) v_8))], [cvar gb_4 r_merkle_Tree t_3], []⟩ (.cons rfl (.cons rfl (.cons rfl (.cons rfl .nil)))) rfl rfl <| jx (op_alloc lb tZ30 zr30) fun gb_9 => jc (op_storeA (j := 1) tA30 tR tR rfl (UpdR.self (by rfl)) rfl) <| jc (op_assign lb tR) <| jn <| JC.seq <| jr <| jmv rfl rfl <| lI hm fun v_10 hv_10 hm => jc (op_cmpI lb tR .cI (cs hv_10)) <| jn <| jif tR hm (fun hc2 hm => ?_) (fun hc2 hm => ?_)
 · refine jr <| jmv rfl rfl <| jc (op_assign lb tR) <| jn <| JC.ret <| JQ.outR ?_
   obtain rfl := so hm
   exact JQ.done (js := [0]) (ss := [.val (S (rI .i64) v_8)]) () (.inl rfl) (.nil rfl) rfl (.cons (.tmp rfl) .nil) rfl rfl rfl
 refine JC.skip <| JQ.then <| jr <| jmv rfl rfl <| lI hm fun v_11 hv_11 hm => jc (op_arI lb .cI tR (cs hv_11)) <| jc (op_assign lb tR) <| JL.sub ⟨[(0, ov (PTR gb_4 0)), (7, ov (PTR gb_9 0)), (9, ov (S (rI .i64) v_11))], [cvar gb_4 r_merkle_Tree t_3, cvar gb_9 (rV 32 (rU UInt8)) v_7], []⟩ (.cons rfl (.cons rfl (.cons rfl .nil))) rfl rfl <| jn <| JC.seq <| JC.seq <| bI hm fun i_12 hv_i_12 hm => lI hm fun v_13 hv_13 hm => ?_
 obtain ⟨v_14, hv_14, hm⟩ := lt1_inv hm
 refine JC.anyF (base := [(0, ov (PTR gb_4 0)), (7, ov (PTR gb_9 0)), (9, ov (S (rI .i64) v_11))])
     (fs := fun γ => [⟨some 24, ov (PTR gb_4 0)⟩, ⟨some 25, ov (S (rI .i64) v_11)⟩, ⟨some 26, ov (PTR gb_4 0)⟩, ⟨some 27, ov (PTR gb_4 (0 + 0))⟩, ⟨some 28, ov (PTR gb_4 ((0 + 0) + i_12.1 * 32))⟩, ⟨some 29, ov (A (rV 32 (rU UInt8)) v_13)⟩, ⟨some 30, ov (A (rV 32 (rU UInt8)) v_7)⟩, ⟨some 31, ov (S rB v_14)⟩])
     (rs := fun γ => [⟨cvar gb_4 r_merkle_Tree t_3, none, none, [5]⟩, ⟨cvar gb_9 (rV 32 (rU UInt8)) v_7, none, none, [6]⟩])
     (afts := nn 8) (js := [0, 0]) mixed (.cons rfl (.cons rfl (.cons rfl .nil))) (fun _ => rfl)
     (by
      refine db 1 0 <| db 2 9 <| dS 3 (fun γ ρ B hb hd => op_nilCheck lb (tl hd 0 24) (fun e v h => by subst h; rfl)) <| dS 4 (fun γ ρ B hb hd => op_fieldAddr (off := 0) lb tf52_0 (tl hd 2 26)) <| dS 5 (fun γ ρ B hb hd => op_indexAddrIF lb tr50 (tl hd 3 27) (tl hd 1 25) hv_i_12) ?_
      refine dR 6 (fun γ ρ B hb hd => OpStep.lk ⟨ρ, (cvar gb_4 r_merkle_Tree t_3) :: B, _⟩ (op_loadA (j := 0) lb tA30 (tl hd 4 28) rfl (Comp.at (cT (comp_merkle_Tree_n t_3) rfl) i_12.2 rfl) hv_13)) <| dR 7 (fun γ ρ B hb hd => OpStep.lk ⟨ρ, (cvar gb_9 (rV 32 (rU UInt8)) v_7) :: B, _⟩ (op_loadA (j := 0) lb tA30 (.tmp (hb 7 _ rfl)) rfl (Comp.self (rV 32 (rU UInt8)) v_7) rfl)) <| dS 8 (fun γ ρ B hb hd => op_eqA lb qa30 (by decide) ng30 (tl hd 5 29) (tl hd 6 30) hv_14) ?_
      exact DSteps.nil)
     (by decide +kernel) (fun _ => rfl) (fun _ => rfl) (fun _ => rfl) rfl
     (ρ' := fun γ => [(0, ov (PTR gb_4 0)), (7, ov (PTR gb_9 0)), (9, ov (S (rI .i64) v_11)), (31, ov (S rB v_14))])
     (X' := fun γ => [cvar gb_4 r_merkle_Tree t_3, cvar gb_9 (rV 32 (rU UInt8)) v_7])
     (fun γ ρ hb hd => (.cons (hb 0 _ rfl) (.cons (hb 7 _ rfl) (.cons (hb 9 _ rfl) (.cons (hdq hd 7 31 rfl) .nil))))) (fun _ => rfl) (fun γ => ?_)
 refine JQ.at ⟨[(0, ov (PTR gb_4 0)), (7, ov (PTR gb_9 0)), (9, ov (S (rI .i64) v_11)), (31, ov (S rB v_14))], [cvar gb_4 r_merkle_Tree t_3, cvar gb_9 (rV 32 (rU UInt8)) v_7], []⟩ <| JQ.then <| jif tR hm (fun hc3 hm => ?_) (fun hc3 hm => ?_)
 · refine jr <| jc (op_assign lb .cI) <| jn <| JC.ret <| JQ.outR ?_
   obtain rfl := so hm
   exact JQ.done (js := [0]) (ss := [.val (S (rI .i64) (0 : Int))]) () (.inl rfl) (.nil rfl) rfl (.cons (.tmp rfl) .nil) rfl rfl rfl
 refine JC.skip <| JQ.then <| JC.seq <| bI hm fun i_15 hv_i_15 hm => ?_
 obtain ⟨t_16, hv_t_16, hm⟩ := lt1_inv hm
 refine JC.anyF (base := [(0, ov (PTR gb_4 0)), (7, ov (PTR gb_9 0)), (9, ov (S (rI .i64) v_11))])
     (fs := fun γ => [⟨some 32, ov (PTR gb_4 0)⟩, ⟨some 33, ov (S (rI .i64) v_11)⟩, ⟨some 34, ov (A (rV 32 (rU UInt8)) v_7)⟩, ⟨some 35, ov (PTR gb_4 0)⟩, ⟨some 36, ov (PTR gb_4 (0 + 0))⟩, ⟨some 37, ov (PTR gb_4 ((0 + 0) + i_15.1 * 32))⟩, ⟨none, .one .any⟩])
     (rs := fun γ => [⟨cvar gb_4 r_merkle_Tree t_3, none, (some 6), []⟩, ⟨cvar gb_9 (rV 32 (rU UInt8)) v_7, none, none, [2]⟩, ⟨cvar gb_4 r_merkle_Tree t_16, (some 6), none, []⟩])
     (afts := nn 7) (js := [0, 0]) mixed (.cons rfl (.cons rfl (.cons rfl .nil))) (fun _ => rfl)
     (by
      refine db 1 0 <| db 2 9 <| dR 3 (fun γ ρ B hb hd => OpStep.lk ⟨ρ, (cvar gb_9 (rV 32 (rU UInt8)) v_7) :: B, _⟩ (op_loadA (j := 0) lb tA30 (.tmp (hb 7 _ rfl)) rfl (Comp.self (rV 32 (rU UInt8)) v_7) rfl)) <| dS 4 (fun γ ρ B hb hd => op_nilCheck lb (tl hd 0 32) (fun e v h => by subst h; rfl)) <| dS 5 (fun γ ρ B hb hd => op_fieldAddr (off := 0) lb tf52_0 (tl hd 3 35)) ?_
      refine dS 6 (fun γ ρ B hb hd => op_indexAddrIF lb tr50 (tl hd 4 36) (tl hd 1 33) hv_i_15) <| dR 7 (fun γ ρ B hb hd => OpStep.at ⟨ρ, (cvar gb_4 r_merkle_Tree t_3) :: B, _⟩ (setO ⟨ρ, (cvar gb_4 r_merkle_Tree t_16) :: B, _⟩ _ _) (op_storeA (j := 0) tA30 (tl hd 5 37) (tl hd 2 34) rfl (Upd.at (cT (comp_merkle_Tree_n t_3) rfl) i_15.2 rfl (Upd.trans (Comp.self r_merkle_Tree t_3) (Upd.self r_merkle_Tree t_3 _) (upd_merkle_Tree_n t_3 (putV t_3.n i_15 v_7)))).R hv_t_16)) ?_
      exact DSteps.nil)
     (by decide +kernel) (fun _ => rfl) (fun _ => rfl) (fun _ => rfl) rfl
     (ρ' := fun γ => [(0, ov (PTR gb_4 0)), (9, ov (S (rI .i64) v_11))])
     (X' := fun γ => [cvar gb_9 (rV 32 (rU UInt8)) v_7, cvar gb_4 r_merkle_Tree t_16])
     (fun γ ρ hb hd => (.cons (hb 0 _ rfl) (.cons (hb 9 _ rfl) .nil))) (fun _ => rfl) (fun γ => ?_)
 refine JQ.at ⟨[(0, ov (PTR gb_4 0)), (9, ov (S (rI .i64) v_11))], [cvar gb_9 (rV 32 (rU UInt8)) v_7, cvar gb_4 r_merkle_Tree t_16], []⟩ <| JQ.then <| bI hm fun x_23 hx4 hq4 => JC.seqJ (γ := Unit) (stj := fun _ => ⟨[], [cvar gb_4 r_merkle_Tree x_23], []⟩) (fun _ => ?_) ?_
 · refine jr <| jc (op_assign lb .cI) <| jn <| JC.ret ?_
   obtain rfl := so hq4
   exact JQ.done (js := [0]) (ss := [.val (S (rI .i64) (0 : Int))]) () (.inl rfl) (.nil rfl) rfl (.cons (.tmp rfl) .nil) rfl rfl rfl
 refine jr <| jmv rfl rfl <| bI hx4 fun v_17 hv_17 hx4 => jc (op_arI lb tR .cI hv_17) <| jc (op_assign lb tR) <| jn <| JC.block <| JC.pre ?_ (JC.loop (γ := Unit) (stf := fun s q => ⟨[(0, ov (PTR gb_4 0)), (9, ov (S (rI .i64) s.2))], [cvar gb_4 r_merkle_Tree s.1], []⟩) (q := ()) hx4 ?_)
 · exact (Imp.norm (js := [1]) rfl (.cons rfl (.cons rfl .nil)))
 intro s q x hx hr
 obtain ⟨t_18, n_19⟩ := s
 obtain _ := q
 change merkle_Tree_Set.b1 k t_18 n_19 = some x at hx
 unfold merkle_Tree_Set.b1 at hx
 refine JC.at ⟨[(0, ov (PTR gb_4 0)), (9, ov (S (rI .i64) n_19))], [cvar gb_4 r_merkle_Tree t_18], []⟩ <| JC.seq <| jr <| jmv rfl rfl <| lI hx fun v_20 hv_20 hx => jc (op_cmpI lb tR .cI (cs hv_20)) <| jn <| jif tR hx (fun hc6 hx => ?_) (fun hc6 hx => ?_)
 · refine JC.skip <| JQ.then <| JC.seq <| JC.block <| JC.region <| jmv rfl rfl <| jmv rfl rfl <| bI hx fun x_21 hv_x_21 hx => jx (op_call (js := [0]) ld cl26 (sim_merkle_Tree_inner k n_19 t_18 gb_4 x_21 hv_x_21) .func (.cons tR (.cons tR .nil)) rfl) fun _ => JL.nil <| JQ.outNB <| JQ.then <| JC.region <| jmv rfl rfl ?_
   obtain ⟨v_22, hv_22, hx⟩ := bnd_inv hx
   refine jc (op_arI lb tR .cI hv_22) <| jc (op_assign lb tR) <| JL.nil ?_
   try obtain rfl := so hx
   exact JQ.next () rfl (Imp.norm (js := [0]) rfl (.cons rfl (.cons rfl .nil)))
 refine JC.exit <| JQ.outX ?_
 try obtain rfl := so hx
 have ht := hr _ rfl
 have hq5 := cs ht
 clear hr ht
 refine JQ.outX <| JQ.here ?_
 try obtain rfl := so hq5
 exact JQ.join () (Imp.norm (js := [0]) rfl .nil)

theorem sim_merkle_Tree_Root (k : Nat) (t_1 : merkle_Tree) (gb_2 : Nat) (r : (Vector UInt8 32)) (hm : merkle_Tree_Root k t_1 = some r) : Sim Try.prog 16 [PTR gb_2 0] [cvar gb_2 r_merkle_Tree t_1] (γ := Unit) (fun q => [cvar gb_2 r_merkle_Tree t_1]) (fun q => .one (.val (A (rV 32 (rU UInt8)) r))) := by
 unfold merkle_Tree_Root at hm
 refine Sim.of Try.func16 rfl rfl (lE rfl) (fun e0 w0 => ?_)
 refine JC.at ⟨[(0, ov (PTR gb_2 0))], [cvar gb_2 r_merkle_Tree t_1], []⟩ <| jr <| jx (op_alloc lb tZ30 zr30) fun gb_3 => jn <| JC.seq <| jr <| jmv rfl rfl <| bI hm fun _ hv_u_4 hm => jx (op_call (js := [0]) ld cl29 (sim_merkle_Tree_there k t_1 gb_2 () hv_u_4) .func (.cons tR .nil) rfl) fun _ => lI hm fun v_5 hv_5 hm => jc (op_not lb tR hv_5) <| jn <| jif tR hm (fun hc1 hm => ?_) (fun hc1 hm => ?_)
 · refine jr <| jc (op_build lb tZ30 zv30 tp30 .nil rfl) <| jc (op_storeA (j := 1) tA30 tR tR rfl (UpdR.self (by rfl)) rfl) <| jn <| JC.ret <| JQ.outR ?_
   obtain rfl := so hm
   exact JQ.done (js := [0]) (ss := [.val (A (rV 32 (rU UInt8)) (Vector.replicate 32 (0 : UInt8)))]) () (.inl rfl) (.nil rfl) rfl (.cons (.cellA (j := 1) tA30 rfl rfl) .nil) rfl rfl rfl
 refine JC.skip <| JQ.then <| jr <| jmv rfl rfl <| jc (op_nilCheck lb tR (fun e v h => by subst h; rfl)) <| jc (op_fieldAddr (off := 0) lb tf52_0 tR) <| bI hm fun i_6 hv_i_6 hm => jc (op_indexAddrIF lb tr50 tR .cI hv_i_6) <| JL.sub ⟨[(2, ov (PTR gb_3 0)), (10, ov (PTR gb_2 ((0 + 0) + i_6.1 * 32)))], [cvar gb_2 r_merkle_Tree t_1, cvar gb_3 (rV 32 (rU UInt8)) (Vector.replicate 32 (0 : UInt8))], []⟩ (.cons rfl (.cons rfl .nil)) rfl rfl <| lI hm fun v_7 hv_7 hm => jc (op_loadA (j := 0) lb tA30 tR rfl (Comp.at (cT (comp_merkle_Tree_n t_1) rfl) i_6.2 rfl) hv_7) <| jc (op_storeA (j := 1) tA30 tR tR rfl (UpdR.self (by rfl)) rfl) <| jn <| JC.ret ?_
 obtain rfl := so hm
 exact JQ.done (js := [0]) (ss := [.val (A (rV 32 (rU UInt8)) v_7)]) () (.inl rfl) (.nil rfl) rfl (.cons (.cellA (j := 1) tA30 rfl rfl) .nil) rfl rfl rfl

theorem sim_merkle_Tree_Copy_v0 (k : Nat) (t_1 : merkle_Tree) (gb_2 : Nat) (r : Unit) (hm : merkle_Tree_Copy k t_1 = some (.inl r)) : Sim Try.prog 19 [PTR gb_2 0] [cvar gb_2 r_merkle_Tree t_1] (γ := Nat) (fun q => [cvar q r_merkle_Tree t_1, cvar gb_2 r_merkle_Tree t_1]) (fun q => .one (.val (PTR q 0))) := by
 unfold merkle_Tree_Copy at hm
 refine Sim.of Try.func19 rfl rfl (lE rfl) (fun e0 w0 => ?_)
 refine JC.at ⟨[(0, ov (PTR gb_2 0))], [cvar gb_2 r_merkle_Tree t_1], []⟩ <| jr <| jc (op_assign lb (HasO.const (p := PTO none) fun _ => rfl)) <| jn <| JC.seq <| jr <| jmv rfl rfl <| bI hm fun _ hv_u_3 hm => jx (op_call (js := [0]) ld cl29 (sim_merkle_Tree_there k t_1 gb_2 () hv_u_3) .func (.cons tR .nil) rfl) fun _ => lI hm fun v_4 hv_4 hm => jc (op_not lb tR hv_4) <| jn <| jif tR hm (fun hc1 hm => ?_) (fun hc1 hm => ?_)
 · refine jr <| jc (op_assign lb (HasO.const (p := PTO none) fun _ => rfl)) <| jn <| JC.ret <| JQ.outR ?_
   cases hm
 exact JC.skip <| JQ.then <| jr <| jmv rfl rfl <| jc (op_nilCheck lb tR (fun e v h => by subst h; rfl)) <| jc (op_loadA (j := 0) lb tA52 tR rfl (Comp.self r_merkle_Tree t_1) rfl) <| jx (op_alloc lb tZ52 zr52) fun gb_5 => JL.sub ⟨[(3, ov (PTR gb_5 0)), (9, ov (A r_merkle_Tree t_1))], [cvar gb_2 r_merkle_Tree t_1, zq5 gb_5], []⟩ (.cons rfl (.cons rfl .nil)) rfl rfl <| jc (op_storeA (j := 1) tA52 tR tR rfl (UpdR.self (by rfl)) rfl) <| jn <| jr <| jc (op_assign lb tR) <| jn <| JC.ret <| JQ.done (js := [1, 0]) (ss := [.val (PTR gb_5 0)]) gb_5 (.inl rfl) (.nil rfl) rfl (.cons (.tmp rfl) .nil) rfl rfl rfl

theorem sim_merkle_Tree_Copy_v1 (k : Nat) (t_1 : merkle_Tree) (gb_2 : Nat) (r : Unit) (hm : merkle_Tree_Copy k t_1 = some (.inr r)) : Sim Try.prog 19 [PTR gb_2 0] [cvar gb_2 r_merkle_Tree t_1] (γ := Unit) (fun q => [cvar gb_2 r_merkle_Tree t_1]) (fun q => .one (.val (PTO none))) := by
 unfold merkle_Tree_Copy at hm
 refine Sim.of Try.func19 rfl rfl (lE rfl) (fun e0 w0 => ?_)
 refine JC.at ⟨[(0, ov (PTR gb_2 0))], [cvar gb_2 r_merkle_Tree t_1], []⟩ <| jr <| jc (op_assign lb (HasO.const (p := PTO none) fun _ => rfl)) <| jn <| JC.seq <| jr <| jmv rfl rfl <| bI hm fun _ hv_u_3 hm => jx (op_call (js := [0]) ld cl29 (sim_merkle_Tree_there k t_1 gb_2 () hv_u_3) .func (.cons tR .nil) rfl) fun _ => lI hm fun v_4 hv_4 hm => jc (op_not lb tR hv_4) <| jn <| jif tR hm (fun hc1 hm => ?_) (fun hc1 hm => ?_)
 · exact jr <| jc (op_assign lb (HasO.const (p := PTO none) fun _ => rfl)) <| jn <| JC.ret <| JQ.outR <| JQ.done (js := [0]) (ss := [.val (PTO none)]) () (.inl rfl) (.nil rfl) rfl (.cons (.tmp rfl) .nil) rfl rfl rfl
 refine JC.skip <| JQ.then <| jr <| jmv rfl rfl <| jc (op_nilCheck lb tR (fun e v h => by subst h; rfl)) <| jc (op_loadA (j := 0) lb tA52 tR rfl (Comp.self r_merkle_Tree t_1) rfl) <| jx (op_alloc lb tZ52 zr52) fun gb_5 => JL.sub ⟨[(3, ov (PTR gb_5 0)), (9, ov (A r_merkle_Tree t_1))], [cvar gb_2 r_merkle_Tree t_1, zq5 gb_5], []⟩ (.cons rfl (.cons rfl .nil)) rfl rfl <| jc (op_storeA (j := 1) tA52 tR tR rfl (UpdR.self (by rfl)) rfl) <| jn <| jr <| jc (op_assign lb tR) <| jn <| JC.ret ?_
 cases hm

theorem sim_merkle_Tree_Same (k : Nat) (t_1 : merkle_Tree) (o_3 : merkle_Tree) (gb_2 : Nat) (gb_4 : Nat) (r : Bool) (hm : merkle_Tree_Same k t_1 o_3 = some r) : Sim Try.prog 20 [PTR gb_2 0, PTR gb_4 0] [cvar gb_2 r_merkle_Tree t_1, cvar gb_4 r_merkle_Tree o_3] (γ := Unit) (fun q => [cvar gb_2 r_merkle_Tree t_1, cvar gb_4 r_merkle_Tree o_3]) (fun q => .one (.val (S rB r))) := by
 unfold merkle_Tree_Same at hm
 refine Sim.of Try.func20 rfl rfl (lE rfl) (fun e0 w0 => ?_)
 refine JC.at ⟨[(0, ov (PTR gb_2 0)), (1, ov (PTR gb_4 0))], [cvar gb_2 r_merkle_Tree t_1, cvar gb_4 r_merkle_Tree o_3], []⟩ <| jr <| jc (op_assign lb .cB) <| jn <| JC.seq <| bI hm fun x_9 hx1 hq1 => JC.seqJ (γ := Unit) (stj := fun _ => ⟨[(0, ov (PTR gb_2 0)), (1, ov (PTR gb_4 0)), (12, ov (S rB x_9))], [cvar gb_2 r_merkle_Tree t_1, cvar gb_4 r_merkle_Tree o_3], []⟩) (fun _ => ?_) ?_
 · refine jif tR hq1 (fun hc5 hq1 => ?_) (fun hc5 hq1 => ?_)
   · refine jr <| jmv rfl rfl <| bI hq1 fun _ hv_u_10 hq1 => jx (op_call (js := [0]) ld cl29 (sim_merkle_Tree_there k t_1 gb_2 () hv_u_10) .func (.cons tR .nil) rfl) fun _ => jmv rfl rfl <| bI hq1 fun _ hv_u_11 hq1 => jx (op_call (js := [1]) ld cl29 (sim_merkle_Tree_there k o_3 gb_4 () hv_u_11) .func (.cons tR .nil) rfl) fun _ => lI hq1 fun v_12 hv_12 hq1 => jc (op_eqB lb tu4 tR tR hv_12) <| jc (op_assign lb tR) <| jn <| JC.ret ?_
     refine JQ.outR ?_
     obtain rfl := so hq1
     exact JQ.done (js := [1, 0]) (ss := [.val (S rB v_12)]) () (.inl rfl) (.nil rfl) rfl (.cons (.tmp rfl) .nil) rfl rfl rfl
   refine JC.skip <| JQ.then <| jr <| jmv rfl rfl <| bI hq1 fun v_13 hv_13 hq1 => jx (op_call (js := [0]) ld cl23 (sim_merkle_Tree_Leaves k t_1 gb_2 v_13 hv_13) .func (.cons tR .nil) rfl) (fun q => ?_)
   obtain ⟨go_14, gc_15⟩ := q
   refine jmv rfl rfl <| bI hq1 fun v_16 hv_16 hq1 => jx (op_call (js := [2]) ld cl23 (sim_merkle_Tree_Leaves k o_3 gb_4 v_16 hv_16) .func (.cons tR .nil) rfl) (fun q => ?_)
   obtain ⟨go_17, gc_18⟩ := q
   refine bI hq1 fun v_19 hv_19 hq1 => JL.pre (Imp.frz (j := 2) rfl (ImpK.slotH (s := 19) rfl ImpK.refl)) <| JL.pre (Imp.frz (j := 0) rfl (ImpK.slotH (s := 21) rfl ImpK.refl)) <| jx (op_call (js := []) ld cl34 (sim_slices_Equalapi_Hash_api_Hash k v_13 v_16 v_19 hv_19) .func (.cons (HasO.wk tR wkHL) (.cons (HasO.wk tR wkHL) .nil)) rfl) fun _ => jc (op_assign lb tR) <| JL.nrm ⟨[(4, ov (S rB v_19))], [cvar gb_4 r_merkle_Tree o_3, cvar gb_2 r_merkle_Tree t_1], []⟩ [1, 2] rfl (.cons rfl .nil) rfl <| jn <| JC.ret ?_
   obtain rfl := so hq1
   exact JQ.done (js := [1, 0]) (ss := [.val (S rB v_19)]) () (.inl rfl) (.nil rfl) rfl (.cons (.tmp rfl) .nil) rfl rfl rfl
 refine JC.region <| jmv rfl rfl <| bI hx1 fun _ hv_u_5 hx1 => jx (op_call (js := [0]) ld cl29 (sim_merkle_Tree_there k t_1 gb_2 () hv_u_5) .func (.cons tR .nil) rfl) fun _ => lI hx1 fun v_6 hv_6 hx1 => jc (op_not lb tR hv_6) <| jmv rfl rfl <| jF (ov (PTR gb_4 0)) rfl rfl rfl rfl (fun hq_2 => op_move lb tR) ?_
 rcases iteB_inv hx1 with ⟨hc4, hx1⟩ | ⟨hc4, hx1⟩
 · refine jk rfl hc4 <| jk rfl hc4 <| jc (op_pickT lb tR hc4 .cB) <| JL.nil ?_
   try obtain rfl := so hx1
   exact JQ.join () (Imp.norm (js := [0, 0]) rfl (.cons rfl (.cons rfl (.cons rfl .nil))))
 refine bI hx1 fun _ hv_u_7 hx1 => JL.runX (.yes rfl (ltB rfl) rfl hc4) (op_call (js := [1]) ld cl29 (sim_merkle_Tree_there k o_3 gb_4 () hv_u_7) .func (.cons (HasO.cnd tR (notT hc4)) .nil) rfl) fun _ => lI hx1 fun v_8 hv_8 hx1 => JL.run (.yes rfl (ltB rfl) rfl hc4) (op_not lb tR hv_8) <| JL.sub ⟨[(0, ov (PTR gb_2 0)), (1, ov (PTR gb_4 0)), (8, ov (S rB v_6)), (11, ov (S rB v_8))], [cvar gb_4 r_merkle_Tree o_3, cvar gb_2 r_merkle_Tree t_1], []⟩ (.cons rfl (.cons rfl (.cons rfl (.cons rfl .nil)))) rfl rfl <| jc (op_pickF lb tR hc4 tR) <| JL.nil ?_
 try obtain rfl := so hx1
 exact JQ.join () (Imp.norm (js := [1, 0]) rfl (.cons rfl (.cons rfl (.cons rfl .nil))))

theorem sim_law08_nothing (k : Nat) (t_1 : merkle_Tree) (gb_2 : Nat) (r : Bool × merkle_Tree) (hm : law08_nothing k t_1 = some r) : Sim Try.prog 22 [PTR gb_2 0] [cvar gb_2 r_merkle_Tree t_1] (γ := Unit) (fun q => [cvar gb_2 r_merkle_Tree r.2]) (fun q => .one (.val (S rB r.1))) := by
 unfold law08_nothing at hm
 refine Sim.of Try.func22 rfl rfl (lE rfl) (fun e0 w0 => ?_)
 refine JC.at ⟨[(0, ov (PTR gb_2 0))], [cvar gb_2 r_merkle_Tree t_1], []⟩ <| jr <| jc (op_assign lb .cB) <| jn <| jr ?_
 obtain ⟨ts1, hs1, hm⟩ := bnd_inv hm
 rcases ts1 with ts1 | ts1
 · obtain ⟨v_3, hvv⟩ : ∃ z, z = ts1 := ⟨_, rfl⟩
   subst hvv
   dsimp only at hm
   refine jx (op_call (js := []) ld cl12 (sim_merkle_New_v0 k v_3 hs1) .func .nil rfl) fun gb_4 => jc (op_assign lb tR) <| jn <| jr <| jmv rfl rfl ?_
   obtain ⟨⟨v_5, v_6⟩, hv_5, hm⟩ := bnd_inv hm
   refine jx (op_call (js := [1]) ld cl14 (sim_merkle_Tree_Node k (1 : Int) t_1 gb_2 (v_5, v_6) hv_5) .func (.cons tR (.cons .cI .nil)) rfl) fun _ => jmv rfl rfl <| jc (op_extract (i := 0) lb tR rfl) <| jc (op_extract (i := 1) lb tR rfl) <| JL.sub ⟨[(0, ov (PTR gb_2 0)), (3, ov (PTR gb_4 0)), (16, ov (A (rV 32 (rU UInt8)) v_5)), (17, ov (S (rI .i64) v_6))], [cvar gb_2 r_merkle_Tree t_1, cvar gb_4 r_merkle_Tree v_3], []⟩ (.cons rfl (.cons rfl (.cons rfl (.cons rfl .nil)))) rfl rfl <| jx (op_alloc lb tZ30 zr30) fun gb_7 => jc (op_storeA (j := 2) tA30 tR tR rfl (UpdR.self (by rfl)) rfl) <| jc (op_assign lb tR) <| jn <| jr <| jmv rfl rfl <| jmv rfl rfl ?_
   obtain ⟨⟨v_8, v_9, v_10⟩, hv_8, hm⟩ := bnd_inv hm
   refine jx (op_call (js := [0, 0]) ld cl24 (sim_merkle_Tree_Diff k t_1 v_3 gb_2 gb_4 (v_8, v_9, v_10) hv_8) .func (.cons tR (.cons tR .nil)) rfl) (fun q => ?_)
   obtain ⟨go_11, gc_12⟩ := q
   refine JL.nrm ⟨[(0, ov (PTR gb_2 0)), (3, ov (PTR gb_4 0)), (5, ov (S (rI .i64) v_6)), (21, .tup [.val (HDR go_11 0 (List.length v_8) gc_12), .val (S (rI .i64) v_9), .val (S (rI .i64) v_10)])], [cown go_11 (rI .i64) v_8 0 gc_12, cvar gb_2 r_merkle_Tree t_1, cvar gb_4 r_merkle_Tree v_3], []⟩ [0, 0, 0] rfl (.cons rfl (.cons rfl (.cons rfl (.cons rfl .nil)))) rfl <| jmv rfl rfl <| jc (op_extract (i := 0) lb tR rfl) <| jc (op_extract (i := 1) lb tR rfl) <| jc (op_extract (i := 2) lb tR rfl) <| jc (op_assign lb tR) <| jc (op_assign lb tR) <| jc (op_assign lb tR) <| jn <| jr <| jmv rfl rfl <| jmv rfl rfl ?_
   obtain ⟨⟨v_13, v_14, v_15⟩, hv_13, hm⟩ := bnd_inv hm
   refine jx (op_call (js := [2, 1]) ld cl24 (sim_merkle_Tree_Diff k v_3 t_1 gb_4 gb_2 (v_13, v_14, v_15) hv_13) .func (.cons tR (.cons tR .nil)) rfl) (fun q => ?_)
   obtain ⟨go_16, gc_17⟩ := q
   refine JL.nrm ⟨[(0, ov (PTR gb_2 0)), (3, ov (PTR gb_4 0)), (5, ov (S (rI .i64) v_6)), (8, ov (S (rI .i64) v_10)), (28, .tup [.val (HDR go_16 0 (List.length v_13) gc_17), .val (S (rI .i64) v_14), .val (S (rI .i64) v_15)])], [cown go_16 (rI .i64) v_13 0 gc_17, cvar gb_4 r_merkle_Tree v_3, cvar gb_2 r_merkle_Tree t_1], []⟩ [0, 0, 0] rfl (.cons rfl (.cons rfl (.cons rfl (.cons rfl (.cons rfl .nil))))) rfl <| jmv rfl rfl <| jc (op_extract (i := 0) lb tR rfl) <| jc (op_extract (i := 1) lb tR rfl) <| jc (op_extract (i := 2) lb tR rfl) <| jc (op_assign lb tR) <| jc (op_assign lb tR) <| jc (op_assign lb tR) <| jn ?_
   obtain ⟨⟨x_43, x_44⟩, hx2, hq2⟩ := bnd_inv hm
   refine JC.seqJ (γ := Unit) (stj := fun _ => ⟨[(2, ov (S rB x_43))], [cvar gb_2 r_merkle_Tree x_44], []⟩) (fun _ => ?_) ?_
   · refine JC.ret ?_
     obtain rfl := so hq2
     exact JQ.done (js := [0]) (ss := [.val (S rB x_43)]) () (.inl rfl) (.nil rfl) rfl (.cons (.tmp rfl) .nil) rfl rfl rfl
   refine JC.region <| jmv rfl rfl ?_
   obtain ⟨⟨v_18, x_19⟩, hv_18, hx2⟩ := bnd_inv hx2
   refine jx (op_call (js := [2]) ld cl13 (sim_merkle_Tree_Set k (0 : Int) ([] : (List UInt8)) t_1 gb_2 (v_18, x_19) hv_18) .func (.cons tR (.cons .cI (.cons (HasO.wk (q := S (rL (rU UInt8)) []) HasO.nilH wkNil) .nil))) rfl) fun _ => bI hx2 fun _ hv_u_20 hx2 => jx (op_call (js := []) ld cl9 (sim_law08_num k v_18 () hv_u_20) .func (.cons tR .nil) rfl) fun _ => JL.nrm ⟨[(0, ov (PTR gb_2 0)), (3, ov (PTR gb_4 0)), (5, ov (S (rI .i64) v_6)), (8, ov (S (rI .i64) v_10)), (11, ov (S (rI .i64) v_15)), (34, ov (S (rI .i64) v_18))], [cvar gb_2 r_merkle_Tree x_19, cvar gb_4 r_merkle_Tree v_3], []⟩ [0, 1] rfl (.cons rfl (.cons rfl (.cons rfl (.cons rfl (.cons rfl (.cons rfl .nil)))))) rfl <| lI hx2 fun v_21 hv_21 hx2 => jc (op_cmpI lb tR .cI (cs hv_21)) <| jmv rfl rfl <| jT (ov (PTR gb_2 0)) rfl rfl rfl rfl (fun hq_3 => op_move lb tR) ?_
   rcases iteB_inv hx2 with ⟨hc5, hx2⟩ | ⟨hc5, hx2⟩
   · refine bI hx2 fun v_22 hv_22 hx2 => JL.runX (.yes rfl (ltB rfl) rfl hc5) (op_call (js := [0]) ld cl16 (sim_merkle_Tree_Root k x_19 gb_2 v_22 hv_22) .func (.cons (HasO.cnd tR hc5) .nil) rfl) fun _ => JL.run (.yes rfl (ltB rfl) rfl hc5) (op_build lb tZ30 zv30 tp30 .nil rfl) <| lI hx2 fun v_23 hv_23 hx2 => JL.run (.yes rfl (ltB rfl) rfl hc5) (op_eqA lb qa30 (by decide) ng30 tR tR hv_23) <| jc (op_pickT lb tR hc5 tR) <| jmv rfl rfl <| jT (ov (S (rI .i64) v_6)) rfl rfl rfl rfl (fun hq_6 => op_move lb tR) <| bI hx2 fun _ hv_u_24 hx2 => jT (ov (S (rI .i64) v_6)) rfl rfl rfl rfl (fun hq_7 => (op_call (js := []) ld cl9 (sim_law08_num k v_6 () (ifT hv_u_24 hq_7)) .func (.cons (HasO.cnd tR hq_7) .nil) rfl).post (fun _ => Imp.refl)) ?_
     refine lI hx2 fun v_25 hv_25 hx2 => jT (ov (S rB v_25)) rfl rfl rfl rfl (fun hq_8 => op_cmpI lb (HasO.cnd tR hq_8) .cI (cs hv_25)) <| lI hx2 fun v_26 hv_26 hx2 => jc (op_pickCS lb tR (fun hb9 => (HasO.cnd tR hb9)) (fun hb9 => .cB) hv_26) <| JL.sub ⟨[(0, ov (PTR gb_2 0)), (3, ov (PTR gb_4 0)), (8, ov (S (rI .i64) v_10)), (11, ov (S (rI .i64) v_15)), (46, ov (S rB v_26))], [cvar gb_2 r_merkle_Tree x_19, cvar gb_4 r_merkle_Tree v_3], []⟩ (.cons rfl (.cons rfl (.cons rfl (.cons rfl (.cons rfl .nil))))) rfl rfl <| jmv rfl rfl <| jT (ov (PTR gb_2 0)) rfl rfl rfl rfl (fun hq_10 => op_move lb tR) ?_
     rcases iteB_inv hx2 with ⟨hc12, hx2⟩ | ⟨hc12, hx2⟩
     · refine bI hx2 fun v_27 hv_27 hx2 => JL.runX (.yes rfl (ltB rfl) rfl hc12) (op_call (js := [0]) ld cl23 (sim_merkle_Tree_Leaves k x_19 gb_2 v_27 hv_27) .func (.cons (HasO.cnd tR hc12) .nil) rfl) (fun q => ?_)
       obtain ⟨go_28, gc_29⟩ := q
       refine JL.run (.yes rfl (ltB rfl) rfl hc12) (op_lenH lb tu22 tR) <| lI hx2 fun v_30 hv_30 hx2 => JL.run (.yes rfl (ltB rfl) rfl hc12) (op_cmpI lb tR .cI (cs hv_30)) <| jc (op_pickT lb tR hc12 tR) <| jmv rfl rfl <| jT (ov (S (rI .i64) v_10)) rfl rfl rfl rfl (fun hq_13 => op_move lb tR) <| bI hx2 fun _ hv_u_31 hx2 => jT (ov (S (rI .i64) v_10)) rfl rfl rfl rfl (fun hq_14 => (op_call (js := []) ld cl9 (sim_law08_num k v_10 () (ifT hv_u_31 hq_14)) .func (.cons (HasO.cnd tR hq_14) .nil) rfl).post (fun _ => Imp.refl)) <| lI hx2 fun v_32 hv_32 hx2 => jT (ov (S rB v_32)) rfl rfl rfl rfl (fun hq_15 => op_cmpI lb (HasO.cnd tR hq_15) .cI (cs hv_32)) ?_
       refine JL.nrm ⟨[(0, ov (PTR gb_2 0)), (3, ov (PTR gb_4 0)), (11, ov (S (rI .i64) v_15)), (53, ov (S rB v_30)), (56, bif v_30 then ov (S rB v_32) else .one .und)], [cvar gb_2 r_merkle_Tree x_19, cvar gb_4 r_merkle_Tree v_3], []⟩ [1, 1] rfl (.cons rfl (.cons rfl (.cons rfl (.cons rfl (.cons rfl .nil))))) rfl <| lI hx2 fun v_33 hv_33 hx2 => jc (op_pickCS lb tR (fun hb16 => (HasO.cnd tR hb16)) (fun hb16 => .cB) hv_33) <| jmv rfl rfl <| jT (ov (S (rI .i64) v_15)) rfl rfl rfl rfl (fun hq_17 => op_move lb tR) <| bI hx2 fun _ hv_u_34 hx2 => jT (ov (S (rI .i64) v_15)) rfl rfl rfl rfl (fun hq_18 => (op_call (js := []) ld cl9 (sim_law08_num k v_15 () (ifT hv_u_34 hq_18)) .func (.cons (HasO.cnd tR hq_18) .nil) rfl).post (fun _ => Imp.refl)) <| lI hx2 fun v_35 hv_35 hx2 => jT (ov (S rB v_35)) rfl rfl rfl rfl (fun hq_19 => op_cmpI lb (HasO.cnd tR hq_19) .cI (cs hv_35)) ?_
       obtain ⟨v_36, hv_36, hx2⟩ := lt1_inv hx2
       refine jc (op_pickCS lb tR (fun hb20 => (HasO.cnd tR hb20)) (fun hb20 => .cB) hv_36) <| jmv rfl rfl <| jT (ov (PTR gb_2 0)) rfl rfl rfl rfl (fun hq_21 => op_move lb tR) ?_
       rcases iteB_inv hx2 with ⟨hc23, hx2⟩ | ⟨hc23, hx2⟩
       · obtain ⟨ts24, hs24, hx2⟩ := bnd_inv hx2
         rcases ts24 with ts24 | ts24
         · obtain _ := ts24
           dsimp only at hx2
           refine JL.runX (.yes rfl (ltB rfl) rfl hc23) (op_call (js := [0]) ld cl19 (sim_merkle_Tree_Copy_v0 k x_19 gb_2 () hs24) .func (.cons (HasO.cnd tR hc23) .nil) rfl) fun gb_37 => JL.run (.yes rfl (ltB rfl) rfl hc23) (op_nilP (neg := false) lb tu24 tR (HasO.const (p := PTO none) fun _ => rfl)) <| JL.nrm ⟨[(0, ov (PTR gb_2 0)), (3, ov (PTR gb_4 0)), (63, ov (S rB v_36)), (66, ov (S rB false))], [cvar gb_2 r_merkle_Tree x_19, cvar gb_4 r_merkle_Tree v_3], []⟩ [1, 1] rfl (.cons rfl (.cons rfl (.cons rfl (.cons rfl .nil)))) rfl <| jc (op_pickT lb tR hc23 tR) <| jmv rfl rfl <| jk rfl rfl <| jk rfl rfl <| jc (op_pickF lb tR rfl .cB) <| jmv rfl rfl <| jk rfl rfl <| jk rfl rfl <| jk rfl rfl <| jk rfl rfl <| jc (op_pickF lb tR rfl .cB) <| jmv rfl rfl <| jk rfl rfl <| jk rfl rfl <| jk rfl rfl <| jk rfl rfl <| jc (op_pickF lb tR rfl .cB) <| jc (op_assign lb tR) <| JL.nil ?_
           have hz := Option.some.inj hx2
           replace hz := Prod.mk.inj hz
           obtain ⟨hz_a, hz⟩ := hz
           first | subst hz_a | clear hz_a
           first | subst hz | clear hz
           exact JQ.join () (Imp.norm (js := [0]) rfl (.cons rfl .nil))
         obtain _ := ts24
         dsimp only at hx2
         refine JL.runX (.yes rfl (ltB rfl) rfl hc23) (op_call (js := [0]) ld cl19 (sim_merkle_Tree_Copy_v1 k x_19 gb_2 () hs24) .func (.cons (HasO.cnd tR hc23) .nil) rfl) fun _ => JL.run (.yes rfl (ltB rfl) rfl hc23) (op_nilO (neg := false) (ob := none) lb tu24 tR (HasO.const (p := PTO none) fun _ => rfl) rfl) <| JL.sub ⟨[(0, ov (PTR gb_2 0)), (3, ov (PTR gb_4 0)), (63, ov (S rB v_36)), (66, ov (S rB true))], [cvar gb_2 r_merkle_Tree x_19, cvar gb_4 r_merkle_Tree v_3], []⟩ (.cons rfl (.cons rfl (.cons rfl (.cons rfl .nil)))) rfl rfl <| jc (op_pickT lb tR hc23 tR) <| jmv rfl rfl <| JL.run (.yes rfl (ltB rfl) rfl rfl) (op_move lb tR) <| bI hx2 fun v_38 hv_38 hx2 => JL.runX (.yes rfl (ltB rfl) rfl rfl) (op_call (js := [0]) ld cl20 (sim_merkle_Tree_Same_pn k x_19 gb_2 v_38 hv_38) .func (.cons tR (.cons (HasO.const (p := PTO none) fun _ => rfl) .nil)) rfl) fun _ => jc (op_pickT lb tR rfl tR) <| jmv rfl rfl <| jT (ov (PTR gb_2 0)) rfl rfl rfl rfl (fun hq_25 => op_move lb tR) ?_
         refine jT (ov (PTR gb_4 0)) rfl rfl rfl rfl (fun hq_26 => op_move lb tR) ?_
         rcases iteB_inv hx2 with ⟨hc28, hx2⟩ | ⟨hc28, hx2⟩
         · refine bI hx2 fun v_39 hv_39 hx2 => JL.runX (.yes rfl (ltB rfl) rfl hc28) (op_call (js := [0, 0]) ld cl20 (sim_merkle_Tree_Same k x_19 v_3 gb_2 gb_4 v_39 hv_39) .func (.cons (HasO.cnd tR hc28) (.cons (HasO.cnd tR hc28) .nil)) rfl) fun _ => lI hx2 fun v_40 hv_40 hx2 => JL.run (.yes rfl (ltB rfl) rfl hc28) (op_not lb tR hv_40) <| jc (op_pickT lb tR hc28 tR) <| jmv rfl rfl <| JL.sub ⟨[(0, ov (PTR gb_2 0)), (3, ov (PTR gb_4 0)), (78, ov (S rB v_40))], [cvar gb_2 r_merkle_Tree x_19, cvar gb_4 r_merkle_Tree v_3], []⟩ (.cons rfl (.cons rfl (.cons rfl .nil))) rfl rfl <| jT (ov (PTR gb_4 0)) rfl rfl rfl rfl (fun hq_29 => op_move lb tR) <| jT (ov (PTR gb_2 0)) rfl rfl rfl rfl (fun hq_30 => op_move lb tR) ?_
           rcases iteB_inv hx2 with ⟨hc32, hx2⟩ | ⟨hc32, hx2⟩
           · refine bI hx2 fun v_41 hv_41 hx2 => JL.runX (.yes rfl (ltB rfl) rfl hc32) (op_call (js := [1, 0]) ld cl20 (sim_merkle_Tree_Same k v_3 x_19 gb_4 gb_2 v_41 hv_41) .func (.cons (HasO.cnd tR hc32) (.cons (HasO.cnd tR hc32) .nil)) rfl) fun _ => lI hx2 fun v_42 hv_42 hx2 => JL.run (.yes rfl (ltB rfl) rfl hc32) (op_not lb tR hv_42) <| jc (op_pickT lb tR hc32 tR) <| jc (op_assign lb tR) <| JL.nil ?_
             have hz := Option.some.inj hx2
             replace hz := Prod.mk.inj hz
             obtain ⟨hz_a, hz⟩ := hz
             first | subst hz_a | clear hz_a
             first | subst hz | clear hz
             exact JQ.join () (Imp.norm (js := [1]) rfl (.cons rfl .nil))
           refine jk rfl hc32 <| jk rfl hc32 <| jc (op_pickF lb tR hc32 .cB) <| jc (op_assign lb tR) <| JL.nil ?_
           have hz := Option.some.inj hx2
           replace hz := Prod.mk.inj hz
           obtain ⟨hz_a, hz⟩ := hz
           first | subst hz_a | clear hz_a
           first | subst hz | clear hz
           exact JQ.join () (Imp.norm (js := [0]) rfl (.cons rfl .nil))
         refine jk rfl hc28 <| jk rfl hc28 <| jc (op_pickF lb tR hc28 .cB) <| jmv rfl rfl <| jk rfl rfl <| jk rfl rfl <| jk rfl rfl <| jk rfl rfl <| jc (op_pickF lb tR rfl .cB) <| jc (op_assign lb tR) <| JL.nrm ⟨[(2, ov (S rB false))], [cvar gb_2 r_merkle_Tree x_19], []⟩ [0] rfl (.cons rfl .nil) rfl <| JL.nil ?_
         have hz := Option.some.inj hx2
         replace hz := Prod.mk.inj hz
         obtain ⟨hz_a, hz⟩ := hz
         first | subst hz_a | clear hz_a
         first | subst hz | clear hz
         exact JQ.join () (Imp.norm (js := [0]) rfl (.cons rfl .nil))
       refine jk rfl hc23 <| jk rfl hc23 <| jc (op_pickF lb tR hc23 .cB) <| jmv rfl rfl <| jk rfl rfl <| jk rfl rfl <| jc (op_pickF lb tR rfl .cB) <| jmv rfl rfl <| JL.sub ⟨[(0, ov (PTR gb_2 0)), (3, ov (PTR gb_4 0)), (72, ov (S rB false))], [cvar gb_2 r_merkle_Tree x_19, cvar gb_4 r_merkle_Tree v_3], []⟩ (.cons rfl (.cons rfl (.cons rfl .nil))) rfl rfl <| jk rfl rfl <| jk rfl rfl <| jk rfl rfl <| jk rfl rfl <| jc (op_pickF lb tR rfl .cB) <| jmv rfl rfl <| jk rfl rfl <| jk rfl rfl <| jk rfl rfl <| jk rfl rfl <| jc (op_pickF lb tR rfl .cB) <| jc (op_assign lb tR) <| JL.nil ?_
       have hz := Option.some.inj hx2
       replace hz := Prod.mk.inj hz
       obtain ⟨hz_a, hz⟩ := hz
       first | subst hz_a | clear hz_a
       first | subst hz | clear hz
       exact JQ.join () (Imp.norm (js := [0]) rfl (.cons rfl .nil))
     refine jk rfl hc12 <| jk rfl hc12 <| jk rfl hc12 <| jc (op_pickF lb tR hc12 .cB) <| jmv rfl rfl <| jk rfl rfl <| jk rfl rfl <| jk rfl rfl <| jc (op_pickF lb tR rfl .cB) <| jmv rfl rfl <| jk rfl rfl <| jk rfl rfl <| jk rfl rfl <| jc (op_pickF lb tR rfl .cB) <| jmv rfl rfl <| jk rfl rfl <| jk rfl rfl <| jk rfl rfl <| jc (op_pickF lb tR rfl .cB) <| jmv rfl rfl <| jk rfl rfl <| jk rfl rfl <| jc (op_pickF lb tR rfl .cB) <| jmv rfl rfl <| JL.sub ⟨[(0, ov (PTR gb_2 0)), (3, ov (PTR gb_4 0)), (72, ov (S rB false))], [cvar gb_2 r_merkle_Tree x_19, cvar gb_4 r_merkle_Tree v_3], []⟩ (.cons rfl (.cons rfl (.cons rfl .nil))) rfl rfl <| jk rfl rfl <| jk rfl rfl <| jk rfl rfl <| jk rfl rfl <| jc (op_pickF lb tR rfl .cB) <| jmv rfl rfl <| jk rfl rfl <| jk rfl rfl <| jk rfl rfl <| jk rfl rfl <| jc (op_pickF lb tR rfl .cB) <| jc (op_assign lb tR) <| JL.nil ?_
     have hz := Option.some.inj hx2
     replace hz := Prod.mk.inj hz
     obtain ⟨hz_a, hz⟩ := hz
     first | subst hz_a | clear hz_a
     first | subst hz | clear hz
     exact JQ.join () (Imp.norm (js := [0]) rfl (.cons rfl .nil))
   refine jk rfl hc5 <| jk rfl hc5 <| jk rfl hc5 <| jc (op_pickF lb tR hc5 .cB) <| jmv rfl rfl <| jk rfl rfl <| jk rfl rfl <| jk rfl rfl <| jc (op_pickF lb tR rfl .cB) <| jmv rfl rfl <| jk rfl rfl <| jk rfl rfl <| jk rfl rfl <| jk rfl rfl <| jc (op_pickF lb tR rfl .cB) <| jmv rfl rfl <| jk rfl rfl <| jk rfl rfl <| jk rfl rfl <| jc (op_pickF lb tR rfl .cB) <| jmv rfl rfl <| jk rfl rfl <| jk rfl rfl <| jk rfl rfl <| jc (op_pickF lb tR rfl .cB) <| JL.sub ⟨[(0, ov (PTR gb_2 0)), (3, ov (PTR gb_4 0)), (62, ov (S rB false))], [cvar gb_2 r_merkle_Tree x_19, cvar gb_4 r_merkle_Tree v_3], []⟩ (.cons rfl (.cons rfl (.cons rfl .nil))) rfl rfl <| jmv rfl rfl <| jk rfl rfl <| jk rfl rfl <| jk rfl rfl <| jc (op_pickF lb tR rfl .cB) <| jmv rfl rfl <| jk rfl rfl <| jk rfl rfl <| jc (op_pickF lb tR rfl .cB) <| jmv rfl rfl <| jk rfl rfl <| jk rfl rfl <| jk rfl rfl <| jk rfl rfl <| jc (op_pickF lb tR rfl .cB) ?_
   refine jmv rfl rfl <| jk rfl rfl <| jk rfl rfl <| jk rfl rfl <| jk rfl rfl <| jc (op_pickF lb tR rfl .cB) <| jc (op_assign lb tR) <| JL.nil ?_
   have hz := Option.some.inj hx2
   replace hz := Prod.mk.inj hz
   obtain ⟨hz_a, hz⟩ := hz
   first | subst hz_a | clear hz_a
   first | subst hz | clear hz
   exact JQ.join () (Imp.norm (js := [0]) rfl (.cons rfl .nil))
 obtain _ := ts1
 dsimp only at hm
 refine jx (op_call (js := []) ld cl12 (sim_merkle_New_v1 k () hs1) .func .nil rfl) fun _ => jc (op_assign lb tR) <| jn <| jr <| jmv rfl rfl ?_
 obtain ⟨⟨v_45, v_46⟩, hv_45, hm⟩ := bnd_inv hm
 refine jx (op_call (js := [0]) ld cl14 (sim_merkle_Tree_Node k (1 : Int) t_1 gb_2 (v_45, v_46) hv_45) .func (.cons tR (.cons .cI .nil)) rfl) fun _ => jmv rfl rfl <| jc (op_extract (i := 0) lb tR rfl) <| jc (op_extract (i := 1) lb tR rfl) <| JL.sub ⟨[(0, ov (PTR gb_2 0)), (3, ov (PTO none)), (16, ov (A (rV 32 (rU UInt8)) v_45)), (17, ov (S (rI .i64) v_46))], [cvar gb_2 r_merkle_Tree t_1], []⟩ (.cons rfl (.cons rfl (.cons rfl (.cons rfl .nil)))) rfl rfl <| jx (op_alloc lb tZ30 zr30) fun gb_47 => jc (op_storeA (j := 1) tA30 tR tR rfl (UpdR.self (by rfl)) rfl) <| jc (op_assign lb tR) <| jn <| jr <| jmv rfl rfl <| jmv rfl rfl <| bI hm fun _ hv_u_48 hm => jx (op_call (js := [0]) ld cl24 (sim_merkle_Tree_Diff_pn k t_1 gb_2 () hv_u_48) .func (.cons tR (.cons tR .nil)) rfl) fun _ => jmv rfl rfl <| jc (op_extract (i := 0) lb tR rfl) ?_
 refine JL.nrm ⟨[(0, ov (PTR gb_2 0)), (3, ov (PTO none)), (5, ov (S (rI .i64) v_46)), (18, .tup [.val (HDR none 0 0 0), .val (S (rI .i64) (0 : Int)), .val (S (rI .i64) (1 : Int))]), (22, ov (HDR none 0 0 0))], [cvar gb_2 r_merkle_Tree t_1], []⟩ [0] rfl (.cons rfl (.cons rfl (.cons rfl (.cons rfl (.cons rfl .nil))))) rfl <| jc (op_extract (i := 1) lb tR rfl) <| jc (op_extract (i := 2) lb tR rfl) <| jc (op_assign lb tR) <| jc (op_assign lb tR) <| jc (op_assign lb tR) <| jn <| jr <| jmv rfl rfl <| jmv rfl rfl <| bI hm fun _ hv_u_49 hm => jx (op_call (js := [0]) ld cl24 (sim_merkle_Tree_Diff_np k t_1 gb_2 () hv_u_49) .func (.cons tR (.cons tR .nil)) rfl) fun _ => jmv rfl rfl <| jc (op_extract (i := 0) lb tR rfl) <| jc (op_extract (i := 1) lb tR rfl) <| jc (op_extract (i := 2) lb tR rfl) <| JL.sub ⟨[(0, ov (PTR gb_2 0)), (3, ov (PTO none)), (5, ov (S (rI .i64) v_46)), (8, ov (S (rI .i64) (1 : Int))), (29, ov (HDR none 0 0 0)), (30, ov (S (rI .i64) (0 : Int))), (31, ov (S (rI .i64) (1 : Int)))], [cvar gb_2 r_merkle_Tree t_1], []⟩ (.cons rfl (.cons rfl (.cons rfl (.cons rfl (.cons rfl (.cons rfl (.cons rfl .nil))))))) rfl rfl <| jc (op_assign lb tR) <| jc (op_assign lb tR) <| jc (op_assign lb tR) <| jn ?_
 obtain ⟨⟨x_73, x_74⟩, hx33, hq33⟩ := bnd_inv hm
 refine JC.seqJ (γ := Unit) (stj := fun _ => ⟨[(2, ov (S rB x_73))], [cvar gb_2 r_merkle_Tree x_74], []⟩) (fun _ => ?_) ?_
 · refine JC.ret ?_
   obtain rfl := so hq33
   exact JQ.done (js := [0]) (ss := [.val (S rB x_73)]) () (.inl rfl) (.nil rfl) rfl (.cons (.tmp rfl) .nil) rfl rfl rfl
 refine JC.region <| jmv rfl rfl ?_
 obtain ⟨⟨v_50, x_51⟩, hv_50, hx33⟩ := bnd_inv hx33
 refine jx (op_call (js := [0]) ld cl13 (sim_merkle_Tree_Set k (0 : Int) ([] : (List UInt8)) t_1 gb_2 (v_50, x_51) hv_50) .func (.cons tR (.cons .cI (.cons (HasO.wk (q := S (rL (rU UInt8)) []) HasO.nilH wkNil) .nil))) rfl) fun _ => bI hx33 fun _ hv_u_52 hx33 => jx (op_call (js := []) ld cl9 (sim_law08_num k v_50 () hv_u_52) .func (.cons tR .nil) rfl) fun _ => lI hx33 fun v_53 hv_53 hx33 => jc (op_cmpI lb tR .cI (cs hv_53)) <| jmv rfl rfl <| jT (ov (PTR gb_2 0)) rfl rfl rfl rfl (fun hq_34 => op_move lb tR) ?_
 rcases iteB_inv hx33 with ⟨hc36, hx33⟩ | ⟨hc36, hx33⟩
 · refine bI hx33 fun v_54 hv_54 hx33 => JL.runX (.yes rfl (ltB rfl) rfl hc36) (op_call (js := [0]) ld cl16 (sim_merkle_Tree_Root k x_51 gb_2 v_54 hv_54) .func (.cons (HasO.cnd tR hc36) .nil) rfl) fun _ => JL.sub ⟨[(0, ov (PTR gb_2 0)), (3, ov (PTO none)), (5, ov (S (rI .i64) v_46)), (8, ov (S (rI .i64) (1 : Int))), (11, ov (S (rI .i64) (1 : Int))), (36, ov (S rB v_53)), (38, ov (A (rV 32 (rU UInt8)) v_54))], [cvar gb_2 r_merkle_Tree x_51], []⟩ (.cons rfl (.cons rfl (.cons rfl (.cons rfl (.cons rfl (.cons rfl (.cons rfl .nil))))))) rfl rfl <| JL.run (.yes rfl (ltB rfl) rfl hc36) (op_build lb tZ30 zv30 tp30 .nil rfl) <| lI hx33 fun v_55 hv_55 hx33 => JL.run (.yes rfl (ltB rfl) rfl hc36) (op_eqA lb qa30 (by decide) ng30 tR tR hv_55) <| jc (op_pickT lb tR hc36 tR) <| jmv rfl rfl <| jT (ov (S (rI .i64) v_46)) rfl rfl rfl rfl (fun hq_37 => op_move lb tR) ?_
   obtain ⟨_, hv_u_56, hx33⟩ := bnd_inv hx33
   refine jT (ov (S (rI .i64) v_46)) rfl rfl rfl rfl (fun hq_38 => (op_call (js := []) ld cl9 (sim_law08_num k v_46 () (ifT hv_u_56 hq_38)) .func (.cons (HasO.cnd tR hq_38) .nil) rfl).post (fun _ => Imp.refl)) <| lI hx33 fun v_57 hv_57 hx33 => jT (ov (S rB v_57)) rfl rfl rfl rfl (fun hq_39 => op_cmpI lb (HasO.cnd tR hq_39) .cI (cs hv_57)) <| lI hx33 fun v_58 hv_58 hx33 => jc (op_pickCS lb tR (fun hb40 => (HasO.cnd tR hb40)) (fun hb40 => .cB) hv_58) <| jmv rfl rfl <| jT (ov (PTR gb_2 0)) rfl rfl rfl rfl (fun hq_41 => op_move lb tR) ?_
   rcases iteB_inv hx33 with ⟨hc43, hx33⟩ | ⟨hc43, hx33⟩
   · refine bI hx33 fun v_59 hv_59 hx33 => JL.runX (.yes rfl (ltB rfl) rfl hc43) (op_call (js := [0]) ld cl23 (sim_merkle_Tree_Leaves k x_51 gb_2 v_59 hv_59) .func (.cons (HasO.cnd tR hc43) .nil) rfl) (fun q => ?_)
     obtain ⟨go_60, gc_61⟩ := q
     refine JL.sub ⟨[(0, ov (PTR gb_2 0)), (3, ov (PTO none)), (8, ov (S (rI .i64) (1 : Int))), (11, ov (S (rI .i64) (1 : Int))), (47, ov (S rB v_58)), (49, ov (HDR go_60 0 (List.length v_59) gc_61))], [cown go_60 (rV 32 (rU UInt8)) v_59 0 gc_61, cvar gb_2 r_merkle_Tree x_51], []⟩ (.cons rfl (.cons rfl (.cons rfl (.cons rfl (.cons rfl (.cons rfl .nil)))))) rfl rfl <| JL.run (.yes rfl (ltB rfl) rfl hc43) (op_lenH lb tu22 tR) <| lI hx33 fun v_62 hv_62 hx33 => JL.run (.yes rfl (ltB rfl) rfl hc43) (op_cmpI lb tR .cI (cs hv_62)) <| jc (op_pickT lb tR hc43 tR) <| jmv rfl rfl <| jT (ov (S (rI .i64) (1 : Int))) rfl rfl rfl rfl (fun hq_44 => op_move lb tR) <| bI hx33 fun _ hv_u_63 hx33 => jT (ov (S (rI .i64) (1 : Int))) rfl rfl rfl rfl (fun hq_45 => (op_call (js := []) ld cl9 (sim_law08_num k (1 : Int) () (ifT hv_u_63 hq_45)) .func (.cons (HasO.cnd tR hq_45) .nil) rfl).post (fun _ => Imp.refl)) <| jT (ov (S rB true)) rfl rfl rfl rfl (fun hq_46 => op_cmpI lb (HasO.cnd tR hq_46) .cI (cs (by decide : ((1 : Int) == (1 : Int)) = true))) ?_
     refine lI hx33 fun v_64 hv_64 hx33 => jc (op_pickCS lb tR (fun hb47 => (HasO.cnd tR hb47)) (fun hb47 => .cB) hv_64) <| jmv rfl rfl <| jT (ov (S (rI .i64) (1 : Int))) rfl rfl rfl rfl (fun hq_48 => op_move lb tR) <| bI hx33 fun _ hv_u_65 hx33 => jT (ov (S (rI .i64) (1 : Int))) rfl rfl rfl rfl (fun hq_49 => (op_call (js := []) ld cl9 (sim_law08_num k (1 : Int) () (ifT hv_u_65 hq_49)) .func (.cons (HasO.cnd tR hq_49) .nil) rfl).post (fun _ => Imp.refl)) <| jT (ov (S rB true)) rfl rfl rfl rfl (fun hq_50 => op_cmpI lb (HasO.cnd tR hq_50) .cI (cs (by decide : ((1 : Int) == (1 : Int)) = true))) <| JL.nrm ⟨[(0, ov (PTR gb_2 0)), (3, ov (PTO none)), (58, ov (S rB v_64)), (61, bif v_64 then ov (S rB true) else .one .und)], [cvar gb_2 r_merkle_Tree x_51], []⟩ [1] rfl (.cons rfl (.cons rfl (.cons rfl (.cons rfl .nil)))) rfl <| lI hx33 fun v_66 hv_66 hx33 => jc (op_pickCS lb tR (fun hb51 => (HasO.cnd tR hb51)) (fun hb51 => .cB) hv_66) <| jmv rfl rfl ?_
     refine jT (ov (PTR gb_2 0)) rfl rfl rfl rfl (fun hq_52 => op_move lb tR) ?_
     rcases iteB_inv hx33 with ⟨hc54, hx33⟩ | ⟨hc54, hx33⟩
     · obtain ⟨ts55, hs55, hx33⟩ := bnd_inv hx33
       rcases ts55 with ts55 | ts55
       · obtain _ := ts55
         dsimp only at hx33
         refine JL.runX (.yes rfl (ltB rfl) rfl hc54) (op_call (js := [0]) ld cl19 (sim_merkle_Tree_Copy_v0 k x_51 gb_2 () hs55) .func (.cons (HasO.cnd tR hc54) .nil) rfl) fun gb_67 => JL.run (.yes rfl (ltB rfl) rfl hc54) (op_nilP (neg := false) lb tu24 tR (HasO.const (p := PTO none) fun _ => rfl)) <| jc (op_pickT lb tR hc54 tR) <| jmv rfl rfl <| jk rfl rfl <| jk rfl rfl <| jc (op_pickF lb tR rfl .cB) <| jmv rfl rfl <| jk rfl rfl <| jk rfl rfl <| jk rfl rfl <| jk rfl rfl <| jc (op_pickF lb tR rfl .cB) <| JL.nrm ⟨[(0, ov (PTR gb_2 0)), (3, ov (PTO none)), (77, ov (S rB false))], [cvar gb_2 r_merkle_Tree x_51], []⟩ [1] rfl (.cons rfl (.cons rfl (.cons rfl .nil))) rfl <| jmv rfl rfl <| jk rfl rfl <| jk rfl rfl <| jk rfl rfl <| jk rfl rfl <| jc (op_pickF lb tR rfl .cB) <| jc (op_assign lb tR) <| JL.nil ?_
         have hz := Option.some.inj hx33
         replace hz := Prod.mk.inj hz
         obtain ⟨hz_a, hz⟩ := hz
         first | subst hz_a | clear hz_a
         first | subst hz | clear hz
         exact JQ.join () (Imp.norm (js := [0]) rfl (.cons rfl .nil))
       obtain _ := ts55
       dsimp only at hx33
       refine JL.runX (.yes rfl (ltB rfl) rfl hc54) (op_call (js := [0]) ld cl19 (sim_merkle_Tree_Copy_v1 k x_51 gb_2 () hs55) .func (.cons (HasO.cnd tR hc54) .nil) rfl) fun _ => JL.run (.yes rfl (ltB rfl) rfl hc54) (op_nilO (neg := false) (ob := none) lb tu24 tR (HasO.const (p := PTO none) fun _ => rfl) rfl) <| jc (op_pickT lb tR hc54 tR) <| jmv rfl rfl <| JL.run (.yes rfl (ltB rfl) rfl rfl) (op_move lb tR) <| bI hx33 fun v_68 hv_68 hx33 => JL.runX (.yes rfl (ltB rfl) rfl rfl) (op_call (js := [0]) ld cl20 (sim_merkle_Tree_Same_pn k x_51 gb_2 v_68 hv_68) .func (.cons tR (.cons (HasO.const (p := PTO none) fun _ => rfl) .nil)) rfl) fun _ => jc (op_pickT lb tR rfl tR) <| JL.sub ⟨[(0, ov (PTR gb_2 0)), (3, ov (PTO none)), (71, ov (S rB v_68))], [cvar gb_2 r_merkle_Tree x_51], []⟩ (.cons rfl (.cons rfl (.cons rfl .nil))) rfl rfl <| jmv rfl rfl ?_
       refine jT (ov (PTR gb_2 0)) rfl rfl rfl rfl (fun hq_56 => op_move lb tR) <| jT (ov (PTO none)) rfl rfl rfl rfl (fun hq_57 => op_move lb tR) ?_
       rcases iteB_inv hx33 with ⟨hc59, hx33⟩ | ⟨hc59, hx33⟩
       · refine bI hx33 fun v_69 hv_69 hx33 => JL.runX (.yes rfl (ltB rfl) rfl hc59) (op_call (js := [0]) ld cl20 (sim_merkle_Tree_Same_pn k x_51 gb_2 v_69 hv_69) .func (.cons (HasO.cnd tR hc59) (.cons (HasO.cnd tR hc59) .nil)) rfl) fun _ => lI hx33 fun v_70 hv_70 hx33 => JL.run (.yes rfl (ltB rfl) rfl hc59) (op_not lb tR hv_70) <| jc (op_pickT lb tR hc59 tR) <| jmv rfl rfl <| jT (ov (PTO none)) rfl rfl rfl rfl (fun hq_60 => op_move lb tR) <| jT (ov (PTR gb_2 0)) rfl rfl rfl rfl (fun hq_61 => op_move lb tR) ?_
         rcases iteB_inv hx33 with ⟨hc63, hx33⟩ | ⟨hc63, hx33⟩
         · refine bI hx33 fun v_71 hv_71 hx33 => JL.runX (.yes rfl (ltB rfl) rfl hc63) (op_call (js := [0]) ld cl20 (sim_merkle_Tree_Same_np k x_51 gb_2 v_71 hv_71) .func (.cons (HasO.cnd tR hc63) (.cons (HasO.cnd tR hc63) .nil)) rfl) fun _ => lI hx33 fun v_72 hv_72 hx33 => JL.run (.yes rfl (ltB rfl) rfl hc63) (op_not lb tR hv_72) <| jc (op_pickT lb tR hc63 tR) <| JL.sub ⟨[(83, ov (S rB v_72))], [cvar gb_2 r_merkle_Tree x_51], []⟩ (.cons rfl .nil) rfl rfl <| jc (op_assign lb tR) <| JL.nil ?_
           have hz := Option.some.inj hx33
           replace hz := Prod.mk.inj hz
           obtain ⟨hz_a, hz⟩ := hz
           first | subst hz_a | clear hz_a
           first | subst hz | clear hz
           exact JQ.join () (Imp.norm (js := [0]) rfl (.cons rfl .nil))
         refine jk rfl hc63 <| jk rfl hc63 <| jc (op_pickF lb tR hc63 .cB) <| jc (op_assign lb tR) <| JL.nil ?_
         have hz := Option.some.inj hx33
         replace hz := Prod.mk.inj hz
         obtain ⟨hz_a, hz⟩ := hz
         first | subst hz_a | clear hz_a
         first | subst hz | clear hz
         exact JQ.join () (Imp.norm (js := [0]) rfl (.cons rfl .nil))
       refine jk rfl hc59 <| jk rfl hc59 <| jc (op_pickF lb tR hc59 .cB) <| jmv rfl rfl <| jk rfl rfl <| jk rfl rfl <| jk rfl rfl <| jk rfl rfl <| jc (op_pickF lb tR rfl .cB) <| jc (op_assign lb tR) <| JL.nil ?_
       have hz := Option.some.inj hx33
       replace hz := Prod.mk.inj hz
       obtain ⟨hz_a, hz⟩ := hz
       first | subst hz_a | clear hz_a
       first | subst hz | clear hz
       exact JQ.join () (Imp.norm (js := [0]) rfl (.cons rfl .nil))
     refine jk rfl hc54 <| jk rfl hc54 <| jc (op_pickF lb tR hc54 .cB) <| jmv rfl rfl <| jk rfl rfl <| jk rfl rfl <| jc (op_pickF lb tR rfl .cB) <| jmv rfl rfl <| jk rfl rfl <| jk rfl rfl <| jk rfl rfl <| jk rfl rfl <| jc (op_pickF lb tR rfl .cB) <| jmv rfl rfl <| jk rfl rfl <| jk rfl rfl <| jk rfl rfl <| jk rfl rfl <| jc (op_pickF lb tR rfl .cB) <| jc (op_assign lb tR) <| JL.nil ?_
     have hz := Option.some.inj hx33
     replace hz := Prod.mk.inj hz
     obtain ⟨hz_a, hz⟩ := hz
     first | subst hz_a | clear hz_a
     first | subst hz | clear hz
     exact JQ.join () (Imp.norm (js := [0]) rfl (.cons rfl .nil))
   refine jk rfl hc43 <| jk rfl hc43 <| jk rfl hc43 <| jc (op_pickF lb tR hc43 .cB) <| jmv rfl rfl <| JL.sub ⟨[(0, ov (PTR gb_2 0)), (3, ov (PTO none)), (8, ov (S (rI .i64) (1 : Int))), (11, ov (S (rI .i64) (1 : Int))), (53, ov (S rB false))], [cvar gb_2 r_merkle_Tree x_51], []⟩ (.cons rfl (.cons rfl (.cons rfl (.cons rfl (.cons rfl .nil))))) rfl rfl <| jk rfl rfl <| jk rfl rfl <| jk rfl rfl <| jc (op_pickF lb tR rfl .cB) <| jmv rfl rfl <| jk rfl rfl <| jk rfl rfl <| jk rfl rfl <| jc (op_pickF lb tR rfl .cB) <| jmv rfl rfl <| jk rfl rfl <| jk rfl rfl <| jk rfl rfl <| jc (op_pickF lb tR rfl .cB) <| jmv rfl rfl <| jk rfl rfl <| jk rfl rfl <| jc (op_pickF lb tR rfl .cB) <| jmv rfl rfl <| jk rfl rfl <| jk rfl rfl <| jk rfl rfl <| jk rfl rfl <| jc (op_pickF lb tR rfl .cB) <| jmv rfl rfl <| jk rfl rfl <| jk rfl rfl <| jk rfl rfl <| jk rfl rfl <| jc (op_pickF lb tR rfl .cB) <| jc (op_assign lb tR) ?_
   refine JL.sub ⟨[(2, ov (S rB false))], [cvar gb_2 r_merkle_Tree x_51], []⟩ (.cons rfl .nil) rfl rfl <| JL.nil ?_
   have hz := Option.some.inj hx33
   replace hz := Prod.mk.inj hz
   obtain ⟨hz_a, hz⟩ := hz
   first | subst hz_a | clear hz_a
   first | subst hz | clear hz
   exact JQ.join () (Imp.norm (js := [0]) rfl (.cons rfl .nil))
 refine jk rfl hc36 <| jk rfl hc36 <| jk rfl hc36 <| jc (op_pickF lb tR hc36 .cB) <| JL.sub ⟨[(0, ov (PTR gb_2 0)), (3, ov (PTO none)), (5, ov (S (rI .i64) v_46)), (8, ov (S (rI .i64) (1 : Int))), (11, ov (S (rI .i64) (1 : Int))), (41, ov (S rB false))], [cvar gb_2 r_merkle_Tree x_51], []⟩ (.cons rfl (.cons rfl (.cons rfl (.cons rfl (.cons rfl (.cons rfl .nil)))))) rfl rfl <| jmv rfl rfl <| jk rfl rfl <| jk rfl rfl <| jk rfl rfl <| jc (op_pickF lb tR rfl .cB) <| jmv rfl rfl <| jk rfl rfl <| jk rfl rfl <| jk rfl rfl <| jk rfl rfl <| jc (op_pickF lb tR rfl .cB) <| jmv rfl rfl <| jk rfl rfl <| jk rfl rfl <| jk rfl rfl <| jc (op_pickF lb tR rfl .cB) <| jmv rfl rfl <| jk rfl rfl <| jk rfl rfl <| jk rfl rfl <| jc (op_pickF lb tR rfl .cB) <| jmv rfl rfl <| jk rfl rfl <| jk rfl rfl <| jk rfl rfl <| jc (op_pickF lb tR rfl .cB) <| jmv rfl rfl <| jk rfl rfl <| jk rfl rfl <| jc (op_pickF lb tR rfl .cB) <| JL.sub ⟨[(0, ov (PTR gb_2 0)), (3, ov (PTO none)), (71, ov (S rB false))], [cvar gb_2 r_merkle_Tree x_51], []⟩ (.cons rfl (.cons rfl (.cons rfl .nil))) rfl rfl ?_
 refine jmv rfl rfl <| jk rfl rfl <| jk rfl rfl <| jk rfl rfl <| jk rfl rfl <| jc (op_pickF lb tR rfl .cB) <| jmv rfl rfl <| jk rfl rfl <| jk rfl rfl <| jk rfl rfl <| jk rfl rfl <| jc (op_pickF lb tR rfl .cB) <| jc (op_assign lb tR) <| JL.nil ?_
 have hz := Option.some.inj hx33
 replace hz := Prod.mk.inj hz
 obtain ⟨hz_a, hz⟩ := hz
 first | subst hz_a | clear hz_a
 first | subst hz | clear hz
 exact JQ.join () (Imp.norm (js := [0]) rfl (.cons rfl .nil))

theorem sim_merkle_Tree_Diff_1_vppppp_vpvrocrrrrr (d k : Nat) (n_1 : Int) (x_2 : Int) (x_5 : merkle_Tree) (x_9 : (List Int)) (gb_3 : Nat) (gb_4 : Nat) (gb_6 : Nat) (gb_7 : Nat) (gb_8 : Nat) (go_10 : Option Nat) (gc_11 : Nat) (gb_12 : Nat) (r : Int × (List Int)) (hm : merkle_Tree_Diff_1_vppppp_vpvrocrrrrr d k n_1 x_2 x_5 x_9 = some r) : Sim Try.prog 35 [S (rI .i64) n_1, PTR gb_3 0, PTR gb_4 0, PTR gb_7 0, PTR gb_8 0, PTR gb_12 0] [cvar gb_3 (rI .i64) x_2, cvar gb_4 (rW (PTR gb_6 0)) (), cvar gb_6 r_merkle_Tree x_5, cvar gb_7 (rW (PTR gb_6 0)) (), cvar gb_8 (rW (HDR go_10 0 (List.length x_9) gc_11)) (), cown go_10 (rI .i64) x_9 0 gc_11, zq4 gb_12 gb_3 gb_4 gb_7 gb_8] (γ := Option Nat × Nat) (fun q => [cvar gb_3 (rI .i64) r.1, cvar gb_4 (rW (PTR gb_6 0)) (), cvar gb_6 r_merkle_Tree x_5, cvar gb_7 (rW (PTR gb_6 0)) (), cvar gb_8 (rW (HDR q.1 0 (List.length r.2) q.2)) (), cown q.1 (rI .i64) r.2 0 q.2, zq4 gb_12 gb_3 gb_4 gb_7 gb_8]) (fun q => .tup []) := by
 induction d generalizing n_1 x_2 x_5 x_9 gb_3 gb_4 gb_6 gb_7 gb_8 go_10 gc_11 gb_12 r with
 | zero => cases hm
 | succ d ih =>
  replace ih := fun _ : Nat => @ih
  change merkle_Tree_Diff_1_vppppp_vpvrocrrrrr.bd (merkle_Tree_Diff_1_vppppp_vpvrocrrrrr d) k n_1 x_2 x_5 x_9 = _ at hm
  unfold merkle_Tree_Diff_1_vppppp_vpvrocrrrrr.bd at hm
  refine Sim.of Try.func35 rfl rfl (lE rfl) (fun e0 w0 => ?_)
  refine JC.at ⟨[(0, ov (S (rI .i64) n_1)), (1, ov (PTR gb_3 0)), (2, ov (PTR gb_4 0)), (3, ov (PTR gb_7 0)), (4, ov (PTR gb_8 0)), (5, ov (PTR gb_12 0))], [cvar gb_3 (rI .i64) x_2, cvar gb_4 (rW (PTR gb_6 0)) (), cvar gb_6 r_merkle_Tree x_5, cvar gb_7 (rW (PTR gb_6 0)) (), cvar gb_8 (rW (HDR go_10 0 (List.length x_9) gc_11)) (), cown go_10 (rI .i64) x_9 0 gc_11, zq4 gb_12 gb_3 gb_4 gb_7 gb_8], []⟩ <| jr <| jc (op_loadS (j := 0) lb tS3 tR rfl (Comp.self (rI .i64) x_2) rfl rfl) <| lI hm fun v_13 hv_13 hm => jc (op_arI lb tR .cI (cs hv_13)) <| jc (op_storeS (j := 0) tS3 tR tR rfl rfl (UpdR.self (by rfl)) rfl) <| jn <| JC.block <| JC.seq <| bI hm fun i_14 hv_i_14 hm => lI hm fun v_15 hv_15 hm => bI hm fun i_16 hv_i_16 hm => lI hm fun v_17 hv_17 hm => ?_
  obtain ⟨v_18, hv_18, hm⟩ := bnd_inv hm
  refine JC.anyF (base := [(0, ov (S (rI .i64) n_1)), (2, ov (PTR gb_4 0)), (3, ov (PTR gb_7 0)), (4, ov (PTR gb_8 0)), (5, ov (PTR gb_12 0))])
      (fs := fun γ => [⟨some 19, ov (PTR gb_6 0)⟩, ⟨some 20, ov (S (rI .i64) n_1)⟩, ⟨some 21, ov (PTR gb_6 0)⟩, ⟨some 22, ov (PTR gb_6 (0 + 0))⟩, ⟨some 23, ov (PTR gb_6 ((0 + 0) + i_14.1 * 32))⟩, ⟨some 24, ov (A (rV 32 (rU UInt8)) v_15)⟩, ⟨some 25, ov (PTR gb_6 0)⟩, ⟨some 26, ov (S (rI .i64) n_1)⟩, ⟨some 27, ov (PTR gb_6 0)⟩, ⟨some 28, ov (PTR gb_6 (0 + 0))⟩, ⟨some 29, ov (PTR gb_6 ((0 + 0) + i_16.1 * 32))⟩, ⟨some 30, ov (A (rV 32 (rU UInt8)) v_17)⟩, ⟨some 31, ov (S rB v_18)⟩, ⟨some 18, ov (S rB v_18)⟩])
      (rs := fun γ => [⟨cvar gb_3 (rI .i64) v_13, none, none, []⟩, ⟨cvar gb_4 (rW (PTR gb_6 0)) (), none, none, [0]⟩, ⟨cvar gb_6 r_merkle_Tree x_5, none, none, [5, 11]⟩, ⟨cvar gb_7 (rW (PTR gb_6 0)) (), none, none, [6]⟩, ⟨cvar gb_8 (rW (HDR go_10 0 (List.length x_9) gc_11)) (), none, none, []⟩, ⟨cown go_10 (rI .i64) x_9 0 gc_11, none, none, []⟩, ⟨zq4 gb_12 gb_3 gb_4 gb_7 gb_8, none, none, []⟩])
      (afts := nn 14) (js := [0, 0, 0, 0, 0, 0, 0]) mixed (.cons rfl (.cons rfl (.cons rfl (.cons rfl (.cons rfl .nil))))) (fun _ => rfl)
      (by
      refine dR 1 (fun γ ρ B hb hd => OpStep.lk ⟨ρ, (cvar gb_4 (rW (PTR gb_6 0)) ()) :: B, _⟩ (op_loadW (j := 0) lb tS24 (.tmp (hb 2 _ rfl)) rfl (Comp.self (rW (PTR gb_6 0)) ()))) <| db 2 0 <| dS 3 (fun γ ρ B hb hd => op_nilCheck lb (tl hd 0 19) (fun e v h => by subst h; rfl)) <| dS 4 (fun γ ρ B hb hd => op_fieldAddr (off := 0) lb tf52_0 (tl hd 2 21)) <| dS 5 (fun γ ρ B hb hd => op_indexAddrIF lb tr50 (tl hd 3 22) (tl hd 1 20) hv_i_14) ?_
      refine dR 6 (fun γ ρ B hb hd => OpStep.lk ⟨ρ, (cvar gb_6 r_merkle_Tree x_5) :: B, _⟩ (op_loadA (j := 0) lb tA30 (tl hd 4 23) rfl (Comp.at (cT (comp_merkle_Tree_n x_5) rfl) i_14.2 rfl) hv_15)) <| dR 7 (fun γ ρ B hb hd => OpStep.lk ⟨ρ, (cvar gb_7 (rW (PTR gb_6 0)) ()) :: B, _⟩ (op_loadW (j := 0) lb tS24 (.tmp (hb 3 _ rfl)) rfl (Comp.self (rW (PTR gb_6 0)) ()))) <| db 8 0 <| dS 9 (fun γ ρ B hb hd => op_nilCheck lb (tl hd 6 25) (fun e v h => by subst h; rfl)) <| dS 10 (fun γ ρ B hb hd => op_fieldAddr (off := 0) lb tf52_0 (tl hd 8 27)) ?_
      refine dS 11 (fun γ ρ B hb hd => op_indexAddrIF lb tr50 (tl hd 9 28) (tl hd 7 26) hv_i_16) <| dR 12 (fun γ ρ B hb hd => OpStep.lk ⟨ρ, (cvar gb_6 r_merkle_Tree x_5) :: B, _⟩ (op_loadA (j := 0) lb tA30 (tl hd 10 29) rfl (Comp.at (cT (comp_merkle_Tree_n x_5) rfl) i_16.2 rfl) hv_17)) <| dS 13 (fun γ ρ B hb hd => (op_call (js := []) ld cl36 (sim_sha_Equal k v_15 v_17 v_18 hv_18) .func (.cons (tl hd 5 24) (.cons (tl hd 11 30) .nil)) rfl).post (fun _ => Imp.refl)) <| dS 14 (fun γ ρ B hb hd => op_assign lb (tl hd 12 31)) ?_
      exact DSteps.nil)
      (by decide +kernel) (fun _ => rfl) (fun _ => rfl) (fun _ => rfl) rfl
      (ρ' := fun γ => [(0, ov (S (rI .i64) n_1)), (4, ov (PTR gb_8 0)), (5, ov (PTR gb_12 0)), (18, ov (S rB v_18))])
      (X' := fun γ => [cvar gb_3 (rI .i64) v_13, cvar gb_4 (rW (PTR gb_6 0)) (), cvar gb_6 r_merkle_Tree x_5, cvar gb_7 (rW (PTR gb_6 0)) (), cvar gb_8 (rW (HDR go_10 0 (List.length x_9) gc_11)) (), cown go_10 (rI .i64) x_9 0 gc_11, zq4 gb_12 gb_3 gb_4 gb_7 gb_8])
      (fun γ ρ hb hd => (.cons (hb 0 _ rfl) (.cons (hb 4 _ rfl) (.cons (hb 5 _ rfl) (.cons (hdq hd 13 18 rfl) .nil))))) (fun _ => rfl) (fun γ => ?_)
  refine JQ.at ⟨[(0, ov (S (rI .i64) n_1)), (4, ov (PTR gb_8 0)), (5, ov (PTR gb_12 0)), (18, ov (S rB v_18))], [cvar gb_3 (rI .i64) v_13, cvar gb_4 (rW (PTR gb_6 0)) (), cvar gb_6 r_merkle_Tree x_5, cvar gb_7 (rW (PTR gb_6 0)) (), cvar gb_8 (rW (HDR go_10 0 (List.length x_9) gc_11)) (), cown go_10 (rI .i64) x_9 0 gc_11, zq4 gb_12 gb_3 gb_4 gb_7 gb_8], []⟩ <| JQ.then ?_
  rcases iteB_inv hm with ⟨hc1, hm⟩ | ⟨hc1, hm⟩
  · refine JC.condT tR hc1 <| JC.skip <| JQ.outNB ?_
    obtain rfl := so hm
    exact JQ.done (js := [0, 0, 0, 0, 0, 0, 0]) (ss := []) (go_10, gc_11) (.inr rfl) (.nil rfl) rfl .nil rfl rfl rfl
  · refine JC.condF tR hc1 <| jr <| jmv rfl rfl <| lI hm fun v_19 hv_19 hm => jc (op_cmpI lb tR .cI (cs hv_19)) <| jc (op_assign lb tR) <| jn ?_
    rcases iteB_inv hm with ⟨hc2, hm⟩ | ⟨hc2, hm⟩
    · refine JC.condT tR hc2 <| JC.region <| jc (op_loadW (j := 4) lb tS53 tR rfl (Comp.self (rW (HDR go_10 0 (List.length x_9) gc_11)) ())) <| jmv rfl rfl <| lI hm fun v_20 hv_20 hm => jc (op_arI lb tR .cI (cs hv_20)) <| jc (op_buildF (r := (rI .i64)) lb tu53 tz3 tZ3 rfl (lE rfl) (.S rfl tR .nil) rfl) <| bI hm fun x_21 hv_x_21 hm => jx (op_appendL (j := 5) lb tu53 tu53 rfl tB3 rfl (Nat.lt_of_lt_of_le Nat.zero_lt_one (lE rfl)) (Nat.lt_of_lt_of_le Nat.zero_lt_one (lE rfl))  rfl tR tR hv_x_21) (fun q => ?_)
      obtain ⟨go_22, gc_23⟩ := q
      refine jc (op_storeW (j := 4) tS53 tR tR rfl (UpdR.self (by rfl)) rfl) <| JL.sub ⟨[], [cvar gb_3 (rI .i64) v_13, cvar gb_4 (rW (PTR gb_6 0)) (), cvar gb_6 r_merkle_Tree x_5, cvar gb_7 (rW (PTR gb_6 0)) (), cvar gb_8 (rW (HDR go_22 0 (List.length x_21) gc_23)) (), cown go_22 (rI .i64) x_21 0 gc_23, zq4 gb_12 gb_3 gb_4 gb_7 gb_8], []⟩ .nil rfl rfl <| JL.nil <| JQ.outNB ?_
      obtain rfl := so hm
      exact JQ.done (js := [0, 0, 0, 0, 0, 0, 0]) (ss := []) (go_22, gc_23) (.inr rfl) (.nil rfl) rfl .nil rfl rfl rfl
    · refine JC.condF tR hc2 <| jr <| jc (op_loadW (j := 6) lb tS57 tR rfl (Comp.self (rW (CLO 35 [PTR gb_3 0, PTR gb_4 0, PTR gb_7 0, PTR gb_8 0, PTR gb_12 0])) ())) <| jmv rfl rfl <| lI hm fun v_24 hv_24 hm => jc (op_arI lb .cI tR (cs hv_24)) ?_
      obtain ⟨⟨x_25, x_26⟩, hv_x_25, hm⟩ := bnd_inv hm
      refine jx (op_call (js := [0, 0, 0, 0, 0, 0, 0]) ld cl35 (ih k v_24 v_13 x_5 x_9 gb_3 gb_4 gb_6 gb_7 gb_8 go_10 gc_11 gb_12 (x_25, x_26) hv_x_25) tR (.cons tR .nil) rfl) (fun q => ?_)
      obtain ⟨go_27, gc_28⟩ := q
      refine jn <| JC.region <| jc (op_loadW (j := 6) lb tS57 tR rfl (Comp.self (rW (CLO 35 [PTR gb_3 0, PTR gb_4 0, PTR gb_7 0, PTR gb_8 0, PTR gb_12 0])) ())) <| jmv rfl rfl <| lI hm fun v_29 hv_29 hm => jc (op_arI lb .cI tR (cs hv_29)) <| JL.sub ⟨[(13, ov (CLO 35 [PTR gb_3 0, PTR gb_4 0, PTR gb_7 0, PTR gb_8 0, PTR gb_12 0])), (15, ov (S (rI .i64) v_29))], [cvar gb_3 (rI .i64) x_25, cvar gb_4 (rW (PTR gb_6 0)) (), cvar gb_6 r_merkle_Tree x_5, cvar gb_7 (rW (PTR gb_6 0)) (), cvar gb_8 (rW (HDR go_27 0 (List.length x_26) gc_28)) (), cown go_27 (rI .i64) x_26 0 gc_28, zq4 gb_12 gb_3 gb_4 gb_7 gb_8], []⟩ (.cons rfl (.cons rfl .nil)) rfl rfl <| lI hm fun v_30 hv_30 hm => jc (op_arI lb tR .cI (cs hv_30)) ?_
      obtain ⟨⟨x_31, x_32⟩, hv_x_31, hm⟩ := bnd_inv hm
      refine jx (op_call (js := [0, 0, 0, 0, 0, 0, 0]) ld cl35 (ih k v_30 x_25 x_5 x_26 gb_3 gb_4 gb_6 gb_7 gb_8 go_27 gc_28 gb_12 (x_31, x_32) hv_x_31) tR (.cons tR .nil) rfl) (fun q => ?_)
      obtain ⟨go_33, gc_34⟩ := q
      refine JL.nil <| JQ.outNB ?_
      obtain rfl := so hm
      exact JQ.done (js := [0, 0, 0, 0, 0, 0, 0]) (ss := []) (go_33, gc_34) (.inr rfl) (.nil rfl) rfl .nil rfl rfl rfl

end Go.Proofs.Ytbflmobpbjnekaa
