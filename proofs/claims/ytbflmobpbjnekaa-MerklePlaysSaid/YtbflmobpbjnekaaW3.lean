/- Walks. -/
import Derived.Test.YtbflmobpbjnekaaT
import Derived.Test.YtbflmobpbjnekaaW2
namespace Go.Proofs.Ytbflmobpbjnekaa
open Go Fw
set_option linter.unusedVariables false
set_option maxRecDepth 100000
set_option maxHeartbeats 4000000

theorem sim_merkle_Tree_Diff_1_vppppp_vpvrncrrrrr (d k : Nat) (n_1 : Int) (x_2 : Int) (x_5 : merkle_Tree) (gb_3 : Nat) (gb_4 : Nat) (gb_6 : Nat) (gb_7 : Nat) (gb_8 : Nat) (gb_9 : Nat) (r : Int × (List Int)) (hm : merkle_Tree_Diff_1_vppppp_vpvrncrrrrr d k n_1 x_2 x_5 = some r) : Sim Try.prog 35 [S (rI .i64) n_1, PTR gb_3 0, PTR gb_4 0, PTR gb_7 0, PTR gb_8 0, PTR gb_9 0] [cvar gb_3 (rI .i64) x_2, cvar gb_4 (rW (PTR gb_6 0)) (), cvar gb_6 r_merkle_Tree x_5, cvar gb_7 (rW (PTR gb_6 0)) (), cvar gb_8 (rW (HDR none 0 0 0)) (), zq4 gb_9 gb_3 gb_4 gb_7 gb_8] (γ := Option Nat × Nat) (fun q => [cvar gb_3 (rI .i64) r.1, cvar gb_4 (rW (PTR gb_6 0)) (), cvar gb_6 r_merkle_Tree x_5, cvar gb_7 (rW (PTR gb_6 0)) (), cvar gb_8 (rW (HDR q.1 0 (List.length r.2) q.2)) (), cown q.1 (rI .i64) r.2 0 q.2, zq4 gb_9 gb_3 gb_4 gb_7 gb_8]) (fun q => .tup []) := by
 induction d generalizing n_1 x_2 x_5 gb_3 gb_4 gb_6 gb_7 gb_8 gb_9 r with
 | zero => cases hm
 | succ d ih =>
  replace ih := fun _ : Nat => @ih
  change merkle_Tree_Diff_1_vppppp_vpvrncrrrrr.bd (merkle_Tree_Diff_1_vppppp_vpvrncrrrrr d) k n_1 x_2 x_5 = _ at hm
  unfold merkle_Tree_Diff_1_vppppp_vpvrncrrrrr.bd at hm
  refine Sim.of Try.func35 rfl rfl (lE rfl) (fun e0 w0 => ?_)
  refine JC.at ⟨[(0, ov (S (rI .i64) n_1)), (1, ov (PTR gb_3 0)), (2, ov (PTR gb_4 0)), (3, ov (PTR gb_7 0)), (4, ov (PTR gb_8 0)), (5, ov (PTR gb_9 0))], [cvar gb_3 (rI .i64) x_2, cvar gb_4 (rW (PTR gb_6 0)) (), cvar gb_6 r_merkle_Tree x_5, cvar gb_7 (rW (PTR gb_6 0)) (), cvar gb_8 (rW (HDR none 0 0 0)) (), zq4 gb_9 gb_3 gb_4 gb_7 gb_8], []⟩ <| jr <| jc (op_loadS (j := 0) lb tS3 tR rfl (Comp.self (rI .i64) x_2) rfl rfl) <| lI hm fun v_10 hv_10 hm => jc (op_arI lb tR .cI (cs hv_10)) <| jc (op_storeS (j := 0) tS3 tR tR rfl rfl (UpdR.self (by rfl)) rfl) <| jn <| JC.block <| JC.seq <| bI hm fun i_11 hv_i_11 hm => lI hm fun v_12 hv_12 hm => bI hm fun i_13 hv_i_13 hm => lI hm fun v_14 hv_14 hm => ?_
  obtain ⟨v_15, hv_15, hm⟩ := bnd_inv hm
  refine JC.anyF (base := [(0, ov (S (rI .i64) n_1)), (2, ov (PTR gb_4 0)), (3, ov (PTR gb_7 0)), (4, ov (PTR gb_8 0)), (5, ov (PTR gb_9 0))])
      (fs := fun γ => [⟨some 19, ov (PTR gb_6 0)⟩, ⟨some 20, ov (S (rI .i64) n_1)⟩, ⟨some 21, ov (PTR gb_6 0)⟩, ⟨some 22, ov (PTR gb_6 (0 + 0))⟩, ⟨some 23, ov (PTR gb_6 ((0 + 0) + i_11.1 * 32))⟩, ⟨some 24, ov (A (rV 32 (rU UInt8)) v_12)⟩, ⟨some 25, ov (PTR gb_6 0)⟩, ⟨some 26, ov (S (rI .i64) n_1)⟩, ⟨some 27, ov (PTR gb_6 0)⟩, ⟨some 28, ov (PTR gb_6 (0 + 0))⟩, ⟨some 29, ov (PTR gb_6 ((0 + 0) + i_13.1 * 32))⟩, ⟨some 30, ov (A (rV 32 (rU UInt8)) v_14)⟩, ⟨some 31, ov (S rB v_15)⟩, ⟨some 18, ov (S rB v_15)⟩])
      (rs := fun γ => [⟨cvar gb_3 (rI .i64) v_10, none, none, []⟩, ⟨cvar gb_4 (rW (PTR gb_6 0)) (), none, none, [0]⟩, ⟨cvar gb_6 r_merkle_Tree x_5, none, none, [5, 11]⟩, ⟨cvar gb_7 (rW (PTR gb_6 0)) (), none, none, [6]⟩, ⟨cvar gb_8 (rW (HDR none 0 0 0)) (), none, none, []⟩, ⟨zq4 gb_9 gb_3 gb_4 gb_7 gb_8, none, none, []⟩])
      (afts := nn 14) (js := [0, 0, 0, 0, 0, 0]) mixed (.cons rfl (.cons rfl (.cons rfl (.cons rfl (.cons rfl .nil))))) (fun _ => rfl)
      (by
      refine dR 1 (fun γ ρ B hb hd => OpStep.lk ⟨ρ, (cvar gb_4 (rW (PTR gb_6 0)) ()) :: B, _⟩ (op_loadW (j := 0) lb tS24 (.tmp (hb 2 _ rfl)) rfl (Comp.self (rW (PTR gb_6 0)) ()))) <| db 2 0 <| dS 3 (fun γ ρ B hb hd => op_nilCheck lb (tl hd 0 19) (fun e v h => by subst h; rfl)) <| dS 4 (fun γ ρ B hb hd => op_fieldAddr (off := 0) lb tf52_0 (tl hd 2 21)) <| dS 5 (fun γ ρ B hb hd => op_indexAddrIF lb tr50 (tl hd 3 22) (tl hd 1 20) hv_i_11) ?_
      refine dR 6 (fun γ ρ B hb hd => OpStep.lk ⟨ρ, (cvar gb_6 r_merkle_Tree x_5) :: B, _⟩ (op_loadA (j := 0) lb tA30 (tl hd 4 23) rfl (Comp.at (cT (comp_merkle_Tree_n x_5) rfl) i_11.2 rfl) hv_12)) <| dR 7 (fun γ ρ B hb hd => OpStep.lk ⟨ρ, (cvar gb_7 (rW (PTR gb_6 0)) ()) :: B, _⟩ (op_loadW (j := 0) lb tS24 (.tmp (hb 3 _ rfl)) rfl (Comp.self (rW (PTR gb_6 0)) ()))) <| db 8 0 <| dS 9 (fun γ ρ B hb hd => op_nilCheck lb (tl hd 6 25) (fun e v h => by subst h; rfl)) <| dS 10 (fun γ ρ B hb hd => op_fieldAddr (off := 0) lb tf52_0 (tl hd 8 27)) ?_
      refine dS 11 (fun γ ρ B hb hd => op_indexAddrIF lb tr50 (tl hd 9 28) (tl hd 7 26) hv_i_13) <| dR 12 (fun γ ρ B hb hd => OpStep.lk ⟨ρ, (cvar gb_6 r_merkle_Tree x_5) :: B, _⟩ (op_loadA (j := 0) lb tA30 (tl hd 10 29) rfl (Comp.at (cT (comp_merkle_Tree_n x_5) rfl) i_13.2 rfl) hv_14)) <| dS 13 (fun γ ρ B hb hd => (op_call (js := []) ld cl36 (sim_sha_Equal k v_12 v_14 v_15 hv_15) .func (.cons (tl hd 5 24) (.cons (tl hd 11 30) .nil)) rfl).post (fun _ => Imp.refl)) <| dS 14 (fun γ ρ B hb hd => op_assign lb (tl hd 12 31)) ?_
      exact DSteps.nil)
      (by decide +kernel) (fun _ => rfl) (fun _ => rfl) (fun _ => rfl) rfl
      (ρ' := fun γ => [(0, ov (S (rI .i64) n_1)), (4, ov (PTR gb_8 0)), (5, ov (PTR gb_9 0)), (18, ov (S rB v_15))])
      (X' := fun γ => [cvar gb_3 (rI .i64) v_10, cvar gb_4 (rW (PTR gb_6 0)) (), cvar gb_6 r_merkle_Tree x_5, cvar gb_7 (rW (PTR gb_6 0)) (), cvar gb_8 (rW (HDR none 0 0 0)) (), zq4 gb_9 gb_3 gb_4 gb_7 gb_8])
      (fun γ ρ hb hd => (.cons (hb 0 _ rfl) (.cons (hb 4 _ rfl) (.cons (hb 5 _ rfl) (.cons (hdq hd 13 18 rfl) .nil))))) (fun _ => rfl) (fun γ => ?_)
  refine JQ.at ⟨[(0, ov (S (rI .i64) n_1)), (4, ov (PTR gb_8 0)), (5, ov (PTR gb_9 0)), (18, ov (S rB v_15))], [cvar gb_3 (rI .i64) v_10, cvar gb_4 (rW (PTR gb_6 0)) (), cvar gb_6 r_merkle_Tree x_5, cvar gb_7 (rW (PTR gb_6 0)) (), cvar gb_8 (rW (HDR none 0 0 0)) (), zq4 gb_9 gb_3 gb_4 gb_7 gb_8], []⟩ <| JQ.then ?_
  rcases iteB_inv hm with ⟨hc1, hm⟩ | ⟨hc1, hm⟩
  · refine JC.condT tR hc1 <| JC.skip <| JQ.outNB ?_
    obtain rfl := so hm
    exact JQ.pre (Imp.nilown (rI .i64)) <| JQ.done (js := [0, 0, 0, 0, 0, 1, 0]) (ss := []) (none, 0) (.inr rfl) (.nil rfl) rfl .nil rfl rfl rfl
  · refine JC.condF tR hc1 <| jr <| jmv rfl rfl <| lI hm fun v_16 hv_16 hm => jc (op_cmpI lb tR .cI (cs hv_16)) <| jc (op_assign lb tR) <| jn ?_
    rcases iteB_inv hm with ⟨hc2, hm⟩ | ⟨hc2, hm⟩
    · refine JC.condT tR hc2 <| JC.region <| jc (op_loadW (j := 4) lb tS53 tR rfl (Comp.self (rW (HDR none 0 0 0)) ())) <| jmv rfl rfl <| lI hm fun v_17 hv_17 hm => jc (op_arI lb tR .cI (cs hv_17)) <| jc (op_buildF (r := (rI .i64)) lb tu53 tz3 tZ3 rfl (lE rfl) (.S rfl tR .nil) rfl) <| bI hm fun v_18 hv_18 hm => JL.pre (Imp.nilown (rI .i64)) <| jx (op_appendL (j := 6) lb tu53 tu53 rfl tB3 rfl (Nat.lt_of_lt_of_le Nat.zero_lt_one (lE rfl)) (Nat.lt_of_lt_of_le Nat.zero_lt_one (lE rfl))  rfl tR tR hv_18) (fun q => ?_)
      obtain ⟨go_19, gc_20⟩ := q
      refine JL.sub ⟨[(4, ov (PTR gb_8 0)), (39, ov (HDR go_19 0 (List.length v_18) gc_20))], [cvar gb_3 (rI .i64) v_10, cvar gb_4 (rW (PTR gb_6 0)) (), cvar gb_6 r_merkle_Tree x_5, cvar gb_7 (rW (PTR gb_6 0)) (), cvar gb_8 (rW (HDR none 0 0 0)) (), zq4 gb_9 gb_3 gb_4 gb_7 gb_8, cown go_19 (rI .i64) v_18 0 gc_20], []⟩ (.cons rfl (.cons rfl .nil)) rfl rfl <| jc (op_storeW (j := 4) tS53 tR tR rfl (UpdR.self (by rfl)) rfl) <| JL.nil <| JQ.outNB ?_
      obtain rfl := so hm
      exact JQ.done (js := [0, 0, 0, 0, 0, 1, 0]) (ss := []) (go_19, gc_20) (.inr rfl) (.nil rfl) rfl .nil rfl rfl rfl
    · refine JC.condF tR hc2 <| jr <| jc (op_loadW (j := 5) lb tS57 tR rfl (Comp.self (rW (CLO 35 [PTR gb_3 0, PTR gb_4 0, PTR gb_7 0, PTR gb_8 0, PTR gb_9 0])) ())) <| jmv rfl rfl <| lI hm fun v_21 hv_21 hm => jc (op_arI lb .cI tR (cs hv_21)) ?_
      obtain ⟨⟨x_22, x_23⟩, hv_x_22, hm⟩ := bnd_inv hm
      refine jx (op_call (js := [0, 0, 0, 0, 0, 0]) ld cl35 (ih k v_21 v_10 x_5 gb_3 gb_4 gb_6 gb_7 gb_8 gb_9 (x_22, x_23) hv_x_22) tR (.cons tR .nil) rfl) (fun q => ?_)
      obtain ⟨go_24, gc_25⟩ := q
      refine jn <| JC.region <| jc (op_loadW (j := 6) lb tS57 tR rfl (Comp.self (rW (CLO 35 [PTR gb_3 0, PTR gb_4 0, PTR gb_7 0, PTR gb_8 0, PTR gb_9 0])) ())) <| jmv rfl rfl <| lI hm fun v_26 hv_26 hm => jc (op_arI lb .cI tR (cs hv_26)) <| JL.sub ⟨[(13, ov (CLO 35 [PTR gb_3 0, PTR gb_4 0, PTR gb_7 0, PTR gb_8 0, PTR gb_9 0])), (15, ov (S (rI .i64) v_26))], [cvar gb_3 (rI .i64) x_22, cvar gb_4 (rW (PTR gb_6 0)) (), cvar gb_6 r_merkle_Tree x_5, cvar gb_7 (rW (PTR gb_6 0)) (), cvar gb_8 (rW (HDR go_24 0 (List.length x_23) gc_25)) (), cown go_24 (rI .i64) x_23 0 gc_25, zq4 gb_9 gb_3 gb_4 gb_7 gb_8], []⟩ (.cons rfl (.cons rfl .nil)) rfl rfl <| lI hm fun v_27 hv_27 hm => jc (op_arI lb tR .cI (cs hv_27)) ?_
      obtain ⟨⟨x_28, x_29⟩, hv_x_28, hm⟩ := bnd_inv hm
      refine jx (op_call (js := [0, 0, 0, 0, 0, 0, 0]) ld cl35 (sim_merkle_Tree_Diff_1_vppppp_vpvrocrrrrr k k v_27 x_22 x_5 x_23 gb_3 gb_4 gb_6 gb_7 gb_8 go_24 gc_25 gb_9 (x_28, x_29) hv_x_28) tR (.cons tR .nil) rfl) (fun q => ?_)
      obtain ⟨go_30, gc_31⟩ := q
      refine JL.nil <| JQ.outNB ?_
      obtain rfl := so hm
      exact JQ.done (js := [0, 0, 0, 0, 0, 0, 0]) (ss := []) (go_30, gc_31) (.inr rfl) (.nil rfl) rfl .nil rfl rfl rfl

theorem sim_merkle_Tree_Diff_pr (k : Nat) (t_1 : merkle_Tree) (gb_2 : Nat) (r : (List Int) × Int × Int) (hm : merkle_Tree_Diff_pr k t_1 = some r) : Sim Try.prog 24 [PTR gb_2 0, PTR gb_2 0] [cvar gb_2 r_merkle_Tree t_1] (γ := Option Nat × Nat) (fun q => [cown q.1 (rI .i64) r.1 0 q.2, cvar gb_2 r_merkle_Tree t_1]) (fun q => .tup [.val (HDR q.1 0 (List.length r.1) q.2), .val (S (rI .i64) r.2.1), .val (S (rI .i64) r.2.2)]) := by
 unfold merkle_Tree_Diff_pr at hm
 refine Sim.of Try.func24 rfl rfl (lE rfl) (fun e0 w0 => ?_)
 refine JC.at ⟨[(0, ov (PTR gb_2 0)), (1, ov (PTR gb_2 0))], [cvar gb_2 r_merkle_Tree t_1], []⟩ <| jr <| jx (op_boxW lb tR) fun gb_3 => jx (op_boxW lb tR) fun gb_4 => jc (op_assign lb HasO.nilH) <| jc (op_assign lb .cI) <| jc (op_assign lb .cI) <| jn <| JC.seq <| bI hm fun x_9 hx1 hq1 => JC.seqJ (γ := Unit) (stj := fun _ => ⟨[(2, ov (PTR gb_3 0)), (3, ov (PTR gb_4 0)), (17, ov (S rB x_9))], [cvar gb_3 (rW (PTR gb_2 0)) (), cvar gb_2 r_merkle_Tree t_1, cvar gb_4 (rW (PTR gb_2 0)) ()], []⟩) (fun _ => ?_) ?_
 · refine jif tR hq1 (fun hc5 hq1 => ?_) (fun hc5 hq1 => ?_)
   · refine jr <| jc (op_assign lb HasO.nilH) <| jc (op_assign lb .cI) <| jc (op_assign lb .cI) <| jn <| JC.ret <| JQ.outR ?_
     obtain rfl := so hq1
     exact JQ.pre (Imp.nilown (rI .i64)) <| JQ.done (js := [3, 1]) (ss := [.val (HDR none 0 (List.length ([] : (List Int))) (0)), .val (S (rI .i64) (0 : Int)), .val (S (rI .i64) (1 : Int))]) (none, 0) (.inl rfl) (.nil rfl) rfl (.cons (.tmp rfl) (.cons (.tmp rfl) (.cons (.tmp rfl) .nil))) rfl rfl rfl
   refine JC.skip <| JQ.then <| jr <| jx (op_alloc lb tZ53 zr53) fun gb_10 => jn <| jr <| jx (op_alloc lb tZ3 zr3) fun gb_11 => jc (op_storeS (j := 4) tS3 tR .cI rfl rfl (UpdR.self (by rfl)) rfl) <| jn <| jr <| jx (op_alloc lb tZ57 zr57) fun gb_12 => jn <| jr <| jc (op_makeFunc lb (.cons tR (.cons tR (.cons tR (.cons tR (.cons tR .nil)))))) <| jc (op_storeW (j := 5) tS57 tR tR rfl (UpdR.self (by rfl)) rfl) <| JL.sub ⟨[(7, ov (PTR gb_10 0)), (8, ov (PTR gb_11 0)), (9, ov (PTR gb_12 0))], [cvar gb_3 (rW (PTR gb_2 0)) (), cvar gb_2 r_merkle_Tree t_1, cvar gb_4 (rW (PTR gb_2 0)) (), cvar gb_10 (rW (HDR none 0 0 0)) (), cvar gb_11 (rI .i64) (0 : Int), zq4 gb_12 gb_11 gb_3 gb_4 gb_10], []⟩ (.cons rfl (.cons rfl (.cons rfl .nil))) rfl rfl ?_
   refine jn <| jr <| jc (op_loadW (j := 5) lb tS57 tR rfl (Comp.self (rW (CLO 35 [PTR gb_11 0, PTR gb_3 0, PTR gb_4 0, PTR gb_10 0, PTR gb_12 0])) ())) ?_
   obtain ⟨⟨x_13, x_14⟩, hv_x_13, hq1⟩ := bnd_inv hq1
   refine jx (op_call (js := [4, 0, 0, 0, 0, 0]) ld cl35 (sim_merkle_Tree_Diff_1_vppppp_vpvrncrrrrr k k (1 : Int) (0 : Int) t_1 gb_11 gb_3 gb_2 gb_4 gb_10 gb_12 (x_13, x_14) hv_x_13) tR (.cons .cI .nil) rfl) (fun q => ?_)
   obtain ⟨go_15, gc_16⟩ := q
   refine jn <| JC.seq ?_
   refine JC.anyF (base := [(7, ov (PTR gb_10 0)), (8, ov (PTR gb_11 0))])
       (fs := fun γ => [⟨some 21, ov (HDR go_15 0 (List.length x_14) gc_16)⟩, ⟨some 22, ov (S (rI .i64) x_13)⟩, ⟨some 4, ov (HDR go_15 0 (List.length x_14) gc_16)⟩, ⟨some 5, ov (S (rI .i64) x_13)⟩, ⟨some 6, ov (S (rI .i64) (0 : Int))⟩])
       (rs := fun γ => [⟨cvar gb_11 (rI .i64) x_13, none, none, [1]⟩, ⟨cvar gb_3 (rW (PTR gb_2 0)) (), none, none, []⟩, ⟨cvar gb_2 r_merkle_Tree t_1, none, none, []⟩, ⟨cvar gb_4 (rW (PTR gb_2 0)) (), none, none, []⟩, ⟨cvar gb_10 (rW (HDR go_15 0 (List.length x_14) gc_16)) (), none, none, [0]⟩, ⟨cown go_15 (rI .i64) x_14 0 gc_16, none, none, []⟩, ⟨zq4 gb_12 gb_11 gb_3 gb_4 gb_10, none, none, []⟩])
       (afts := nn 5) (js := [0, 0, 0, 0, 0, 0, 0]) mixed (.cons rfl (.cons rfl .nil)) (fun _ => rfl)
       (by
      refine dR 1 (fun γ ρ B hb hd => OpStep.lk ⟨ρ, (cvar gb_10 (rW (HDR go_15 0 (List.length x_14) gc_16)) ()) :: B, _⟩ (op_loadW (j := 0) lb tS53 (.tmp (hb 7 _ rfl)) rfl (Comp.self (rW (HDR go_15 0 (List.length x_14) gc_16)) ()))) <| dR 2 (fun γ ρ B hb hd => OpStep.lk ⟨ρ, (cvar gb_11 (rI .i64) x_13) :: B, _⟩ (op_loadS (j := 0) lb tS3 (.tmp (hb 8 _ rfl)) rfl (Comp.self (rI .i64) x_13) rfl rfl)) <| dS 3 (fun γ ρ B hb hd => op_assign lb (tl hd 0 21)) <| dS 4 (fun γ ρ B hb hd => op_assign lb (tl hd 1 22)) <| dS 5 (fun γ ρ B hb hd => op_assign lb .cI) ?_
      exact DSteps.nil)
       (by decide +kernel) (fun _ => rfl) (fun _ => rfl) (fun _ => rfl) rfl
       (ρ' := fun γ => [(4, ov (HDR go_15 0 (List.length x_14) gc_16)), (5, ov (S (rI .i64) x_13)), (6, ov (S (rI .i64) (0 : Int)))])
       (X' := fun γ => [cvar gb_11 (rI .i64) x_13, cvar gb_3 (rW (PTR gb_2 0)) (), cvar gb_2 r_merkle_Tree t_1, cvar gb_4 (rW (PTR gb_2 0)) (), cvar gb_10 (rW (HDR go_15 0 (List.length x_14) gc_16)) (), cown go_15 (rI .i64) x_14 0 gc_16, zq4 gb_12 gb_11 gb_3 gb_4 gb_10])
       (fun γ ρ hb hd => (.cons (hdq hd 2 4 rfl) (.cons (hdq hd 3 5 rfl) (.cons (hdq hd 4 6 rfl) .nil)))) (fun _ => rfl) (fun γ => ?_)
   refine JQ.at ⟨[(4, ov (HDR go_15 0 (List.length x_14) gc_16)), (5, ov (S (rI .i64) x_13)), (6, ov (S (rI .i64) (0 : Int)))], [cvar gb_11 (rI .i64) x_13, cvar gb_3 (rW (PTR gb_2 0)) (), cvar gb_2 r_merkle_Tree t_1, cvar gb_4 (rW (PTR gb_2 0)) (), cvar gb_10 (rW (HDR go_15 0 (List.length x_14) gc_16)) (), cown go_15 (rI .i64) x_14 0 gc_16, zq4 gb_12 gb_11 gb_3 gb_4 gb_10], []⟩ <| JQ.then <| JC.ret ?_
   obtain rfl := so hq1
   exact JQ.done (js := [5, 2]) (ss := [.val (HDR go_15 0 (List.length x_14) gc_16), .val (S (rI .i64) x_13), .val (S (rI .i64) (0 : Int))]) (go_15, gc_16) (.inl rfl) (.nil rfl) rfl (.cons (.tmp rfl) (.cons (.tmp rfl) (.cons (.tmp rfl) .nil))) rfl rfl rfl
 refine JC.region <| jc (op_loadW (j := 1) lb tS24 tR rfl (Comp.self (rW (PTR gb_2 0)) ())) <| bI hx1 fun _ hv_u_5 hx1 => jx (op_call (js := [0]) ld cl29 (sim_merkle_Tree_there k t_1 gb_2 () hv_u_5) .func (.cons tR .nil) rfl) fun _ => JL.sub ⟨[(2, ov (PTR gb_3 0)), (3, ov (PTR gb_4 0)), (11, ov (S rB t_1.is))], [cvar gb_2 r_merkle_Tree t_1, cvar gb_3 (rW (PTR gb_2 0)) (), cvar gb_4 (rW (PTR gb_2 0)) ()], []⟩ (.cons rfl (.cons rfl (.cons rfl .nil))) rfl rfl <| lI hx1 fun v_6 hv_6 hx1 => jc (op_not lb tR hv_6) <| jmv rfl rfl <| jF (ov (PTR gb_2 0)) rfl rfl rfl rfl (fun hq_2 => op_loadW (j := 2) lb tS24 tR rfl (Comp.self (rW (PTR gb_2 0)) ())) ?_
 rcases iteB_inv hx1 with ⟨hc4, hx1⟩ | ⟨hc4, hx1⟩
 · refine jk rfl hc4 <| jk rfl hc4 <| jc (op_pickT lb tR hc4 .cB) <| JL.nil ?_
   try obtain rfl := so hx1
   exact JQ.join () (Imp.norm (js := [1, 0, 0]) rfl (.cons rfl (.cons rfl (.cons rfl .nil))))
 refine bI hx1 fun _ hv_u_7 hx1 => JL.runX (.yes rfl (ltB rfl) rfl hc4) (op_call (js := [0]) ld cl29 (sim_merkle_Tree_there k t_1 gb_2 () hv_u_7) .func (.cons (HasO.cnd tR (notT hc4)) .nil) rfl) fun _ => lI hx1 fun v_8 hv_8 hx1 => JL.run (.yes rfl (ltB rfl) rfl hc4) (op_not lb tR hv_8) <| jc (op_pickF lb tR hc4 tR) <| JL.nil ?_
 try obtain rfl := so hx1
 exact JQ.join () (Imp.norm (js := [1, 0, 0]) rfl (.cons rfl (.cons rfl (.cons rfl .nil))))

theorem sim_merkle_Tree_Set (k : Nat) (bucket_1 : Int) (b_2 : (List UInt8)) (t_3 : merkle_Tree) (gb_4 : Nat) (r : Int × merkle_Tree) (hm : merkle_Tree_Set k bucket_1 b_2 t_3 = some r) : Sim Try.prog 13 [PTR gb_4 0, S (rI .i64) bucket_1, S (rL (rU UInt8)) b_2] [cvar gb_4 r_merkle_Tree t_3] (γ := Unit) (fun q => [cvar gb_4 r_merkle_Tree r.2]) (fun q => .one (.val (S (rI .i64) r.1))) := by
 unfold merkle_Tree_Set at hm
 refine Sim.of Try.func13 rfl rfl (lE rfl) (fun e0 w0 => ?_)
 refine JC.at ⟨[(0, ov (PTR gb_4 0)), (1, ov (S (rI .i64) bucket_1)), (2, ov (S (rL (rU UInt8)) b_2))], [cvar gb_4 r_merkle_Tree t_3], []⟩ <| jr <| jc (op_assign lb .cI) <| jn <| JC.seq <| jr <| jmv rfl rfl <| bI hm fun _ hv_u_5 hm => jx (op_call (js := [0]) ld cl29 (sim_merkle_Tree_there k t_3 gb_4 () hv_u_5) .func (.cons tR .nil) rfl) fun _ => lI hm fun v_6 hv_6 hm => jc (op_not lb tR hv_6) <| jn <| jif tR hm (fun hc1 hm => ?_) (fun hc1 hm => ?_)
 · refine jr <| jc (op_assign lb .cI) <| jn <| JC.ret <| JQ.outR ?_
   obtain rfl := so hm
   exact JQ.done (js := [0]) (ss := [.val (S (rI .i64) (1 : Int))]) () (.inl rfl) (.nil rfl) rfl (.cons (.tmp rfl) .nil) rfl rfl rfl
 refine JC.skip <| JQ.then <| jr <| jmv rfl rfl <| jmv rfl rfl ?_
 obtain ⟨⟨v_7, v_8⟩, hv_7, hm⟩ := bnd_inv hm
 refine jx (op_call (js := []) ld cl28 (sim_merkle_Leaf k bucket_1 b_2 (v_7, v_8) hv_7) .func (.cons tR (.cons tR .nil)) rfl) fun _ => jmv rfl rfl <| jc (op_extract (i := 0) lb tR rfl) <| jc (op_extract (i := 1) lb tR rfl) <| JL.sub ⟨[(0, ov (PTR gb_4 0)), (1, ov (S (rI .i64) bucket_1)), (17, ov (A (rV 32 (rU UInt8)) v_7)), (18, ov (S (rI .i64) v_8))], [cvar gb_4 r_merkle_Tree t_3], []⟩ (.cons rfl (.cons rfl (.cons rfl (.cons rfl .nil)))) rfl rfl <| jx (op_alloc lb tZ30 zr30) fun gb_9 => jc (op_storeA (j := 1) tA30 tR tR rfl (UpdR.self (by rfl)) rfl) <| jc (op_assign lb tR) <| jn <| JC.seq <| jr <| jmv rfl rfl <| lI hm fun v_10 hv_10 hm => jc (op_cmpI lb tR .cI (cs hv_10)) <| jn <| jif tR hm (fun hc2 hm => ?_) (fun hc2 hm => ?_)
 · refine jr <| jmv rfl rfl <| jc (op_assign lb tR) <| jn <| JC.ret <| JQ.outR ?_
   obtain rfl := so hm
   exact JQ.done (js := [0]) (ss := [.val (S (rI .i64) v_8)]) () (.inl rfl) (.nil rfl) rfl (.cons (.tmp rfl) .nil) rfl rfl rfl
 refine JC.skip <| JQ.then <| jr <| jmv rfl rfl <| lI hm fun v_11 hv_11 hm => jc (op_arI lb .cI tR (cs hv_11)) <| jc (op_assign lb tR) <| JL.sub ⟨[(0, ov (PTR gb_4 0)), (7, ov (PTR gb_9 0)), (9, ov (S (rI .i64) v_11))], [cvar gb_4 r_merkle_Tree t_3, cvar gb_9 (rV 32 (rU UInt8)) v_7], []⟩ (.cons rfl (.cons rfl (.cons rfl .nil))) rfl rfl <| jn <| JC.seq <| JC.seq <| bI hm fun i_12 hv_i_12 hm => lI hm fun v_13 hv_13 hm => ?_
 obtain ⟨v_14, hv_14, hm⟩ := lt1_inv hm
 refine JC.anyF (base := [(0, ov (PTR gb_4 0)), (7, ov (PTR gb_9 0)), (9, ov (S (rI .i64) v_11))])
     (fs := fun γ => [⟨some 24, ov (PTR gb_4 0)⟩, ⟨some 25, ov (S (rI .i64) v_11)⟩, ⟨some 26, ov (PTR gb_4 0)⟩, ⟨some 27, ov (PTR gb_4 (0 + 0))⟩, ⟨some 28, ov (PTR gb_4 ((0 + 0) + i_12.1 * 32))⟩, ⟨some 29, ov (A (rV 32 (rU UInt8)) v_13)⟩, ⟨some 30, ov (A (rV 32 (rU UInt8)) v_7)⟩, ⟨some 31, ov (S rB v_14)⟩])
     (rs := fun γ => [⟨cvar gb_4 r_merkle_Tree t_3, none, none, [5]⟩, ⟨cvar gb_9 (rV 32 (rU UInt8)) v_7, none, none, [6]⟩])
     (afts := nn 8) (js := [0, 0]) mixed (.cons rfl (.cons rfl (.cons rfl .nil))) (fun _ => rfl)
     (by
      refine db 1 0 <| db 2 9 <| dS 3 (fun γ ρ B hb hd => op_nilCheck lb (tl hd 0 24) (fun e v h => by subst h; rfl)) <| dS 4 (fun γ ρ B hb hd => op_fieldAddr (off := 0) lb tf52_0 (tl hd 2 26)) <| dS 5 (fun γ ρ B hb hd => op_indexAddrIF lb tr50 (tl hd 3 27) (tl hd 1 25) hv_i_12) ?_
      refine dR 6 (fun γ ρ B hb hd => OpStep.lk ⟨ρ, (cvar gb_4 r_merkle_Tree t_3) :: B, _⟩ (op_loadA (j := 0) lb tA30 (tl hd 4 28) rfl (Comp.at (cT (comp_merkle_Tree_n t_3) rfl) i_12.2 rfl) hv_13)) <| dR 7 (fun γ ρ B hb hd => OpStep.lk ⟨ρ, (cvar gb_9 (rV 32 (rU UInt8)) v_7) :: B, _⟩ (op_loadA (j := 0) lb tA30 (.tmp (hb 7 _ rfl)) rfl (Comp.self (rV 32 (rU UInt8)) v_7) rfl)) <| dS 8 (fun γ ρ B hb hd => op_eqA lb qa30 (by decide) ng30 (tl hd 5 29) (tl hd 6 30) hv_14) ?_
      exact DSteps.nil)
     (by decide +kernel) (fun _ => rfl) (fun _ => rfl) (fun _ => rfl) rfl
     (ρ' := fun γ => [(0, ov (PTR gb_4 0)), (7, ov (PTR gb_9 0)), (9, ov (S (rI .i64) v_11)), (31, ov (S rB v_14))])
     (X' := fun γ => [cvar gb_4 r_merkle_Tree t_3, cvar gb_9 (rV 32 (rU UInt8)) v_7])
     (fun γ ρ hb hd => (.cons (hb 0 _ rfl) (.cons (hb 7 _ rfl) (.cons (hb 9 _ rfl) (.cons (hdq hd 7 31 rfl) .nil))))) (fun _ => rfl) (fun γ => ?_)
 refine JQ.at ⟨[(0, ov (PTR gb_4 0)), (7, ov (PTR gb_9 0)), (9, ov (S (rI .i64) v_11)), (31, ov (S rB v_14))], [cvar gb_4 r_merkle_Tree t_3, cvar gb_9 (rV 32 (rU UInt8)) v_7], []⟩ <| JQ.then <| jif tR hm (fun hc3 hm => ?_) (fun hc3 hm => ?_)
 · refine jr <| jc (op_assign lb .cI) <| jn <| JC.ret <| JQ.outR ?_
   obtain rfl := so hm
   exact JQ.done (js := [0]) (ss := [.val (S (rI .i64) (0 : Int))]) () (.inl rfl) (.nil rfl) rfl (.cons (.tmp rfl) .nil) rfl rfl rfl
 refine JC.skip <| JQ.then <| JC.seq <| bI hm fun i_15 hv_i_15 hm => ?_
 obtain ⟨t_16, hv_t_16, hm⟩ := lt1_inv hm
 refine JC.anyF (base := [(0, ov (PTR gb_4 0)), (7, ov (PTR gb_9 0)), (9, ov (S (rI .i64) v_11))])
     (fs := fun γ => [⟨some 32, ov (PTR gb_4 0)⟩, ⟨some 33, ov (S (rI .i64) v_11)⟩, ⟨some 34, ov (A (rV 32 (rU UInt8)) v_7)⟩, ⟨some 35, ov (PTR gb_4 0)⟩, ⟨some 36, ov (PTR gb_4 (0 + 0))⟩, ⟨some 37, ov (PTR gb_4 ((0 + 0) + i_15.1 * 32))⟩, ⟨none, .one .any⟩])
     (rs := fun γ => [⟨cvar gb_4 r_merkle_Tree t_3, none, (some 6), []⟩, ⟨cvar gb_9 (rV 32 (rU UInt8)) v_7, none, none, [2]⟩, ⟨cvar gb_4 r_merkle_Tree t_16, (some 6), none, []⟩])
     (afts := nn 7) (js := [0, 0]) mixed (.cons rfl (.cons rfl (.cons rfl .nil))) (fun _ => rfl)
     (by
      refine db 1 0 <| db 2 9 <| dR 3 (fun γ ρ B hb hd => OpStep.lk ⟨ρ, (cvar gb_9 (rV 32 (rU UInt8)) v_7) :: B, _⟩ (op_loadA (j := 0) lb tA30 (.tmp (hb 7 _ rfl)) rfl (Comp.self (rV 32 (rU UInt8)) v_7) rfl)) <| dS 4 (fun γ ρ B hb hd => op_nilCheck lb (tl hd 0 32) (fun e v h => by subst h; rfl)) <| dS 5 (fun γ ρ B hb hd => op_fieldAddr (off := 0) lb tf52_0 (tl hd 3 35)) ?_
      refine dS 6 (fun γ ρ B hb hd => op_indexAddrIF lb tr50 (tl hd 4 36) (tl hd 1 33) hv_i_15) <| dR 7 (fun γ ρ B hb hd => OpStep.at ⟨ρ, (cvar gb_4 r_merkle_Tree t_3) :: B, _⟩ (setO ⟨ρ, (cvar gb_4 r_merkle_Tree t_16) :: B, _⟩ _ _) (op_storeA (j := 0) tA30 (tl hd 5 37) (tl hd 2 34) rfl (Upd.at (cT (comp_merkle_Tree_n t_3) rfl) i_15.2 rfl (Upd.trans (Comp.self r_merkle_Tree t_3) (Upd.self r_merkle_Tree t_3 _) (upd_merkle_Tree_n t_3 (putV t_3.n i_15 v_7)))).R hv_t_16)) ?_
      exact DSteps.nil)
     (by decide +kernel) (fun _ => rfl) (fun _ => rfl) (fun _ => rfl) rfl
     (ρ' := fun γ => [(0, ov (PTR gb_4 0)), (9, ov (S (rI .i64) v_11))])
     (X' := fun γ => [cvar gb_9 (rV 32 (rU UInt8)) v_7, cvar gb_4 r_merkle_Tree t_16])
     (fun γ ρ hb hd => (.cons (hb 0 _ rfl) (.cons (hb 9 _ rfl) .nil))) (fun _ => rfl) (fun γ => ?_)
 refine JQ.at ⟨[(0, ov (PTR gb_4 0)), (9, ov (S (rI .i64) v_11))], [cvar gb_9 (rV 32 (rU UInt8)) v_7, cvar gb_4 r_merkle_Tree t_16], []⟩ <| JQ.then <| bI hm fun x_23 hx4 hq4 => JC.seqJ (γ := Unit) (stj := fun _ => ⟨[], [cvar gb_4 r_merkle_Tree x_23], []⟩) (fun _ => ?_) ?_
 · refine jr <| jc (op_assign lb .cI) <| jn <| JC.ret ?_
   obtain rfl := so hq4
   exact JQ.done (js := [0]) (ss := [.val (S (rI .i64) (0 : Int))]) () (.inl rfl) (.nil rfl) rfl (.cons (.tmp rfl) .nil) rfl rfl rfl
 refine jr <| jmv rfl rfl <| bI hx4 fun v_17 hv_17 hx4 => jc (op_arI lb tR .cI hv_17) <| jc (op_assign lb tR) <| jn <| JC.block <| JC.pre ?_ (JC.loop (γ := Unit) (stf := fun s q => ⟨[(0, ov (PTR gb_4 0)), (9, ov (S (rI .i64) s.2))], [cvar gb_4 r_merkle_Tree s.1], []⟩) (q := ()) hx4 ?_)
 · exact (Imp.norm (js := [1]) rfl (.cons rfl (.cons rfl .nil)))
 intro s q x hx hr
 obtain ⟨t_18, n_19⟩ := s
 obtain _ := q
 change merkle_Tree_Set.b1 k t_18 n_19 = some x at hx
 unfold merkle_Tree_Set.b1 at hx
 refine JC.at ⟨[(0, ov (PTR gb_4 0)), (9, ov (S (rI .i64) n_19))], [cvar gb_4 r_merkle_Tree t_18], []⟩ <| JC.seq <| jr <| jmv rfl rfl <| lI hx fun v_20 hv_20 hx => jc (op_cmpI lb tR .cI (cs hv_20)) <| jn <| jif tR hx (fun hc6 hx => ?_) (fun hc6 hx => ?_)
 · refine JC.skip <| JQ.then <| JC.seq <| JC.block <| JC.region <| jmv rfl rfl <| jmv rfl rfl <| bI hx fun x_21 hv_x_21 hx => jx (op_call (js := [0]) ld cl26 (sim_merkle_Tree_inner k n_19 t_18 gb_4 x_21 hv_x_21) .func (.cons tR (.cons tR .nil)) rfl) fun _ => JL.nil <| JQ.outNB <| JQ.then <| JC.region <| jmv rfl rfl ?_
   obtain ⟨v_22, hv_22, hx⟩ := bnd_inv hx
   refine jc (op_arI lb tR .cI hv_22) <| jc (op_assign lb tR) <| JL.nil ?_
   try obtain rfl := so hx
   exact JQ.next () rfl (Imp.norm (js := [0]) rfl (.cons rfl (.cons rfl .nil)))
 refine JC.exit <| JQ.outX ?_
 try obtain rfl := so hx
 have ht := hr _ rfl
 have hq5 := cs ht
 clear hr ht
 refine JQ.outX <| JQ.here ?_
 try obtain rfl := so hq5
 exact JQ.join () (Imp.norm (js := [0]) rfl .nil)

theorem sim_merkle_Tree_Diff_1_vppppp_vpvpvocrrrrr (d k : Nat) (n_1 : Int) (x_2 : Int) (x_5 : merkle_Tree) (x_8 : merkle_Tree) (x_11 : (List Int)) (gb_3 : Nat) (gb_4 : Nat) (gb_6 : Nat) (gb_7 : Nat) (gb_9 : Nat) (gb_10 : Nat) (go_12 : Option Nat) (gc_13 : Nat) (gb_14 : Nat) (r : Int × (List Int)) (hm : merkle_Tree_Diff_1_vppppp_vpvpvocrrrrr d k n_1 x_2 x_5 x_8 x_11 = some r) : Sim Try.prog 35 [S (rI .i64) n_1, PTR gb_3 0, PTR gb_4 0, PTR gb_7 0, PTR gb_10 0, PTR gb_14 0] [cvar gb_3 (rI .i64) x_2, cvar gb_4 (rW (PTR gb_6 0)) (), cvar gb_6 r_merkle_Tree x_5, cvar gb_7 (rW (PTR gb_9 0)) (), cvar gb_9 r_merkle_Tree x_8, cvar gb_10 (rW (HDR go_12 0 (List.length x_11) gc_13)) (), cown go_12 (rI .i64) x_11 0 gc_13, zq4 gb_14 gb_3 gb_4 gb_7 gb_10] (γ := Option Nat × Nat) (fun q => [cvar gb_3 (rI .i64) r.1, cvar gb_4 (rW (PTR gb_6 0)) (), cvar gb_6 r_merkle_Tree x_5, cvar gb_7 (rW (PTR gb_9 0)) (), cvar gb_9 r_merkle_Tree x_8, cvar gb_10 (rW (HDR q.1 0 (List.length r.2) q.2)) (), cown q.1 (rI .i64) r.2 0 q.2, zq4 gb_14 gb_3 gb_4 gb_7 gb_10]) (fun q => .tup []) := by
 induction d generalizing n_1 x_2 x_5 x_8 x_11 gb_3 gb_4 gb_6 gb_7 gb_9 gb_10 go_12 gc_13 gb_14 r with
 | zero => cases hm
 | succ d ih =>
  replace ih := fun _ : Nat => @ih
  change merkle_Tree_Diff_1_vppppp_vpvpvocrrrrr.bd (merkle_Tree_Diff_1_vppppp_vpvpvocrrrrr d) k n_1 x_2 x_5 x_8 x_11 = _ at hm
  unfold merkle_Tree_Diff_1_vppppp_vpvpvocrrrrr.bd at hm
  refine Sim.of Try.func35 rfl rfl (lE rfl) (fun e0 w0 => ?_)
  refine JC.at ⟨[(0, ov (S (rI .i64) n_1)), (1, ov (PTR gb_3 0)), (2, ov (PTR gb_4 0)), (3, ov (PTR gb_7 0)), (4, ov (PTR gb_10 0)), (5, ov (PTR gb_14 0))], [cvar gb_3 (rI .i64) x_2, cvar gb_4 (rW (PTR gb_6 0)) (), cvar gb_6 r_merkle_Tree x_5, cvar gb_7 (rW (PTR gb_9 0)) (), cvar gb_9 r_merkle_Tree x_8, cvar gb_10 (rW (HDR go_12 0 (List.length x_11) gc_13)) (), cown go_12 (rI .i64) x_11 0 gc_13, zq4 gb_14 gb_3 gb_4 gb_7 gb_10], []⟩ <| jr <| jc (op_loadS (j := 0) lb tS3 tR rfl (Comp.self (rI .i64) x_2) rfl rfl) <| lI hm fun v_15 hv_15 hm => jc (op_arI lb tR .cI (cs hv_15)) <| jc (op_storeS (j := 0) tS3 tR tR rfl rfl (UpdR.self (by rfl)) rfl) <| jn <| JC.block <| JC.seq <| bI hm fun i_16 hv_i_16 hm => lI hm fun v_17 hv_17 hm => bI hm fun i_18 hv_i_18 hm => lI hm fun v_19 hv_19 hm => ?_
  obtain ⟨v_20, hv_20, hm⟩ := bnd_inv hm
  refine JC.anyF (base := [(0, ov (S (rI .i64) n_1)), (2, ov (PTR gb_4 0)), (3, ov (PTR gb_7 0)), (4, ov (PTR gb_10 0)), (5, ov (PTR gb_14 0))])
      (fs := fun γ => [⟨some 19, ov (PTR gb_6 0)⟩, ⟨some 20, ov (S (rI .i64) n_1)⟩, ⟨some 21, ov (PTR gb_6 0)⟩, ⟨some 22, ov (PTR gb_6 (0 + 0))⟩, ⟨some 23, ov (PTR gb_6 ((0 + 0) + i_16.1 * 32))⟩, ⟨some 24, ov (A (rV 32 (rU UInt8)) v_17)⟩, ⟨some 25, ov (PTR gb_9 0)⟩, ⟨some 26, ov (S (rI .i64) n_1)⟩, ⟨some 27, ov (PTR gb_9 0)⟩, ⟨some 28, ov (PTR gb_9 (0 + 0))⟩, ⟨some 29, ov (PTR gb_9 ((0 + 0) + i_18.1 * 32))⟩, ⟨some 30, ov (A (rV 32 (rU UInt8)) v_19)⟩, ⟨some 31, ov (S rB v_20)⟩, ⟨some 18, ov (S rB v_20)⟩])
      (rs := fun γ => [⟨cvar gb_3 (rI .i64) v_15, none, none, []⟩, ⟨cvar gb_4 (rW (PTR gb_6 0)) (), none, none, [0]⟩, ⟨cvar gb_6 r_merkle_Tree x_5, none, none, [5]⟩, ⟨cvar gb_7 (rW (PTR gb_9 0)) (), none, none, [6]⟩, ⟨cvar gb_9 r_merkle_Tree x_8, none, none, [11]⟩, ⟨cvar gb_10 (rW (HDR go_12 0 (List.length x_11) gc_13)) (), none, none, []⟩, ⟨cown go_12 (rI .i64) x_11 0 gc_13, none, none, []⟩, ⟨zq4 gb_14 gb_3 gb_4 gb_7 gb_10, none, none, []⟩])
      (afts := nn 14) (js := [0, 0, 0, 0, 0, 0, 0, 0]) mixed (.cons rfl (.cons rfl (.cons rfl (.cons rfl (.cons rfl .nil))))) (fun _ => rfl)
      (by
      refine dR 1 (fun γ ρ B hb hd => OpStep.lk ⟨ρ, (cvar gb_4 (rW (PTR gb_6 0)) ()) :: B, _⟩ (op_loadW (j := 0) lb tS24 (.tmp (hb 2 _ rfl)) rfl (Comp.self (rW (PTR gb_6 0)) ()))) <| db 2 0 <| dS 3 (fun γ ρ B hb hd => op_nilCheck lb (tl hd 0 19) (fun e v h => by subst h; rfl)) <| dS 4 (fun γ ρ B hb hd => op_fieldAddr (off := 0) lb tf52_0 (tl hd 2 21)) <| dS 5 (fun γ ρ B hb hd => op_indexAddrIF lb tr50 (tl hd 3 22) (tl hd 1 20) hv_i_16) ?_
      refine dR 6 (fun γ ρ B hb hd => OpStep.lk ⟨ρ, (cvar gb_6 r_merkle_Tree x_5) :: B, _⟩ (op_loadA (j := 0) lb tA30 (tl hd 4 23) rfl (Comp.at (cT (comp_merkle_Tree_n x_5) rfl) i_16.2 rfl) hv_17)) <| dR 7 (fun γ ρ B hb hd => OpStep.lk ⟨ρ, (cvar gb_7 (rW (PTR gb_9 0)) ()) :: B, _⟩ (op_loadW (j := 0) lb tS24 (.tmp (hb 3 _ rfl)) rfl (Comp.self (rW (PTR gb_9 0)) ()))) <| db 8 0 <| dS 9 (fun γ ρ B hb hd => op_nilCheck lb (tl hd 6 25) (fun e v h => by subst h; rfl)) <| dS 10 (fun γ ρ B hb hd => op_fieldAddr (off := 0) lb tf52_0 (tl hd 8 27)) ?_
      refine dS 11 (fun γ ρ B hb hd => op_indexAddrIF lb tr50 (tl hd 9 28) (tl hd 7 26) hv_i_18) <| dR 12 (fun γ ρ B hb hd => OpStep.lk ⟨ρ, (cvar gb_9 r_merkle_Tree x_8) :: B, _⟩ (op_loadA (j := 0) lb tA30 (tl hd 10 29) rfl (Comp.at (cT (comp_merkle_Tree_n x_8) rfl) i_18.2 rfl) hv_19)) <| dS 13 (fun γ ρ B hb hd => (op_call (js := []) ld cl36 (sim_sha_Equal k v_17 v_19 v_20 hv_20) .func (.cons (tl hd 5 24) (.cons (tl hd 11 30) .nil)) rfl).post (fun _ => Imp.refl)) <| dS 14 (fun γ ρ B hb hd => op_assign lb (tl hd 12 31)) ?_
      exact DSteps.nil)
      (by decide +kernel) (fun _ => rfl) (fun _ => rfl) (fun _ => rfl) rfl
      (ρ' := fun γ => [(0, ov (S (rI .i64) n_1)), (4, ov (PTR gb_10 0)), (5, ov (PTR gb_14 0)), (18, ov (S rB v_20))])
      (X' := fun γ => [cvar gb_3 (rI .i64) v_15, cvar gb_4 (rW (PTR gb_6 0)) (), cvar gb_6 r_merkle_Tree x_5, cvar gb_7 (rW (PTR gb_9 0)) (), cvar gb_9 r_merkle_Tree x_8, cvar gb_10 (rW (HDR go_12 0 (List.length x_11) gc_13)) (), cown go_12 (rI .i64) x_11 0 gc_13, zq4 gb_14 gb_3 gb_4 gb_7 gb_10])
      (fun γ ρ hb hd => (.cons (hb 0 _ rfl) (.cons (hb 4 _ rfl) (.cons (hb 5 _ rfl) (.cons (hdq hd 13 18 rfl) .nil))))) (fun _ => rfl) (fun γ => ?_)
  refine JQ.at ⟨[(0, ov (S (rI .i64) n_1)), (4, ov (PTR gb_10 0)), (5, ov (PTR gb_14 0)), (18, ov (S rB v_20))], [cvar gb_3 (rI .i64) v_15, cvar gb_4 (rW (PTR gb_6 0)) (), cvar gb_6 r_merkle_Tree x_5, cvar gb_7 (rW (PTR gb_9 0)) (), cvar gb_9 r_merkle_Tree x_8, cvar gb_10 (rW (HDR go_12 0 (List.length x_11) gc_13)) (), cown go_12 (rI .i64) x_11 0 gc_13, zq4 gb_14 gb_3 gb_4 gb_7 gb_10], []⟩ <| JQ.then ?_
  rcases iteB_inv hm with ⟨hc1, hm⟩ | ⟨hc1, hm⟩
  · refine JC.condT tR hc1 <| JC.skip <| JQ.outNB ?_
    obtain rfl := so hm
    exact JQ.done (js := [0, 0, 0, 0, 0, 0, 0, 0]) (ss := []) (go_12, gc_13) (.inr rfl) (.nil rfl) rfl .nil rfl rfl rfl
  · refine JC.condF tR hc1 <| jr <| jmv rfl rfl <| lI hm fun v_21 hv_21 hm => jc (op_cmpI lb tR .cI (cs hv_21)) <| jc (op_assign lb tR) <| jn ?_
    rcases iteB_inv hm with ⟨hc2, hm⟩ | ⟨hc2, hm⟩
    · refine JC.condT tR hc2 <| JC.region <| jc (op_loadW (j := 5) lb tS53 tR rfl (Comp.self (rW (HDR go_12 0 (List.length x_11) gc_13)) ())) <| jmv rfl rfl <| lI hm fun v_22 hv_22 hm => jc (op_arI lb tR .cI (cs hv_22)) <| jc (op_buildF (r := (rI .i64)) lb tu53 tz3 tZ3 rfl (lE rfl) (.S rfl tR .nil) rfl) <| bI hm fun x_23 hv_x_23 hm => jx (op_appendL (j := 6) lb tu53 tu53 rfl tB3 rfl (Nat.lt_of_lt_of_le Nat.zero_lt_one (lE rfl)) (Nat.lt_of_lt_of_le Nat.zero_lt_one (lE rfl))  rfl tR tR hv_x_23) (fun q => ?_)
      obtain ⟨go_24, gc_25⟩ := q
      refine jc (op_storeW (j := 5) tS53 tR tR rfl (UpdR.self (by rfl)) rfl) <| JL.sub ⟨[], [cvar gb_3 (rI .i64) v_15, cvar gb_4 (rW (PTR gb_6 0)) (), cvar gb_6 r_merkle_Tree x_5, cvar gb_7 (rW (PTR gb_9 0)) (), cvar gb_9 r_merkle_Tree x_8, cvar gb_10 (rW (HDR go_24 0 (List.length x_23) gc_25)) (), cown go_24 (rI .i64) x_23 0 gc_25, zq4 gb_14 gb_3 gb_4 gb_7 gb_10], []⟩ .nil rfl rfl <| JL.nil <| JQ.outNB ?_
      obtain rfl := so hm
      exact JQ.done (js := [0, 0, 0, 0, 0, 0, 0, 0]) (ss := []) (go_24, gc_25) (.inr rfl) (.nil rfl) rfl .nil rfl rfl rfl
    · refine JC.condF tR hc2 <| jr <| jc (op_loadW (j := 7) lb tS57 tR rfl (Comp.self (rW (CLO 35 [PTR gb_3 0, PTR gb_4 0, PTR gb_7 0, PTR gb_10 0, PTR gb_14 0])) ())) <| jmv rfl rfl <| lI hm fun v_26 hv_26 hm => jc (op_arI lb .cI tR (cs hv_26)) ?_
      obtain ⟨⟨x_27, x_28⟩, hv_x_27, hm⟩ := bnd_inv hm
      refine jx (op_call (js := [0, 0, 0, 0, 0, 0, 0, 0]) ld cl35 (ih k v_26 v_15 x_5 x_8 x_11 gb_3 gb_4 gb_6 gb_7 gb_9 gb_10 go_12 gc_13 gb_14 (x_27, x_28) hv_x_27) tR (.cons tR .nil) rfl) (fun q => ?_)
      obtain ⟨go_29, gc_30⟩ := q
      refine jn <| JC.region <| jc (op_loadW (j := 7) lb tS57 tR rfl (Comp.self (rW (CLO 35 [PTR gb_3 0, PTR gb_4 0, PTR gb_7 0, PTR gb_10 0, PTR gb_14 0])) ())) <| jmv rfl rfl <| lI hm fun v_31 hv_31 hm => jc (op_arI lb .cI tR (cs hv_31)) <| JL.sub ⟨[(13, ov (CLO 35 [PTR gb_3 0, PTR gb_4 0, PTR gb_7 0, PTR gb_10 0, PTR gb_14 0])), (15, ov (S (rI .i64) v_31))], [cvar gb_3 (rI .i64) x_27, cvar gb_4 (rW (PTR gb_6 0)) (), cvar gb_6 r_merkle_Tree x_5, cvar gb_7 (rW (PTR gb_9 0)) (), cvar gb_9 r_merkle_Tree x_8, cvar gb_10 (rW (HDR go_29 0 (List.length x_28) gc_30)) (), cown go_29 (rI .i64) x_28 0 gc_30, zq4 gb_14 gb_3 gb_4 gb_7 gb_10], []⟩ (.cons rfl (.cons rfl .nil)) rfl rfl <| lI hm fun v_32 hv_32 hm => jc (op_arI lb tR .cI (cs hv_32)) ?_
      obtain ⟨⟨x_33, x_34⟩, hv_x_33, hm⟩ := bnd_inv hm
      refine jx (op_call (js := [0, 0, 0, 0, 0, 0, 0, 0]) ld cl35 (ih k v_32 x_27 x_5 x_8 x_28 gb_3 gb_4 gb_6 gb_7 gb_9 gb_10 go_29 gc_30 gb_14 (x_33, x_34) hv_x_33) tR (.cons tR .nil) rfl) (fun q => ?_)
      obtain ⟨go_35, gc_36⟩ := q
      refine JL.nil <| JQ.outNB ?_
      obtain rfl := so hm
      exact JQ.done (js := [0, 0, 0, 0, 0, 0, 0, 0]) (ss := []) (go_35, gc_36) (.inr rfl) (.nil rfl) rfl .nil rfl rfl rfl

theorem sim_merkle_Tree_Diff_1_vppppp_vpvpvncrrrrr (d k : Nat) (n_1 : Int) (x_2 : Int) (x_5 : merkle_Tree) (x_8 : merkle_Tree) (gb_3 : Nat) (gb_4 : Nat) (gb_6 : Nat) (gb_7 : Nat) (gb_9 : Nat) (gb_10 : Nat) (gb_11 : Nat) (r : Int × (List Int)) (hm : merkle_Tree_Diff_1_vppppp_vpvpvncrrrrr d k n_1 x_2 x_5 x_8 = some r) : Sim Try.prog 35 [S (rI .i64) n_1, PTR gb_3 0, PTR gb_4 0, PTR gb_7 0, PTR gb_10 0, PTR gb_11 0] [cvar gb_3 (rI .i64) x_2, cvar gb_4 (rW (PTR gb_6 0)) (), cvar gb_6 r_merkle_Tree x_5, cvar gb_7 (rW (PTR gb_9 0)) (), cvar gb_9 r_merkle_Tree x_8, cvar gb_10 (rW (HDR none 0 0 0)) (), zq4 gb_11 gb_3 gb_4 gb_7 gb_10] (γ := Option Nat × Nat) (fun q => [cvar gb_3 (rI .i64) r.1, cvar gb_4 (rW (PTR gb_6 0)) (), cvar gb_6 r_merkle_Tree x_5, cvar gb_7 (rW (PTR gb_9 0)) (), cvar gb_9 r_merkle_Tree x_8, cvar gb_10 (rW (HDR q.1 0 (List.length r.2) q.2)) (), cown q.1 (rI .i64) r.2 0 q.2, zq4 gb_11 gb_3 gb_4 gb_7 gb_10]) (fun q => .tup []) := by
 induction d generalizing n_1 x_2 x_5 x_8 gb_3 gb_4 gb_6 gb_7 gb_9 gb_10 gb_11 r with
 | zero => cases hm
 | succ d ih =>
  replace ih := fun _ : Nat => @ih
  change merkle_Tree_Diff_1_vppppp_vpvpvncrrrrr.bd (merkle_Tree_Diff_1_vppppp_vpvpvncrrrrr d) k n_1 x_2 x_5 x_8 = _ at hm
  unfold merkle_Tree_Diff_1_vppppp_vpvpvncrrrrr.bd at hm
  refine Sim.of Try.func35 rfl rfl (lE rfl) (fun e0 w0 => ?_)
  refine JC.at ⟨[(0, ov (S (rI .i64) n_1)), (1, ov (PTR gb_3 0)), (2, ov (PTR gb_4 0)), (3, ov (PTR gb_7 0)), (4, ov (PTR gb_10 0)), (5, ov (PTR gb_11 0))], [cvar gb_3 (rI .i64) x_2, cvar gb_4 (rW (PTR gb_6 0)) (), cvar gb_6 r_merkle_Tree x_5, cvar gb_7 (rW (PTR gb_9 0)) (), cvar gb_9 r_merkle_Tree x_8, cvar gb_10 (rW (HDR none 0 0 0)) (), zq4 gb_11 gb_3 gb_4 gb_7 gb_10], []⟩ <| jr <| jc (op_loadS (j := 0) lb tS3 tR rfl (Comp.self (rI .i64) x_2) rfl rfl) <| lI hm fun v_12 hv_12 hm => jc (op_arI lb tR .cI (cs hv_12)) <| jc (op_storeS (j := 0) tS3 tR tR rfl rfl (UpdR.self (by rfl)) rfl) <| jn <| JC.block <| JC.seq <| bI hm fun i_13 hv_i_13 hm => lI hm fun v_14 hv_14 hm => bI hm fun i_15 hv_i_15 hm => lI hm fun v_16 hv_16 hm => ?_
  obtain ⟨v_17, hv_17, hm⟩ := bnd_inv hm
  refine JC.anyF (base := [(0, ov (S (rI .i64) n_1)), (2, ov (PTR gb_4 0)), (3, ov (PTR gb_7 0)), (4, ov (PTR gb_10 0)), (5, ov (PTR gb_11 0))])
      (fs := fun γ => [⟨some 19, ov (PTR gb_6 0)⟩, ⟨some 20, ov (S (rI .i64) n_1)⟩, ⟨some 21, ov (PTR gb_6 0)⟩, ⟨some 22, ov (PTR gb_6 (0 + 0))⟩, ⟨some 23, ov (PTR gb_6 ((0 + 0) + i_13.1 * 32))⟩, ⟨some 24, ov (A (rV 32 (rU UInt8)) v_14)⟩, ⟨some 25, ov (PTR gb_9 0)⟩, ⟨some 26, ov (S (rI .i64) n_1)⟩, ⟨some 27, ov (PTR gb_9 0)⟩, ⟨some 28, ov (PTR gb_9 (0 + 0))⟩, ⟨some 29, ov (PTR gb_9 ((0 + 0) + i_15.1 * 32))⟩, ⟨some 30, ov (A (rV 32 (rU UInt8)) v_16)⟩, ⟨some 31, ov (S rB v_17)⟩, ⟨some 18, ov (S rB v_17)⟩])
      (rs := fun γ => [⟨cvar gb_3 (rI .i64) v_12, none, none, []⟩, ⟨cvar gb_4 (rW (PTR gb_6 0)) (), none, none, [0]⟩, ⟨cvar gb_6 r_merkle_Tree x_5, none, none, [5]⟩, ⟨cvar gb_7 (rW (PTR gb_9 0)) (), none, none, [6]⟩, ⟨cvar gb_9 r_merkle_Tree x_8, none, none, [11]⟩, ⟨cvar gb_10 (rW (HDR none 0 0 0)) (), none, none, []⟩, ⟨zq4 gb_11 gb_3 gb_4 gb_7 gb_10, none, none, []⟩])
      (afts := nn 14) (js := [0, 0, 0, 0, 0, 0, 0]) mixed (.cons rfl (.cons rfl (.cons rfl (.cons rfl (.cons rfl .nil))))) (fun _ => rfl)
      (by
      refine dR 1 (fun γ ρ B hb hd => OpStep.lk ⟨ρ, (cvar gb_4 (rW (PTR gb_6 0)) ()) :: B, _⟩ (op_loadW (j := 0) lb tS24 (.tmp (hb 2 _ rfl)) rfl (Comp.self (rW (PTR gb_6 0)) ()))) <| db 2 0 <| dS 3 (fun γ ρ B hb hd => op_nilCheck lb (tl hd 0 19) (fun e v h => by subst h; rfl)) <| dS 4 (fun γ ρ B hb hd => op_fieldAddr (off := 0) lb tf52_0 (tl hd 2 21)) <| dS 5 (fun γ ρ B hb hd => op_indexAddrIF lb tr50 (tl hd 3 22) (tl hd 1 20) hv_i_13) ?_
      refine dR 6 (fun γ ρ B hb hd => OpStep.lk ⟨ρ, (cvar gb_6 r_merkle_Tree x_5) :: B, _⟩ (op_loadA (j := 0) lb tA30 (tl hd 4 23) rfl (Comp.at (cT (comp_merkle_Tree_n x_5) rfl) i_13.2 rfl) hv_14)) <| dR 7 (fun γ ρ B hb hd => OpStep.lk ⟨ρ, (cvar gb_7 (rW (PTR gb_9 0)) ()) :: B, _⟩ (op_loadW (j := 0) lb tS24 (.tmp (hb 3 _ rfl)) rfl (Comp.self (rW (PTR gb_9 0)) ()))) <| db 8 0 <| dS 9 (fun γ ρ B hb hd => op_nilCheck lb (tl hd 6 25) (fun e v h => by subst h; rfl)) <| dS 10 (fun γ ρ B hb hd => op_fieldAddr (off := 0) lb tf52_0 (tl hd 8 27)) ?_
      refine dS 11 (fun γ ρ B hb hd => op_indexAddrIF lb tr50 (tl hd 9 28) (tl hd 7 26) hv_i_15) <| dR 12 (fun γ ρ B hb hd => OpStep.lk ⟨ρ, (cvar gb_9 r_merkle_Tree x_8) :: B, _⟩ (op_loadA (j := 0) lb tA30 (tl hd 10 29) rfl (Comp.at (cT (comp_merkle_Tree_n x_8) rfl) i_15.2 rfl) hv_16)) <| dS 13 (fun γ ρ B hb hd => (op_call (js := []) ld cl36 (sim_sha_Equal k v_14 v_16 v_17 hv_17) .func (.cons (tl hd 5 24) (.cons (tl hd 11 30) .nil)) rfl).post (fun _ => Imp.refl)) <| dS 14 (fun γ ρ B hb hd => op_assign lb (tl hd 12 31)) ?_
      exact DSteps.nil)
      (by decide +kernel) (fun _ => rfl) (fun _ => rfl) (fun _ => rfl) rfl
      (ρ' := fun γ => [(0, ov (S (rI .i64) n_1)), (4, ov (PTR gb_10 0)), (5, ov (PTR gb_11 0)), (18, ov (S rB v_17))])
      (X' := fun γ => [cvar gb_3 (rI .i64) v_12, cvar gb_4 (rW (PTR gb_6 0)) (), cvar gb_6 r_merkle_Tree x_5, cvar gb_7 (rW (PTR gb_9 0)) (), cvar gb_9 r_merkle_Tree x_8, cvar gb_10 (rW (HDR none 0 0 0)) (), zq4 gb_11 gb_3 gb_4 gb_7 gb_10])
      (fun γ ρ hb hd => (.cons (hb 0 _ rfl) (.cons (hb 4 _ rfl) (.cons (hb 5 _ rfl) (.cons (hdq hd 13 18 rfl) .nil))))) (fun _ => rfl) (fun γ => ?_)
  refine JQ.at ⟨[(0, ov (S (rI .i64) n_1)), (4, ov (PTR gb_10 0)), (5, ov (PTR gb_11 0)), (18, ov (S rB v_17))], [cvar gb_3 (rI .i64) v_12, cvar gb_4 (rW (PTR gb_6 0)) (), cvar gb_6 r_merkle_Tree x_5, cvar gb_7 (rW (PTR gb_9 0)) (), cvar gb_9 r_merkle_Tree x_8, cvar gb_10 (rW (HDR none 0 0 0)) (), zq4 gb_11 gb_3 gb_4 gb_7 gb_10], []⟩ <| JQ.then ?_
  rcases iteB_inv hm with ⟨hc1, hm⟩ | ⟨hc1, hm⟩
  · refine JC.condT tR hc1 <| JC.skip <| JQ.outNB ?_
    obtain rfl := so hm
    exact JQ.pre (Imp.nilown (rI .i64)) <| JQ.done (js := [0, 0, 0, 0, 0, 0, 1, 0]) (ss := []) (none, 0) (.inr rfl) (.nil rfl) rfl .nil rfl rfl rfl
  · refine JC.condF tR hc1 <| jr <| jmv rfl rfl <| lI hm fun v_18 hv_18 hm => jc (op_cmpI lb tR .cI (cs hv_18)) <| jc (op_assign lb tR) <| jn ?_
    rcases iteB_inv hm with ⟨hc2, hm⟩ | ⟨hc2, hm⟩
    · refine JC.condT tR hc2 <| JC.region <| jc (op_loadW (j := 5) lb tS53 tR rfl (Comp.self (rW (HDR none 0 0 0)) ())) <| jmv rfl rfl <| lI hm fun v_19 hv_19 hm => jc (op_arI lb tR .cI (cs hv_19)) <| jc (op_buildF (r := (rI .i64)) lb tu53 tz3 tZ3 rfl (lE rfl) (.S rfl tR .nil) rfl) <| bI hm fun v_20 hv_20 hm => JL.pre (Imp.nilown (rI .i64)) <| jx (op_appendL (j := 7) lb tu53 tu53 rfl tB3 rfl (Nat.lt_of_lt_of_le Nat.zero_lt_one (lE rfl)) (Nat.lt_of_lt_of_le Nat.zero_lt_one (lE rfl))  rfl tR tR hv_20) (fun q => ?_)
      obtain ⟨go_21, gc_22⟩ := q
      refine JL.sub ⟨[(4, ov (PTR gb_10 0)), (39, ov (HDR go_21 0 (List.length v_20) gc_22))], [cvar gb_3 (rI .i64) v_12, cvar gb_4 (rW (PTR gb_6 0)) (), cvar gb_6 r_merkle_Tree x_5, cvar gb_7 (rW (PTR gb_9 0)) (), cvar gb_9 r_merkle_Tree x_8, cvar gb_10 (rW (HDR none 0 0 0)) (), zq4 gb_11 gb_3 gb_4 gb_7 gb_10, cown go_21 (rI .i64) v_20 0 gc_22], []⟩ (.cons rfl (.cons rfl .nil)) rfl rfl <| jc (op_storeW (j := 5) tS53 tR tR rfl (UpdR.self (by rfl)) rfl) <| JL.nil <| JQ.outNB ?_
      obtain rfl := so hm
      exact JQ.done (js := [0, 0, 0, 0, 0, 0, 1, 0]) (ss := []) (go_21, gc_22) (.inr rfl) (.nil rfl) rfl .nil rfl rfl rfl
    · refine JC.condF tR hc2 <| jr <| jc (op_loadW (j := 6) lb tS57 tR rfl (Comp.self (rW (CLO 35 [PTR gb_3 0, PTR gb_4 0, PTR gb_7 0, PTR gb_10 0, PTR gb_11 0])) ())) <| jmv rfl rfl <| lI hm fun v_23 hv_23 hm => jc (op_arI lb .cI tR (cs hv_23)) ?_
      obtain ⟨⟨x_24, x_25⟩, hv_x_24, hm⟩ := bnd_inv hm
      refine jx (op_call (js := [0, 0, 0, 0, 0, 0, 0]) ld cl35 (ih k v_23 v_12 x_5 x_8 gb_3 gb_4 gb_6 gb_7 gb_9 gb_10 gb_11 (x_24, x_25) hv_x_24) tR (.cons tR .nil) rfl) (fun q => ?_)
      obtain ⟨go_26, gc_27⟩ := q
      refine jn <| JC.region <| jc (op_loadW (j := 7) lb tS57 tR rfl (Comp.self (rW (CLO 35 [PTR gb_3 0, PTR gb_4 0, PTR gb_7 0, PTR gb_10 0, PTR gb_11 0])) ())) <| jmv rfl rfl <| lI hm fun v_28 hv_28 hm => jc (op_arI lb .cI tR (cs hv_28)) <| JL.sub ⟨[(13, ov (CLO 35 [PTR gb_3 0, PTR gb_4 0, PTR gb_7 0, PTR gb_10 0, PTR gb_11 0])), (15, ov (S (rI .i64) v_28))], [cvar gb_3 (rI .i64) x_24, cvar gb_4 (rW (PTR gb_6 0)) (), cvar gb_6 r_merkle_Tree x_5, cvar gb_7 (rW (PTR gb_9 0)) (), cvar gb_9 r_merkle_Tree x_8, cvar gb_10 (rW (HDR go_26 0 (List.length x_25) gc_27)) (), cown go_26 (rI .i64) x_25 0 gc_27, zq4 gb_11 gb_3 gb_4 gb_7 gb_10], []⟩ (.cons rfl (.cons rfl .nil)) rfl rfl <| lI hm fun v_29 hv_29 hm => jc (op_arI lb tR .cI (cs hv_29)) ?_
      obtain ⟨⟨x_30, x_31⟩, hv_x_30, hm⟩ := bnd_inv hm
      refine jx (op_call (js := [0, 0, 0, 0, 0, 0, 0, 0]) ld cl35 (sim_merkle_Tree_Diff_1_vppppp_vpvpvocrrrrr k k v_29 x_24 x_5 x_8 x_25 gb_3 gb_4 gb_6 gb_7 gb_9 gb_10 go_26 gc_27 gb_11 (x_30, x_31) hv_x_30) tR (.cons tR .nil) rfl) (fun q => ?_)
      obtain ⟨go_32, gc_33⟩ := q
      refine JL.nil <| JQ.outNB ?_
      obtain rfl := so hm
      exact JQ.done (js := [0, 0, 0, 0, 0, 0, 0, 0]) (ss := []) (go_32, gc_33) (.inr rfl) (.nil rfl) rfl .nil rfl rfl rfl

theorem sim_merkle_Tree_Diff (k : Nat) (t_1 : merkle_Tree) (o_3 : merkle_Tree) (gb_2 : Nat) (gb_4 : Nat) (r : (List Int) × Int × Int) (hm : merkle_Tree_Diff k t_1 o_3 = some r) : Sim Try.prog 24 [PTR gb_2 0, PTR gb_4 0] [cvar gb_2 r_merkle_Tree t_1, cvar gb_4 r_merkle_Tree o_3] (γ := Option Nat × Nat) (fun q => [cown q.1 (rI .i64) r.1 0 q.2, cvar gb_2 r_merkle_Tree t_1, cvar gb_4 r_merkle_Tree o_3]) (fun q => .tup [.val (HDR q.1 0 (List.length r.1) q.2), .val (S (rI .i64) r.2.1), .val (S (rI .i64) r.2.2)]) := by
 unfold merkle_Tree_Diff at hm
 refine Sim.of Try.func24 rfl rfl (lE rfl) (fun e0 w0 => ?_)
 refine JC.at ⟨[(0, ov (PTR gb_2 0)), (1, ov (PTR gb_4 0))], [cvar gb_2 r_merkle_Tree t_1, cvar gb_4 r_merkle_Tree o_3], []⟩ <| jr <| jx (op_boxW lb tR) fun gb_5 => jx (op_boxW lb tR) fun gb_6 => jc (op_assign lb HasO.nilH) <| jc (op_assign lb .cI) <| jc (op_assign lb .cI) <| jn <| JC.seq <| bI hm fun x_11 hx1 hq1 => JC.seqJ (γ := Unit) (stj := fun _ => ⟨[(2, ov (PTR gb_5 0)), (3, ov (PTR gb_6 0)), (17, ov (S rB x_11))], [cvar gb_5 (rW (PTR gb_2 0)) (), cvar gb_2 r_merkle_Tree t_1, cvar gb_6 (rW (PTR gb_4 0)) (), cvar gb_4 r_merkle_Tree o_3], []⟩) (fun _ => ?_) ?_
 · refine jif tR hq1 (fun hc5 hq1 => ?_) (fun hc5 hq1 => ?_)
   · refine jr <| jc (op_assign lb HasO.nilH) <| jc (op_assign lb .cI) <| jc (op_assign lb .cI) <| jn <| JC.ret <| JQ.outR ?_
     obtain rfl := so hq1
     exact JQ.pre (Imp.nilown (rI .i64)) <| JQ.done (js := [4, 1, 2]) (ss := [.val (HDR none 0 (List.length ([] : (List Int))) (0)), .val (S (rI .i64) (0 : Int)), .val (S (rI .i64) (1 : Int))]) (none, 0) (.inl rfl) (.nil rfl) rfl (.cons (.tmp rfl) (.cons (.tmp rfl) (.cons (.tmp rfl) .nil))) rfl rfl rfl
   refine JC.skip <| JQ.then <| jr <| jx (op_alloc lb tZ53 zr53) fun gb_12 => jn <| jr <| jx (op_alloc lb tZ3 zr3) fun gb_13 => jc (op_storeS (j := 5) tS3 tR .cI rfl rfl (UpdR.self (by rfl)) rfl) <| jn <| jr <| jx (op_alloc lb tZ57 zr57) fun gb_14 => jn <| jr <| jc (op_makeFunc lb (.cons tR (.cons tR (.cons tR (.cons tR (.cons tR .nil)))))) <| jc (op_storeW (j := 6) tS57 tR tR rfl (UpdR.self (by rfl)) rfl) <| JL.sub ⟨[(7, ov (PTR gb_12 0)), (8, ov (PTR gb_13 0)), (9, ov (PTR gb_14 0))], [cvar gb_5 (rW (PTR gb_2 0)) (), cvar gb_2 r_merkle_Tree t_1, cvar gb_6 (rW (PTR gb_4 0)) (), cvar gb_4 r_merkle_Tree o_3, cvar gb_12 (rW (HDR none 0 0 0)) (), cvar gb_13 (rI .i64) (0 : Int), zq4 gb_14 gb_13 gb_5 gb_6 gb_12], []⟩ (.cons rfl (.cons rfl (.cons rfl .nil))) rfl rfl ?_
   refine jn <| jr <| jc (op_loadW (j := 6) lb tS57 tR rfl (Comp.self (rW (CLO 35 [PTR gb_13 0, PTR gb_5 0, PTR gb_6 0, PTR gb_12 0, PTR gb_14 0])) ())) ?_
   obtain ⟨⟨x_15, x_16⟩, hv_x_15, hq1⟩ := bnd_inv hq1
   refine jx (op_call (js := [5, 0, 0, 0, 0, 0, 0]) ld cl35 (sim_merkle_Tree_Diff_1_vppppp_vpvpvncrrrrr k k (1 : Int) (0 : Int) t_1 o_3 gb_13 gb_5 gb_2 gb_6 gb_4 gb_12 gb_14 (x_15, x_16) hv_x_15) tR (.cons .cI .nil) rfl) (fun q => ?_)
   obtain ⟨go_17, gc_18⟩ := q
   refine jn <| JC.seq ?_
   refine JC.anyF (base := [(7, ov (PTR gb_12 0)), (8, ov (PTR gb_13 0))])
       (fs := fun γ => [⟨some 21, ov (HDR go_17 0 (List.length x_16) gc_18)⟩, ⟨some 22, ov (S (rI .i64) x_15)⟩, ⟨some 4, ov (HDR go_17 0 (List.length x_16) gc_18)⟩, ⟨some 5, ov (S (rI .i64) x_15)⟩, ⟨some 6, ov (S (rI .i64) (0 : Int))⟩])
       (rs := fun γ => [⟨cvar gb_13 (rI .i64) x_15, none, none, [1]⟩, ⟨cvar gb_5 (rW (PTR gb_2 0)) (), none, none, []⟩, ⟨cvar gb_2 r_merkle_Tree t_1, none, none, []⟩, ⟨cvar gb_6 (rW (PTR gb_4 0)) (), none, none, []⟩, ⟨cvar gb_4 r_merkle_Tree o_3, none, none, []⟩, ⟨cvar gb_12 (rW (HDR go_17 0 (List.length x_16) gc_18)) (), none, none, [0]⟩, ⟨cown go_17 (rI .i64) x_16 0 gc_18, none, none, []⟩, ⟨zq4 gb_14 gb_13 gb_5 gb_6 gb_12, none, none, []⟩])
       (afts := nn 5) (js := [0, 0, 0, 0, 0, 0, 0, 0]) mixed (.cons rfl (.cons rfl .nil)) (fun _ => rfl)
       (by
      refine dR 1 (fun γ ρ B hb hd => OpStep.lk ⟨ρ, (cvar gb_12 (rW (HDR go_17 0 (List.length x_16) gc_18)) ()) :: B, _⟩ (op_loadW (j := 0) lb tS53 (.tmp (hb 7 _ rfl)) rfl (Comp.self (rW (HDR go_17 0 (List.length x_16) gc_18)) ()))) <| dR 2 (fun γ ρ B hb hd => OpStep.lk ⟨ρ, (cvar gb_13 (rI .i64) x_15) :: B, _⟩ (op_loadS (j := 0) lb tS3 (.tmp (hb 8 _ rfl)) rfl (Comp.self (rI .i64) x_15) rfl rfl)) <| dS 3 (fun γ ρ B hb hd => op_assign lb (tl hd 0 21)) <| dS 4 (fun γ ρ B hb hd => op_assign lb (tl hd 1 22)) <| dS 5 (fun γ ρ B hb hd => op_assign lb .cI) ?_
      exact DSteps.nil)
       (by decide +kernel) (fun _ => rfl) (fun _ => rfl) (fun _ => rfl) rfl
       (ρ' := fun γ => [(4, ov (HDR go_17 0 (List.length x_16) gc_18)), (5, ov (S (rI .i64) x_15)), (6, ov (S (rI .i64) (0 : Int)))])
       (X' := fun γ => [cvar gb_13 (rI .i64) x_15, cvar gb_5 (rW (PTR gb_2 0)) (), cvar gb_2 r_merkle_Tree t_1, cvar gb_6 (rW (PTR gb_4 0)) (), cvar gb_4 r_merkle_Tree o_3, cvar gb_12 (rW (HDR go_17 0 (List.length x_16) gc_18)) (), cown go_17 (rI .i64) x_16 0 gc_18, zq4 gb_14 gb_13 gb_5 gb_6 gb_12])
       (fun γ ρ hb hd => (.cons (hdq hd 2 4 rfl) (.cons (hdq hd 3 5 rfl) (.cons (hdq hd 4 6 rfl) .nil)))) (fun _ => rfl) (fun γ => ?_)
   refine JQ.at ⟨[(4, ov (HDR go_17 0 (List.length x_16) gc_18)), (5, ov (S (rI .i64) x_15)), (6, ov (S (rI .i64) (0 : Int)))], [cvar gb_13 (rI .i64) x_15, cvar gb_5 (rW (PTR gb_2 0)) (), cvar gb_2 r_merkle_Tree t_1, cvar gb_6 (rW (PTR gb_4 0)) (), cvar gb_4 r_merkle_Tree o_3, cvar gb_12 (rW (HDR go_17 0 (List.length x_16) gc_18)) (), cown go_17 (rI .i64) x_16 0 gc_18, zq4 gb_14 gb_13 gb_5 gb_6 gb_12], []⟩ <| JQ.then <| JC.ret ?_
   obtain rfl := so hq1
   exact JQ.done (js := [6, 2, 3]) (ss := [.val (HDR go_17 0 (List.length x_16) gc_18), .val (S (rI .i64) x_15), .val (S (rI .i64) (0 : Int))]) (go_17, gc_18) (.inl rfl) (.nil rfl) rfl (.cons (.tmp rfl) (.cons (.tmp rfl) (.cons (.tmp rfl) .nil))) rfl rfl rfl
 refine JC.region <| jc (op_loadW (j := 2) lb tS24 tR rfl (Comp.self (rW (PTR gb_2 0)) ())) <| bI hx1 fun _ hv_u_7 hx1 => jx (op_call (js := [0]) ld cl29 (sim_merkle_Tree_there k t_1 gb_2 () hv_u_7) .func (.cons tR .nil) rfl) fun _ => JL.sub ⟨[(2, ov (PTR gb_5 0)), (3, ov (PTR gb_6 0)), (11, ov (S rB t_1.is))], [cvar gb_2 r_merkle_Tree t_1, cvar gb_4 r_merkle_Tree o_3, cvar gb_5 (rW (PTR gb_2 0)) (), cvar gb_6 (rW (PTR gb_4 0)) ()], []⟩ (.cons rfl (.cons rfl (.cons rfl .nil))) rfl rfl <| lI hx1 fun v_8 hv_8 hx1 => jc (op_not lb tR hv_8) <| jmv rfl rfl <| jF (ov (PTR gb_4 0)) rfl rfl rfl rfl (fun hq_2 => op_loadW (j := 3) lb tS24 tR rfl (Comp.self (rW (PTR gb_4 0)) ())) ?_
 rcases iteB_inv hx1 with ⟨hc4, hx1⟩ | ⟨hc4, hx1⟩
 · refine jk rfl hc4 <| jk rfl hc4 <| jc (op_pickT lb tR hc4 .cB) <| JL.nil ?_
   try obtain rfl := so hx1
   exact JQ.join () (Imp.norm (js := [2, 0, 1, 0]) rfl (.cons rfl (.cons rfl (.cons rfl .nil))))
 refine bI hx1 fun _ hv_u_9 hx1 => JL.runX (.yes rfl (ltB rfl) rfl hc4) (op_call (js := [1]) ld cl29 (sim_merkle_Tree_there k o_3 gb_4 () hv_u_9) .func (.cons (HasO.cnd tR (notT hc4)) .nil) rfl) fun _ => lI hx1 fun v_10 hv_10 hx1 => JL.run (.yes rfl (ltB rfl) rfl hc4) (op_not lb tR hv_10) <| jc (op_pickF lb tR hc4 tR) <| JL.nil ?_
 try obtain rfl := so hx1
 exact JQ.join () (Imp.norm (js := [2, 1, 1, 0]) rfl (.cons rfl (.cons rfl (.cons rfl .nil))))

theorem sim_merkle_Tree_Node (k : Nat) (n_1 : Int) (t_2 : merkle_Tree) (gb_3 : Nat) (r : (Vector UInt8 32) × Int) (hm : merkle_Tree_Node k n_1 t_2 = some r) : Sim Try.prog 14 [PTR gb_3 0, S (rI .i64) n_1] [cvar gb_3 r_merkle_Tree t_2] (γ := Unit) (fun q => [cvar gb_3 r_merkle_Tree t_2]) (fun q => .tup [.val (A (rV 32 (rU UInt8)) r.1), .val (S (rI .i64) r.2)]) := by
 unfold merkle_Tree_Node at hm
 refine Sim.of Try.func14 rfl rfl (lE rfl) (fun e0 w0 => ?_)
 refine JC.at ⟨[(0, ov (PTR gb_3 0)), (1, ov (S (rI .i64) n_1))], [cvar gb_3 r_merkle_Tree t_2], []⟩ <| jr <| jx (op_alloc lb tZ30 zr30) fun gb_4 => jc (op_assign lb .cI) <| jn <| JC.seq <| JC.block <| jr <| jmv rfl rfl <| bI hm fun _ hv_u_5 hm => jx (op_call (js := [0]) ld cl29 (sim_merkle_Tree_there k t_2 gb_3 () hv_u_5) .func (.cons tR .nil) rfl) fun _ => lI hm fun v_6 hv_6 hm => jc (op_not lb tR hv_6) <| jc (op_assign lb tR) <| jn ?_
 refine jif tR hm (fun hc1 hm => ?_) (fun hc1 hm => ?_)
 · refine jr <| jc (op_build lb tZ30 zv30 tp30 .nil rfl) <| jc (op_storeA (j := 1) tA30 tR tR rfl (UpdR.self (by rfl)) rfl) <| JL.sub ⟨[(4, ov (PTR gb_4 0)), (5, ov (S (rI .i64) (0 : Int)))], [cvar gb_3 r_merkle_Tree t_2, cvar gb_4 (rV 32 (rU UInt8)) (Vector.replicate 32 (0 : UInt8))], []⟩ (.cons rfl (.cons rfl .nil)) rfl rfl <| jc (op_assign lb .cI) <| jn <| JC.ret <| JQ.outRB <| JQ.outR ?_
   obtain rfl := so hm
   exact JQ.done (js := [0]) (ss := [.val (A (rV 32 (rU UInt8)) (Vector.replicate 32 (0 : UInt8))), .val (S (rI .i64) (1 : Int))]) () (.inl rfl) (.nil rfl) rfl (.cons (.cellA (j := 1) tA30 rfl rfl) (.cons (.tmp rfl) .nil)) rfl rfl rfl
 refine bI hm fun x_10 hx2 hq2 => JC.seqJ (γ := Unit) (stj := fun _ => ⟨[(0, ov (PTR gb_3 0)), (1, ov (S (rI .i64) n_1)), (4, ov (PTR gb_4 0)), (11, ov (S rB x_10))], [cvar gb_3 r_merkle_Tree t_2, cvar gb_4 (rV 32 (rU UInt8)) (Vector.replicate 32 (0 : UInt8))], []⟩) (fun _ => ?_) ?_
 · refine jif tR hq2 (fun hc6 hq2 => ?_) (fun hc6 hq2 => ?_)
   · refine jr <| jc (op_build lb tZ30 zv30 tp30 .nil rfl) <| jc (op_storeA (j := 1) tA30 tR tR rfl (UpdR.self (by rfl)) rfl) <| jc (op_assign lb .cI) <| jn <| JC.ret <| JQ.outRB <| JQ.outR ?_
     obtain rfl := so hq2
     exact JQ.done (js := [0]) (ss := [.val (A (rV 32 (rU UInt8)) (Vector.replicate 32 (0 : UInt8))), .val (S (rI .i64) (2 : Int))]) () (.inl rfl) (.nil rfl) rfl (.cons (.cellA (j := 1) tA30 rfl rfl) (.cons (.tmp rfl) .nil)) rfl rfl rfl
   refine JC.skip <| JQ.outNB <| JQ.then <| jr <| jmv rfl rfl <| jmv rfl rfl <| jc (op_nilCheck lb tR (fun e v h => by subst h; rfl)) <| jc (op_fieldAddr (off := 0) lb tf52_0 tR) <| bI hq2 fun i_11 hv_i_11 hq2 => jc (op_indexAddrIF lb tr50 tR tR hv_i_11) <| lI hq2 fun v_12 hv_12 hq2 => jc (op_loadA (j := 0) lb tA30 tR rfl (Comp.at (cT (comp_merkle_Tree_n t_2) rfl) i_11.2 rfl) hv_12) <| jc (op_storeA (j := 1) tA30 tR tR rfl (UpdR.self (by rfl)) rfl) <| jc (op_assign lb .cI) <| jn <| JC.ret ?_
   obtain rfl := so hq2
   exact JQ.done (js := [0]) (ss := [.val (A (rV 32 (rU UInt8)) v_12), .val (S (rI .i64) (0 : Int))]) () (.inl rfl) (.nil rfl) rfl (.cons (.cellA (j := 1) tA30 rfl rfl) (.cons (.tmp rfl) .nil)) rfl rfl rfl
 refine JC.region <| jmv rfl rfl <| lI hx2 fun v_7 hv_7 hx2 => jc (op_cmpI lb tR .cI (cs hv_7)) <| JL.sub ⟨[(0, ov (PTR gb_3 0)), (1, ov (S (rI .i64) n_1)), (4, ov (PTR gb_4 0)), (13, ov (S rB v_7))], [cvar gb_3 r_merkle_Tree t_2, cvar gb_4 (rV 32 (rU UInt8)) (Vector.replicate 32 (0 : UInt8))], []⟩ (.cons rfl (.cons rfl (.cons rfl (.cons rfl .nil)))) rfl rfl <| jmv rfl rfl <| jF (ov (S (rI .i64) n_1)) rfl rfl rfl rfl (fun hq_3 => op_move lb tR) <| lI hx2 fun v_8 hv_8 hx2 => jF (ov (S rB v_8)) rfl rfl rfl rfl (fun hq_4 => op_cmpI lb (HasO.cnd tR (notT (notF hq_4))) .cI (cs hv_8)) ?_
 obtain ⟨v_9, hv_9, hx2⟩ := lt1_inv hx2
 refine jc (op_pickCS lb tR (fun hb5 => .cB) (fun hb5 => (HasO.cnd tR (notT hb5))) hv_9) <| jc (op_assign lb tR) <| JL.nil ?_
 try obtain rfl := so hx2
 exact JQ.join () (Imp.norm (js := [0, 0]) rfl (.cons rfl (.cons rfl (.cons rfl (.cons rfl .nil)))))

theorem sim_law08_num (k : Nat) (e_1 : Int) (r : Unit) (hm : law08_num k e_1 = some r) : Sim Try.prog 9 [S (rI .i64) e_1] [] (γ := Unit) (fun q => []) (fun q => .one (.val (S (rI .i64) e_1))) := by
 unfold law08_num at hm
 refine Sim.of Try.func9 rfl rfl (lE rfl) (fun e0 w0 => ?_)
 exact JC.at ⟨[(0, ov (S (rI .i64) e_1))], [], []⟩ <| jr <| jc (op_assign lb .cI) <| jn <| jr <| jmv rfl rfl <| jc (op_assign lb tR) <| jn <| JC.ret <| jd (.val (S (rI .i64) e_1)) rfl rfl rfl rfl rfl rfl

theorem sim_law08_ints (k : Nat) (a_1 : (List Int)) (b_2 : (List Int)) (r : Bool) (hm : law08_ints k a_1 b_2 = some r) : Sim Try.prog 25 [S (rL (rI .i64)) a_1, S (rL (rI .i64)) b_2] [] (γ := Unit) (fun q => []) (fun q => .one (.val (S rB r))) := by
 unfold law08_ints at hm
 refine Sim.of Try.func25 rfl rfl (lE rfl) (fun e0 w0 => ?_)
 refine JC.at ⟨[(0, ov (S (rL (rI .i64)) a_1)), (1, ov (S (rL (rI .i64)) b_2))], [], []⟩ <| jr <| jc (op_assign lb .cB) <| jn <| JC.seq <| jr <| jmv rfl rfl <| jc (op_lenL lb tu53 tR) <| jmv rfl rfl <| jc (op_lenL lb tu53 tR) <| lI hm fun v_3 hv_3 hm => jc (op_cmpI lb tR tR (cs hv_3)) <| jn <| jif tR hm (fun hc1 hm => ?_) (fun hc1 hm => ?_)
 · refine jr <| jc (op_assign lb .cB) <| jn <| JC.ret <| JQ.outR ?_
   obtain rfl := so hm
   exact jd (.val (S rB false)) rfl rfl rfl rfl rfl rfl
 refine JC.skip <| JQ.then <| bI hm fun tv2 hx2 hq2 => JC.seqK (α := Unit) (γ := Unit) (stj := fun v q => ⟨[], [], []⟩) (p := fun v => tv2 = (.inl v)) (fun v q hv => ?_) ?_
 · subst hv
   skip
   obtain _ := q
   dsimp only at hq2
   refine JC.at ⟨[], [], []⟩ <| jr <| jc (op_assign lb .cB) <| jn <| JC.ret ?_
   obtain rfl := so hq2
   exact jd (.val (S rB true)) rfl rfl rfl rfl rfl rfl
 refine jr <| jc (op_assign lb .cI) <| jn <| JC.block <| bI hx2 fun tv3 hL3 hq3 => JC.pre ?_ (JC.loop (γ := Unit) (stf := fun s q => ⟨[(0, ov (S (rL (rI .i64)) a_1)), (1, ov (S (rL (rI .i64)) b_2)), (5, ov (S (rI .i64) s))], [], []⟩) (q := ()) hL3 ?_)
 · exact (Imp.norm (js := []) rfl (.cons rfl (.cons rfl (.cons rfl .nil))))
 intro i_4 q x hx hr
 obtain _ := q
 change law08_ints.b1 k a_1 b_2 i_4 = some x at hx
 unfold law08_ints.b1 at hx
 refine JC.at ⟨[(0, ov (S (rL (rI .i64)) a_1)), (1, ov (S (rL (rI .i64)) b_2)), (5, ov (S (rI .i64) i_4))], [], []⟩ <| JC.seq <| jr <| jmv rfl rfl <| jmv rfl rfl <| jc (op_lenL lb tu53 tR) <| lI hx fun v_5 hv_5 hx => jc (op_cmpI lb tR tR (cs hv_5)) <| jn <| jif tR hx (fun hc4 hx => ?_) (fun hc4 hx => ?_)
 · refine JC.skip <| JQ.then <| JC.seq <| JC.block <| JC.seq <| bI hx fun v_6 hv_6 hx => bI hx fun v_7 hv_7 hx => ?_
   obtain ⟨v_8, hv_8, hx⟩ := lt1_inv hx
   refine JC.anyF (base := [(0, ov (S (rL (rI .i64)) a_1)), (1, ov (S (rL (rI .i64)) b_2)), (5, ov (S (rI .i64) i_4))])
       (fs := fun γ => [⟨some 17, ov (S (rL (rI .i64)) a_1)⟩, ⟨some 18, ov (S (rI .i64) i_4)⟩, ⟨some 19, ov (PT (rI .i64) v_6)⟩, ⟨some 20, ov (S (rI .i64) v_6)⟩, ⟨some 21, ov (S (rL (rI .i64)) b_2)⟩, ⟨some 22, ov (S (rI .i64) i_4)⟩, ⟨some 23, ov (PT (rI .i64) v_7)⟩, ⟨some 24, ov (S (rI .i64) v_7)⟩, ⟨some 25, ov (S rB v_8)⟩])
       (rs := fun γ => [])
       (afts := nn 9) (js := []) mixed (.cons rfl (.cons rfl (.cons rfl .nil))) (fun _ => rfl)
       (by
      refine db 1 0 <| db 2 5 <| dS 3 (fun γ ρ B hb hd => op_indexAddrLg lb tu53 tz3 (tl hd 0 17) (tl hd 1 18) hv_6) <| dS 4 (fun γ ρ B hb hd => op_loadPSg lb tS3 rfl (tl hd 2 19) rfl) <| db 5 1 ?_
      refine db 6 5 <| dS 7 (fun γ ρ B hb hd => op_indexAddrLg lb tu53 tz3 (tl hd 4 21) (tl hd 5 22) hv_7) <| dS 8 (fun γ ρ B hb hd => op_loadPSg lb tS3 rfl (tl hd 6 23) rfl) <| dS 9 (fun γ ρ B hb hd => op_cmpI lb (tl hd 3 20) (tl hd 7 24) (cs hv_8)) ?_
      exact DSteps.nil)
       (by decide +kernel) (fun _ => rfl) (fun _ => rfl) (fun _ => rfl) rfl
       (ρ' := fun γ => [(0, ov (S (rL (rI .i64)) a_1)), (1, ov (S (rL (rI .i64)) b_2)), (5, ov (S (rI .i64) i_4)), (25, ov (S rB v_8))])
       (X' := fun γ => [])
       (fun γ ρ hb hd => (.cons (hb 0 _ rfl) (.cons (hb 1 _ rfl) (.cons (hb 5 _ rfl) (.cons (hdq hd 8 25 rfl) .nil))))) (fun _ => rfl) (fun γ => ?_)
   refine JQ.at ⟨[(0, ov (S (rL (rI .i64)) a_1)), (1, ov (S (rL (rI .i64)) b_2)), (5, ov (S (rI .i64) i_4)), (25, ov (S rB v_8))], [], []⟩ <| JQ.then <| jif tR hx (fun hc5 hx => ?_) (fun hc5 hx => ?_)
   · refine jr <| jc (op_assign lb .cB) <| jn <| JC.ret <| JQ.outRB <| JQ.outR ?_
     try obtain rfl := so hx
     try obtain rfl := hr _ rfl
     dsimp only at hq3
     refine JQ.outR <| JQ.outRB ?_
     try obtain rfl := so hq3
     dsimp only at hq2
     refine JQ.outR ?_
     obtain rfl := so hq2
     exact jd (.val (S rB false)) rfl rfl rfl rfl rfl rfl
   refine JC.skip <| JQ.outNB <| JQ.then <| JC.region <| jmv rfl rfl <| lI hx fun v_9 hv_9 hx => jc (op_arI lb tR .cI (cs hv_9)) <| jc (op_assign lb tR) <| JL.nil ?_
   try obtain rfl := so hx
   exact JQ.next () rfl (Imp.norm (js := []) rfl (.cons rfl (.cons rfl (.cons rfl .nil))))
 refine JC.exit <| JQ.outX ?_
 try obtain rfl := so hx
 try obtain rfl := hr _ rfl
 dsimp only at hq3
 refine JQ.outX <| JQ.here ?_
 try obtain rfl := so hq3
 exact JQ.joinK () () rfl (Imp.norm (js := []) rfl .nil)

end Go.Proofs.Ytbflmobpbjnekaa
