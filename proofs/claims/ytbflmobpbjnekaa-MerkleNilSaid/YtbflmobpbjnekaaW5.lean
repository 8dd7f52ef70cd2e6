/- Walks. -/
import Derived.Test.YtbflmobpbjnekaaT
import Derived.Test.YtbflmobpbjnekaaW2
import Derived.Test.YtbflmobpbjnekaaW3
import Derived.Test.YtbflmobpbjnekaaW4
namespace Go.Proofs.Ytbflmobpbjnekaa
open Go Fw
set_option linter.unusedVariables false
set_option maxRecDepth 100000
set_option maxHeartbeats 4000000

theorem sim_merkle_Tree_Diff_1_vppppp_vpvrncrrrrr (d k : Nat) (n_1 : Int) (x_2 : Int) (x_5 : merkle_Tree) (gb_3 : Nat) (gb_4 : Nat) (gb_6 : Nat) (gb_7 : Nat) (gb_8 : Nat) (gb_9 : Nat) (r : Int × (List Int)) (hm : merkle_Tree_Diff_1_vppppp_vpvrncrrrrr d k n_1 x_2 x_5 = some r) : Sim Try.prog 35 [S (rI .i64) n_1, PTR gb_3 0, PTR gb_4 0, PTR gb_7 0, PTR gb_8 0, PTR gb_9 0] [cvar gb_3 (rI .i64) x_2, cvar gb_4 (rW (PTR gb_6 0)) (), cvar gb_6 r_merkle_Tree x_5, cvar gb_7 (rW (PTR gb_6 0)) (), cvar gb_8 (rW (HDR none 0 0 0)) (), zq4 gb_9 gb_3 gb_4 gb_7 gb_8] (γ := Option Nat × Nat) (fun q => [cvar gb_3 (rI .i64) r.1, cvar gb_4 (rW (PTR gb_6 0)) (), cvar gb_6 r_merkle_Tree x_5, cvar gb_7 (rW (PTR gb_6 0)) (), cvar gb_8 (rW (HDR q.1 0 (List.length r.2) q.2)) (), cown q.1 (rI .i64) r.2 0 q.2, zq4 gb_9 gb_3 gb_4 gb_7 gb_8]) (fun q => .tup []) := by
 induction d generalizing n_1 x_2 x_5 gb_3 gb_4 gb_6 gb_7 gb_8 gb_9 r with
 | zero => cases hm
 | succ d ih =>
  replace ih := fun _ : Nat => @ih
  change merkle_Tree_Diff_1_vppppp_vpvrncrrrrr.bd (merkle_Tree_Diff_1_vppppp_vpvrncrrrrr d) k n_1 x_2 x_5 = _ at hm
  unfold merkle_Tree_Diff_1_vppppp_vpvrncrrrrr.bd at hm
  refine Sim.of Try.func35 rfl rfl (lE rfl) (fun e0 w0 => ?_)
  refine JC.at ⟨[(0, ov (S (rI .i64) n_1)), (1, ov (PTR gb_3 0)), (2, ov (PTR gb_4 0)), (3, ov (PTR gb_7 0)), (4, ov (PTR gb_8 0)), (5, ov (PTR gb_9 0))], [cvar gb_3 (rI .i64) x_2, cvar gb_4 (rW (PTR gb_6 0)) (), cvar gb_6 r_merkle_Tree x_5, cvar gb_7 (rW (PTR gb_6 0)) (), cvar gb_8 (rW (HDR none 0 0 0)) (), zq4 gb_9 gb_3 gb_4 gb_7 gb_8], []⟩ <| jr <| jc (op_loadS (j := 0) lb tS3 tR rfl (Comp.self (rI .i64) x_2) rfl rfl) <| lI hm fun v_10 hv_10 hm => jc (op_arI lb tR .cI (cs hv_10)) <| jc (op_storeS (j := 0) tS3 tR tR rfl rfl (UpdR.self (by rfl)) rfl) <| jn <| JC.block <| JC.seq <| bI hm fun i_11 hv_i_11 hm => lI hm fun v_12 hv_12 hm => bI hm fun i_13 hv_i_13 hm => lI hm fun v_14 hv_14 hm => ?_
  obtain ⟨v_15, hv_15, hm⟩ := bnd_inv hm
  refine JC.anyF (base := [(0, ov (S (rI .i64) n_1)), (2, ov (PTR gb_4 0)), (3, ov (PTR gb_7 0)), (4, ov (PTR gb_8 0)), (5, ov (PTR gb_9 0))])
      (fs := fun γ => [⟨some 19, ov (PTR gb_6 0)⟩, ⟨some 20, ov (S (rI .i64) n_1)⟩, ⟨some 21, ov (PTR gb_6 0)⟩, ⟨some 22, ov (PTR gb_6 (0 + 0))⟩, ⟨some 23, ov (PTR gb_6 ((0 + 0) + i_11.1 * 32))⟩, ⟨some 24, ov (A (rV 32 (rU UInt8)) v_12)⟩, ⟨some 25, ov (PTR gb_6 0)⟩, ⟨some 26, ov (S (rI .i64) n_1)⟩, ⟨some 27, ov (PTR gb_6 0)⟩, ⟨some 28, ov (PTR gb_6 (0 + 0))⟩, ⟨some 29, ov (PTR gb_6 ((0 + 0) + i_13.1 * 32))⟩, ⟨some 30, ov (A (rV 32 (rU UInt8)) v_14)⟩, ⟨some 31, ov (S rB v_15)⟩, ⟨some 18, ov (S rB v_15)⟩])
      (rs := fun γ => [⟨cvar gb_3 (rI .i64) v_10, none, none, []⟩, ⟨cvar gb_4 (rW (PTR gb_6 0)) (), none, none, [0]⟩, ⟨cvar gb_6 r_merkle_Tree x_5, none, none, [5, 11]⟩, ⟨cvar gb_7 (rW (PTR gb_6 0)) (), none, none, [6]⟩, ⟨cvar gb_8 (rW (HDR none 0 0 0)) (), none, none, []⟩, ⟨zq4 gb_9 gb_3 gb_4 gb_7 gb_8, none, none, []⟩])
      (afts := nn 14) (js := [0, 0, 0, 0, 0, 0]) mixed (.cons rfl (.cons rfl (.cons rfl (.cons rfl (.cons rfl .nil))))) (fun _ => rfl)
      (by
      refine dR 1 (fun γ ρ B hb hd => OpStep.lk ⟨ρ, (cvar gb_4 (rW (PTR gb_6 0)) ()) :: B, _⟩ (op_loadW (j := 0) lb tS24 (.tmp (hb 2 _ rfl)) rfl (Comp.self (rW (PTR gb_6 0)) ()))) <| db 2 0 <| dS 3 (fun γ ρ B hb hd => op_nilCheck lb (tl hd 0 19) (fun e v h => by subst h; rfl)) <| dS 4 (fun γ ρ B hb hd => op_fieldAddr (off := 0) lb tf52_0 (tl hd 2 21)) <| dS 5 (fun γ ρ B hb hd => op_indexAddrIF lb tr50 (tl hd 3 22) (tl hd 1 20) hv_i_11) ?_
      refine dR 6 (fun γ ρ B hb hd => OpStep.lk ⟨ρ, (cvar gb_6 r_merkle_Tree x_5) :: B, _⟩ (op_loadA (j := 0) lb tA30 (tl hd 4 23) rfl (Comp.at (cT (comp_merkle_Tree_n x_5) rfl) i_11.2 rfl) hv_12)) <| dR 7 (fun γ ρ B hb hd => OpStep.lk ⟨ρ, (cvar gb_7 (rW (PTR gb_6 0)) ()) :: B, _⟩ (op_loadW (j := 0) lb tS24 (.tmp (hb 3 _ rfl)) rfl (Comp.self (rW (PTR gb_6 0)) ()))) <| db 8 0 <| dS 9 (fun γ ρ B hb hd => op_nilCheck lb (tl hd 6 25) (fun e v h => by subst h; rfl)) <| dS 10 (fun γ ρ B hb hd => op_fieldAddr (off := 0) lb tf52_0 (tl hd 8 27)) ?_
      refine dS 11 (fun γ ρ B hb hd => op_indexAddrIF lb tr50 (tl hd 9 28) (tl hd 7 26) hv_i_13) <| dR 12 (fun γ ρ B hb hd => OpStep.lk ⟨ρ, (cvar gb_6 r_merkle_Tree x_5) :: B, _⟩ (op_loadA (j := 0) lb tA30 (tl hd 10 29) rfl (Comp.at (cT (comp_merkle_Tree_n x_5) rfl) i_13.2 rfl) hv_14)) <| dS 13 (fun γ ρ B hb hd => (op_call (js := []) ld cl36 (sim_sha_Equal k v_12 v_14 v_15 hv_15) .func (.cons (tl hd 5 24) (.cons (tl hd 11 30) .nil)) rfl).post (fun _ => Imp.refl)) <| dS 14 (fun γ ρ B hb hd => op_assign lb (tl hd 12 31)) ?_
      exact DSteps.nil)
      (by decide +kernel) (fun _ => rfl) (fun _ => rfl) (fun _ => rfl) rfl
      (ρ' := fun γ => [(0, ov (S (rI .i64) n_1)), (4, ov (PTR gb_8 0)), (5, ov (PTR gb_9 0)), (18, ov (S rB v_15))])
      (X' := fun γ => [cvar gb_3 (rI .i64) v_10, cvar gb_4 (rW (PTR gb_6 0)) (), cvar gb_6 r_merkle_Tree x_5, cvar gb_7 (rW (PTR gb_6 0)) (), cvar gb_8 (rW (HDR none 0 0 0)) (), zq4 gb_9 gb_3 gb_4 gb_7 gb_8])
      (fun γ ρ hb hd => (.cons (hb 0 _ rfl) (.cons (hb 4 _ rfl) (.cons (hb 5 _ rfl) (.cons (hdq hd 13 18 rfl) .nil))))) (fun _ => rfl) (fun γ => ?_)
  refine JQ.at ⟨[(0, ov (S (rI .i64) n_1)), (4, ov (PTR gb_8 0)), (5, ov (PTR gb_9 0)), (18, ov (S rB v_15))], [cvar gb_3 (rI .i64) v_10, cvar gb_4 (rW (PTR gb_6 0)) (), cvar gb_6 r_merkle_Tree x_5, cvar gb_7 (rW (PTR gb_6 0)) (), cvar gb_8 (rW (HDR none 0 0 0)) (), zq4 gb_9 gb_3 gb_4 gb_7 gb_8], []⟩ <| JQ.then ?_
  rcases iteB_inv hm with ⟨hc1, hm⟩ | ⟨hc1, hm⟩
  · refine JC.condT tR hc1 <| JC.skip <| JQ.outNB ?_
    obtain rfl := so hm
    exact JQ.pre (Imp.nilown (rI .i64)) <| JQ.done (js := [0, 0, 0, 0, 0, 1, 0]) (ss := []) (none, 0) (.inr rfl) (.nil rfl) rfl .nil rfl rfl rfl
  · refine JC.condF tR hc1 <| jr <| jmv rfl rfl <| lI hm fun v_16 hv_16 hm => jc (op_cmpI lb tR .cI (cs hv_16)) <| jc (op_assign lb tR) <| jn ?_
    rcases iteB_inv hm with ⟨hc2, hm⟩ | ⟨hc2, hm⟩
    · refine JC.condT tR hc2 <| JC.region <| jc (op_loadW (j := 4) lb tS53 tR rfl (Comp.self (rW (HDR none 0 0 0)) ())) <| jmv rfl rfl <| lI hm fun v_17 hv_17 hm => jc (op_arI lb tR .cI (cs hv_17)) <| jc (op_buildF (r := (rI .i64)) lb tu53 tz3 tZ3 rfl (lE rfl) (.S rfl tR .nil) rfl) <| bI hm fun v_18 hv_18 hm => JL.pre (Imp.nilown (rI .i64)) <| jx (op_appendL (j := 6) lb tu53 tu53 rfl tB3 rfl (Nat.lt_of_lt_of_le Nat.zero_lt_one (lE rfl)) (Nat.lt_of_lt_of_le Nat.zero_lt_one (lE rfl))  rfl tR tR hv_18) (fun q => ?_)
      obtain ⟨go_19, gc_20⟩ := q
      refine JL.sub ⟨[(4, ov (PTR gb_8 0)), (39, ov (HDR go_19 0 (List.length v_18) gc_20))], [cvar gb_3 (rI .i64) v_10, cvar gb_4 (rW (PTR gb_6 0)) (), cvar gb_6 r_merkle_Tree x_5, cvar gb_7 (rW (PTR gb_6 0)) (), cvar gb_8 (rW (HDR none 0 0 0)) (), zq4 gb_9 gb_3 gb_4 gb_7 gb_8, cown go_19 (rI .i64) v_18 0 gc_20], []⟩ (.cons rfl (.cons rfl .nil)) rfl rfl <| jc (op_storeW (j := 4) tS53 tR tR rfl (UpdR.self (by rfl)) rfl) <| JL.nil <| JQ.outNB ?_
      obtain rfl := so hm
      exact JQ.done (js := [0, 0, 0, 0, 0, 1, 0]) (ss := []) (go_19, gc_20) (.inr rfl) (.nil rfl) rfl .nil rfl rfl rfl
    · refine JC.condF tR hc2 <| jr <| jc (op_loadW (j := 5) lb tS57 tR rfl (Comp.self (rW (CLO 35 [PTR gb_3 0, PTR gb_4 0, PTR gb_7 0, PTR gb_8 0, PTR gb_9 0])) ())) <| jmv rfl rfl <| lI hm fun v_21 hv_21 hm => jc (op_arI lb .cI tR (cs hv_21)) ?_
      obtain ⟨⟨x_22, x_23⟩, hv_x_22, hm⟩ := bnd_inv hm
      refine jx (op_call (js := [0, 0, 0, 0, 0, 0]) ld cl35 (ih k v_21 v_10 x_5 gb_3 gb_4 gb_6 gb_7 gb_8 gb_9 (x_22, x_23) hv_x_22) tR (.cons tR .nil) rfl) (fun q => ?_)
      obtain ⟨go_24, gc_25⟩ := q
      refine jn <| JC.region <| jc (op_loadW (j := 6) lb tS57 tR rfl (Comp.self (rW (CLO 35 [PTR gb_3 0, PTR gb_4 0, PTR gb_7 0, PTR gb_8 0, PTR gb_9 0])) ())) <| jmv rfl rfl <| lI hm fun v_26 hv_26 hm => jc (op_arI lb .cI tR (cs hv_26)) <| JL.sub ⟨[(13, ov (CLO 35 [PTR gb_3 0, PTR gb_4 0, PTR gb_7 0, PTR gb_8 0, PTR gb_9 0])), (15, ov (S (rI .i64) v_26))], [cvar gb_3 (rI .i64) x_22, cvar gb_4 (rW (PTR gb_6 0)) (), cvar gb_6 r_merkle_Tree x_5, cvar gb_7 (rW (PTR gb_6 0)) (), cvar gb_8 (rW (HDR go_24 0 (List.length x_23) gc_25)) (), cown go_24 (rI .i64) x_23 0 gc_25, zq4 gb_9 gb_3 gb_4 gb_7 gb_8], []⟩ (.cons rfl (.cons rfl .nil)) rfl rfl <| lI hm fun v_27 hv_27 hm => jc (op_arI lb tR .cI (cs hv_27)) ?_
      obtain ⟨⟨x_28, x_29⟩, hv_x_28, hm⟩ := bnd_inv hm
      refine jx (op_call (js := [0, 0, 0, 0, 0, 0, 0]) ld cl35 (sim_merkle_Tree_Diff_1_vppppp_vpvrocrrrrr k k v_27 x_22 x_5 x_23 gb_3 gb_4 gb_6 gb_7 gb_8 go_24 gc_25 gb_9 (x_28, x_29) hv_x_28) tR (.cons tR .nil) rfl) (fun q => ?_)
      obtain ⟨go_30, gc_31⟩ := q
      refine JL.nil <| JQ.outNB ?_
      obtain rfl := so hm
      exact JQ.done (js := [0, 0, 0, 0, 0, 0, 0]) (ss := []) (go_30, gc_31) (.inr rfl) (.nil rfl) rfl .nil rfl rfl rfl

theorem sim_merkle_Tree_Diff_pr (k : Nat) (t_1 : merkle_Tree) (gb_2 : Nat) (r : (List Int) × Int × Int) (hm : merkle_Tree_Diff_pr k t_1 = some r) : Sim Try.prog 24 [PTR gb_2 0, PTR gb_2 0] [cvar gb_2 r_merkle_Tree t_1] (γ := Option Nat × Nat) (fun q => [cown q.1 (rI .i64) r.1 0 q.2, cvar gb_2 r_merkle_Tree t_1]) (fun q => .tup [.val (HDR q.1 0 (List.length r.1) q.2), .val (S (rI .i64) r.2.1), .val (S (rI .i64) r.2.2)]) := by
 unfold merkle_Tree_Diff_pr at hm
 refine Sim.of Try.func24 rfl rfl (lE rfl) (fun e0 w0 => ?_)
 refine JC.at ⟨[(0, ov (PTR gb_2 0)), (1, ov (PTR gb_2 0))], [cvar gb_2 r_merkle_Tree t_1], []⟩ <| jr <| jx (op_boxW lb tR) fun gb_3 => jx (op_boxW lb tR) fun gb_4 => jc (op_assign lb HasO.nilH) <| jc (op_assign lb .cI) <| jc (op_assign lb .cI) <| jn <| JC.seq <| bI hm fun x_9 hx1 hq1 => JC.seqJ (γ := Unit) (stj := fun _ => ⟨[(2, ov (PTR gb_3 0)), (3, ov (PTR gb_4 0)), (17, ov (S rB x_9))], [cvar gb_3 (rW (PTR gb_2 0)) (), cvar gb_2 r_merkle_Tree t_1, cvar gb_4 (rW (PTR gb_2 0)) ()], []⟩) (fun _ => ?_) ?_
 · refine jif tR hq1 (fun hc5 hq1 => ?_) (fun hc5 hq1 => ?_)
   · refine jr <| jc (op_assign lb HasO.nilH) <| jc (op_assign lb .cI) <| jc (op_assign lb .cI) <| jn <| JC.ret <| JQ.outR ?_
     obtain rfl := so hq1
     exact JQ.pre (Imp.nilown (rI .i64)) <| JQ.done (js := [3, 1]) (ss := [.val (HDR none 0 (List.length ([] : (List Int))) (0)), .val (S (rI .i64) (0 : Int)), .val (S (rI .i64) (1 : Int))]) (none, 0) (.inl rfl) (.nil rfl) rfl (.cons (.tmp rfl) (.cons (.tmp rfl) (.cons (.tmp rfl) .nil))) rfl rfl rfl
   refine JC.skip <| JQ.then <| jr <| jx (op_alloc lb tZ53 zr53) fun gb_10 => jn <| jr <| jx (op_alloc lb tZ3 zr3) fun gb_11 => jc (op_storeS (j := 4) tS3 tR .cI rfl rfl (UpdR.self (by rfl)) rfl) <| jn <| jr <| jx (op_alloc lb tZ57 zr57) fun gb_12 => jn <| jr <| jc (op_makeFunc lb (.cons tR (.cons tR (.cons tR (.cons tR (.cons tR .nil)))))) <| jc (op_storeW (j := 5) tS57 tR tR rfl (UpdR.self (by rfl)) rfl) <| JL.sub ⟨[(7, ov (PTR gb_10 0)), (8, ov (PTR gb_11 0)), (9, ov (PTR gb_12 0))], [cvar gb_3 (rW (PTR gb_2 0)) (), cvar gb_2 r_merkle_Tree t_1, cvar gb_4 (rW (PTR gb_2 0)) (), cvar gb_10 (rW (HDR none 0 0 0)) (), cvar gb_11 (rI .i64) (0 : Int), zq4 gb_12 gb_11 gb_3 gb_4 gb_10], []⟩ (.cons rfl (.cons rfl (.cons rfl .nil))) rfl rfl ?_
   refine jn <| jr <| jc (op_loadW (j := 5) lb tS57 tR rfl (Comp.self (rW (CLO 35 [PTR gb_11 0, PTR gb_3 0, PTR gb_4 0, PTR gb_10 0, PTR gb_12 0])) ())) ?_
   obtain ⟨⟨x_13, x_14⟩, hv_x_13, hq1⟩ := bnd_inv hq1
   refine jx (op_call (js := [4, 0, 0, 0, 0, 0]) ld cl35 (sim_merkle_Tree_Diff_1_vppppp_vpvrncrrrrr k k (1 : Int) (0 : Int) t_1 gb_11 gb_3 gb_2 gb_4 gb_10 gb_12 (x_13, x_14) hv_x_13) tR (.cons .cI .nil) rfl) (fun q => ?_)
   obtain ⟨go_15, gc_16⟩ := q
   refine jn <| JC.seq ?_
   refine JC.anyF (base := [(7, ov (PTR gb_10 0)), (8, ov (PTR gb_11 0))])
       (fs := fun γ => [⟨some 21, ov (HDR go_15 0 (List.length x_14) gc_16)⟩, ⟨some 22, ov (S (rI .i64) x_13)⟩, ⟨some 4, ov (HDR go_15 0 (List.length x_14) gc_16)⟩, ⟨some 5, ov (S (rI .i64) x_13)⟩, ⟨some 6, ov (S (rI .i64) (0 : Int))⟩])
       (rs := fun γ => [⟨cvar gb_11 (rI .i64) x_13, none, none, [1]⟩, ⟨cvar gb_3 (rW (PTR gb_2 0)) (), none, none, []⟩, ⟨cvar gb_2 r_merkle_Tree t_1, none, none, []⟩, ⟨cvar gb_4 (rW (PTR gb_2 0)) (), none, none, []⟩, ⟨cvar gb_10 (rW (HDR go_15 0 (List.length x_14) gc_16)) (), none, none, [0]⟩, ⟨cown go_15 (rI .i64) x_14 0 gc_16, none, none, []⟩, ⟨zq4 gb_12 gb_11 gb_3 gb_4 gb_10, none, none, []⟩])
       (afts := nn 5) (js := [0, 0, 0, 0, 0, 0, 0]) mixed (.cons rfl (.cons rfl .nil)) (fun _ => rfl)
       (by
      refine dR 1 (fun γ ρ B hb hd => OpStep.lk ⟨ρ, (cvar gb_10 (rW (HDR go_15 0 (List.length x_14) gc_16)) ()) :: B, _⟩ (op_loadW (j := 0) lb tS53 (.tmp (hb 7 _ rfl)) rfl (Comp.self (rW (HDR go_15 0 (List.length x_14) gc_16)) ()))) <| dR 2 (fun γ ρ B hb hd => OpStep.lk ⟨ρ, (cvar gb_11 (rI .i64) x_13) :: B, _⟩ (op_loadS (j := 0) lb tS3 (.tmp (hb 8 _ rfl)) rfl (Comp.self (rI .i64) x_13) rfl rfl)) <| dS 3 (fun γ ρ B hb hd => op_assign lb (tl hd 0 21)) <| dS 4 (fun γ ρ B hb hd => op_assign lb (tl hd 1 22)) <| dS 5 (fun γ ρ B hb hd => op_assign lb .cI) ?_
      exact DSteps.nil)
       (by decide +kernel) (fun _ => rfl) (fun _ => rfl) (fun _ => rfl) rfl
       (ρ' := fun γ => [(4, ov (HDR go_15 0 (List.length x_14) gc_16)), (5, ov (S (rI .i64) x_13)), (6, ov (S (rI .i64) (0 : Int)))])
       (X' := fun γ => [cvar gb_11 (rI .i64) x_13, cvar gb_3 (rW (PTR gb_2 0)) (), cvar gb_2 r_merkle_Tree t_1, cvar gb_4 (rW (PTR gb_2 0)) (), cvar gb_10 (rW (HDR go_15 0 (List.length x_14) gc_16)) (), cown go_15 (rI .i64) x_14 0 gc_16, zq4 gb_12 gb_11 gb_3 gb_4 gb_10])
       (fun γ ρ hb hd => (.cons (hdq hd 2 4 rfl) (.cons (hdq hd 3 5 rfl) (.cons (hdq hd 4 6 rfl) .nil)))) (fun _ => rfl) (fun γ => ?_)
   refine JQ.at ⟨[(4, ov (HDR go_15 0 (List.length x_14) gc_16)), (5, ov (S (rI .i64) x_13)), (6, ov (S (rI .i64) (0 : Int)))], [cvar gb_11 (rI .i64) x_13, cvar gb_3 (rW (PTR gb_2 0)) (), cvar gb_2 r_merkle_Tree t_1, cvar gb_4 (rW (PTR gb_2 0)) (), cvar gb_10 (rW (HDR go_15 0 (List.length x_14) gc_16)) (), cown go_15 (rI .i64) x_14 0 gc_16, zq4 gb_12 gb_11 gb_3 gb_4 gb_10], []⟩ <| JQ.then <| JC.ret ?_
   obtain rfl := so hq1
   exact JQ.done (js := [5, 2]) (ss := [.val (HDR go_15 0 (List.length x_14) gc_16), .val (S (rI .i64) x_13), .val (S (rI .i64) (0 : Int))]) (go_15, gc_16) (.inl rfl) (.nil rfl) rfl (.cons (.tmp rfl) (.cons (.tmp rfl) (.cons (.tmp rfl) .nil))) rfl rfl rfl
 refine JC.region <| jc (op_loadW (j := 1) lb tS24 tR rfl (Comp.self (rW (PTR gb_2 0)) ())) <| bI hx1 fun _ hv_u_5 hx1 => jx (op_call (js := [0]) ld cl29 (sim_merkle_Tree_there k t_1 gb_2 () hv_u_5) .func (.cons tR .nil) rfl) fun _ => JL.sub ⟨[(2, ov (PTR gb_3 0)), (3, ov (PTR gb_4 0)), (11, ov (S rB t_1.is))], [cvar gb_2 r_merkle_Tree t_1, cvar gb_3 (rW (PTR gb_2 0)) (), cvar gb_4 (rW (PTR gb_2 0)) ()], []⟩ (.cons rfl (.cons rfl (.cons rfl .nil))) rfl rfl <| lI hx1 fun v_6 hv_6 hx1 => jc (op_not lb tR hv_6) <| jmv rfl rfl <| jF (ov (PTR gb_2 0)) rfl rfl rfl rfl (fun hq_2 => op_loadW (j := 2) lb tS24 tR rfl (Comp.self (rW (PTR gb_2 0)) ())) ?_
 rcases iteB_inv hx1 with ⟨hc4, hx1⟩ | ⟨hc4, hx1⟩
 · refine jk rfl hc4 <| jk rfl hc4 <| jc (op_pickT lb tR hc4 .cB) <| JL.nil ?_
   try obtain rfl := so hx1
   exact JQ.join () (Imp.norm (js := [1, 0, 0]) rfl (.cons rfl (.cons rfl (.cons rfl .nil))))
 refine bI hx1 fun _ hv_u_7 hx1 => JL.runX (.yes rfl (ltB rfl) rfl hc4) (op_call (js := [0]) ld cl29 (sim_merkle_Tree_there k t_1 gb_2 () hv_u_7) .func (.cons (HasO.cnd tR (notT hc4)) .nil) rfl) fun _ => lI hx1 fun v_8 hv_8 hx1 => JL.run (.yes rfl (ltB rfl) rfl hc4) (op_not lb tR hv_8) <| jc (op_pickF lb tR hc4 tR) <| JL.nil ?_
 try obtain rfl := so hx1
 exact JQ.join () (Imp.norm (js := [1, 0, 0]) rfl (.cons rfl (.cons rfl (.cons rfl .nil))))

theorem sim_law08_ints (k : Nat) (a_1 : (List Int)) (b_2 : (List Int)) (r : Bool) (hm : law08_ints k a_1 b_2 = some r) : Sim Try.prog 25 [S (rL (rI .i64)) a_1, S (rL (rI .i64)) b_2] [] (γ := Unit) (fun q => []) (fun q => .one (.val (S rB r))) := by
 unfold law08_ints at hm
 refine Sim.of Try.func25 rfl rfl (lE rfl) (fun e0 w0 => ?_)
 refine JC.at ⟨[(0, ov (S (rL (rI .i64)) a_1)), (1, ov (S (rL (rI .i64)) b_2))], [], []⟩ <| jr <| jc (op_assign lb .cB) <| jn <| JC.seq <| jr <| jmv rfl rfl <| jc (op_lenL lb tu53 tR) <| jmv rfl rfl <| jc (op_lenL lb tu53 tR) <| lI hm fun v_3 hv_3 hm => jc (op_cmpI lb tR tR (cs hv_3)) <| jn <| jif tR hm (fun hc1 hm => ?_) (fun hc1 hm => ?_)
 · refine jr <| jc (op_assign lb .cB) <| jn <| JC.ret <| JQ.outR ?_
   obtain rfl := so hm
   exact jd (.val (S rB false)) rfl rfl rfl rfl rfl rfl
 refine JC.skip <| JQ.then <| bI hm fun tv2 hx2 hq2 => JC.seqK (α := Unit) (γ := Unit) (stj := fun v q => ⟨[], [], []⟩) (p := fun v => tv2 = (.inl v)) (fun v q hv => ?_) ?_
 · subst hv
   skip
   obtain _ := q
   dsimp only at hq2
   refine JC.at ⟨[], [], []⟩ <| jr <| jc (op_assign lb .cB) <| jn <| JC.ret ?_
   obtain rfl := so hq2
   exact jd (.val (S rB true)) rfl rfl rfl rfl rfl rfl
 refine jr <| jc (op_assign lb .cI) <| jn <| JC.block <| bI hx2 fun tv3 hL3 hq3 => JC.pre ?_ (JC.loop (γ := Unit) (stf := fun s q => ⟨[(0, ov (S (rL (rI .i64)) a_1)), (1, ov (S (rL (rI .i64)) b_2)), (5, ov (S (rI .i64) s))], [], []⟩) (q := ()) hL3 ?_)
 · exact (Imp.norm (js := []) rfl (.cons rfl (.cons rfl (.cons rfl .nil))))
 intro i_4 q x hx hr
 obtain _ := q
 change law08_ints.b1 k a_1 b_2 i_4 = some x at hx
 unfold law08_ints.b1 at hx
 refine JC.at ⟨[(0, ov (S (rL (rI .i64)) a_1)), (1, ov (S (rL (rI .i64)) b_2)), (5, ov (S (rI .i64) i_4))], [], []⟩ <| JC.seq <| jr <| jmv rfl rfl <| jmv rfl rfl <| jc (op_lenL lb tu53 tR) <| lI hx fun v_5 hv_5 hx => jc (op_cmpI lb tR tR (cs hv_5)) <| jn <| jif tR hx (fun hc4 hx => ?_) (fun hc4 hx => ?_)
 · refine JC.skip <| JQ.then <| JC.seq <| JC.block <| JC.seq <| bI hx fun v_6 hv_6 hx => bI hx fun v_7 hv_7 hx => ?_
   obtain ⟨v_8, hv_8, hx⟩ := lt1_inv hx
   refine JC.anyF (base := [(0, ov (S (rL (rI .i64)) a_1)), (1, ov (S (rL (rI .i64)) b_2)), (5, ov (S (rI .i64) i_4))])
       (fs := fun γ => [⟨some 17, ov (S (rL (rI .i64)) a_1)⟩, ⟨some 18, ov (S (rI .i64) i_4)⟩, ⟨some 19, ov (PT (rI .i64) v_6)⟩, ⟨some 20, ov (S (rI .i64) v_6)⟩, ⟨some 21, ov (S (rL (rI .i64)) b_2)⟩, ⟨some 22, ov (S (rI .i64) i_4)⟩, ⟨some 23, ov (PT (rI .i64) v_7)⟩, ⟨some 24, ov (S (rI .i64) v_7)⟩, ⟨some 25, ov (S rB v_8)⟩])
       (rs := fun γ => [])
       (afts := nn 9) (js := []) mixed (.cons rfl (.cons rfl (.cons rfl .nil))) (fun _ => rfl)
       (by
      refine db 1 0 <| db 2 5 <| dS 3 (fun γ ρ B hb hd => op_indexAddrLg lb tu53 tz3 (tl hd 0 17) (tl hd 1 18) hv_6) <| dS 4 (fun γ ρ B hb hd => op_loadPSg lb tS3 rfl (tl hd 2 19) rfl) <| db 5 1 ?_
      refine db 6 5 <| dS 7 (fun γ ρ B hb hd => op_indexAddrLg lb tu53 tz3 (tl hd 4 21) (tl hd 5 22) hv_7) <| dS 8 (fun γ ρ B hb hd => op_loadPSg lb tS3 rfl (tl hd 6 23) rfl) <| dS 9 (fun γ ρ B hb hd => op_cmpI lb (tl hd 3 20) (tl hd 7 24) (cs hv_8)) ?_
      exact DSteps.nil)
       (by decide +kernel) (fun _ => rfl) (fun _ => rfl) (fun _ => rfl) rfl
       (ρ' := fun γ => [(0, ov (S (rL (rI .i64)) a_1)), (1, ov (S (rL (rI .i64)) b_2)), (5, ov (S (rI .i64) i_4)), (25, ov (S rB v_8))])
       (X' := fun γ => [])
       (fun γ ρ hb hd => (.cons (hb 0 _ rfl) (.cons (hb 1 _ rfl) (.cons (hb 5 _ rfl) (.cons (hdq hd 8 25 rfl) .nil))))) (fun _ => rfl) (fun γ => ?_)
   refine JQ.at ⟨[(0, ov (S (rL (rI .i64)) a_1)), (1, ov (S (rL (rI .i64)) b_2)), (5, ov (S (rI .i64) i_4)), (25, ov (S rB v_8))], [], []⟩ <| JQ.then <| jif tR hx (fun hc5 hx => ?_) (fun hc5 hx => ?_)
   · refine jr <| jc (op_assign lb .cB) <| jn <| JC.ret <| JQ.outRB <| JQ.outR ?_
     try obtain rfl := so hx
     try obtain rfl := hr _ rfl
     dsimp only at hq3
     refine JQ.outR <| JQ.outRB ?_
     try obtain rfl := so hq3
     dsimp only at hq2
     refine JQ.outR ?_
     obtain rfl := so hq2
     exact jd (.val (S rB false)) rfl rfl rfl rfl rfl rfl
   refine JC.skip <| JQ.outNB <| JQ.then <| JC.region <| jmv rfl rfl <| lI hx fun v_9 hv_9 hx => jc (op_arI lb tR .cI (cs hv_9)) <| jc (op_assign lb tR) <| JL.nil ?_
   try obtain rfl := so hx
   exact JQ.next () rfl (Imp.norm (js := []) rfl (.cons rfl (.cons rfl (.cons rfl .nil))))
 refine JC.exit <| JQ.outX ?_
 try obtain rfl := so hx
 try obtain rfl := hr _ rfl
 dsimp only at hq3
 refine JQ.outX <| JQ.here ?_
 try obtain rfl := so hq3
 exact JQ.joinK () () rfl (Imp.norm (js := []) rfl .nil)

end Go.Proofs.Ytbflmobpbjnekaa
