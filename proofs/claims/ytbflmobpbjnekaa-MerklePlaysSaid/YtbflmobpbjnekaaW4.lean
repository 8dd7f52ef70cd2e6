/- Walks. -/
import Derived.Test.YtbflmobpbjnekaaT
import Derived.Test.YtbflmobpbjnekaaW2
namespace Go.Proofs.Ytbflmobpbjnekaa
open Go Fw
set_option linter.unusedVariables false
set_option maxRecDepth 100000
set_option maxHeartbeats 4000000

theorem sim_slices_Equalapi_Hash_api_Hash (k : Nat) (s1_1 : (List (Vector UInt8 32))) (s2_2 : (List (Vector UInt8 32))) (r : Bool) (hm : slices_Equalapi_Hash_api_Hash k s1_1 s2_2 = some r) : Sim Try.prog 34 [S (rL (rV 32 (rU UInt8))) s1_1, S (rL (rV 32 (rU UInt8))) s2_2] [] (γ := Unit) (fun q => []) (fun q => .one (.val (S rB r))) := by
 unfold slices_Equalapi_Hash_api_Hash at hm
 refine Sim.of Try.func34 rfl rfl (lE rfl) (fun e0 w0 => ?_)
 refine JC.at ⟨[(0, ov (S (rL (rV 32 (rU UInt8))) s1_1)), (1, ov (S (rL (rV 32 (rU UInt8))) s2_2))], [], []⟩ <| jr <| jc (op_assign lb .cB) <| jn <| JC.seq <| jr <| jmv rfl rfl <| jc (op_lenL lb tu22 tR) <| jmv rfl rfl <| jc (op_lenL lb tu22 tR) <| lI hm fun v_3 hv_3 hm => jc (op_cmpI lb tR tR (cs hv_3)) <| jn <| jif tR hm (fun hc1 hm => ?_) (fun hc1 hm => ?_)
 · refine jr <| jc (op_assign lb .cB) <| jn <| JC.ret <| JQ.outR ?_
   obtain rfl := so hm
   exact jd (.val (S rB false)) rfl rfl rfl rfl rfl rfl
 refine JC.skip <| JQ.then <| bI hm fun tv2 hx2 hq2 => JC.seqK (α := Unit) (γ := Unit) (stj := fun v q => ⟨[], [], []⟩) (p := fun v => tv2 = (.inl v)) (fun v q hv => ?_) ?_
 · subst hv
   skip
   obtain _ := q
   dsimp only at hq2
   refine JC.at ⟨[], [], []⟩ <| jr <| jc (op_assign lb .cB) <| jn <| JC.ret ?_
   obtain rfl := so hq2
   exact jd (.val (S rB true)) rfl rfl rfl rfl rfl rfl
 refine jr <| jmv rfl rfl <| jc (op_lenL lb tu22 tR) <| jc (op_move lb .cI) <| jn <| JC.block <| bI hx2 fun tv3 hL3 hq3 => JC.pre ?_ (JC.loop (γ := Unit) (stf := fun s q => ⟨[(0, ov (S (rL (rV 32 (rU UInt8))) s1_1)), (1, ov (S (rL (rV 32 (rU UInt8))) s2_2)), (12, ov (S (rI .i64) (List.length s1_1 : Int))), (13, ov (S (rI .i64) s))], [], []⟩) (q := ()) hL3 ?_)
 · exact (Imp.norm (js := []) rfl (.cons rfl (.cons rfl (.cons rfl (.cons rfl .nil)))))
 intro x_4 q x hx hr
 obtain _ := q
 change slices_Equalapi_Hash_api_Hash.b1 k s1_1 s2_2 x_4 = some x at hx
 unfold slices_Equalapi_Hash_api_Hash.b1 at hx
 refine JC.at ⟨[(0, ov (S (rL (rV 32 (rU UInt8))) s1_1)), (1, ov (S (rL (rV 32 (rU UInt8))) s2_2)), (12, ov (S (rI .i64) (List.length s1_1 : Int))), (13, ov (S (rI .i64) x_4))], [], []⟩ <| jr <| lI hx fun v_5 hv_5 hx => jc (op_cmpI lb tR tR (cs hv_5)) <| jn <| JC.seq <| jif tR hx (fun hc4 hx => ?_) (fun hc4 hx => ?_)
 · refine JC.skip <| JQ.then <| JC.seq <| JC.block <| jr <| jmv rfl rfl <| jc (op_assign lb tR) <| jn <| JC.seq <| bI hx fun v_6 hv_6 hx => bI hx fun v_7 hv_7 hx => ?_
   obtain ⟨v_8, hv_8, hx⟩ := lt1_inv hx
   refine JC.anyF (base := [(0, ov (S (rL (rV 32 (rU UInt8))) s1_1)), (1, ov (S (rL (rV 32 (rU UInt8))) s2_2)), (5, ov (S (rI .i64) x_4)), (12, ov (S (rI .i64) (List.length s1_1 : Int))), (13, ov (S (rI .i64) x_4))])
       (fs := fun γ => [⟨some 16, ov (S (rL (rV 32 (rU UInt8))) s1_1)⟩, ⟨some 17, ov (S (rI .i64) x_4)⟩, ⟨some 18, ov (PT (rV 32 (rU UInt8)) v_6)⟩, ⟨some 19, ov (A (rV 32 (rU UInt8)) v_6)⟩, ⟨some 20, ov (S (rL (rV 32 (rU UInt8))) s2_2)⟩, ⟨some 21, ov (S (rI .i64) x_4)⟩, ⟨some 22, ov (PT (rV 32 (rU UInt8)) v_7)⟩, ⟨some 23, ov (A (rV 32 (rU UInt8)) v_7)⟩, ⟨some 24, ov (S rB v_8)⟩])
       (rs := fun γ => [])
       (afts := nn 9) (js := []) mixed (.cons rfl (.cons rfl (.cons rfl (.cons rfl (.cons rfl .nil))))) (fun _ => rfl)
       (by
      refine db 1 0 <| db 2 5 <| dS 3 (fun γ ρ B hb hd => op_indexAddrLg lb tu22 tz30 (tl hd 0 16) (tl hd 1 17) hv_6) <| dS 4 (fun γ ρ B hb hd => op_loadPAg lb tA30 (tl hd 2 18) rfl) <| db 5 1 ?_
      refine db 6 5 <| dS 7 (fun γ ρ B hb hd => op_indexAddrLg lb tu22 tz30 (tl hd 4 20) (tl hd 5 21) hv_7) <| dS 8 (fun γ ρ B hb hd => op_loadPAg lb tA30 (tl hd 6 22) rfl) <| dS 9 (fun γ ρ B hb hd => op_neA lb qa30 (by decide) ng30 (tl hd 3 19) (tl hd 7 23) hv_8) ?_
      exact DSteps.nil)
       (by decide +kernel) (fun _ => rfl) (fun _ => rfl) (fun _ => rfl) rfl
       (ρ' := fun γ => [(0, ov (S (rL (rV 32 (rU UInt8))) s1_1)), (1, ov (S (rL (rV 32 (rU UInt8))) s2_2)), (12, ov (S (rI .i64) (List.length s1_1 : Int))), (13, ov (S (rI .i64) x_4)), (24, ov (S rB v_8))])
       (X' := fun γ => [])
       (fun γ ρ hb hd => (.cons (hb 0 _ rfl) (.cons (hb 1 _ rfl) (.cons (hb 12 _ rfl) (.cons (hb 13 _ rfl) (.cons (hdq hd 8 24 rfl) .nil)))))) (fun _ => rfl) (fun γ => ?_)
   refine JQ.at ⟨[(0, ov (S (rL (rV 32 (rU UInt8))) s1_1)), (1, ov (S (rL (rV 32 (rU UInt8))) s2_2)), (12, ov (S (rI .i64) (List.length s1_1 : Int))), (13, ov (S (rI .i64) x_4)), (24, ov (S rB v_8))], [], []⟩ <| JQ.then <| jif tR hx (fun hc5 hx => ?_) (fun hc5 hx => ?_)
   · refine jr <| jc (op_assign lb .cB) <| jn <| JC.ret <| JQ.outRB <| JQ.outR ?_
     try obtain rfl := so hx
     try obtain rfl := hr _ rfl
     dsimp only at hq3
     refine JQ.outR <| JQ.outRB ?_
     try obtain rfl := so hq3
     dsimp only at hq2
     refine JQ.outR ?_
     obtain rfl := so hq2
     exact jd (.val (S rB false)) rfl rfl rfl rfl rfl rfl
   refine JC.skip <| JQ.outNB <| JQ.then <| JC.region <| lI hx fun v_9 hv_9 hx => jc (op_arI lb tR .cI (cs hv_9)) <| jmv rfl rfl <| JL.nil ?_
   try obtain rfl := so hx
   exact JQ.next () rfl (Imp.norm (js := []) rfl (.cons rfl (.cons rfl (.cons rfl (.cons rfl .nil)))))
 refine JC.exit <| JQ.outX ?_
 try obtain rfl := so hx
 try obtain rfl := hr _ rfl
 dsimp only at hq3
 refine JQ.outX <| JQ.here ?_
 try obtain rfl := so hq3
 exact JQ.joinK () () rfl (Imp.norm (js := []) rfl .nil)

theorem sim_merkle_Tree_Same (k : Nat) (t_1 : merkle_Tree) (o_3 : merkle_Tree) (gb_2 : Nat) (gb_4 : Nat) (r : Bool) (hm : merkle_Tree_Same k t_1 o_3 = some r) : Sim Try.prog 20 [PTR gb_2 0, PTR gb_4 0] [cvar gb_2 r_merkle_Tree t_1, cvar gb_4 r_merkle_Tree o_3] (γ := Unit) (fun q => [cvar gb_2 r_merkle_Tree t_1, cvar gb_4 r_merkle_Tree o_3]) (fun q => .one (.val (S rB r))) := by
 unfold merkle_Tree_Same at hm
 refine Sim.of Try.func20 rfl rfl (lE rfl) (fun e0 w0 => ?_)
 refine JC.at ⟨[(0, ov (PTR gb_2 0)), (1, ov (PTR gb_4 0))], [cvar gb_2 r_merkle_Tree t_1, cvar gb_4 r_merkle_Tree o_3], []⟩ <| jr <| jc (op_assign lb .cB) <| jn <| JC.seq <| bI hm fun x_9 hx1 hq1 => JC.seqJ (γ := Unit) (stj := fun _ => ⟨[(0, ov (PTR gb_2 0)), (1, ov (PTR gb_4 0)), (12, ov (S rB x_9))], [cvar gb_2 r_merkle_Tree t_1, cvar gb_4 r_merkle_Tree o_3], []⟩) (fun _ => ?_) ?_
 · refine jif tR hq1 (fun hc5 hq1 => ?_) (fun hc5 hq1 => ?_)
   · refine jr <| jmv rfl rfl <| bI hq1 fun _ hv_u_10 hq1 => jx (op_call (js := [0]) ld cl29 (sim_merkle_Tree_there k t_1 gb_2 () hv_u_10) .func (.cons tR .nil) rfl) fun _ => jmv rfl rfl <| bI hq1 fun _ hv_u_11 hq1 => jx (op_call (js := [1]) ld cl29 (sim_merkle_Tree_there k o_3 gb_4 () hv_u_11) .func (.cons tR .nil) rfl) fun _ => lI hq1 fun v_12 hv_12 hq1 => jc (op_eqB lb tu4 tR tR hv_12) <| jc (op_assign lb tR) <| jn <| JC.ret ?_
     refine JQ.outR ?_
     obtain rfl := so hq1
     exact JQ.done (js := [1, 0]) (ss := [.val (S rB v_12)]) () (.inl rfl) (.nil rfl) rfl (.cons (.tmp rfl) .nil) rfl rfl rfl
   refine JC.skip <| JQ.then <| jr <| jmv rfl rfl <| bI hq1 fun v_13 hv_13 hq1 => jx (op_call (js := [0]) ld cl23 (sim_merkle_Tree_Leaves k t_1 gb_2 v_13 hv_13) .func (.cons tR .nil) rfl) (fun q => ?_)
   obtain ⟨go_14, gc_15⟩ := q
   refine jmv rfl rfl <| bI hq1 fun v_16 hv_16 hq1 => jx (op_call (js := [2]) ld cl23 (sim_merkle_Tree_Leaves k o_3 gb_4 v_16 hv_16) .func (.cons tR .nil) rfl) (fun q => ?_)
   obtain ⟨go_17, gc_18⟩ := q
   refine bI hq1 fun v_19 hv_19 hq1 => JL.pre (Imp.frz (j := 2) rfl (ImpK.slotH (s := 19) rfl ImpK.refl)) <| JL.pre (Imp.frz (j := 0) rfl (ImpK.slotH (s := 21) rfl ImpK.refl)) <| jx (op_call (js := []) ld cl34 (sim_slices_Equalapi_Hash_api_Hash k v_13 v_16 v_19 hv_19) .func (.cons (HasO.wk tR wkHL) (.cons (HasO.wk tR wkHL) .nil)) rfl) fun _ => jc (op_assign lb tR) <| JL.nrm ⟨[(4, ov (S rB v_19))], [cvar gb_4 r_merkle_Tree o_3, cvar gb_2 r_merkle_Tree t_1], []⟩ [1, 2] rfl (.cons rfl .nil) rfl <| jn <| JC.ret ?_
   obtain rfl := so hq1
   exact JQ.done (js := [1, 0]) (ss := [.val (S rB v_19)]) () (.inl rfl) (.nil rfl) rfl (.cons (.tmp rfl) .nil) rfl rfl rfl
 refine JC.region <| jmv rfl rfl <| bI hx1 fun _ hv_u_5 hx1 => jx (op_call (js := [0]) ld cl29 (sim_merkle_Tree_there k t_1 gb_2 () hv_u_5) .func (.cons tR .nil) rfl) fun _ => lI hx1 fun v_6 hv_6 hx1 => jc (op_not lb tR hv_6) <| jmv rfl rfl <| jF (ov (PTR gb_4 0)) rfl rfl rfl rfl (fun hq_2 => op_move lb tR) ?_
 rcases iteB_inv hx1 with ⟨hc4, hx1⟩ | ⟨hc4, hx1⟩
 · refine jk rfl hc4 <| jk rfl hc4 <| jc (op_pickT lb tR hc4 .cB) <| JL.nil ?_
   try obtain rfl := so hx1
   exact JQ.join () (Imp.norm (js := [0, 0]) rfl (.cons rfl (.cons rfl (.cons rfl .nil))))
 refine bI hx1 fun _ hv_u_7 hx1 => JL.runX (.yes rfl (ltB rfl) rfl hc4) (op_call (js := [1]) ld cl29 (sim_merkle_Tree_there k o_3 gb_4 () hv_u_7) .func (.cons (HasO.cnd tR (notT hc4)) .nil) rfl) fun _ => lI hx1 fun v_8 hv_8 hx1 => JL.run (.yes rfl (ltB rfl) rfl hc4) (op_not lb tR hv_8) <| JL.sub ⟨[(0, ov (PTR gb_2 0)), (1, ov (PTR gb_4 0)), (8, ov (S rB v_6)), (11, ov (S rB v_8))], [cvar gb_4 r_merkle_Tree o_3, cvar gb_2 r_merkle_Tree t_1], []⟩ (.cons rfl (.cons rfl (.cons rfl (.cons rfl .nil)))) rfl rfl <| jc (op_pickF lb tR hc4 tR) <| JL.nil ?_
 try obtain rfl := so hx1
 exact JQ.join () (Imp.norm (js := [1, 0]) rfl (.cons rfl (.cons rfl (.cons rfl .nil))))

theorem sim_merkle_Tree_there_n (k : Nat) (r : Unit) (hm : merkle_Tree_there_n k = some r) : Sim Try.prog 29 [PTO none] [] (γ := Unit) (fun q => []) (fun q => .one (.val (S rB false))) := by
 unfold merkle_Tree_there_n at hm
 refine Sim.of Try.func29 rfl rfl (lE rfl) (fun e0 w0 => ?_)
 refine JC.at ⟨[(0, ov (PTO none))], [], []⟩ <| jr <| jc (op_assign lb .cB) <| jn <| bI hm fun _ hx1 hq1 => JC.seqJ (γ := Unit) (stj := fun _ => ⟨[(2, ov (S rB false))], [], []⟩) (fun _ => ?_) ?_
 · exact JC.ret <| jd (.val (S rB false)) rfl rfl rfl rfl rfl rfl
 exact JC.region <| jmv rfl rfl <| jc (op_nilO (neg := true) (ob := none) lb tu24 tR (HasO.const (p := PTO none) fun _ => rfl) rfl) <| jmv rfl rfl <| jk rfl rfl <| jk rfl rfl <| jk rfl rfl <| jk rfl rfl <| jc (op_pickF lb tR rfl .cB) <| jc (op_assign lb tR) <| JL.nil <| jo rfl rfl rfl

theorem sim_merkle_Tree_Same_np (k : Nat) (o_1 : merkle_Tree) (gb_2 : Nat) (r : Bool) (hm : merkle_Tree_Same_np k o_1 = some r) : Sim Try.prog 20 [PTO none, PTR gb_2 0] [cvar gb_2 r_merkle_Tree o_1] (γ := Unit) (fun q => [cvar gb_2 r_merkle_Tree o_1]) (fun q => .one (.val (S rB r))) := by
 unfold merkle_Tree_Same_np at hm
 refine Sim.of Try.func20 rfl rfl (lE rfl) (fun e0 w0 => ?_)
 refine JC.at ⟨[(0, ov (PTO none)), (1, ov (PTR gb_2 0))], [cvar gb_2 r_merkle_Tree o_1], []⟩ <| jr <| jc (op_assign lb .cB) <| jn <| JC.seq <| bI hm fun _ hx1 hq1 => JC.seqJ (γ := Unit) (stj := fun _ => ⟨[(0, ov (PTO none)), (1, ov (PTR gb_2 0)), (12, ov (S rB true))], [cvar gb_2 r_merkle_Tree o_1], []⟩) (fun _ => ?_) ?_
 · refine JC.condT tR rfl <| jr <| jmv rfl rfl <| bI hq1 fun _ hv_u_4 hq1 => jx (op_call (js := []) ld cl29 (sim_merkle_Tree_there_n k () hv_u_4) .func (.cons tR .nil) rfl) fun _ => jmv rfl rfl <| bI hq1 fun _ hv_u_5 hq1 => jx (op_call (js := [0]) ld cl29 (sim_merkle_Tree_there k o_1 gb_2 () hv_u_5) .func (.cons tR .nil) rfl) fun _ => lI hq1 fun v_6 hv_6 hq1 => jc (op_eqB lb tu4 tR tR hv_6) <| jc (op_assign lb tR) <| jn ?_
   refine JC.ret <| JQ.outR ?_
   obtain rfl := so hq1
   exact JQ.done (js := [0]) (ss := [.val (S rB v_6)]) () (.inl rfl) (.nil rfl) rfl (.cons (.tmp rfl) .nil) rfl rfl rfl
 exact JC.region <| jmv rfl rfl <| bI hx1 fun _ hv_u_3 hx1 => jx (op_call (js := []) ld cl29 (sim_merkle_Tree_there_n k () hv_u_3) .func (.cons tR .nil) rfl) fun _ => jc (op_not lb tR rfl) <| jmv rfl rfl <| jk rfl rfl <| jk rfl rfl <| jk rfl rfl <| jc (op_pickT lb tR rfl .cB) <| JL.nil <| JQ.join () (Imp.norm (js := [0]) rfl (.cons rfl (.cons rfl (.cons rfl .nil))))

theorem sim_merkle_Tree_Set_nvv (k : Nat) (bucket_1 : Int) (b_2 : (List UInt8)) (r : Unit) (hm : merkle_Tree_Set_nvv k bucket_1 b_2 = some r) : Sim Try.prog 13 [PTO none, S (rI .i64) bucket_1, S (rL (rU UInt8)) b_2] [] (γ := Unit) (fun q => []) (fun q => .one (.val (S (rI .i64) (1 : Int)))) := by
 unfold merkle_Tree_Set_nvv at hm
 refine Sim.of Try.func13 rfl rfl (lE rfl) (fun e0 w0 => ?_)
 refine JC.at ⟨[(0, ov (PTO none)), (1, ov (S (rI .i64) bucket_1)), (2, ov (S (rL (rU UInt8)) b_2))], [], []⟩ <| jr <| jc (op_assign lb .cI) <| jn <| JC.seq <| jr <| jmv rfl rfl <| bI hm fun _ hv_u_3 hm => jx (op_call (js := []) ld cl29 (sim_merkle_Tree_there_n k () hv_u_3) .func (.cons tR .nil) rfl) fun _ => jc (op_not lb tR rfl) <| jn <| JC.condT tR rfl <| jr <| jc (op_assign lb .cI) <| jn <| JC.ret ?_
 exact JQ.outR <| jd (.val (S (rI .i64) (1 : Int))) rfl rfl rfl rfl rfl rfl

theorem sim_merkle_Tree_Diff_np (k : Nat) (o_1 : merkle_Tree) (gb_2 : Nat) (r : Unit) (hm : merkle_Tree_Diff_np k o_1 = some r) : Sim Try.prog 24 [PTO none, PTR gb_2 0] [cvar gb_2 r_merkle_Tree o_1] (γ := Unit) (fun q => [cvar gb_2 r_merkle_Tree o_1]) (fun q => .tup [.val (HDR none 0 0 0), .val (S (rI .i64) (0 : Int)), .val (S (rI .i64) (1 : Int))]) := by
 unfold merkle_Tree_Diff_np at hm
 refine Sim.of Try.func24 rfl rfl (lE rfl) (fun e0 w0 => ?_)
 refine JC.at ⟨[(0, ov (PTO none)), (1, ov (PTR gb_2 0))], [cvar gb_2 r_merkle_Tree o_1], []⟩ <| jr <| jx (op_boxW lb tR) fun gb_3 => jx (op_boxW lb tR) fun gb_4 => jc (op_assign lb HasO.nilH) <| jc (op_assign lb .cI) <| jc (op_assign lb .cI) <| jn <| JC.seq <| bI hm fun _ hx1 hq1 => JC.seqJ (γ := Unit) (stj := fun _ => ⟨[(2, ov (PTR gb_3 0)), (3, ov (PTR gb_4 0)), (17, ov (S rB true))], [cvar gb_3 (rW (PTO none)) (), cvar gb_4 (rW (PTR gb_2 0)) (), cvar gb_2 r_merkle_Tree o_1], []⟩) (fun _ => ?_) ?_
 · exact JC.condT tR rfl <| jr <| jc (op_assign lb HasO.nilH) <| jc (op_assign lb .cI) <| jc (op_assign lb .cI) <| jn <| JC.ret <| JQ.outR <| JQ.done (js := [2]) (ss := [.val (HDR none 0 0 0), .val (S (rI .i64) (0 : Int)), .val (S (rI .i64) (1 : Int))]) () (.inl rfl) (.nil rfl) rfl (.cons (.tmp rfl) (.cons (.tmp rfl) (.cons (.tmp rfl) .nil))) rfl rfl rfl
 exact JC.region <| jc (op_loadW (j := 1) lb tS24 tR rfl (Comp.self (rW (PTO none)) ())) <| bI hx1 fun _ hv_u_5 hx1 => jx (op_call (js := []) ld cl29 (sim_merkle_Tree_there_n k () hv_u_5) .func (.cons tR .nil) rfl) fun _ => jc (op_not lb tR rfl) <| JL.sub ⟨[(2, ov (PTR gb_3 0)), (3, ov (PTR gb_4 0)), (12, ov (S rB true))], [cvar gb_2 r_merkle_Tree o_1, cvar gb_3 (rW (PTO none)) (), cvar gb_4 (rW (PTR gb_2 0)) ()], []⟩ (.cons rfl (.cons rfl (.cons rfl .nil))) rfl rfl <| jmv rfl rfl <| jk rfl rfl <| jk rfl rfl <| jk rfl rfl <| jc (op_pickT lb tR rfl .cB) <| JL.nil <| JQ.join () (Imp.norm (js := [1, 1, 0]) rfl (.cons rfl (.cons rfl (.cons rfl .nil))))

theorem sim_merkle_Tree_Node_nv (k : Nat) (n_1 : Int) (r : Unit) (hm : merkle_Tree_Node_nv k n_1 = some r) : Sim Try.prog 14 [PTO none, S (rI .i64) n_1] [] (γ := Unit) (fun q => []) (fun q => .tup [.val (A (rV 32 (rU UInt8)) (Vector.replicate 32 (0 : UInt8))), .val (S (rI .i64) (1 : Int))]) := by
 unfold merkle_Tree_Node_nv at hm
 refine Sim.of Try.func14 rfl rfl (lE rfl) (fun e0 w0 => ?_)
 refine JC.at ⟨[(0, ov (PTO none)), (1, ov (S (rI .i64) n_1))], [], []⟩ <| jr <| jx (op_alloc lb tZ30 zr30) fun gb_2 => jc (op_assign lb .cI) <| jn <| JC.seq <| JC.block <| jr <| jmv rfl rfl <| bI hm fun _ hv_u_3 hm => jx (op_call (js := []) ld cl29 (sim_merkle_Tree_there_n k () hv_u_3) .func (.cons tR .nil) rfl) fun _ => jc (op_not lb tR rfl) <| jc (op_assign lb tR) <| jn <| JC.condT tR rfl ?_
 exact jr <| jc (op_build lb tZ30 zv30 tp30 .nil rfl) <| jc (op_storeA (j := 0) tA30 tR tR rfl (UpdR.self (by rfl)) rfl) <| jc (op_assign lb .cI) <| jn <| JC.ret <| JQ.outRB <| JQ.outR <| JQ.done (js := []) (ss := [.val (A (rV 32 (rU UInt8)) (Vector.replicate 32 (0 : UInt8))), .val (S (rI .i64) (1 : Int))]) () (.inl rfl) (.nil rfl) rfl (.cons (.cellA (j := 0) tA30 rfl rfl) (.cons (.tmp rfl) .nil)) rfl rfl rfl

theorem sim_merkle_Tree_Leaves_n (k : Nat) (r : Unit) (hm : merkle_Tree_Leaves_n k = some r) : Sim Try.prog 23 [PTO none] [] (γ := Unit) (fun q => []) (fun q => .one (.val (HDR none 0 0 0))) := by
 unfold merkle_Tree_Leaves_n at hm
 refine Sim.of Try.func23 rfl rfl (lE rfl) (fun e0 w0 => ?_)
 refine JC.at ⟨[(0, ov (PTO none))], [], []⟩ <| jr <| jc (op_assign lb HasO.nilH) <| jn <| JC.seq <| jr <| jmv rfl rfl <| bI hm fun _ hv_u_1 hm => jx (op_call (js := []) ld cl29 (sim_merkle_Tree_there_n k () hv_u_1) .func (.cons tR .nil) rfl) fun _ => jc (op_not lb tR rfl) <| jn <| JC.condT tR rfl <| jr <| jc (op_assign lb HasO.nilH) <| jn <| JC.ret ?_
 exact JQ.outR <| JQ.done (js := []) (ss := [.val (HDR none 0 0 0)]) () (.inl rfl) (.nil rfl) rfl (.cons (.tmp rfl) .nil) rfl rfl rfl

theorem sim_merkle_Tree_Same_pn (k : Nat) (t_1 : merkle_Tree) (gb_2 : Nat) (r : Bool) (hm : merkle_Tree_Same_pn k t_1 = some r) : Sim Try.prog 20 [PTR gb_2 0, PTO none] [cvar gb_2 r_merkle_Tree t_1] (γ := Unit) (fun q => [cvar gb_2 r_merkle_Tree t_1]) (fun q => .one (.val (S rB r))) := by
 unfold merkle_Tree_Same_pn at hm
 refine Sim.of Try.func20 rfl rfl (lE rfl) (fun e0 w0 => ?_)
 refine JC.at ⟨[(0, ov (PTR gb_2 0)), (1, ov (PTO none))], [cvar gb_2 r_merkle_Tree t_1], []⟩ <| jr <| jc (op_assign lb .cB) <| jn <| JC.seq <| bI hm fun x_7 hx1 hq1 => JC.seqJ (γ := Unit) (stj := fun _ => ⟨[(0, ov (PTR gb_2 0)), (1, ov (PTO none)), (12, ov (S rB x_7))], [cvar gb_2 r_merkle_Tree t_1], []⟩) (fun _ => ?_) ?_
 · refine jif tR hq1 (fun hc6 hq1 => ?_) (fun hc6 hq1 => ?_)
   · refine jr <| jmv rfl rfl <| bI hq1 fun _ hv_u_8 hq1 => jx (op_call (js := [0]) ld cl29 (sim_merkle_Tree_there k t_1 gb_2 () hv_u_8) .func (.cons tR .nil) rfl) fun _ => jmv rfl rfl <| bI hq1 fun _ hv_u_9 hq1 => jx (op_call (js := []) ld cl29 (sim_merkle_Tree_there_n k () hv_u_9) .func (.cons tR .nil) rfl) fun _ => lI hq1 fun v_10 hv_10 hq1 => jc (op_eqB lb tu4 tR tR hv_10) <| jc (op_assign lb tR) <| jn <| JC.ret ?_
     refine JQ.outR ?_
     obtain rfl := so hq1
     exact JQ.done (js := [0]) (ss := [.val (S rB v_10)]) () (.inl rfl) (.nil rfl) rfl (.cons (.tmp rfl) .nil) rfl rfl rfl
   refine JC.skip <| JQ.then <| jr <| jmv rfl rfl <| bI hq1 fun v_11 hv_11 hq1 => jx (op_call (js := [0]) ld cl23 (sim_merkle_Tree_Leaves k t_1 gb_2 v_11 hv_11) .func (.cons tR .nil) rfl) (fun q => ?_)
   obtain ⟨go_12, gc_13⟩ := q
   refine jmv rfl rfl <| bI hq1 fun _ hv_u_14 hq1 => jx (op_call (js := []) ld cl23 (sim_merkle_Tree_Leaves_n k () hv_u_14) .func (.cons tR .nil) rfl) fun _ => bI hq1 fun v_15 hv_15 hq1 => JL.pre (Imp.frz (j := 0) rfl (ImpK.slotH (s := 19) rfl ImpK.refl)) <| jx (op_call (js := []) ld cl34 (sim_slices_Equalapi_Hash_api_Hash k v_11 ([] : (List (Vector UInt8 32))) v_15 hv_15) .func (.cons (HasO.wk tR wkHL) (.cons (HasO.wk (q := S (rL (rV 32 (rU UInt8))) []) tR wkNil) .nil)) rfl) fun _ => jc (op_assign lb tR) <| jn <| JC.ret ?_
   obtain rfl := so hq1
   exact JQ.done (js := [1]) (ss := [.val (S rB v_15)]) () (.inl rfl) (.nil rfl) rfl (.cons (.tmp rfl) .nil) rfl rfl rfl
 refine JC.region <| jmv rfl rfl <| bI hx1 fun _ hv_u_3 hx1 => jx (op_call (js := [0]) ld cl29 (sim_merkle_Tree_there k t_1 gb_2 () hv_u_3) .func (.cons tR .nil) rfl) fun _ => lI hx1 fun v_4 hv_4 hx1 => jc (op_not lb tR hv_4) <| jmv rfl rfl <| jF (ov (PTO none)) rfl rfl rfl rfl (fun hq_2 => op_move lb tR) <| bI hx1 fun _ hv_u_5 hx1 => jF (ov (S rB false)) rfl rfl rfl rfl (fun hq_3 => (op_call (js := []) ld cl29 (sim_merkle_Tree_there_n k () (ifT hv_u_5 hq_3)) .func (.cons (HasO.cnd tR (notT (notF hq_3))) .nil) rfl).post (fun _ => Imp.refl)) <| jF (ov (S rB true)) rfl rfl rfl rfl (fun hq_4 => op_not lb (HasO.cnd tR (notT (notF hq_4))) rfl) ?_
 refine lI hx1 fun v_6 hv_6 hx1 => jc (op_pickCS lb tR (fun hb5 => .cB) (fun hb5 => (HasO.cnd tR (notT hb5))) hv_6) <| JL.nil ?_
 try obtain rfl := so hx1
 exact JQ.join () (Imp.norm (js := [0]) rfl (.cons rfl (.cons rfl (.cons rfl .nil))))

theorem sim_merkle_Tree_Same_nn (k : Nat) (r : Bool) (hm : merkle_Tree_Same_nn k = some r) : Sim Try.prog 20 [PTO none, PTO none] [] (γ := Unit) (fun q => []) (fun q => .one (.val (S rB r))) := by
 unfold merkle_Tree_Same_nn at hm
 refine Sim.of Try.func20 rfl rfl (lE rfl) (fun e0 w0 => ?_)
 refine JC.at ⟨[(0, ov (PTO none)), (1, ov (PTO none))], [], []⟩ <| jr <| jc (op_assign lb .cB) <| jn <| JC.seq <| bI hm fun _ hx1 hq1 => JC.seqJ (γ := Unit) (stj := fun _ => ⟨[(0, ov (PTO none)), (1, ov (PTO none)), (12, ov (S rB true))], [], []⟩) (fun _ => ?_) ?_
 · refine JC.condT tR rfl <| jr <| jmv rfl rfl <| bI hq1 fun _ hv_u_2 hq1 => jx (op_call (js := []) ld cl29 (sim_merkle_Tree_there_n k () hv_u_2) .func (.cons tR .nil) rfl) fun _ => jmv rfl rfl <| bI hq1 fun _ hv_u_3 hq1 => jx (op_call (js := []) ld cl29 (sim_merkle_Tree_there_n k () hv_u_3) .func (.cons tR .nil) rfl) fun _ => lI hq1 fun v_4 hv_4 hq1 => jc (op_eqB lb tu4 tR tR hv_4) <| jc (op_assign lb tR) <| jn ?_
   refine JC.ret <| JQ.outR ?_
   obtain rfl := so hq1
   exact jd (.val (S rB v_4)) rfl rfl rfl rfl rfl rfl
 exact JC.region <| jmv rfl rfl <| bI hx1 fun _ hv_u_1 hx1 => jx (op_call (js := []) ld cl29 (sim_merkle_Tree_there_n k () hv_u_1) .func (.cons tR .nil) rfl) fun _ => jc (op_not lb tR rfl) <| jmv rfl rfl <| jk rfl rfl <| jk rfl rfl <| jk rfl rfl <| jc (op_pickT lb tR rfl .cB) <| JL.nil <| JQ.join () (Imp.norm (js := []) rfl (.cons rfl (.cons rfl (.cons rfl .nil))))

theorem sim_merkle_Tree_Diff_nn (k : Nat) (r : Unit) (hm : merkle_Tree_Diff_nn k = some r) : Sim Try.prog 24 [PTO none, PTO none] [] (γ := Unit) (fun q => []) (fun q => .tup [.val (HDR none 0 0 0), .val (S (rI .i64) (0 : Int)), .val (S (rI .i64) (1 : Int))]) := by
 unfold merkle_Tree_Diff_nn at hm
 refine Sim.of Try.func24 rfl rfl (lE rfl) (fun e0 w0 => ?_)
 refine JC.at ⟨[(0, ov (PTO none)), (1, ov (PTO none))], [], []⟩ <| jr <| jx (op_boxW lb tR) fun gb_1 => jx (op_boxW lb tR) fun gb_2 => jc (op_assign lb HasO.nilH) <| jc (op_assign lb .cI) <| jc (op_assign lb .cI) <| jn <| JC.seq <| bI hm fun _ hx1 hq1 => JC.seqJ (γ := Unit) (stj := fun _ => ⟨[(2, ov (PTR gb_1 0)), (3, ov (PTR gb_2 0)), (17, ov (S rB true))], [cvar gb_1 (rW (PTO none)) (), cvar gb_2 (rW (PTO none)) ()], []⟩) (fun _ => ?_) ?_
 · exact JC.condT tR rfl <| jr <| jc (op_assign lb HasO.nilH) <| jc (op_assign lb .cI) <| jc (op_assign lb .cI) <| jn <| JC.ret <| JQ.outR <| JQ.done (js := []) (ss := [.val (HDR none 0 0 0), .val (S (rI .i64) (0 : Int)), .val (S (rI .i64) (1 : Int))]) () (.inl rfl) (.nil rfl) rfl (.cons (.tmp rfl) (.cons (.tmp rfl) (.cons (.tmp rfl) .nil))) rfl rfl rfl
 exact JC.region <| jc (op_loadW (j := 0) lb tS24 tR rfl (Comp.self (rW (PTO none)) ())) <| bI hx1 fun _ hv_u_3 hx1 => jx (op_call (js := []) ld cl29 (sim_merkle_Tree_there_n k () hv_u_3) .func (.cons tR .nil) rfl) fun _ => jc (op_not lb tR rfl) <| JL.sub ⟨[(2, ov (PTR gb_1 0)), (3, ov (PTR gb_2 0)), (12, ov (S rB true))], [cvar gb_1 (rW (PTO none)) (), cvar gb_2 (rW (PTO none)) ()], []⟩ (.cons rfl (.cons rfl (.cons rfl .nil))) rfl rfl <| jmv rfl rfl <| jk rfl rfl <| jk rfl rfl <| jk rfl rfl <| jc (op_pickT lb tR rfl .cB) <| JL.nil <| JQ.join () (Imp.norm (js := [0, 0]) rfl (.cons rfl (.cons rfl (.cons rfl .nil))))

theorem sim_merkle_Tree_Diff_pn (k : Nat) (t_1 : merkle_Tree) (gb_2 : Nat) (r : Unit) (hm : merkle_Tree_Diff_pn k t_1 = some r) : Sim Try.prog 24 [PTR gb_2 0, PTO none] [cvar gb_2 r_merkle_Tree t_1] (γ := Unit) (fun q => [cvar gb_2 r_merkle_Tree t_1]) (fun q => .tup [.val (HDR none 0 0 0), .val (S (rI .i64) (0 : Int)), .val (S (rI .i64) (1 : Int))]) := by
 unfold merkle_Tree_Diff_pn at hm
 refine Sim.of Try.func24 rfl rfl (lE rfl) (fun e0 w0 => ?_)
 refine JC.at ⟨[(0, ov (PTR gb_2 0)), (1, ov (PTO none))], [cvar gb_2 r_merkle_Tree t_1], []⟩ <| jr <| jx (op_boxW lb tR) fun gb_3 => jx (op_boxW lb tR) fun gb_4 => jc (op_assign lb HasO.nilH) <| jc (op_assign lb .cI) <| jc (op_assign lb .cI) <| jn <| JC.seq <| bI hm fun x_9 hx1 hq1 => JC.seqJ (γ := Unit) (stj := fun _ => ⟨[(2, ov (PTR gb_3 0)), (3, ov (PTR gb_4 0)), (17, ov (S rB x_9))], [cvar gb_3 (rW (PTR gb_2 0)) (), cvar gb_2 r_merkle_Tree t_1, cvar gb_4 (rW (PTO none)) ()], []⟩) (fun _ => ?_) ?_
 · refine jif tR hq1 (fun hc6 hq1 => ?_) (fun hc6 hq1 => ?_)
   · exact jr <| jc (op_assign lb HasO.nilH) <| jc (op_assign lb .cI) <| jc (op_assign lb .cI) <| jn <| JC.ret <| JQ.outR <| JQ.done (js := [1]) (ss := [.val (HDR none 0 0 0), .val (S (rI .i64) (0 : Int)), .val (S (rI .i64) (1 : Int))]) () (.inl rfl) (.nil rfl) rfl (.cons (.tmp rfl) (.cons (.tmp rfl) (.cons (.tmp rfl) .nil))) rfl rfl rfl
   refine JC.skip <| JQ.then <| jr <| jx (op_alloc lb tZ53 zr53) fun gb_10 => jn <| jr <| jx (op_alloc lb tZ3 zr3) fun gb_11 => jc (op_storeS (j := 4) tS3 tR .cI rfl rfl (UpdR.self (by rfl)) rfl) <| jn <| jr <| jx (op_alloc lb tZ57 zr57) fun gb_12 => jn <| jr <| jc (op_makeFunc lb (.cons tR (.cons tR (.cons tR (.cons tR (.cons tR .nil)))))) <| jc (op_storeW (j := 5) tS57 tR tR rfl (UpdR.self (by rfl)) rfl) <| JL.sub ⟨[(7, ov (PTR gb_10 0)), (8, ov (PTR gb_11 0)), (9, ov (PTR gb_12 0))], [cvar gb_3 (rW (PTR gb_2 0)) (), cvar gb_2 r_merkle_Tree t_1, cvar gb_4 (rW (PTO none)) (), cvar gb_10 (rW (HDR none 0 0 0)) (), cvar gb_11 (rI .i64) (0 : Int), zq4 gb_12 gb_11 gb_3 gb_4 gb_10], []⟩ (.cons rfl (.cons rfl (.cons rfl .nil))) rfl rfl ?_
   refine jn <| jr <| jc (op_loadW (j := 5) lb tS57 tR rfl (Comp.self (rW (CLO 35 [PTR gb_11 0, PTR gb_3 0, PTR gb_4 0, PTR gb_10 0, PTR gb_12 0])) ())) ?_
   cases hq1
 refine JC.region <| jc (op_loadW (j := 1) lb tS24 tR rfl (Comp.self (rW (PTR gb_2 0)) ())) <| bI hx1 fun _ hv_u_5 hx1 => jx (op_call (js := [0]) ld cl29 (sim_merkle_Tree_there k t_1 gb_2 () hv_u_5) .func (.cons tR .nil) rfl) fun _ => JL.sub ⟨[(2, ov (PTR gb_3 0)), (3, ov (PTR gb_4 0)), (11, ov (S rB t_1.is))], [cvar gb_2 r_merkle_Tree t_1, cvar gb_3 (rW (PTR gb_2 0)) (), cvar gb_4 (rW (PTO none)) ()], []⟩ (.cons rfl (.cons rfl (.cons rfl .nil))) rfl rfl <| lI hx1 fun v_6 hv_6 hx1 => jc (op_not lb tR hv_6) <| jmv rfl rfl <| jF (ov (PTO none)) rfl rfl rfl rfl (fun hq_2 => op_loadW (j := 2) lb tS24 tR rfl (Comp.self (rW (PTO none)) ())) <| bI hx1 fun _ hv_u_7 hx1 => jF (ov (S rB false)) rfl rfl rfl rfl (fun hq_3 => (op_call (js := []) ld cl29 (sim_merkle_Tree_there_n k () (ifT hv_u_7 hq_3)) .func (.cons (HasO.cnd tR (notT (notF hq_3))) .nil) rfl).post (fun _ => Imp.refl)) ?_
 refine jF (ov (S rB true)) rfl rfl rfl rfl (fun hq_4 => op_not lb (HasO.cnd tR (notT (notF hq_4))) rfl) <| lI hx1 fun v_8 hv_8 hx1 => jc (op_pickCS lb tR (fun hb5 => .cB) (fun hb5 => (HasO.cnd tR (notT hb5))) hv_8) <| JL.nil ?_
 try obtain rfl := so hx1
 exact JQ.join () (Imp.norm (js := [1, 0, 0]) rfl (.cons rfl (.cons rfl (.cons rfl .nil))))

end Go.Proofs.Ytbflmobpbjnekaa
