/- Walks. -/
import Derived.Test.YtbflmobpbjnekaaT
import Derived.Test.YtbflmobpbjnekaaW0
import Derived.Test.YtbflmobpbjnekaaW2
import Derived.Test.YtbflmobpbjnekaaW3
import Derived.Test.YtbflmobpbjnekaaW4
import Derived.Test.YtbflmobpbjnekaaW5
import Derived.Test.YtbflmobpbjnekaaW8
namespace Go.Proofs.Ytbflmobpbjnekaa
open Go Fw
set_option linter.unusedVariables false
set_option maxRecDepth 100000
set_option maxHeartbeats 4000000

theorem sim_law08_stands (k : Nat) (a_1 : (List (Vector UInt8 32))) (t_2 : merkle_Tree) (gb_3 : Nat) (r : Bool) (hm : law08_stands k a_1 t_2 = some r) : Sim Try.prog 10 [PTR gb_3 0, S (rL (rV 32 (rU UInt8))) a_1] [cvar gb_3 r_merkle_Tree t_2] (γ := Unit) (fun q => [cvar gb_3 r_merkle_Tree t_2]) (fun q => .one (.val (S rB r))) := by
 unfold law08_stands at hm
 refine Sim.of Try.func10 rfl rfl (lE rfl) (fun e0 w0 => ?_)
 refine JC.at ⟨[(0, ov (PTR gb_3 0)), (1, ov (S (rL (rV 32 (rU UInt8))) a_1))], [cvar gb_3 r_merkle_Tree t_2], []⟩ <| jr <| jc (op_assign lb .cB) <| jn <| jr <| jmv rfl rfl <| bI hm fun v_4 hv_4 hm => jx (op_call (js := []) ld cl27 (sim_ref08_Nodes k a_1 v_4 hv_4) .func (.cons tR .nil) rfl) fun go_5 => jc (op_assign lb tR) <| jn <| bI hm fun tv1 hx1 hq1 => JC.seqK (α := Unit) (γ := Unit) (stj := fun v q => ⟨[(0, ov (PTR gb_3 0)), (1, ov (S (rL (rV 32 (rU UInt8))) a_1)), (5, ov (HDR go_5 0 (List.length v_4) (Int.toNat (128 : Int))))], [cvar gb_3 r_merkle_Tree t_2, cown go_5 (rV 32 (rU UInt8)) v_4 0 (Int.toNat (128 : Int))], []⟩) (p := fun v => tv1 = (.inl v)) (fun v q hv => ?_) ?_
 · subst hv
   skip
   obtain _ := q
   dsimp only at hq1
   refine JC.at ⟨[(0, ov (PTR gb_3 0)), (1, ov (S (rL (rV 32 (rU UInt8))) a_1)), (5, ov (HDR go_5 0 (List.length v_4) (Int.toNat (128 : Int))))], [cvar gb_3 r_merkle_Tree t_2, cown go_5 (rV 32 (rU UInt8)) v_4 0 (Int.toNat (128 : Int))], []⟩ <| jr <| jmv rfl rfl <| bI hq1 fun v_28 hv_28 hq1 => jx (op_call (js := [0]) ld cl23 (sim_merkle_Tree_Leaves k t_2 gb_3 v_28 hv_28) .func (.cons tR .nil) rfl) (fun q => ?_)
   obtain ⟨go_29, gc_30⟩ := q
   refine jc (op_assign lb tR) <| jn <| JC.seq <| bI hq1 fun x_37 hx22 hq22 => JC.seqJ (γ := Unit) (stj := fun _ => ⟨[(0, ov (PTR gb_3 0)), (1, ov (S (rL (rV 32 (rU UInt8))) a_1)), (9, ov (HDR go_29 0 (List.length v_28) gc_30)), (61, ov (S rB x_37))], [cvar gb_3 r_merkle_Tree t_2, cown go_29 (rV 32 (rU UInt8)) v_28 0 gc_30], []⟩) (fun _ => ?_) ?_
   · refine jif tR hq22 (fun hc26 hq22 => ?_) (fun hc26 hq22 => ?_)
     · refine jr <| jc (op_assign lb .cB) <| jn <| JC.ret <| JQ.outR ?_
       obtain rfl := so hq22
       exact JQ.done (js := [0]) (ss := [.val (S rB false)]) () (.inl rfl) (.nil rfl) rfl (.cons (.tmp rfl) .nil) rfl rfl rfl
     refine JC.skip <| JQ.then <| bI hq22 fun _ hx27 hq27 => JC.seqJ (γ := Unit) (stj := fun _ => ⟨[(0, ov (PTR gb_3 0)), (1, ov (S (rL (rV 32 (rU UInt8))) a_1))], [cvar gb_3 r_merkle_Tree t_2], []⟩) (fun _ => ?_) ?_
     · refine jr <| jmv rfl rfl <| bI hq27 fun v_44 hv_44 hq27 => jx (op_call (js := [0]) ld cl23 (sim_merkle_Tree_Leaves k t_2 gb_3 v_44 hv_44) .func (.cons tR .nil) rfl) (fun q => ?_)
       obtain ⟨go_45, gc_46⟩ := q
       refine jmv rfl rfl <| bI hq27 fun v_47 hv_47 hq27 => jx (op_call (js := [0]) ld cl21 (sim_ref08_Same_ov k a_1 v_44 go_45 gc_46 v_47 hv_47) .func (.cons tR (.cons tR .nil)) rfl) fun _ => jc (op_assign lb tR) <| jn <| JC.ret ?_
       obtain rfl := so hq27
       exact JQ.done (js := [1]) (ss := [.val (S rB v_47)]) () (.inl rfl) (.nil rfl) rfl (.cons (.tmp rfl) .nil) rfl rfl rfl
     refine jr <| jc (op_assign lb .cI) <| jn <| JC.block <| JC.pre ?_ (JC.loop (γ := Unit) (stf := fun s q => ⟨[(0, ov (PTR gb_3 0)), (1, ov (S (rL (rV 32 (rU UInt8))) a_1)), (9, ov (HDR go_29 0 (List.length s.1) gc_30)), (10, ov (S (rI .i64) s.2))], [cvar gb_3 r_merkle_Tree t_2, cown go_29 (rV 32 (rU UInt8)) s.1 0 gc_30], []⟩) (q := ()) hx27 ?_)
     · exact (Imp.norm (js := [0, 0]) rfl (.cons rfl (.cons rfl (.cons rfl (.cons rfl .nil)))))
     intro s q x hx hr
     obtain ⟨x_38, x_39⟩ := s
     obtain _ := q
     change law08_stands.b2 k x_38 x_39 = some x at hx
     unfold law08_stands.b2 at hx
     refine JC.at ⟨[(0, ov (PTR gb_3 0)), (1, ov (S (rL (rV 32 (rU UInt8))) a_1)), (9, ov (HDR go_29 0 (List.length x_38) gc_30)), (10, ov (S (rI .i64) x_39))], [cvar gb_3 r_merkle_Tree t_2, cown go_29 (rV 32 (rU UInt8)) x_38 0 gc_30], []⟩ <| JC.seq <| jr <| jmv rfl rfl <| jmv rfl rfl <| jc (op_lenH lb tu22 tR) <| lI hx fun v_40 hv_40 hx => jc (op_cmpI lb tR tR (cs hv_40)) <| jn <| jif tR hx (fun hc29 hx => ?_) (fun hc29 hx => ?_)
     · refine JC.skip <| JQ.then <| JC.seq <| JC.block <| JC.region <| jmv rfl rfl <| jmv rfl rfl <| jc (op_build lb tZ30 zv30 tp30 .nil rfl) <| bI hx fun i_41 hv_i_41 hx => jc (op_indexAddrOF (r := (rV 32 (rU UInt8))) (j := 1) lb tu22 tz30 rfl tR tR hv_i_41) <| bI hx fun x_42 hv_x_42 hx => jc (op_storeOAg (r := (rV 32 (rU UInt8))) (j := 1) tA30 rfl tR tR hv_x_42) <| JL.pre (Imp.slot (s := 9) (q := HDR go_29 0 (List.length x_42) gc_30) rfl (wkLen (setO'_len hv_x_42))) <| JL.pre (Imp.slot (s := 63) (q := HDR go_29 0 (List.length x_42) gc_30) rfl (wkLen (setO'_len hv_x_42))) ?_
       refine JL.pre (Imp.slot (s := 68) (q := HDR go_29 0 (List.length x_42) gc_30) rfl (wkLen (setO'_len hv_x_42))) <| JL.nil <| JQ.outNB <| JQ.then <| JC.region <| jmv rfl rfl <| JL.sub ⟨[(0, ov (PTR gb_3 0)), (1, ov (S (rL (rV 32 (rU UInt8))) a_1)), (9, ov (HDR go_29 0 (List.length x_42) gc_30)), (10, ov (S (rI .i64) x_39)), (66, ov (S (rI .i64) x_39))], [cvar gb_3 r_merkle_Tree t_2, cown go_29 (rV 32 (rU UInt8)) x_42 0 gc_30], []⟩ (.cons rfl (.cons rfl (.cons rfl (.cons rfl (.cons rfl .nil))))) rfl rfl <| lI hx fun v_43 hv_43 hx => jc (op_arI lb tR .cI (cs hv_43)) <| jc (op_assign lb tR) <| JL.nil ?_
       try obtain rfl := so hx
       exact JQ.next () rfl (Imp.norm (js := [0, 0]) rfl (.cons rfl (.cons rfl (.cons rfl (.cons rfl .nil)))))
     refine JC.exit <| JQ.outX ?_
     try obtain rfl := so hx
     have ht := hr _ rfl
     have hq28 := cs ht
     clear hr ht
     exact JQ.outX <| JQ.here <| JQ.join () (Imp.norm (js := [0]) rfl (.cons rfl (.cons rfl .nil)))
   refine bI hx22 fun v_31 hv_31 hx22 => ?_
   obtain ⟨v_32, hv_32, hx22⟩ := lt1_inv hx22
   rcases iteB_inv hx22 with ⟨hc25, hx22⟩ | ⟨hc25, hx22⟩
   · refine JC.anyF (base := [(0, ov (PTR gb_3 0)), (1, ov (S (rL (rV 32 (rU UInt8))) a_1)), (9, ov (HDR go_29 0 (List.length v_28) gc_30))])
         (fs := fun γ => [⟨some 50, ov (HDR go_29 0 (List.length v_28) gc_30)⟩, ⟨some 51, ov (S (rL (rV 32 (rU UInt8))) a_1)⟩, ⟨some 52, ov (S rB v_31)⟩, ⟨some 53, ov (S rB v_32)⟩, ⟨some 54, ov (S rB v_32)⟩, ⟨some 55, bif (!v_32) then ov (PTR gb_3 0) else .one .und⟩, ⟨some 56, .one .und⟩, ⟨some 57, .one .und⟩, ⟨some 58, .one .und⟩, ⟨some 59, .one .und⟩, ⟨some 60, .one .und⟩, ⟨some 61, ov (S rB true)⟩])
         (rs := fun γ => [⟨cown go_29 (rV 32 (rU UInt8)) v_28 0 gc_30, none, none, [2]⟩, ⟨cvar gb_3 r_merkle_Tree t_2, none, none, []⟩, ⟨cown go_5 (rV 32 (rU UInt8)) v_4 0 (Int.toNat (128 : Int)), none, none, []⟩])
         (afts := nn 12) (js := [0, 0, 0]) mixed (.cons rfl (.cons rfl (.cons rfl .nil))) (fun _ => rfl)
         (by
      refine db 1 9 <| db 2 1 <| dR 3 (fun γ ρ B hb hd => OpStep.lk ⟨ρ, (cown go_29 (rV 32 (rU UInt8)) v_28 0 gc_30) :: B, _⟩ ((op_call (js := [0]) ld cl21 (sim_ref08_Same_ov k a_1 v_28 go_29 gc_30 v_31 hv_31) .func (.cons (tl hd 0 50) (.cons (tl hd 1 51) .nil)) rfl).post (fun _ => Imp.pick (js := [0]) rfl rfl))) <| dS 4 (fun γ ρ B hb hd => op_not lb (tl hd 2 52) hv_32) <| dm 5 3 53 ?_
      refine dF 6 4 54 v_32 (fun γ => ov (PTR gb_3 0)) (fun γ ρ B hb hd hq_23 => op_move lb (.tmp (hb 0 _ rfl))) ?_
      refine kn 7 4 54 rfl hc25 <| kn 8 4 54 rfl hc25 <| kn 9 4 54 rfl hc25 <| kn 10 4 54 rfl hc25 <| kn 11 4 54 rfl hc25 ?_
      refine dS 12 (fun γ ρ B hb hd => op_pickT lb (tl hd 4 54) hc25 .cB) ?_
      exact DSteps.nil)
         (by decide +kernel) (fun _ => rfl) (fun _ => rfl) (fun _ => rfl) rfl
         (ρ' := fun γ => [(0, ov (PTR gb_3 0)), (1, ov (S (rL (rV 32 (rU UInt8))) a_1)), (9, ov (HDR go_29 0 (List.length v_28) gc_30)), (61, ov (S rB true))])
         (X' := fun γ => [cown go_29 (rV 32 (rU UInt8)) v_28 0 gc_30, cvar gb_3 r_merkle_Tree t_2, cown go_5 (rV 32 (rU UInt8)) v_4 0 (Int.toNat (128 : Int))])
         (fun γ ρ hb hd => (.cons (hb 0 _ rfl) (.cons (hb 1 _ rfl) (.cons (hb 9 _ rfl) (.cons (hdq hd 11 61 rfl) .nil))))) (fun _ => rfl) (fun γ => ?_)
     refine JQ.at ⟨[(0, ov (PTR gb_3 0)), (1, ov (S (rL (rV 32 (rU UInt8))) a_1)), (9, ov (HDR go_29 0 (List.length v_28) gc_30)), (61, ov (S rB true))], [cown go_29 (rV 32 (rU UInt8)) v_28 0 gc_30, cvar gb_3 r_merkle_Tree t_2, cown go_5 (rV 32 (rU UInt8)) v_4 0 (Int.toNat (128 : Int))], []⟩ ?_
     try obtain rfl := so hx22
     exact JQ.join () (Imp.norm (js := [1, 0]) rfl (.cons rfl (.cons rfl (.cons rfl (.cons rfl .nil)))))
   refine bI hx22 fun v_33 hv_33 hx22 => bI hx22 fun i_34 hv_i_34 hx22 => bI hx22 fun v_35 hv_35 hx22 => ?_
   obtain ⟨v_36, hv_36, hx22⟩ := lt1_inv hx22
   refine JC.anyF (base := [(0, ov (PTR gb_3 0)), (1, ov (S (rL (rV 32 (rU UInt8))) a_1)), (5, ov (HDR go_5 0 (List.length v_4) (Int.toNat (128 : Int)))), (9, ov (HDR go_29 0 (List.length v_28) gc_30))])
       (fs := fun γ => [⟨some 50, ov (HDR go_29 0 (List.length v_28) gc_30)⟩, ⟨some 51, ov (S (rL (rV 32 (rU UInt8))) a_1)⟩, ⟨some 52, ov (S rB v_31)⟩, ⟨some 53, ov (S rB v_32)⟩, ⟨some 54, ov (S rB v_32)⟩, ⟨some 55, bif (!v_32) then ov (PTR gb_3 0) else .one .und⟩, ⟨some 56, ov (A (rV 32 (rU UInt8)) v_33)⟩, ⟨some 57, ov (HDR go_5 0 (List.length v_4) (Int.toNat (128 : Int)))⟩, ⟨some 58, ov (EPT go_5 (i_34 * 32))⟩, ⟨some 59, ov (A (rV 32 (rU UInt8)) v_35)⟩, ⟨some 60, ov (S rB v_36)⟩, ⟨some 61, ov (S rB v_36)⟩])
       (rs := fun γ => [⟨cown go_29 (rV 32 (rU UInt8)) v_28 0 gc_30, none, none, [2]⟩, ⟨cvar gb_3 r_merkle_Tree t_2, none, none, [6]⟩, ⟨cown go_5 (rV 32 (rU UInt8)) v_4 0 (Int.toNat (128 : Int)), none, none, [8, 9]⟩])
       (afts := nn 12) (js := [0, 0, 0]) mixed (.cons rfl (.cons rfl (.cons rfl (.cons rfl .nil)))) (fun _ => rfl)
       (by
      refine db 1 9 <| db 2 1 <| dR 3 (fun γ ρ B hb hd => OpStep.lk ⟨ρ, (cown go_29 (rV 32 (rU UInt8)) v_28 0 gc_30) :: B, _⟩ ((op_call (js := [0]) ld cl21 (sim_ref08_Same_ov k a_1 v_28 go_29 gc_30 v_31 hv_31) .func (.cons (tl hd 0 50) (.cons (tl hd 1 51) .nil)) rfl).post (fun _ => Imp.pick (js := [0]) rfl rfl))) <| dS 4 (fun γ ρ B hb hd => op_not lb (tl hd 2 52) hv_32) <| dm 5 3 53 ?_
      refine dF 6 4 54 v_32 (fun γ => ov (PTR gb_3 0)) (fun γ ρ B hb hd hq_23 => op_move lb (.tmp (hb 0 _ rfl))) ?_
      refine dY 7 (fun γ ρ B hb hd => ⟨.yes rfl (ltB rfl) (hl hd 4 54 rfl) hc25, OpStep.lk ⟨ρ, (cvar gb_3 r_merkle_Tree t_2) :: B, _⟩ ((op_call (js := [0]) ld cl16 (sim_merkle_Tree_Root k t_2 gb_3 v_33 hv_33) .func (.cons (HasO.cnd (tl hd 5 55) (notT hc25)) .nil) rfl).post (fun _ => Imp.pick (js := [0]) rfl rfl))⟩) <| dY 8 (fun γ ρ B hb hd => ⟨.yes rfl (ltB rfl) (hl hd 4 54 rfl) hc25, lkB (op_move lb (.tmp (hb 5 _ rfl)))⟩) <| dY 9 (fun γ ρ B hb hd => ⟨.yes rfl (ltB rfl) (hl hd 4 54 rfl) hc25, OpStep.lk ⟨ρ, (cown go_5 (rV 32 (rU UInt8)) v_4 0 (Int.toNat (128 : Int))) :: B, _⟩ (op_indexAddrOF (r := (rV 32 (rU UInt8))) (j := 0) lb tu22 tz30 rfl (tl hd 7 57) .cI hv_i_34)⟩) <| dY 10 (fun γ ρ B hb hd => ⟨.yes rfl (ltB rfl) (hl hd 4 54 rfl) hc25, OpStep.lk ⟨ρ, (cown go_5 (rV 32 (rU UInt8)) v_4 0 (Int.toNat (128 : Int))) :: B, _⟩ (op_loadOA (r := (rV 32 (rU UInt8))) (i := i_34) (off := 0) (j := 0) lb tA30 rfl (tl hd 8 58) hv_35 (Comp.self (rV 32 (rU UInt8)) v_35) (by decide))⟩) <| dY 11 (fun γ ρ B hb hd => ⟨.yes rfl (ltB rfl) (hl hd 4 54 rfl) hc25, lkB (op_neA lb qa30 (by decide) ng30 (tl hd 6 56) (tl hd 9 59) hv_36)⟩) ?_
      refine dS 12 (fun γ ρ B hb hd => op_pickF lb (tl hd 4 54) hc25 (tl hd 10 60)) ?_
      exact DSteps.nil)
       (by decide +kernel) (fun _ => rfl) (fun _ => rfl) (fun _ => rfl) rfl
       (ρ' := fun γ => [(0, ov (PTR gb_3 0)), (1, ov (S (rL (rV 32 (rU UInt8))) a_1)), (9, ov (HDR go_29 0 (List.length v_28) gc_30)), (61, ov (S rB v_36))])
       (X' := fun γ => [cown go_29 (rV 32 (rU UInt8)) v_28 0 gc_30, cvar gb_3 r_merkle_Tree t_2, cown go_5 (rV 32 (rU UInt8)) v_4 0 (Int.toNat (128 : Int))])
       (fun γ ρ hb hd => (.cons (hb 0 _ rfl) (.cons (hb 1 _ rfl) (.cons (hb 9 _ rfl) (.cons (hdq hd 11 61 rfl) .nil))))) (fun _ => rfl) (fun γ => ?_)
   refine JQ.at ⟨[(0, ov (PTR gb_3 0)), (1, ov (S (rL (rV 32 (rU UInt8))) a_1)), (9, ov (HDR go_29 0 (List.length v_28) gc_30)), (61, ov (S rB v_36))], [cown go_29 (rV 32 (rU UInt8)) v_28 0 gc_30, cvar gb_3 r_merkle_Tree t_2, cown go_5 (rV 32 (rU UInt8)) v_4 0 (Int.toNat (128 : Int))], []⟩ ?_
   try obtain rfl := so hx22
   exact JQ.join () (Imp.norm (js := [1, 0]) rfl (.cons rfl (.cons rfl (.cons rfl (.cons rfl .nil)))))
 refine jr <| jc (op_assign lb .cI) <| jn <| JC.block <| bI hx1 fun tv2 hL2 hq2 => JC.pre ?_ (JC.loop (γ := Unit) (stf := fun s q => ⟨[(0, ov (PTR gb_3 0)), (1, ov (S (rL (rV 32 (rU UInt8))) a_1)), (5, ov (HDR go_5 0 (List.length v_4) (Int.toNat (128 : Int)))), (6, ov (S (rI .i64) s))], [cvar gb_3 r_merkle_Tree t_2, cown go_5 (rV 32 (rU UInt8)) v_4 0 (Int.toNat (128 : Int))], []⟩) (q := ()) hL2 ?_)
 · exact (Imp.norm (js := [1, 0]) rfl (.cons rfl (.cons rfl (.cons rfl (.cons rfl .nil)))))
 intro x_6 q x hx hr
 obtain _ := q
 change law08_stands.b1 k t_2 v_4 x_6 = some x at hx
 unfold law08_stands.b1 at hx
 refine JC.at ⟨[(0, ov (PTR gb_3 0)), (1, ov (S (rL (rV 32 (rU UInt8))) a_1)), (5, ov (HDR go_5 0 (List.length v_4) (Int.toNat (128 : Int)))), (6, ov (S (rI .i64) x_6))], [cvar gb_3 r_merkle_Tree t_2, cown go_5 (rV 32 (rU UInt8)) v_4 0 (Int.toNat (128 : Int))], []⟩ <| JC.seq <| jr <| jmv rfl rfl <| lI hx fun v_7 hv_7 hx => jc (op_cmpI lb tR .cI (cs hv_7)) <| jn <| jif tR hx (fun hc3 hx => ?_) (fun hc3 hx => ?_)
 · refine JC.skip <| JQ.then <| bI hx fun tv4 hx4 hq4 => JC.seqK (α := Unit) (γ := Unit) (stj := fun v q => ⟨[(0, ov (PTR gb_3 0)), (1, ov (S (rL (rV 32 (rU UInt8))) a_1)), (5, ov (HDR go_5 0 (List.length v_4) (Int.toNat (128 : Int)))), (6, ov (S (rI .i64) x_6))], [cvar gb_3 r_merkle_Tree t_2, cown go_5 (rV 32 (rU UInt8)) v_4 0 (Int.toNat (128 : Int))], []⟩) (p := fun v => tv4 = (.inl v)) (fun v q hv => ?_) ?_
   · subst hv
     skip
     obtain _ := q
     dsimp only at hq4
     refine JC.at ⟨[(0, ov (PTR gb_3 0)), (1, ov (S (rL (rV 32 (rU UInt8))) a_1)), (5, ov (HDR go_5 0 (List.length v_4) (Int.toNat (128 : Int)))), (6, ov (S (rI .i64) x_6))], [cvar gb_3 r_merkle_Tree t_2, cown go_5 (rV 32 (rU UInt8)) v_4 0 (Int.toNat (128 : Int))], []⟩ <| JC.region <| jmv rfl rfl <| lI hq4 fun v_27 hv_27 hq4 => jc (op_arI lb tR .cI (cs hv_27)) <| jc (op_assign lb tR) <| JL.nil ?_
     try obtain rfl := so hq4
     exact JQ.next () rfl (Imp.norm (js := [0, 0]) rfl (.cons rfl (.cons rfl (.cons rfl (.cons rfl .nil)))))
   refine JC.block <| jr <| jmv rfl rfl <| jmv rfl rfl ?_
   obtain ⟨⟨v_8, v_9⟩, hv_8, hx4⟩ := bnd_inv hx4
   refine jx (op_call (js := [0]) ld cl14 (sim_merkle_Tree_Node k x_6 t_2 gb_3 (v_8, v_9) hv_8) .func (.cons tR (.cons tR .nil)) rfl) fun _ => jmv rfl rfl <| jc (op_extract (i := 0) lb tR rfl) <| jc (op_extract (i := 1) lb tR rfl) <| jx (op_alloc lb tZ30 zr30) fun gb_10 => jc (op_storeA (j := 2) tA30 tR tR rfl (UpdR.self (by rfl)) rfl) <| JL.sub ⟨[(0, ov (PTR gb_3 0)), (1, ov (S (rL (rV 32 (rU UInt8))) a_1)), (5, ov (HDR go_5 0 (List.length v_4) (Int.toNat (128 : Int)))), (6, ov (S (rI .i64) x_6)), (7, ov (PTR gb_10 0)), (22, ov (S (rI .i64) v_9))], [cvar gb_3 r_merkle_Tree t_2, cown go_5 (rV 32 (rU UInt8)) v_4 0 (Int.toNat (128 : Int)), cvar gb_10 (rV 32 (rU UInt8)) v_8], []⟩ (.cons rfl (.cons rfl (.cons rfl (.cons rfl (.cons rfl (.cons rfl .nil)))))) rfl rfl <| jc (op_assign lb tR) <| jn <| bI hx4 fun x_14 hx5 hq5 => JC.seqJ (γ := Unit) (stj := fun _ => ⟨[(0, ov (PTR gb_3 0)), (1, ov (S (rL (rV 32 (rU UInt8))) a_1)), (5, ov (HDR go_5 0 (List.length v_4) (Int.toNat (128 : Int)))), (6, ov (S (rI .i64) x_6)), (7, ov (PTR gb_10 0)), (8, ov (S (rI .i64) v_9)), (28, ov (S rB x_14))], [cvar gb_3 r_merkle_Tree t_2, cown go_5 (rV 32 (rU UInt8)) v_4 0 (Int.toNat (128 : Int)), cvar gb_10 (rV 32 (rU UInt8)) v_8], []⟩) (fun _ => ?_) ?_
   · refine jif tR hq5 (fun hc9 hq5 => ?_) (fun hc9 hq5 => ?_)
     · refine bI hq5 fun x_19 hx10 hq10 => JC.seqJ (γ := Unit) (stj := fun _ => ⟨[(0, ov (PTR gb_3 0)), (1, ov (S (rL (rV 32 (rU UInt8))) a_1)), (5, ov (HDR go_5 0 (List.length v_4) (Int.toNat (128 : Int)))), (6, ov (S (rI .i64) x_6)), (36, ov (S rB x_19))], [cvar gb_3 r_merkle_Tree t_2, cown go_5 (rV 32 (rU UInt8)) v_4 0 (Int.toNat (128 : Int))], []⟩) (fun _ => ?_) ?_
       · refine jif tR hq10 (fun hc15 hq10 => ?_) (fun hc15 hq10 => ?_)
         · refine jr <| jc (op_assign lb .cB) <| jn <| JC.ret <| JQ.outRB ?_
           try obtain rfl := so hq10
           dsimp only at hq4
           refine JQ.outR ?_
           try obtain rfl := so hq4
           try obtain rfl := hr _ rfl
           dsimp only at hq2
           refine JQ.outR <| JQ.outRB ?_
           try obtain rfl := so hq2
           dsimp only at hq1
           refine JQ.outR ?_
           obtain rfl := so hq1
           exact JQ.done (js := [0]) (ss := [.val (S rB false)]) () (.inl rfl) (.nil rfl) rfl (.cons (.tmp rfl) .nil) rfl rfl rfl
         refine JC.skip <| JQ.outNB ?_
         try obtain rfl := so hq10
         exact JQ.joinK () () rfl (Imp.norm (js := [0, 0]) rfl (.cons rfl (.cons rfl (.cons rfl (.cons rfl .nil)))))
       refine JC.region <| jc (op_loadA (j := 2) lb tA30 tR rfl (Comp.self (rV 32 (rU UInt8)) v_8) rfl) <| jc (op_build lb tZ30 zv30 tp30 .nil rfl) <| lI hx10 fun v_15 hv_15 hx10 => jc (op_neA lb qa30 (by decide) ng30 tR tR hv_15) <| jmv rfl rfl <| jF (ov (S (rI .i64) v_9)) rfl rfl rfl rfl (fun hq_11 => op_move lb tR) <| bI hx10 fun _ hv_u_16 hx10 => jF (ov (S (rI .i64) v_9)) rfl rfl rfl rfl (fun hq_12 => (op_call (js := []) ld cl9 (sim_law08_num k v_9 () (ifT hv_u_16 hq_12)) .func (.cons (HasO.cnd tR (notT (notF hq_12))) .nil) rfl).post (fun _ => Imp.refl)) <| lI hx10 fun v_17 hv_17 hx10 => jF (ov (S rB v_17)) rfl rfl rfl rfl (fun hq_13 => op_cmpI lb (HasO.cnd tR (notT (notF hq_13))) .cI (cs hv_17)) ?_
       obtain ⟨v_18, hv_18, hx10⟩ := lt1_inv hx10
       refine jc (op_pickCS lb tR (fun hb14 => .cB) (fun hb14 => (HasO.cnd tR (notT hb14))) hv_18) <| JL.nil ?_
       try obtain rfl := so hx10
       exact JQ.join () (Imp.norm (js := [0, 0]) rfl (.cons rfl (.cons rfl (.cons rfl (.cons rfl (.cons rfl .nil))))))
     refine bI hq5 fun x_26 hx16 hq16 => JC.seqJ (γ := Unit) (stj := fun _ => ⟨[(0, ov (PTR gb_3 0)), (1, ov (S (rL (rV 32 (rU UInt8))) a_1)), (5, ov (HDR go_5 0 (List.length v_4) (Int.toNat (128 : Int)))), (6, ov (S (rI .i64) x_6)), (47, ov (S rB x_26))], [cvar gb_3 r_merkle_Tree t_2, cown go_5 (rV 32 (rU UInt8)) v_4 0 (Int.toNat (128 : Int))], []⟩) (fun _ => ?_) ?_
     · refine jif tR hq16 (fun hc21 hq16 => ?_) (fun hc21 hq16 => ?_)
       · refine jr <| jc (op_assign lb .cB) <| jn <| JC.ret <| JQ.outRB ?_
         try obtain rfl := so hq16
         dsimp only at hq4
         refine JQ.outR ?_
         try obtain rfl := so hq4
         try obtain rfl := hr _ rfl
         dsimp only at hq2
         refine JQ.outR <| JQ.outRB ?_
         try obtain rfl := so hq2
         dsimp only at hq1
         refine JQ.outR ?_
         obtain rfl := so hq1
         exact JQ.done (js := [0]) (ss := [.val (S rB false)]) () (.inl rfl) (.nil rfl) rfl (.cons (.tmp rfl) .nil) rfl rfl rfl
       refine JC.skip <| JQ.outNB ?_
       try obtain rfl := so hq16
       exact JQ.joinK () () rfl (Imp.norm (js := [0, 0]) rfl (.cons rfl (.cons rfl (.cons rfl (.cons rfl .nil)))))
     refine bI hx16 fun i_20 hv_i_20 hx16 => bI hx16 fun v_21 hv_21 hx16 => lI hx16 fun v_22 hv_22 hx16 => bI hx16 fun _ hv_u_23 hx16 => lI hx16 fun v_24 hv_24 hx16 => ?_
     obtain ⟨v_25, hv_25, hx16⟩ := lt1_inv hx16
     refine JC.anyF (base := [(0, ov (PTR gb_3 0)), (1, ov (S (rL (rV 32 (rU UInt8))) a_1)), (5, ov (HDR go_5 0 (List.length v_4) (Int.toNat (128 : Int)))), (6, ov (S (rI .i64) x_6)), (7, ov (PTR gb_10 0)), (8, ov (S (rI .i64) v_9))])
         (fs := fun γ => [⟨some 37, ov (A (rV 32 (rU UInt8)) v_8)⟩, ⟨some 38, ov (HDR go_5 0 (List.length v_4) (Int.toNat (128 : Int)))⟩, ⟨some 39, ov (S (rI .i64) x_6)⟩, ⟨some 40, ov (EPT go_5 (i_20 * 32))⟩, ⟨some 41, ov (A (rV 32 (rU UInt8)) v_21)⟩, ⟨some 42, ov (S rB v_22)⟩, ⟨some 43, ov (S rB v_22)⟩, ⟨some 44, bif (!v_22) then ov (S (rI .i64) v_9) else .one .und⟩, ⟨some 45, bif (!v_22) then ov (S (rI .i64) v_9) else .one .und⟩, ⟨some 46, bif (!v_22) then ov (S rB v_24) else .one .und⟩, ⟨some 47, ov (S rB v_25)⟩])
         (rs := fun γ => [⟨cvar gb_3 r_merkle_Tree t_2, none, none, []⟩, ⟨cown go_5 (rV 32 (rU UInt8)) v_4 0 (Int.toNat (128 : Int)), none, none, [3, 4]⟩, ⟨cvar gb_10 (rV 32 (rU UInt8)) v_8, none, none, [0]⟩])
         (afts := nn 11) (js := [0, 0, 0]) mixed (.cons rfl (.cons rfl (.cons rfl (.cons rfl (.cons rfl (.cons rfl .nil)))))) (fun _ => rfl)
         (by
      refine dR 1 (fun γ ρ B hb hd => OpStep.lk ⟨ρ, (cvar gb_10 (rV 32 (rU UInt8)) v_8) :: B, _⟩ (op_loadA (j := 0) lb tA30 (.tmp (hb 7 _ rfl)) rfl (Comp.self (rV 32 (rU UInt8)) v_8) rfl)) <| db 2 5 <| db 3 6 <| dR 4 (fun γ ρ B hb hd => OpStep.lk ⟨ρ, (cown go_5 (rV 32 (rU UInt8)) v_4 0 (Int.toNat (128 : Int))) :: B, _⟩ (op_indexAddrOF (r := (rV 32 (rU UInt8))) (j := 0) lb tu22 tz30 rfl (tl hd 1 38) (tl hd 2 39) hv_i_20)) <| dR 5 (fun γ ρ B hb hd => OpStep.lk ⟨ρ, (cown go_5 (rV 32 (rU UInt8)) v_4 0 (Int.toNat (128 : Int))) :: B, _⟩ (op_loadOA (r := (rV 32 (rU UInt8))) (i := i_20) (off := 0) (j := 0) lb tA30 rfl (tl hd 3 40) hv_21 (Comp.self (rV 32 (rU UInt8)) v_21) (by decide))) ?_
      refine dS 6 (fun γ ρ B hb hd => op_neA lb qa30 (by decide) ng30 (tl hd 0 37) (tl hd 4 41) hv_22) <| dm 7 5 42 ?_
      refine dF 8 6 43 v_22 (fun γ => ov (S (rI .i64) v_9)) (fun γ ρ B hb hd hq_17 => op_move lb (.tmp (hb 8 _ rfl))) ?_
      refine dF 9 6 43 v_22 (fun γ => ov (S (rI .i64) v_9)) (fun γ ρ B hb hd hq_18 => (op_call (js := []) ld cl9 (sim_law08_num k v_9 () (ifT hv_u_23 hq_18)) .func (.cons (HasO.cnd (tl hd 7 44) (notT (notF hq_18))) .nil) rfl).post (fun _ => Imp.refl)) ?_
      refine dF 10 6 43 v_22 (fun γ => ov (S rB v_24)) (fun γ ρ B hb hd hq_19 => op_cmpI lb (HasO.cnd (tl hd 8 45) (notT (notF hq_19))) .cI (cs hv_24)) ?_
      refine dS 11 (fun γ ρ B hb hd => op_pickCS lb (tl hd 6 43) (fun hb20 => .cB) (fun hb20 => (HasO.cnd (tl hd 9 46) (notT hb20))) hv_25) ?_
      exact DSteps.nil)
         (by decide +kernel) (fun _ => rfl) (fun _ => rfl) (fun _ => rfl) rfl
         (ρ' := fun γ => [(0, ov (PTR gb_3 0)), (1, ov (S (rL (rV 32 (rU UInt8))) a_1)), (5, ov (HDR go_5 0 (List.length v_4) (Int.toNat (128 : Int)))), (6, ov (S (rI .i64) x_6)), (47, ov (S rB v_25))])
         (X' := fun γ => [cvar gb_3 r_merkle_Tree t_2, cown go_5 (rV 32 (rU UInt8)) v_4 0 (Int.toNat (128 : Int)), cvar gb_10 (rV 32 (rU UInt8)) v_8])
         (fun γ ρ hb hd => (.cons (hb 0 _ rfl) (.cons (hb 1 _ rfl) (.cons (hb 5 _ rfl) (.cons (hb 6 _ rfl) (.cons (hdq hd 10 47 rfl) .nil)))))) (fun _ => rfl) (fun γ => ?_)
     refine JQ.at ⟨[(0, ov (PTR gb_3 0)), (1, ov (S (rL (rV 32 (rU UInt8))) a_1)), (5, ov (HDR go_5 0 (List.length v_4) (Int.toNat (128 : Int)))), (6, ov (S (rI .i64) x_6)), (47, ov (S rB v_25))], [cvar gb_3 r_merkle_Tree t_2, cown go_5 (rV 32 (rU UInt8)) v_4 0 (Int.toNat (128 : Int)), cvar gb_10 (rV 32 (rU UInt8)) v_8], []⟩ ?_
     try obtain rfl := so hx16
     exact JQ.join () (Imp.norm (js := [0, 0]) rfl (.cons rfl (.cons rfl (.cons rfl (.cons rfl (.cons rfl .nil))))))
   refine JC.region <| jmv rfl rfl <| lI hx5 fun v_11 hv_11 hx5 => jc (op_cmpI lb tR .cI (cs hv_11)) <| jmv rfl rfl <| jF (ov (S (rI .i64) x_6)) rfl rfl rfl rfl (fun hq_6 => op_move lb tR) <| lI hx5 fun v_12 hv_12 hx5 => jF (ov (S rB v_12)) rfl rfl rfl rfl (fun hq_7 => op_cmpI lb (HasO.cnd tR (notT (notF hq_7))) .cI (cs hv_12)) <| lI hx5 fun v_13 hv_13 hx5 => jc (op_pickCS lb tR (fun hb8 => .cB) (fun hb8 => (HasO.cnd tR (notT hb8))) hv_13) <| JL.nil ?_
   try obtain rfl := so hx5
   exact JQ.join () (Imp.norm (js := [0, 0, 0]) rfl (.cons rfl (.cons rfl (.cons rfl (.cons rfl (.cons rfl (.cons rfl (.cons rfl .nil))))))))
 refine JC.exit <| JQ.outX ?_
 try obtain rfl := so hx
 try obtain rfl := hr _ rfl
 dsimp only at hq2
 refine JQ.outX <| JQ.here ?_
 try obtain rfl := so hq2
 exact JQ.joinK () () rfl (Imp.norm (js := [0, 0]) rfl (.cons rfl (.cons rfl (.cons rfl .nil))))

theorem sim_merkle_Tree_Copy_v0 (k : Nat) (t_1 : merkle_Tree) (gb_2 : Nat) (r : Unit) (hm : merkle_Tree_Copy k t_1 = some (.inl r)) : Sim Try.prog 19 [PTR gb_2 0] [cvar gb_2 r_merkle_Tree t_1] (γ := Nat) (fun q => [cvar q r_merkle_Tree t_1, cvar gb_2 r_merkle_Tree t_1]) (fun q => .one (.val (PTR q 0))) := by
 unfold merkle_Tree_Copy at hm
 refine Sim.of Try.func19 rfl rfl (lE rfl) (fun e0 w0 => ?_)
 refine JC.at ⟨[(0, ov (PTR gb_2 0))], [cvar gb_2 r_merkle_Tree t_1], []⟩ <| jr <| jc (op_assign lb (HasO.const (p := PTO none) fun _ => rfl)) <| jn <| JC.seq <| jr <| jmv rfl rfl <| bI hm fun _ hv_u_3 hm => jx (op_call (js := [0]) ld cl29 (sim_merkle_Tree_there k t_1 gb_2 () hv_u_3) .func (.cons tR .nil) rfl) fun _ => lI hm fun v_4 hv_4 hm => jc (op_not lb tR hv_4) <| jn <| jif tR hm (fun hc1 hm => ?_) (fun hc1 hm => ?_)
 · refine jr <| jc (op_assign lb (HasO.const (p := PTO none) fun _ => rfl)) <| jn <| JC.ret <| JQ.outR ?_
   cases hm
 exact JC.skip <| JQ.then <| jr <| jmv rfl rfl <| jc (op_nilCheck lb tR (fun e v h => by subst h; rfl)) <| jc (op_loadA (j := 0) lb tA52 tR rfl (Comp.self r_merkle_Tree t_1) rfl) <| jx (op_alloc lb tZ52 zr52) fun gb_5 => JL.sub ⟨[(3, ov (PTR gb_5 0)), (9, ov (A r_merkle_Tree t_1))], [cvar gb_2 r_merkle_Tree t_1, zq5 gb_5], []⟩ (.cons rfl (.cons rfl .nil)) rfl rfl <| jc (op_storeA (j := 1) tA52 tR tR rfl (UpdR.self (by rfl)) rfl) <| jn <| jr <| jc (op_assign lb tR) <| jn <| JC.ret <| JQ.done (js := [1, 0]) (ss := [.val (PTR gb_5 0)]) gb_5 (.inl rfl) (.nil rfl) rfl (.cons (.tmp rfl) .nil) rfl rfl rfl

theorem sim_merkle_Tree_Copy_v1 (k : Nat) (t_1 : merkle_Tree) (gb_2 : Nat) (r : Unit) (hm : merkle_Tree_Copy k t_1 = some (.inr r)) : Sim Try.prog 19 [PTR gb_2 0] [cvar gb_2 r_merkle_Tree t_1] (γ := Unit) (fun q => [cvar gb_2 r_merkle_Tree t_1]) (fun q => .one (.val (PTO none))) := by
 unfold merkle_Tree_Copy at hm
 refine Sim.of Try.func19 rfl rfl (lE rfl) (fun e0 w0 => ?_)
 refine JC.at ⟨[(0, ov (PTR gb_2 0))], [cvar gb_2 r_merkle_Tree t_1], []⟩ <| jr <| jc (op_assign lb (HasO.const (p := PTO none) fun _ => rfl)) <| jn <| JC.seq <| jr <| jmv rfl rfl <| bI hm fun _ hv_u_3 hm => jx (op_call (js := [0]) ld cl29 (sim_merkle_Tree_there k t_1 gb_2 () hv_u_3) .func (.cons tR .nil) rfl) fun _ => lI hm fun v_4 hv_4 hm => jc (op_not lb tR hv_4) <| jn <| jif tR hm (fun hc1 hm => ?_) (fun hc1 hm => ?_)
 · exact jr <| jc (op_assign lb (HasO.const (p := PTO none) fun _ => rfl)) <| jn <| JC.ret <| JQ.outR <| JQ.done (js := [0]) (ss := [.val (PTO none)]) () (.inl rfl) (.nil rfl) rfl (.cons (.tmp rfl) .nil) rfl rfl rfl
 refine JC.skip <| JQ.then <| jr <| jmv rfl rfl <| jc (op_nilCheck lb tR (fun e v h => by subst h; rfl)) <| jc (op_loadA (j := 0) lb tA52 tR rfl (Comp.self r_merkle_Tree t_1) rfl) <| jx (op_alloc lb tZ52 zr52) fun gb_5 => JL.sub ⟨[(3, ov (PTR gb_5 0)), (9, ov (A r_merkle_Tree t_1))], [cvar gb_2 r_merkle_Tree t_1, zq5 gb_5], []⟩ (.cons rfl (.cons rfl .nil)) rfl rfl <| jc (op_storeA (j := 1) tA52 tR tR rfl (UpdR.self (by rfl)) rfl) <| jn <| jr <| jc (op_assign lb tR) <| jn <| JC.ret ?_
 cases hm

theorem sim_ref08_Same_ov'2 (k : Nat) (b_1 : (List (Vector UInt8 32))) (a_2 : (List (Vector UInt8 32))) (go_3 : Option Nat) (gc_4 : Nat) (r : Bool) (hm : ref08_Same_ov'2 k b_1 a_2 = some r) : Sim Try.prog 21 [HDR go_3 0 (List.length a_2) gc_4, S (rL (rV 32 (rU UInt8))) b_1] [cown go_3 (rV 32 (rU UInt8)) a_2 (List.length a_2) gc_4] (γ := Unit) (fun q => [cown go_3 (rV 32 (rU UInt8)) a_2 (List.length a_2) gc_4]) (fun q => .one (.val (S rB r))) := by
 unfold ref08_Same_ov'2 at hm
 refine Sim.of Try.func21 rfl rfl (lE rfl) (fun e0 w0 => ?_)
 refine JC.at ⟨[(0, ov (HDR go_3 0 (List.length a_2) gc_4)), (1, ov (S (rL (rV 32 (rU UInt8))) b_1))], [cown go_3 (rV 32 (rU UInt8)) a_2 (List.length a_2) gc_4], []⟩ <| jr <| jc (op_assign lb .cB) <| jn <| JC.seq <| jr <| jmv rfl rfl <| jc (op_lenH lb tu22 tR) <| jmv rfl rfl <| jc (op_lenL lb tu22 tR) <| lI hm fun v_5 hv_5 hm => jc (op_cmpI lb tR tR (cs hv_5)) <| jn <| jif tR hm (fun hc1 hm => ?_) (fun hc1 hm => ?_)
 · refine jr <| jc (op_assign lb .cB) <| jn <| JC.ret <| JQ.outR ?_
   obtain rfl := so hm
   exact JQ.done (js := [0]) (ss := [.val (S rB false)]) () (.inl rfl) (.nil rfl) rfl (.cons (.tmp rfl) .nil) rfl rfl rfl
 refine JC.skip <| JQ.then <| bI hm fun tv2 hx2 hq2 => JC.seqK (α := Unit) (γ := Unit) (stj := fun v q => ⟨[], [cown go_3 (rV 32 (rU UInt8)) a_2 (List.length a_2) gc_4], []⟩) (p := fun v => tv2 = (.inl v)) (fun v q hv => ?_) ?_
 · subst hv
   skip
   obtain _ := q
   dsimp only at hq2
   refine JC.at ⟨[], [cown go_3 (rV 32 (rU UInt8)) a_2 (List.length a_2) gc_4], []⟩ <| jr <| jc (op_assign lb .cB) <| jn <| JC.ret ?_
   obtain rfl := so hq2
   exact JQ.done (js := [0]) (ss := [.val (S rB true)]) () (.inl rfl) (.nil rfl) rfl (.cons (.tmp rfl) .nil) rfl rfl rfl
 refine jr <| jc (op_assign lb .cI) <| jn <| JC.block <| bI hx2 fun tv3 hL3 hq3 => JC.pre ?_ (JC.loop (γ := Unit) (stf := fun s q => ⟨[(0, ov (HDR go_3 0 (List.length a_2) gc_4)), (1, ov (S (rL (rV 32 (rU UInt8))) b_1)), (5, ov (S (rI .i64) s))], [cown go_3 (rV 32 (rU UInt8)) a_2 (List.length a_2) gc_4], []⟩) (q := ()) hL3 ?_)
 · exact (Imp.norm (js := [0]) rfl (.cons rfl (.cons rfl (.cons rfl .nil))))
 intro i_6 q x hx hr
 obtain _ := q
 change ref08_Same_ov'2.b1 k a_2 b_1 i_6 = some x at hx
 unfold ref08_Same_ov'2.b1 at hx
 refine JC.at ⟨[(0, ov (HDR go_3 0 (List.length a_2) gc_4)), (1, ov (S (rL (rV 32 (rU UInt8))) b_1)), (5, ov (S (rI .i64) i_6))], [cown go_3 (rV 32 (rU UInt8)) a_2 (List.length a_2) gc_4], []⟩ <| JC.seq <| jr <| jmv rfl rfl <| jmv rfl rfl <| jc (op_lenH lb tu22 tR) <| lI hx fun v_7 hv_7 hx => jc (op_cmpI lb tR tR (cs hv_7)) <| jn <| jif tR hx (fun hc4 hx => ?_) (fun hc4 hx => ?_)
 · refine JC.skip <| JQ.then <| JC.seq <| JC.block <| JC.seq <| bI hx fun i_8 hv_i_8 hx => bI hx fun v_9 hv_9 hx => bI hx fun v_10 hv_10 hx => ?_
   obtain ⟨v_11, hv_11, hx⟩ := lt1_inv hx
   refine JC.anyF (base := [(0, ov (HDR go_3 0 (List.length a_2) gc_4)), (1, ov (S (rL (rV 32 (rU UInt8))) b_1)), (5, ov (S (rI .i64) i_6))])
       (fs := fun γ => [⟨some 17, ov (HDR go_3 0 (List.length a_2) gc_4)⟩, ⟨some 18, ov (S (rI .i64) i_6)⟩, ⟨some 19, ov (EPT go_3 (i_8 * 32))⟩, ⟨some 20, ov (A (rV 32 (rU UInt8)) v_9)⟩, ⟨some 21, ov (S (rL (rV 32 (rU UInt8))) b_1)⟩, ⟨some 22, ov (S (rI .i64) i_6)⟩, ⟨some 23, ov (PT (rV 32 (rU UInt8)) v_10)⟩, ⟨some 24, ov (A (rV 32 (rU UInt8)) v_10)⟩, ⟨some 25, ov (S rB v_11)⟩])
       (rs := fun γ => [⟨cown go_3 (rV 32 (rU UInt8)) a_2 (List.length a_2) gc_4, none, none, [2, 3]⟩])
       (afts := nn 9) (js := [0]) mixed (.cons rfl (.cons rfl (.cons rfl .nil))) (fun _ => rfl)
       (by
      refine db 1 0 <| db 2 5 <| dR 3 (fun γ ρ B hb hd => OpStep.lk ⟨ρ, (cown go_3 (rV 32 (rU UInt8)) a_2 (List.length a_2) gc_4) :: B, _⟩ (op_indexAddrOF (r := (rV 32 (rU UInt8))) (j := 0) lb tu22 tz30 rfl (tl hd 0 17) (tl hd 1 18) hv_i_8)) <| dR 4 (fun γ ρ B hb hd => OpStep.lk ⟨ρ, (cown go_3 (rV 32 (rU UInt8)) a_2 (List.length a_2) gc_4) :: B, _⟩ (op_loadOA (r := (rV 32 (rU UInt8))) (i := i_8) (off := 0) (j := 0) lb tA30 rfl (tl hd 2 19) hv_9 (Comp.self (rV 32 (rU UInt8)) v_9) (by decide))) <| db 5 1 ?_
      refine db 6 5 <| dS 7 (fun γ ρ B hb hd => op_indexAddrLg lb tu22 tz30 (tl hd 4 21) (tl hd 5 22) hv_10) <| dS 8 (fun γ ρ B hb hd => op_loadPAg lb tA30 (tl hd 6 23) rfl) <| dS 9 (fun γ ρ B hb hd => op_neA lb qa30 (by decide) ng30 (tl hd 3 20) (tl hd 7 24) hv_11) ?_
      exact DSteps.nil)
       (by decide +kernel) (fun _ => rfl) (fun _ => rfl) (fun _ => rfl) rfl
       (ρ' := fun γ => [(0, ov (HDR go_3 0 (List.length a_2) gc_4)), (1, ov (S (rL (rV 32 (rU UInt8))) b_1)), (5, ov (S (rI .i64) i_6)), (25, ov (S rB v_11))])
       (X' := fun γ => [cown go_3 (rV 32 (rU UInt8)) a_2 (List.length a_2) gc_4])
       (fun γ ρ hb hd => (.cons (hb 0 _ rfl) (.cons (hb 1 _ rfl) (.cons (hb 5 _ rfl) (.cons (hdq hd 8 25 rfl) .nil))))) (fun _ => rfl) (fun γ => ?_)
   refine JQ.at ⟨[(0, ov (HDR go_3 0 (List.length a_2) gc_4)), (1, ov (S (rL (rV 32 (rU UInt8))) b_1)), (5, ov (S (rI .i64) i_6)), (25, ov (S rB v_11))], [cown go_3 (rV 32 (rU UInt8)) a_2 (List.length a_2) gc_4], []⟩ <| JQ.then <| jif tR hx (fun hc5 hx => ?_) (fun hc5 hx => ?_)
   · refine jr <| jc (op_assign lb .cB) <| jn <| JC.ret <| JQ.outRB <| JQ.outR ?_
     try obtain rfl := so hx
     try obtain rfl := hr _ rfl
     dsimp only at hq3
     refine JQ.outR <| JQ.outRB ?_
     try obtain rfl := so hq3
     dsimp only at hq2
     refine JQ.outR ?_
     obtain rfl := so hq2
     exact JQ.done (js := [0]) (ss := [.val (S rB false)]) () (.inl rfl) (.nil rfl) rfl (.cons (.tmp rfl) .nil) rfl rfl rfl
   refine JC.skip <| JQ.outNB <| JQ.then <| JC.region <| jmv rfl rfl <| lI hx fun v_12 hv_12 hx => jc (op_arI lb tR .cI (cs hv_12)) <| jc (op_assign lb tR) <| JL.nil ?_
   try obtain rfl := so hx
   exact JQ.next () rfl (Imp.norm (js := [0]) rfl (.cons rfl (.cons rfl (.cons rfl .nil))))
 refine JC.exit <| JQ.outX ?_
 try obtain rfl := so hx
 try obtain rfl := hr _ rfl
 dsimp only at hq3
 refine JQ.outX <| JQ.here ?_
 try obtain rfl := so hq3
 exact JQ.joinK () () rfl (Imp.norm (js := [0]) rfl .nil)

theorem sim_law08_MerklePlays (k : Nat) (t_1 : (List law08_Step)) (a_2 : (List law08_Step)) (r : Bool) (hm : law08_MerklePlays k t_1 a_2 = some r) : Sim Try.prog 5 [S (rL r_law08_Step) t_1, S (rL r_law08_Step) a_2] [] (γ := Unit) (fun q => []) (fun q => .one (.val (S rB r))) := by
 unfold law08_MerklePlays at hm
 refine Sim.of Try.func5 rfl rfl (lE rfl) (fun e0 w0 => ?_)
 refine JC.at ⟨[(0, ov (S (rL r_law08_Step) t_1)), (1, ov (S (rL r_law08_Step) a_2))], [], []⟩ <| jr <| jc (op_assign lb .cB) <| jn <| JC.seq <| bI hm fun x_6 hx1 hq1 => JC.seqJ (γ := Unit) (stj := fun _ => ⟨[(0, ov (S (rL r_law08_Step) t_1)), (1, ov (S (rL r_law08_Step) a_2)), (14, ov (S rB x_6))], [], []⟩) (fun _ => ?_) ?_
 · refine jif tR hq1 (fun hc5 hq1 => ?_) (fun hc5 hq1 => ?_)
   · refine jr <| bI hq1 fun v_7 hv_7 hq1 => jx (op_call (js := []) ld cl7 (sim_law08_known k v_7 hv_7) .func .nil rfl) fun _ => jc (op_assign lb tR) <| jn <| JC.ret <| JQ.outR ?_
     obtain rfl := so hq1
     exact jd (.val (S rB v_7)) rfl rfl rfl rfl rfl rfl
   refine JC.skip <| JQ.then <| jr ?_
   obtain ⟨ts6, hs6, hq1⟩ := bnd_inv hq1
   rcases ts6 with ts6 | ts6
   · obtain ⟨v_8, hvv⟩ : ∃ z, z = ts6 := ⟨_, rfl⟩
     subst hvv
     dsimp only at hq1
     refine jx (op_call (js := []) ld cl12 (sim_merkle_New_v0 k v_8 hs6) .func .nil rfl) fun gb_9 => jc (op_assign lb tR) <| jn <| jr <| bI hq1 fun v_10 hv_10 hq1 => jx (op_call (js := []) ld cl17 (sim_ref08_Empty k v_10 hv_10) .func .nil rfl) (fun q => ?_)
     obtain ⟨go_11, gc_12⟩ := q
     refine jc (op_assign lb tR) <| jn <| JC.seq ?_
     obtain ⟨⟨x_19, x_20, x_21⟩, hx7, hq7⟩ := bnd_inv hq1
     refine JC.seqJ (γ := Unit) (stj := fun _ => ⟨[(1, ov (S (rL r_law08_Step) a_2)), (5, ov (PTR gb_9 0)), (6, ov (HDR go_11 0 (List.length x_20) gc_12)), (32, ov (S rB x_21))], [cvar gb_9 r_merkle_Tree x_19, cown go_11 (rV 32 (rU UInt8)) x_20 (List.length x_20) gc_12], []⟩) (fun _ => ?_) ?_
     · refine jif tR hq7 (fun hc11 hq7 => ?_) (fun hc11 hq7 => ?_)
       · refine jr <| jc (op_assign lb .cB) <| jn <| JC.ret <| JQ.outR ?_
         obtain rfl := so hq7
         exact jd (.val (S rB false)) rfl rfl rfl rfl rfl rfl
       refine JC.skip <| JQ.then <| jr <| jmv rfl rfl ?_
       obtain ⟨ts12, hs12, hq7⟩ := bnd_inv hq7
       rcases ts12 with ts12 | ts12
       · obtain _ := ts12
         dsimp only at hq7
         refine jx (op_call (js := [0]) ld cl19 (sim_merkle_Tree_Copy_v0 k x_19 gb_9 () hs12) .func (.cons tR .nil) rfl) fun gb_22 => jc (op_assign lb tR) <| jn <| jr <| jmv rfl rfl <| bI hq7 fun v_23 hv_23 hq7 => JL.pre (Imp.nilown (rV 32 (rU UInt8))) <| jx (op_appendO (j := 3) (j' := 2) lb tu22 tu22 rfl tB30 rfl (Nat.lt_of_lt_of_le Nat.zero_lt_one (lE rfl)) (Nat.lt_of_lt_of_le Nat.zero_lt_one (lE rfl))  rfl HasO.nilH rfl tR hv_23) (fun q => ?_)
         obtain ⟨go_24, gc_25⟩ := q
         refine JL.sub ⟨[(1, ov (S (rL r_law08_Step) a_2)), (5, ov (PTR gb_9 0)), (6, ov (HDR go_11 0 (List.length x_20) gc_12)), (7, ov (PTR gb_22 0)), (36, ov (HDR go_24 0 (List.length v_23) gc_25))], [cvar gb_22 r_merkle_Tree x_19, cvar gb_9 r_merkle_Tree x_19, cown go_11 (rV 32 (rU UInt8)) x_20 (List.length x_20) gc_12, cown go_24 (rV 32 (rU UInt8)) v_23 0 gc_25], []⟩ (.cons rfl (.cons rfl (.cons rfl (.cons rfl (.cons rfl .nil))))) rfl rfl <| jc (op_assign lb tR) <| jn <| bI hq7 fun x_36 hx13 hq13 => JC.seqJ (γ := Unit) (stj := fun _ => ⟨[(4, ov (S rB x_36))], [], []⟩) (fun _ => ?_) ?_
         · refine JC.ret ?_
           obtain rfl := so hq13
           exact jd (.val (S rB x_36)) rfl rfl rfl rfl rfl rfl
         refine JC.region <| jmv rfl rfl <| jc (op_nilP (neg := true) lb tu24 tR (HasO.const (p := PTO none) fun _ => rfl)) <| jmv rfl rfl <| JL.run (.yes rfl (ltB rfl) rfl rfl) (op_move lb tR) <| JL.run (.yes rfl (ltB rfl) rfl rfl) (op_move lb tR) <| JL.run (.yes rfl (ltB rfl) rfl rfl) (op_move lb tR) ?_
         obtain ⟨⟨v_26, x_27, x_28⟩, hv_26, hx13⟩ := bnd_inv hx13
         refine JL.runX (.yes rfl (ltB rfl) rfl rfl) (op_call (js := [0, 2]) ld cl18 (sim_law08_set_pov k a_2 x_19 v_23 gb_22 go_24 gc_25 (v_26, x_27, x_28) (keepL_some hv_26).1) .func (.cons tR (.cons tR (.cons tR .nil))) rfl) fun _ => JL.pre (Imp.slot (s := 36) (q := HDR go_24 0 (List.length x_28) gc_25) rfl (wkLen (keepL_some hv_26).2.symm)) <| JL.pre (Imp.slot (s := 8) (q := HDR go_24 0 (List.length x_28) gc_25) rfl (wkLen (keepL_some hv_26).2.symm)) <| JL.pre (Imp.slot (s := 41) (q := HDR go_24 0 (List.length x_28) gc_25) rfl (wkLen (keepL_some hv_26).2.symm)) <| jc (op_pickT lb tR rfl tR) <| jmv rfl rfl <| JL.sub ⟨[(5, ov (PTR gb_9 0)), (6, ov (HDR go_11 0 (List.length x_20) gc_12)), (7, ov (PTR gb_22 0)), (8, ov (HDR go_24 0 (List.length x_28) gc_25)), (45, ov (S rB v_26))], [cvar gb_22 r_merkle_Tree x_27, cown go_24 (rV 32 (rU UInt8)) x_28 0 gc_25, cvar gb_9 r_merkle_Tree x_19, cown go_11 (rV 32 (rU UInt8)) x_20 (List.length x_20) gc_12], []⟩ (.cons rfl (.cons rfl (.cons rfl (.cons rfl (.cons rfl .nil))))) rfl rfl <| jT (ov (PTR gb_22 0)) rfl rfl rfl rfl (fun hq_14 => op_move lb tR) ?_
         rcases iteB_inv hx13 with ⟨hc16, hx13⟩ | ⟨hc16, hx13⟩
         · refine JL.run (.yes rfl (ltB rfl) rfl hc16) (op_move lb tR) <| bI hx13 fun v_29 hv_29 hx13 => JL.pre (Imp.frz (j := 1) rfl (ImpK.slotH (s := 8) rfl (ImpK.slotH (s := 47) rfl ImpK.refl))) <| JL.runX (.yes rfl (ltB rfl) rfl hc16) (op_call (js := [0]) ld cl10 (sim_law08_stands k x_28 x_27 gb_22 v_29 hv_29) .func (.cons (HasO.cnd tR hc16) (.cons (HasO.wk tR wkHL) .nil)) rfl) fun _ => jc (op_pickT lb tR hc16 tR) <| jmv rfl rfl <| jT (ov (PTR gb_9 0)) rfl rfl rfl rfl (fun hq_17 => op_move lb tR) ?_
           rcases iteB_inv hx13 with ⟨hc19, hx13⟩ | ⟨hc19, hx13⟩
           · refine JL.run (.yes rfl (ltB rfl) rfl hc19) (op_move lb tR) <| bI hx13 fun v_30 hv_30 hx13 => JL.pre (Imp.frz (j := 3) rfl (ImpK.slotH (s := 6) rfl (ImpK.slotH (s := 52) rfl ImpK.refl))) <| JL.runX (.yes rfl (ltB rfl) rfl hc19) (op_call (js := [2]) ld cl10 (sim_law08_stands k x_20 x_19 gb_9 v_30 hv_30) .func (.cons (HasO.cnd tR hc19) (.cons (HasO.wk tR wkHL) .nil)) rfl) fun _ => JL.sub ⟨[(5, ov (PTR gb_9 0)), (6, ov (HL go_11 (rV 32 (rU UInt8)) x_20 gc_12)), (7, ov (PTR gb_22 0)), (8, ov (HL go_24 (rV 32 (rU UInt8)) x_28 gc_25)), (50, ov (S rB v_29)), (53, ov (S rB v_30))], [cvar gb_9 r_merkle_Tree x_19, cvar gb_22 r_merkle_Tree x_27, cown go_24 (rV 32 (rU UInt8)) x_28 (List.length x_28) gc_25, cown go_11 (rV 32 (rU UInt8)) x_20 (List.length x_20) gc_12], []⟩ (.cons rfl (.cons rfl (.cons rfl (.cons rfl (.cons rfl (.cons rfl .nil)))))) rfl rfl <| jc (op_pickT lb tR hc19 tR) <| jmv rfl rfl <| jT (ov (PTR gb_22 0)) rfl rfl rfl rfl (fun hq_20 => op_move lb tR) <| jT (ov (PTR gb_9 0)) rfl rfl rfl rfl (fun hq_21 => op_move lb tR) ?_
             rcases iteB_inv hx13 with ⟨hc23, hx13⟩ | ⟨hc23, hx13⟩
             · refine bI hx13 fun v_31 hv_31 hx13 => JL.runX (.yes rfl (ltB rfl) rfl hc23) (op_call (js := [1, 0]) ld cl20 (sim_merkle_Tree_Same k x_27 x_19 gb_22 gb_9 v_31 hv_31) .func (.cons (HasO.cnd tR hc23) (.cons (HasO.cnd tR hc23) .nil)) rfl) fun _ => JL.run (.yes rfl (ltB rfl) rfl hc23) (op_move lb tR) <| JL.run (.yes rfl (ltB rfl) rfl hc23) (op_move lb tR) <| bI hx13 fun v_32 hv_32 hx13 => JL.runX (.yes rfl (ltB rfl) rfl hc23) (op_call (js := [2]) ld cl21 (sim_ref08_Same_ov'2 k x_20 x_28 go_24 gc_25 v_32 hv_32) .func (.cons (HasO.wk tR wkHH) (.cons (HasO.wk tR wkHL) .nil)) rfl) fun _ => JL.nrm ⟨[(55, ov (S rB v_30)), (58, ov (S rB v_31)), (61, ov (S rB v_32))], [], []⟩ [] rfl (.cons rfl (.cons rfl (.cons rfl .nil))) rfl <| lI hx13 fun v_33 hv_33 hx13 => JL.run (.yes rfl (ltB rfl) rfl hc23) (op_eqB lb tu4 tR tR hv_33) ?_
               refine jc (op_pickT lb tR hc23 tR) <| jmv rfl rfl <| bI hx13 fun v_34 hv_34 hx13 => jT (ov (S rB v_34)) rfl rfl rfl rfl (fun hq_24 => (op_call (js := []) ld cl7 (sim_law08_known k v_34 (ifT hv_34 hq_24)) .func .nil rfl).post (fun _ => Imp.refl)) <| lI hx13 fun v_35 hv_35 hx13 => jc (op_pickCS lb tR (fun hb25 => (HasO.cnd tR hb25)) (fun hb25 => .cB) hv_35) <| jc (op_assign lb tR) <| JL.nil ?_
               try obtain rfl := so hx13
               exact jo rfl rfl rfl
             refine jk rfl hc23 <| jk rfl hc23 <| jk rfl hc23 <| jk rfl hc23 <| jk rfl hc23 <| jc (op_pickF lb tR hc23 .cB) <| jmv rfl rfl <| jk rfl rfl <| jc (op_pickF lb tR rfl .cB) <| jc (op_assign lb tR) <| JL.nil ?_
             try obtain rfl := so hx13
             exact jo rfl rfl rfl
           refine jk rfl hc19 <| jk rfl hc19 <| jc (op_pickF lb tR hc19 .cB) <| jmv rfl rfl <| jk rfl rfl <| jk rfl rfl <| jk rfl rfl <| jk rfl rfl <| jk rfl rfl <| jk rfl rfl <| jk rfl rfl <| jc (op_pickF lb tR rfl .cB) <| jmv rfl rfl <| JL.nrm ⟨[(64, ov (S rB false))], [], []⟩ [] rfl (.cons rfl .nil) rfl <| jk rfl rfl <| jc (op_pickF lb tR rfl .cB) <| jc (op_assign lb tR) <| JL.nil ?_
           try obtain rfl := so hx13
           exact jo rfl rfl rfl
         refine jk rfl hc16 <| jk rfl hc16 <| jc (op_pickF lb tR hc16 .cB) <| jmv rfl rfl <| jk rfl rfl <| jk rfl rfl <| jk rfl rfl <| jc (op_pickF lb tR rfl .cB) <| jmv rfl rfl <| jk rfl rfl <| jk rfl rfl <| jk rfl rfl <| jk rfl rfl <| jk rfl rfl <| jk rfl rfl <| jk rfl rfl <| jc (op_pickF lb tR rfl .cB) <| jmv rfl rfl <| jk rfl rfl <| jc (op_pickF lb tR rfl .cB) <| jc (op_assign lb tR) <| JL.nil ?_
         try obtain rfl := so hx13
         exact jo rfl rfl rfl
       obtain _ := ts12
       dsimp only at hq7
       refine jx (op_call (js := [0]) ld cl19 (sim_merkle_Tree_Copy_v1 k x_19 gb_9 () hs12) .func (.cons tR .nil) rfl) fun _ => jc (op_assign lb tR) <| jn <| jr <| jmv rfl rfl <| bI hq7 fun v_37 hv_37 hq7 => JL.pre (Imp.nilown (rV 32 (rU UInt8))) <| jx (op_appendO (j := 2) (j' := 1) lb tu22 tu22 rfl tB30 rfl (Nat.lt_of_lt_of_le Nat.zero_lt_one (lE rfl)) (Nat.lt_of_lt_of_le Nat.zero_lt_one (lE rfl))  rfl HasO.nilH rfl tR hv_37) (fun q => ?_)
       obtain ⟨go_38, gc_39⟩ := q
       refine JL.sub ⟨[(1, ov (S (rL r_law08_Step) a_2)), (5, ov (PTR gb_9 0)), (6, ov (HDR go_11 0 (List.length x_20) gc_12)), (7, ov (PTO none)), (36, ov (HDR go_38 0 (List.length v_37) gc_39))], [cvar gb_9 r_merkle_Tree x_19, cown go_11 (rV 32 (rU UInt8)) x_20 (List.length x_20) gc_12, cown go_38 (rV 32 (rU UInt8)) v_37 0 gc_39], []⟩ (.cons rfl (.cons rfl (.cons rfl (.cons rfl (.cons rfl .nil))))) rfl rfl <| jc (op_assign lb tR) <| jn <| bI hq7 fun _ hx26 hq26 => JC.seqJ (γ := Unit) (stj := fun _ => ⟨[(4, ov (S rB false))], [], []⟩) (fun _ => ?_) ?_
       · refine JC.ret ?_
         obtain rfl := so hq26
         exact jd (.val (S rB false)) rfl rfl rfl rfl rfl rfl
       exact JC.region <| jmv rfl rfl <| jc (op_nilO (neg := true) (ob := none) lb tu24 tR (HasO.const (p := PTO none) fun _ => rfl) rfl) <| jmv rfl rfl <| jk rfl rfl <| jk rfl rfl <| jk rfl rfl <| jk rfl rfl <| jc (op_pickF lb tR rfl .cB) <| jmv rfl rfl <| jk rfl rfl <| jk rfl rfl <| jk rfl rfl <| jc (op_pickF lb tR rfl .cB) <| jmv rfl rfl <| jk rfl rfl <| jk rfl rfl <| jk rfl rfl <| jc (op_pickF lb tR rfl .cB) <| jmv rfl rfl <| jk rfl rfl <| jk rfl rfl <| jk rfl rfl <| jk rfl rfl <| jk rfl rfl <| jk rfl rfl <| jk rfl rfl <| jc (op_pickF lb tR rfl .cB) <| jmv rfl rfl <| JL.nrm ⟨[(64, ov (S rB false))], [], []⟩ [] rfl (.cons rfl .nil) rfl <| jk rfl rfl <| jc (op_pickF lb tR rfl .cB) <| jc (op_assign lb tR) <| JL.nil <| jo rfl rfl rfl
     refine JC.region <| jmv rfl rfl <| jc (op_nilP (neg := false) lb tu24 tR (HasO.const (p := PTO none) fun _ => rfl)) <| jmv rfl rfl <| JL.run (.yes rfl (ltB rfl) rfl rfl) (op_move lb tR) <| JL.sub ⟨[(0, ov (S (rL r_law08_Step) t_1)), (1, ov (S (rL r_law08_Step) a_2)), (5, ov (PTR gb_9 0)), (6, ov (HDR go_11 0 (List.length v_10) gc_12)), (20, ov (S rB false)), (21, ov (PTR gb_9 0))], [cown go_11 (rV 32 (rU UInt8)) v_10 0 gc_12, cvar gb_9 r_merkle_Tree v_8], []⟩ (.cons rfl (.cons rfl (.cons rfl (.cons rfl (.cons rfl (.cons rfl .nil)))))) rfl rfl <| JL.run (.yes rfl (ltB rfl) rfl rfl) (op_move lb tR) <| JL.run (.yes rfl (ltB rfl) rfl rfl) (op_move lb tR) ?_
     obtain ⟨⟨v_13, x_14, x_15⟩, hv_13, hx7⟩ := bnd_inv hx7
     refine JL.runX (.yes rfl (ltB rfl) rfl rfl) (op_call (js := [1, 0]) ld cl18 (sim_law08_set_pov k t_1 v_8 v_10 gb_9 go_11 gc_12 (v_13, x_14, x_15) (keepL_some hv_13).1) .func (.cons tR (.cons tR (.cons tR .nil))) rfl) fun _ => JL.pre (Imp.slot (s := 6) (q := HDR go_11 0 (List.length x_15) gc_12) rfl (wkLen (keepL_some hv_13).2.symm)) <| JL.pre (Imp.slot (s := 22) (q := HDR go_11 0 (List.length x_15) gc_12) rfl (wkLen (keepL_some hv_13).2.symm)) <| lI hx7 fun v_16 hv_16 hx7 => JL.run (.yes rfl (ltB rfl) rfl rfl) (op_not lb tR hv_16) <| jc (op_pickF lb tR rfl tR) <| jmv rfl rfl <| jF (ov (PTR gb_9 0)) rfl rfl rfl rfl (fun hq_8 => op_move lb tR) ?_
     rcases iteB_inv hx7 with ⟨hc10, hx7⟩ | ⟨hc10, hx7⟩
     · refine jk rfl hc10 <| jk rfl hc10 <| jk rfl hc10 <| jc (op_pickT lb tR hc10 .cB) <| JL.nil ?_
       have hz := Option.some.inj hx7
       replace hz := Prod.mk.inj hz
       obtain ⟨hz_a, hz⟩ := hz
       first | subst hz_a | clear hz_a
       replace hz := Prod.mk.inj hz
       obtain ⟨hz_a, hz⟩ := hz
       first | subst hz_a | clear hz_a
       first | subst hz | clear hz
       exact JQ.pre (Imp.frz (j := 1) rfl ImpK.refl) <| JQ.join () (Imp.norm (js := [0, 0]) rfl (.cons rfl (.cons rfl (.cons rfl (.cons rfl .nil)))))
     refine JL.run (.yes rfl (ltB rfl) rfl hc10) (op_move lb tR) <| bI hx7 fun v_17 hv_17 hx7 => JL.pre (Imp.frz (j := 1) rfl (ImpK.slotH (s := 6) rfl (ImpK.slotH (s := 22) rfl (ImpK.slotH (s := 29) rfl ImpK.refl)))) <| JL.runX (.yes rfl (ltB rfl) rfl hc10) (op_call (js := [0]) ld cl10 (sim_law08_stands k x_15 x_14 gb_9 v_17 hv_17) .func (.cons (HasO.cnd tR (notT hc10)) (.cons (HasO.wk tR wkHL) .nil)) rfl) fun _ => JL.sub ⟨[(1, ov (S (rL r_law08_Step) a_2)), (5, ov (PTR gb_9 0)), (6, ov (HL go_11 (rV 32 (rU UInt8)) x_15 gc_12)), (27, ov (S rB v_16)), (30, ov (S rB v_17))], [cvar gb_9 r_merkle_Tree x_14, cown go_11 (rV 32 (rU UInt8)) x_15 (List.length x_15) gc_12], []⟩ (.cons rfl (.cons rfl (.cons rfl (.cons rfl (.cons rfl .nil))))) rfl rfl <| lI hx7 fun v_18 hv_18 hx7 => JL.run (.yes rfl (ltB rfl) rfl hc10) (op_not lb tR hv_18) <| jc (op_pickF lb tR hc10 tR) <| JL.nil ?_
     have hz := Option.some.inj hx7
     replace hz := Prod.mk.inj hz
     obtain ⟨hz_a, hz⟩ := hz
     first | subst hz_a | clear hz_a
     replace hz := Prod.mk.inj hz
     obtain ⟨hz_a, hz⟩ := hz
     first | subst hz_a | clear hz_a
     first | subst hz | clear hz
     exact JQ.pre (Imp.slot (s := 6) rfl wkHH) <| JQ.join () (Imp.norm (js := [0, 0]) rfl (.cons rfl (.cons rfl (.cons rfl (.cons rfl .nil)))))
   obtain _ := ts6
   dsimp only at hq1
   refine jx (op_call (js := []) ld cl12 (sim_merkle_New_v1 k () hs6) .func .nil rfl) fun _ => jc (op_assign lb tR) <| jn <| jr <| bI hq1 fun v_40 hv_40 hq1 => jx (op_call (js := []) ld cl17 (sim_ref08_Empty k v_40 hv_40) .func .nil rfl) (fun q => ?_)
   obtain ⟨go_41, gc_42⟩ := q
   refine jc (op_assign lb tR) <| jn <| JC.seq <| bI hq1 fun _ hx27 hq27 => JC.seqJ (γ := Unit) (stj := fun _ => ⟨[(1, ov (S (rL r_law08_Step) a_2)), (5, ov (PTO none)), (6, ov (HDR go_41 0 (List.length v_40) gc_42)), (32, ov (S rB true))], [cown go_41 (rV 32 (rU UInt8)) v_40 0 gc_42], []⟩) (fun _ => ?_) ?_
   · refine JC.condT tR rfl <| jr <| jc (op_assign lb .cB) <| jn <| JC.ret <| JQ.outR ?_
     obtain rfl := so hq27
     exact jd (.val (S rB false)) rfl rfl rfl rfl rfl rfl
   exact JC.region <| jmv rfl rfl <| jc (op_nilO (neg := false) (ob := none) lb tu24 tR (HasO.const (p := PTO none) fun _ => rfl) rfl) <| jmv rfl rfl <| jk rfl rfl <| jk rfl rfl <| jk rfl rfl <| jk rfl rfl <| jk rfl rfl <| jc (op_pickT lb tR rfl .cB) <| JL.sub ⟨[(1, ov (S (rL r_law08_Step) a_2)), (5, ov (PTO none)), (6, ov (HDR go_41 0 (List.length v_40) gc_42)), (26, ov (S rB true))], [cown go_41 (rV 32 (rU UInt8)) v_40 0 gc_42], []⟩ (.cons rfl (.cons rfl (.cons rfl (.cons rfl .nil)))) rfl rfl <| jmv rfl rfl <| jk rfl rfl <| jk rfl rfl <| jk rfl rfl <| jk rfl rfl <| jc (op_pickT lb tR rfl .cB) <| JL.nil <| JQ.join () (Imp.norm (js := [0]) rfl (.cons rfl (.cons rfl (.cons rfl (.cons rfl .nil)))))
 refine JC.region <| jmv rfl rfl <| bI hx1 fun v_3 hv_3 hx1 => jx (op_call (js := []) ld cl11 (sim_law08_much k t_1 v_3 hv_3) .func (.cons tR .nil) rfl) fun _ => jmv rfl rfl <| jF (ov (S (rL r_law08_Step) a_2)) rfl rfl rfl rfl (fun hq_2 => op_move lb tR) <| bI hx1 fun v_4 hv_4 hx1 => jF (ov (S rB v_4)) rfl rfl rfl rfl (fun hq_3 => (op_call (js := []) ld cl11 (sim_law08_much k a_2 v_4 (ifT hv_4 hq_3)) .func (.cons (HasO.cnd tR (notT (notF hq_3))) .nil) rfl).post (fun _ => Imp.refl)) <| lI hx1 fun v_5 hv_5 hx1 => jc (op_pickCS lb tR (fun hb4 => .cB) (fun hb4 => (HasO.cnd tR (notT hb4))) hv_5) <| JL.nil ?_
 try obtain rfl := so hx1
 exact JQ.join () (Imp.norm (js := []) rfl (.cons rfl (.cons rfl (.cons rfl .nil))))

end Go.Proofs.Ytbflmobpbjnekaa
