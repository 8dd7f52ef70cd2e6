/- Walks. -/
import Derived.Test.YtbflmobpbjnekaaT
import Derived.Test.YtbflmobpbjnekaaW2
import Derived.Test.YtbflmobpbjnekaaW3
import Derived.Test.YtbflmobpbjnekaaW7
namespace Go.Proofs.Ytbflmobpbjnekaa
open Go Fw
set_option linter.unusedVariables false
set_option maxRecDepth 100000
set_option maxHeartbeats 4000000

theorem sim_ref08_Nodes (k : Nat) (leaves_1 : (List (Vector UInt8 32))) (r : (List (Vector UInt8 32))) (hm : ref08_Nodes k leaves_1 = some r) : Sim Try.prog 27 [S (rL (rV 32 (rU UInt8))) leaves_1] [] (γ := Option Nat) (fun q => [cown q (rV 32 (rU UInt8)) r 0 (Int.toNat (128 : Int))]) (fun q => .one (.val (HDR q 0 (List.length r) (Int.toNat (128 : Int))))) := by
 unfold ref08_Nodes at hm
 refine Sim.of Try.func27 rfl rfl (lE rfl) (fun e0 w0 => ?_)
 refine JC.at ⟨[(0, ov (S (rL (rV 32 (rU UInt8))) leaves_1))], [], []⟩ <| jr <| jc (op_assign lb HasO.nilH) <| jn <| jr <| bI hm fun v_2 hv_2 hm => jx (op_makeOg lb tu22 tB30 zv30 .cI .cI hv_2) fun gb_3 => jc (op_assign lb tR) <| jn <| bI hm fun n_12 hx1 hq1 => JC.seqJ (γ := Unit) (stj := fun _ => ⟨[(3, ov (HDR (some gb_3) 0 (List.length n_12) (Int.toNat (128 : Int))))], [cown (some gb_3) (rV 32 (rU UInt8)) n_12 0 (Int.toNat (128 : Int))], []⟩) (fun _ => ?_) ?_
 · refine bI hq1 fun n_38 hx4 hq4 => JC.seqJ (γ := Unit) (stj := fun _ => ⟨[(3, ov (HDR (some gb_3) 0 (List.length n_38) (Int.toNat (128 : Int))))], [cown (some gb_3) (rV 32 (rU UInt8)) n_38 0 (Int.toNat (128 : Int))], []⟩) (fun _ => ?_) ?_
   · refine jr <| jmv rfl rfl <| jc (op_assign lb tR) <| jn <| JC.ret ?_
     obtain rfl := so hq4
     exact JQ.done (js := [0]) (ss := [.val (HDR (some gb_3) 0 (List.length n_38) (Int.toNat (128 : Int)))]) (some gb_3) (.inl rfl) (.nil rfl) rfl (.cons (.tmp rfl) .nil) rfl rfl rfl
   refine jr <| jc (op_assign lb .cI) <| jn <| JC.block <| JC.pre ?_ (JC.loop (γ := Unit) (stf := fun s q => ⟨[(3, ov (HDR (some gb_3) 0 (List.length s.1) (Int.toNat (128 : Int)))), (5, ov (S (rI .i64) s.2))], [cown (some gb_3) (rV 32 (rU UInt8)) s.1 0 (Int.toNat (128 : Int))], []⟩) (q := ()) hx4 ?_)
   · exact (Imp.norm (js := [0]) rfl (.cons rfl (.cons rfl .nil)))
   intro s q x hx hr
   obtain ⟨n_13, i_14⟩ := s
   obtain _ := q
   change ref08_Nodes.b2 k n_13 i_14 = some x at hx
   unfold ref08_Nodes.b2 at hx
   refine JC.at ⟨[(3, ov (HDR (some gb_3) 0 (List.length n_13) (Int.toNat (128 : Int)))), (5, ov (S (rI .i64) i_14))], [cown (some gb_3) (rV 32 (rU UInt8)) n_13 0 (Int.toNat (128 : Int))], []⟩ <| JC.seq <| jr <| jmv rfl rfl <| lI hx fun v_15 hv_15 hx => jc (op_cmpI lb tR .cI (cs hv_15)) <| jn <| jif tR hx (fun hc6 hx => ?_) (fun hc6 hx => ?_)
   · refine JC.skip <| JQ.then <| JC.seq <| JC.block <| JC.seq <| lI hx fun v_16 hv_16 hx => bI hx fun i_17 hv_i_17 hx => bI hx fun v_18 hv_18 hx => lI hx fun v_19 hv_19 hx => lI hx fun v_20 hv_20 hx => bI hx fun i_21 hv_i_21 hx => ?_
     obtain ⟨v_22, hv_22, hx⟩ := bnd_inv hx
     refine JC.anyF (base := [(3, ov (HDR (some gb_3) 0 (List.length n_13) (Int.toNat (128 : Int)))), (5, ov (S (rI .i64) i_14))])
         (fs := fun γ => [⟨some 25, ov (HDR (some gb_3) 0 (List.length n_13) (Int.toNat (128 : Int)))⟩, ⟨some 26, ov (S (rI .i64) i_14)⟩, ⟨some 27, ov (S (rI .i64) v_16)⟩, ⟨some 28, ov (EPT (some gb_3) (i_17 * 32))⟩, ⟨some 29, ov (A (rV 32 (rU UInt8)) v_18)⟩, ⟨some 30, ov (HDR (some gb_3) 0 (List.length n_13) (Int.toNat (128 : Int)))⟩, ⟨some 31, ov (S (rI .i64) i_14)⟩, ⟨some 32, ov (S (rI .i64) v_19)⟩, ⟨some 33, ov (S (rI .i64) v_20)⟩, ⟨some 34, ov (EPT (some gb_3) (i_21 * 32))⟩, ⟨some 35, ov (A (rV 32 (rU UInt8)) v_22)⟩, ⟨some 6, ov (PTR (γ 11 0) 0)⟩, ⟨some 7, ov (PTR (γ 12 0) 0)⟩, ⟨none, .one .any⟩, ⟨none, .one .any⟩])
         (rs := fun γ => [⟨cown (some gb_3) (rV 32 (rU UInt8)) n_13 0 (Int.toNat (128 : Int)), none, none, [3, 4, 9, 10]⟩, ⟨cvar (γ 11 0) (rV 32 (rU UInt8)) (Vector.replicate 32 (0 : UInt8)), (some 11), (some 13), []⟩, ⟨cvar (γ 12 0) (rV 32 (rU UInt8)) (Vector.replicate 32 (0 : UInt8)), (some 12), (some 14), []⟩, ⟨cvar (γ 11 0) (rV 32 (rU UInt8)) v_18, (some 13), none, []⟩, ⟨cvar (γ 12 0) (rV 32 (rU UInt8)) v_22, (some 14), none, []⟩])
         (afts := [[], [], [], [], [], [], [], [], [], [], [], [11, 13, 14], [12, 13, 14], [], []]) (js := [0]) mixed (.cons rfl (.cons rfl .nil)) (fun _ => rfl)
         (by
      refine db 1 3 <| db 2 5 <| dS 3 (fun γ ρ B hb hd => op_arI lb .cI (tl hd 1 26) (cs hv_16)) <| dR 4 (fun γ ρ B hb hd => OpStep.lk ⟨ρ, (cown (some gb_3) (rV 32 (rU UInt8)) n_13 0 (Int.toNat (128 : Int))) :: B, _⟩ (op_indexAddrOF (r := (rV 32 (rU UInt8))) (j := 0) lb tu22 tz30 rfl (tl hd 0 25) (tl hd 2 27) hv_i_17)) <| dR 5 (fun γ ρ B hb hd => OpStep.lk ⟨ρ, (cown (some gb_3) (rV 32 (rU UInt8)) n_13 0 (Int.toNat (128 : Int))) :: B, _⟩ (op_loadOA (r := (rV 32 (rU UInt8))) (i := i_17) (off := 0) (j := 0) lb tA30 rfl (tl hd 3 28) hv_18 (Comp.self (rV 32 (rU UInt8)) v_18) (by decide))) ?_
      refine db 6 3 <| db 7 5 <| dS 8 (fun γ ρ B hb hd => op_arI lb .cI (tl hd 6 31) (cs hv_19)) <| dS 9 (fun γ ρ B hb hd => op_arI lb (tl hd 7 32) .cI (cs hv_20)) <| dR 10 (fun γ ρ B hb hd => OpStep.lk ⟨ρ, (cown (some gb_3) (rV 32 (rU UInt8)) n_13 0 (Int.toNat (128 : Int))) :: B, _⟩ (op_indexAddrOF (r := (rV 32 (rU UInt8))) (j := 0) lb tu22 tz30 rfl (tl hd 5 30) (tl hd 8 33) hv_i_21)) ?_
      refine dR 11 (fun γ ρ B hb hd => OpStep.lk ⟨ρ, (cown (some gb_3) (rV 32 (rU UInt8)) n_13 0 (Int.toNat (128 : Int))) :: B, _⟩ (op_loadOA (r := (rV 32 (rU UInt8))) (i := i_21) (off := 0) (j := 0) lb tA30 rfl (tl hd 9 34) hv_22 (Comp.self (rV 32 (rU UInt8)) v_22) (by decide))) ?_
      refine DSteps.cons (j := 12) rfl (fun _ => rfl) (.runX (fun _ _ => rfl) (fun γ ρ B hb hd => ⟨.none, OpX.ghost (γ := Nat) (st' := fun q => setO ⟨ρ, (cvar q (rV 32 (rU UInt8)) (Vector.replicate 32 (0 : UInt8))) :: B, _⟩ (some 6) (ov (PTR q 0))) (fun q c => q) (OpX.front (op_alloc lb tZ30 zr30)) (fun q => Imp.refl)⟩) (fun _ _ => rfl) (fun _ _ => rfl)) <| DSteps.cons (j := 13) rfl (fun _ => rfl) (.runX (fun _ _ => rfl) (fun γ ρ B hb hd => ⟨.none, OpX.ghost (γ := Nat) (st' := fun q => setO ⟨ρ, (cvar q (rV 32 (rU UInt8)) (Vector.replicate 32 (0 : UInt8))) :: B, _⟩ (some 7) (ov (PTR q 0))) (fun q c => q) (OpX.front (op_alloc lb tZ30 zr30)) (fun q => Imp.refl)⟩) (fun _ _ => rfl) (fun _ _ => rfl)) ?_
      refine dR 14 (fun γ ρ B hb hd => OpStep.at ⟨ρ, (cvar (γ 11 0) (rV 32 (rU UInt8)) (Vector.replicate 32 (0 : UInt8))) :: B, _⟩ (setO ⟨ρ, (cvar (γ 11 0) (rV 32 (rU UInt8)) v_18) :: B, _⟩ _ _) (op_storeA (j := 0) tA30 (tl hd 11 6) (tl hd 4 29) rfl (UpdR.self (by rfl)) rfl)) <| dR 15 (fun γ ρ B hb hd => OpStep.at ⟨ρ, (cvar (γ 12 0) (rV 32 (rU UInt8)) (Vector.replicate 32 (0 : UInt8))) :: B, _⟩ (setO ⟨ρ, (cvar (γ 12 0) (rV 32 (rU UInt8)) v_22) :: B, _⟩ _ _) (op_storeA (j := 0) tA30 (tl hd 12 7) (tl hd 10 35) rfl (UpdR.self (by rfl)) rfl)) ?_
      exact DSteps.nil)
         (by decide +kernel) (fun _ => rfl) (fun _ => rfl) (fun _ => rfl) rfl
         (ρ' := fun γ => [(3, ov (HDR (some gb_3) 0 (List.length n_13) (Int.toNat (128 : Int)))), (5, ov (S (rI .i64) i_14)), (6, ov (PTR (γ 11 0) 0)), (7, ov (PTR (γ 12 0) 0))])
         (X' := fun γ => [cown (some gb_3) (rV 32 (rU UInt8)) n_13 0 (Int.toNat (128 : Int)), cvar (γ 11 0) (rV 32 (rU UInt8)) v_18, cvar (γ 12 0) (rV 32 (rU UInt8)) v_22])
         (fun γ ρ hb hd => (.cons (hb 3 _ rfl) (.cons (hb 5 _ rfl) (.cons (hdq hd 11 6 rfl) (.cons (hdq hd 12 7 rfl) .nil))))) (fun _ => rfl) (fun γ => ?_)
     generalize (γ 11 0) = gb_23
     generalize (γ 12 0) = gb_24
     clear γ
     refine JQ.at ⟨[(3, ov (HDR (some gb_3) 0 (List.length n_13) (Int.toNat (128 : Int)))), (5, ov (S (rI .i64) i_14)), (6, ov (PTR gb_23 0)), (7, ov (PTR gb_24 0))], [cown (some gb_3) (rV 32 (rU UInt8)) n_13 0 (Int.toNat (128 : Int)), cvar gb_23 (rV 32 (rU UInt8)) v_18, cvar gb_24 (rV 32 (rU UInt8)) v_22], []⟩ <| JQ.then <| bI hx fun v_26 hv_26 hx => bI hx fun x_27 hv_x_27 hx => bI hx fun v_30 hv_30 hx => bI hx fun x_31 hv_x_31 hx => bI hx fun v_34 hv_34 hx => bI hx fun i_35 hv_i_35 hx => ?_
     obtain ⟨n_36, hv_n_36, hx⟩ := bnd_inv hx
     refine JC.anyF (base := [(3, ov (HDR (some gb_3) 0 (List.length n_13) (Int.toNat (128 : Int)))), (5, ov (S (rI .i64) i_14)), (6, ov (PTR gb_23 0)), (7, ov (PTR gb_24 0))])
         (fs := fun γ => [⟨some 36, ov (HDR (some gb_3) 0 (List.length n_13) (Int.toNat (128 : Int)))⟩, ⟨some 37, ov (S (rI .i64) i_14)⟩, ⟨some 38, ov (HDR (some (γ 2 0)) 0 (List.length ([(1 : UInt8)] : (List UInt8))) (1))⟩, ⟨some 39, ov (S (rBo (KV (rV 32 (rU UInt8)) v_18 gb_23) (rL (rU UInt8))) v_26)⟩, ⟨some 40, ov (HDR (deo (γ 4 0)) 0 (List.length x_27) (γ 4 1))⟩, ⟨some 41, ov (S (rBo (KV (rV 32 (rU UInt8)) v_22 gb_24) (rL (rU UInt8))) v_30)⟩, ⟨some 42, ov (S (rL (rU UInt8)) x_31)⟩, ⟨some 43, ov (A (rV 32 (rU UInt8)) v_34)⟩, ⟨some 44, ov (EPT (some gb_3) (i_35 * 32))⟩, ⟨none, .one .any⟩])
         (rs := fun γ => [⟨cown (some gb_3) (rV 32 (rU UInt8)) n_13 0 (Int.toNat (128 : Int)), none, (some 9), [8]⟩, ⟨cvar gb_23 (rV 32 (rU UInt8)) v_18, none, none, [4]⟩, ⟨cvar gb_24 (rV 32 (rU UInt8)) v_22, none, none, [6]⟩, ⟨cown (some (γ 2 0)) (rU UInt8) ([(1 : UInt8)] : (List UInt8)) 0 (1), (some 2), (some 4), []⟩, ⟨cown (deo (γ 4 0)) (rU UInt8) x_27 0 (γ 4 1), (some 4), (some 6), []⟩, ⟨cown (some gb_3) (rV 32 (rU UInt8)) n_36 0 (Int.toNat (128 : Int)), (some 9), none, []⟩])
         (afts := [[], [], [2, 4, 6, 7, 8, 9], [], [4, 6, 7, 8, 9], [], [], [], [], []]) (js := [0, 0, 0]) mixed (.cons rfl (.cons rfl (.cons rfl (.cons rfl .nil)))) (fun _ => rfl)
         (by
      refine db 1 3 <| db 2 5 <| DSteps.cons (j := 3) rfl (fun _ => rfl) (.runX (fun _ _ => rfl) (fun γ ρ B hb hd => ⟨.none, OpX.ghost (γ := Nat) (st' := fun q => setO ⟨ρ, (cown (some q) (rU UInt8) ([(1 : UInt8)] : (List UInt8)) 0 (1)) :: B, _⟩ (some 38) (ov (HDR (some q) 0 (List.length ([(1 : UInt8)] : (List UInt8))) (1)))) (fun q c => q) (OpX.front (op_buildO (r := (rU UInt8)) lb tu37 tz5 tZ5 rfl (lE rfl) (.S rfl (HasO.cU (x := (1 : UInt8)) rfl (by decide)) .nil) rfl)) (fun q => Imp.refl)⟩) (fun _ _ => rfl) (fun _ _ => rfl)) ?_
      refine dS 4 (fun γ ρ B hb hd => op_sliceB lb tu30 tz5 (.tmp (hb 6 _ rfl)) (Comp.self (rV 32 (rU UInt8)) v_18) .none .none hv_26) ?_
      refine DSteps.cons (j := 5) rfl (fun _ => rfl) (.runX (fun _ _ => rfl) (fun γ ρ B hb hd => ⟨.none, OpX.ghost (γ := Option Nat × Nat) (st' := fun q => setO ⟨ρ, (cown q.1 (rU UInt8) x_27 0 q.2) :: (cvar gb_23 (rV 32 (rU UInt8)) v_18) :: B, _⟩ (some 40) (ov (HDR q.1 0 (List.length x_27) q.2))) (fun q c => bif Nat.beq c 0 then eno q.1 else q.2) (op_appendB (j' := 1) (j := 0) lb tu37 tu37 rfl tB5 rfl (Nat.lt_of_lt_of_le Nat.zero_lt_one (lE rfl)) (Nat.lt_of_lt_of_le Nat.zero_lt_one (lE rfl))  rfl (tl hd 2 38) rfl EF.u (tl hd 3 39) hv_x_27) (fun q => by obtain ⟨q0, q1⟩ := q; cases q0 <;> exact Imp.refl)⟩) (fun _ _ => rfl) (fun _ _ => rfl)) ?_
      refine dS 6 (fun γ ρ B hb hd => op_sliceB lb tu30 tz5 (.tmp (hb 7 _ rfl)) (Comp.self (rV 32 (rU UInt8)) v_22) .none .none hv_30) <| dR 7 (fun γ ρ B hb hd => OpStep.at ⟨ρ, (cown (deo (γ 4 0)) (rU UInt8) x_27 0 (γ 4 1)) :: (cvar gb_24 (rV 32 (rU UInt8)) v_22) :: B, _⟩ (setO ⟨ρ, (cvar gb_24 (rV 32 (rU UInt8)) v_22) :: B, _⟩ _ _) ((op_appendB (j' := 1) (j := 0) lb tu37 tu37 rfl tB5 rfl (Nat.lt_of_lt_of_le Nat.zero_lt_one (lE rfl)) (Nat.lt_of_lt_of_le Nat.zero_lt_one (lE rfl))  rfl (tl hd 4 40) rfl EF.u (tl hd 5 41) hv_x_31).post (fun q => Imp.dropF (j := 0) rfl))) <| dS 8 (fun γ ρ B hb hd => (op_call (js := []) ld cl15 (sim_ref03_Sum k x_31 v_34 hv_34) .func (.cons (tl hd 6 42) .nil) rfl).post (fun _ => Imp.refl)) <| dR 9 (fun γ ρ B hb hd => OpStep.lk ⟨ρ, (cown (some gb_3) (rV 32 (rU UInt8)) n_13 0 (Int.toNat (128 : Int))) :: B, _⟩ (op_indexAddrOF (r := (rV 32 (rU UInt8))) (j := 0) lb tu22 tz30 rfl (tl hd 0 36) (tl hd 1 37) hv_i_35)) <| dR 10 (fun γ ρ B hb hd => OpStep.at ⟨ρ, (cown (some gb_3) (rV 32 (rU UInt8)) n_13 0 (Int.toNat (128 : Int))) :: B, _⟩ (setO ⟨ρ, (cown (some gb_3) (rV 32 (rU UInt8)) n_36 0 (Int.toNat (128 : Int))) :: B, _⟩ _ _) (op_storeOAg (r := (rV 32 (rU UInt8))) (j := 0) tA30 rfl (tl hd 8 44) (tl hd 7 43) hv_n_36)) ?_
      exact DSteps.nil)
         (by decide +kernel) (fun _ => rfl) (fun _ => rfl) (fun _ => rfl) rfl
         (ρ' := fun γ => [(3, ov (HDR (some gb_3) 0 (List.length n_13) (Int.toNat (128 : Int)))), (5, ov (S (rI .i64) i_14))])
         (X' := fun γ => [cvar gb_23 (rV 32 (rU UInt8)) v_18, cvar gb_24 (rV 32 (rU UInt8)) v_22, cown (some gb_3) (rV 32 (rU UInt8)) n_36 0 (Int.toNat (128 : Int))])
         (fun γ ρ hb hd => (.cons (hb 3 _ rfl) (.cons (hb 5 _ rfl) .nil))) (fun _ => rfl) (fun γ => ?_)
     generalize (γ 2 0) = gb_25
     generalize (deo (γ 4 0)) = go_28
     generalize (γ 4 1) = gc_29
     clear γ
     refine JQ.at ⟨[(3, ov (HDR (some gb_3) 0 (List.length n_13) (Int.toNat (128 : Int)))), (5, ov (S (rI .i64) i_14))], [cvar gb_23 (rV 32 (rU UInt8)) v_18, cvar gb_24 (rV 32 (rU UInt8)) v_22, cown (some gb_3) (rV 32 (rU UInt8)) n_36 0 (Int.toNat (128 : Int))], []⟩ <| JQ.pre (Imp.slot (s := 3) rfl (wkLen (setO'_len hv_n_36))) <| JQ.outNB <| JQ.then <| JC.region <| jmv rfl rfl <| lI hx fun v_37 hv_37 hx => jc (op_arI lb tR .cI (cs hv_37)) <| jc (op_assign lb tR) <| JL.nil ?_
     try obtain rfl := so hx
     exact JQ.next () rfl (Imp.norm (js := [2]) rfl (.cons rfl (.cons rfl .nil)))
   refine JC.exit <| JQ.outX ?_
   try obtain rfl := so hx
   have ht := hr _ rfl
   have hq5 := cs ht
   clear hr ht
   refine JQ.outX <| JQ.here ?_
   try obtain rfl := so hq5
   exact JQ.join () (Imp.norm (js := [0]) rfl (.cons rfl .nil))
 refine jr <| jc (op_assign lb .cI) <| jn <| JC.block <| JC.pre ?_ (JC.loop (γ := Unit) (stf := fun s q => ⟨[(0, ov (S (rL (rV 32 (rU UInt8))) leaves_1)), (3, ov (HDR (some gb_3) 0 (List.length s.1) (Int.toNat (128 : Int)))), (4, ov (S (rI .i64) s.2))], [cown (some gb_3) (rV 32 (rU UInt8)) s.1 0 (Int.toNat (128 : Int))], []⟩) (q := ()) hx1 ?_)
 · exact (Imp.norm (js := [0]) rfl (.cons rfl (.cons rfl (.cons rfl .nil))))
 intro s q x hx hr
 obtain ⟨n_4, i_5⟩ := s
 obtain _ := q
 change ref08_Nodes.b1 k leaves_1 n_4 i_5 = some x at hx
 unfold ref08_Nodes.b1 at hx
 refine JC.at ⟨[(0, ov (S (rL (rV 32 (rU UInt8))) leaves_1)), (3, ov (HDR (some gb_3) 0 (List.length n_4) (Int.toNat (128 : Int)))), (4, ov (S (rI .i64) i_5))], [cown (some gb_3) (rV 32 (rU UInt8)) n_4 0 (Int.toNat (128 : Int))], []⟩ <| JC.seq <| jr <| jmv rfl rfl <| lI hx fun v_6 hv_6 hx => jc (op_cmpI lb tR .cI (cs hv_6)) <| jn <| jif tR hx (fun hc3 hx => ?_) (fun hc3 hx => ?_)
 · refine JC.skip <| JQ.then <| JC.seq <| JC.block <| JC.region <| jmv rfl rfl <| jmv rfl rfl <| lI hx fun v_7 hv_7 hx => jc (op_arI lb .cI tR (cs hv_7)) <| jmv rfl rfl <| jmv rfl rfl <| bI hx fun v_8 hv_8 hx => jc (op_indexAddrLg lb tu22 tz30 tR tR hv_8) <| jc (op_loadPAg lb tA30 tR rfl) <| bI hx fun i_9 hv_i_9 hx => jc (op_indexAddrOF (r := (rV 32 (rU UInt8))) (j := 0) lb tu22 tz30 rfl tR tR hv_i_9) ?_
   refine bI hx fun n_10 hv_n_10 hx => jc (op_storeOAg (r := (rV 32 (rU UInt8))) (j := 0) tA30 rfl tR tR hv_n_10) <| JL.pre (Imp.slot (s := 3) (q := HDR (some gb_3) 0 (List.length n_10) (Int.toNat (128 : Int))) rfl (wkLen (setO'_len hv_n_10))) <| JL.pre (Imp.slot (s := 13) (q := HDR (some gb_3) 0 (List.length n_10) (Int.toNat (128 : Int))) rfl (wkLen (setO'_len hv_n_10))) <| JL.sub ⟨[(0, ov (S (rL (rV 32 (rU UInt8))) leaves_1)), (3, ov (HDR (some gb_3) 0 (List.length n_10) (Int.toNat (128 : Int)))), (4, ov (S (rI .i64) i_5))], [cown (some gb_3) (rV 32 (rU UInt8)) n_10 0 (Int.toNat (128 : Int))], []⟩ (.cons rfl (.cons rfl (.cons rfl .nil))) rfl rfl <| JL.nil <| JQ.outNB <| JQ.then <| JC.region <| jmv rfl rfl ?_
   obtain ⟨v_11, hv_11, hx⟩ := lt1_inv hx
   refine jc (op_arI lb tR .cI (cs hv_11)) <| jc (op_assign lb tR) <| JL.nil ?_
   try obtain rfl := so hx
   exact JQ.next () rfl (Imp.norm (js := [0]) rfl (.cons rfl (.cons rfl (.cons rfl .nil))))
 refine JC.exit <| JQ.outX ?_
 try obtain rfl := so hx
 have ht := hr _ rfl
 have hq2 := cs ht
 clear hr ht
 refine JQ.outX <| JQ.here ?_
 try obtain rfl := so hq2
 exact JQ.join () (Imp.norm (js := [0]) rfl (.cons rfl .nil))

theorem sim_merkle_Tree_Root (k : Nat) (t_1 : merkle_Tree) (gb_2 : Nat) (r : (Vector UInt8 32)) (hm : merkle_Tree_Root k t_1 = some r) : Sim Try.prog 16 [PTR gb_2 0] [cvar gb_2 r_merkle_Tree t_1] (γ := Unit) (fun q => [cvar gb_2 r_merkle_Tree t_1]) (fun q => .one (.val (A (rV 32 (rU UInt8)) r))) := by
 unfold merkle_Tree_Root at hm
 refine Sim.of Try.func16 rfl rfl (lE rfl) (fun e0 w0 => ?_)
 refine JC.at ⟨[(0, ov (PTR gb_2 0))], [cvar gb_2 r_merkle_Tree t_1], []⟩ <| jr <| jx (op_alloc lb tZ30 zr30) fun gb_3 => jn <| JC.seq <| jr <| jmv rfl rfl <| bI hm fun _ hv_u_4 hm => jx (op_call (js := [0]) ld cl29 (sim_merkle_Tree_there k t_1 gb_2 () hv_u_4) .func (.cons tR .nil) rfl) fun _ => lI hm fun v_5 hv_5 hm => jc (op_not lb tR hv_5) <| jn <| jif tR hm (fun hc1 hm => ?_) (fun hc1 hm => ?_)
 · refine jr <| jc (op_build lb tZ30 zv30 tp30 .nil rfl) <| jc (op_storeA (j := 1) tA30 tR tR rfl (UpdR.self (by rfl)) rfl) <| jn <| JC.ret <| JQ.outR ?_
   obtain rfl := so hm
   exact JQ.done (js := [0]) (ss := [.val (A (rV 32 (rU UInt8)) (Vector.replicate 32 (0 : UInt8)))]) () (.inl rfl) (.nil rfl) rfl (.cons (.cellA (j := 1) tA30 rfl rfl) .nil) rfl rfl rfl
 refine JC.skip <| JQ.then <| jr <| jmv rfl rfl <| jc (op_nilCheck lb tR (fun e v h => by subst h; rfl)) <| jc (op_fieldAddr (off := 0) lb tf52_0 tR) <| bI hm fun i_6 hv_i_6 hm => jc (op_indexAddrIF lb tr50 tR .cI hv_i_6) <| JL.sub ⟨[(2, ov (PTR gb_3 0)), (10, ov (PTR gb_2 ((0 + 0) + i_6.1 * 32)))], [cvar gb_2 r_merkle_Tree t_1, cvar gb_3 (rV 32 (rU UInt8)) (Vector.replicate 32 (0 : UInt8))], []⟩ (.cons rfl (.cons rfl .nil)) rfl rfl <| lI hm fun v_7 hv_7 hm => jc (op_loadA (j := 0) lb tA30 tR rfl (Comp.at (cT (comp_merkle_Tree_n t_1) rfl) i_6.2 rfl) hv_7) <| jc (op_storeA (j := 1) tA30 tR tR rfl (UpdR.self (by rfl)) rfl) <| jn <| JC.ret ?_
 obtain rfl := so hm
 exact JQ.done (js := [0]) (ss := [.val (A (rV 32 (rU UInt8)) v_7)]) () (.inl rfl) (.nil rfl) rfl (.cons (.cellA (j := 1) tA30 rfl rfl) .nil) rfl rfl rfl

theorem sim_ref08_Same_ov (k : Nat) (b_1 : (List (Vector UInt8 32))) (a_2 : (List (Vector UInt8 32))) (go_3 : Option Nat) (gc_4 : Nat) (r : Bool) (hm : ref08_Same_ov k b_1 a_2 = some r) : Sim Try.prog 21 [HDR go_3 0 (List.length a_2) gc_4, S (rL (rV 32 (rU UInt8))) b_1] [cown go_3 (rV 32 (rU UInt8)) a_2 0 gc_4] (γ := Unit) (fun q => [cown go_3 (rV 32 (rU UInt8)) a_2 0 gc_4]) (fun q => .one (.val (S rB r))) := by
 unfold ref08_Same_ov at hm
 refine Sim.of Try.func21 rfl rfl (lE rfl) (fun e0 w0 => ?_)
 refine JC.at ⟨[(0, ov (HDR go_3 0 (List.length a_2) gc_4)), (1, ov (S (rL (rV 32 (rU UInt8))) b_1))], [cown go_3 (rV 32 (rU UInt8)) a_2 0 gc_4], []⟩ <| jr <| jc (op_assign lb .cB) <| jn <| JC.seq <| jr <| jmv rfl rfl <| jc (op_lenH lb tu22 tR) <| jmv rfl rfl <| jc (op_lenL lb tu22 tR) <| lI hm fun v_5 hv_5 hm => jc (op_cmpI lb tR tR (cs hv_5)) <| jn <| jif tR hm (fun hc1 hm => ?_) (fun hc1 hm => ?_)
 · refine jr <| jc (op_assign lb .cB) <| jn <| JC.ret <| JQ.outR ?_
   obtain rfl := so hm
   exact JQ.done (js := [0]) (ss := [.val (S rB false)]) () (.inl rfl) (.nil rfl) rfl (.cons (.tmp rfl) .nil) rfl rfl rfl
 refine JC.skip <| JQ.then <| bI hm fun tv2 hx2 hq2 => JC.seqK (α := Unit) (γ := Unit) (stj := fun v q => ⟨[], [cown go_3 (rV 32 (rU UInt8)) a_2 0 gc_4], []⟩) (p := fun v => tv2 = (.inl v)) (fun v q hv => ?_) ?_
 · subst hv
   skip
   obtain _ := q
   dsimp only at hq2
   refine JC.at ⟨[], [cown go_3 (rV 32 (rU UInt8)) a_2 0 gc_4], []⟩ <| jr <| jc (op_assign lb .cB) <| jn <| JC.ret ?_
   obtain rfl := so hq2
   exact JQ.done (js := [0]) (ss := [.val (S rB true)]) () (.inl rfl) (.nil rfl) rfl (.cons (.tmp rfl) .nil) rfl rfl rfl
 refine jr <| jc (op_assign lb .cI) <| jn <| JC.block <| bI hx2 fun tv3 hL3 hq3 => JC.pre ?_ (JC.loop (γ := Unit) (stf := fun s q => ⟨[(0, ov (HDR go_3 0 (List.length a_2) gc_4)), (1, ov (S (rL (rV 32 (rU UInt8))) b_1)), (5, ov (S (rI .i64) s))], [cown go_3 (rV 32 (rU UInt8)) a_2 0 gc_4], []⟩) (q := ()) hL3 ?_)
 · exact (Imp.norm (js := [0]) rfl (.cons rfl (.cons rfl (.cons rfl .nil))))
 intro i_6 q x hx hr
 obtain _ := q
 change ref08_Same_ov.b1 k a_2 b_1 i_6 = some x at hx
 unfold ref08_Same_ov.b1 at hx
 refine JC.at ⟨[(0, ov (HDR go_3 0 (List.length a_2) gc_4)), (1, ov (S (rL (rV 32 (rU UInt8))) b_1)), (5, ov (S (rI .i64) i_6))], [cown go_3 (rV 32 (rU UInt8)) a_2 0 gc_4], []⟩ <| JC.seq <| jr <| jmv rfl rfl <| jmv rfl rfl <| jc (op_lenH lb tu22 tR) <| lI hx fun v_7 hv_7 hx => jc (op_cmpI lb tR tR (cs hv_7)) <| jn <| jif tR hx (fun hc4 hx => ?_) (fun hc4 hx => ?_)
 · refine JC.skip <| JQ.then <| JC.seq <| JC.block <| JC.seq <| bI hx fun i_8 hv_i_8 hx => bI hx fun v_9 hv_9 hx => bI hx fun v_10 hv_10 hx => ?_
   obtain ⟨v_11, hv_11, hx⟩ := lt1_inv hx
   refine JC.anyF (base := [(0, ov (HDR go_3 0 (List.length a_2) gc_4)), (1, ov (S (rL (rV 32 (rU UInt8))) b_1)), (5, ov (S (rI .i64) i_6))])
       (fs := fun γ => [⟨some 17, ov (HDR go_3 0 (List.length a_2) gc_4)⟩, ⟨some 18, ov (S (rI .i64) i_6)⟩, ⟨some 19, ov (EPT go_3 (i_8 * 32))⟩, ⟨some 20, ov (A (rV 32 (rU UInt8)) v_9)⟩, ⟨some 21, ov (S (rL (rV 32 (rU UInt8))) b_1)⟩, ⟨some 22, ov (S (rI .i64) i_6)⟩, ⟨some 23, ov (PT (rV 32 (rU UInt8)) v_10)⟩, ⟨some 24, ov (A (rV 32 (rU UInt8)) v_10)⟩, ⟨some 25, ov (S rB v_11)⟩])
       (rs := fun γ => [⟨cown go_3 (rV 32 (rU UInt8)) a_2 0 gc_4, none, none, [2, 3]⟩])
       (afts := nn 9) (js := [0]) mixed (.cons rfl (.cons rfl (.cons rfl .nil))) (fun _ => rfl)
       (by
      refine db 1 0 <| db 2 5 <| dR 3 (fun γ ρ B hb hd => OpStep.lk ⟨ρ, (cown go_3 (rV 32 (rU UInt8)) a_2 0 gc_4) :: B, _⟩ (op_indexAddrOF (r := (rV 32 (rU UInt8))) (j := 0) lb tu22 tz30 rfl (tl hd 0 17) (tl hd 1 18) hv_i_8)) <| dR 4 (fun γ ρ B hb hd => OpStep.lk ⟨ρ, (cown go_3 (rV 32 (rU UInt8)) a_2 0 gc_4) :: B, _⟩ (op_loadOA (r := (rV 32 (rU UInt8))) (i := i_8) (off := 0) (j := 0) lb tA30 rfl (tl hd 2 19) hv_9 (Comp.self (rV 32 (rU UInt8)) v_9) (by decide))) <| db 5 1 ?_
      refine db 6 5 <| dS 7 (fun γ ρ B hb hd => op_indexAddrLg lb tu22 tz30 (tl hd 4 21) (tl hd 5 22) hv_10) <| dS 8 (fun γ ρ B hb hd => op_loadPAg lb tA30 (tl hd 6 23) rfl) <| dS 9 (fun γ ρ B hb hd => op_neA lb qa30 (by decide) ng30 (tl hd 3 20) (tl hd 7 24) hv_11) ?_
      exact DSteps.nil)
       (by decide +kernel) (fun _ => rfl) (fun _ => rfl) (fun _ => rfl) rfl
       (ρ' := fun γ => [(0, ov (HDR go_3 0 (List.length a_2) gc_4)), (1, ov (S (rL (rV 32 (rU UInt8))) b_1)), (5, ov (S (rI .i64) i_6)), (25, ov (S rB v_11))])
       (X' := fun γ => [cown go_3 (rV 32 (rU UInt8)) a_2 0 gc_4])
       (fun γ ρ hb hd => (.cons (hb 0 _ rfl) (.cons (hb 1 _ rfl) (.cons (hb 5 _ rfl) (.cons (hdq hd 8 25 rfl) .nil))))) (fun _ => rfl) (fun γ => ?_)
   refine JQ.at ⟨[(0, ov (HDR go_3 0 (List.length a_2) gc_4)), (1, ov (S (rL (rV 32 (rU UInt8))) b_1)), (5, ov (S (rI .i64) i_6)), (25, ov (S rB v_11))], [cown go_3 (rV 32 (rU UInt8)) a_2 0 gc_4], []⟩ <| JQ.then <| jif tR hx (fun hc5 hx => ?_) (fun hc5 hx => ?_)
   · refine jr <| jc (op_assign lb .cB) <| jn <| JC.ret <| JQ.outRB <| JQ.outR ?_
     try obtain rfl := so hx
     try obtain rfl := hr _ rfl
     dsimp only at hq3
     refine JQ.outR <| JQ.outRB ?_
     try obtain rfl := so hq3
     dsimp only at hq2
     refine JQ.outR ?_
     obtain rfl := so hq2
     exact JQ.done (js := [0]) (ss := [.val (S rB false)]) () (.inl rfl) (.nil rfl) rfl (.cons (.tmp rfl) .nil) rfl rfl rfl
   refine JC.skip <| JQ.outNB <| JQ.then <| JC.region <| jmv rfl rfl <| lI hx fun v_12 hv_12 hx => jc (op_arI lb tR .cI (cs hv_12)) <| jc (op_assign lb tR) <| JL.nil ?_
   try obtain rfl := so hx
   exact JQ.next () rfl (Imp.norm (js := [0]) rfl (.cons rfl (.cons rfl (.cons rfl .nil))))
 refine JC.exit <| JQ.outX ?_
 try obtain rfl := so hx
 try obtain rfl := hr _ rfl
 dsimp only at hq3
 refine JQ.outX <| JQ.here ?_
 try obtain rfl := so hq3
 exact JQ.joinK () () rfl (Imp.norm (js := [0]) rfl .nil)

theorem sim_law08_stands (k : Nat) (a_1 : (List (Vector UInt8 32))) (t_2 : merkle_Tree) (gb_3 : Nat) (r : Bool) (hm : law08_stands k a_1 t_2 = some r) : Sim Try.prog 10 [PTR gb_3 0, S (rL (rV 32 (rU UInt8))) a_1] [cvar gb_3 r_merkle_Tree t_2] (γ := Unit) (fun q => [cvar gb_3 r_merkle_Tree t_2]) (fun q => .one (.val (S rB r))) := by
 unfold law08_stands at hm
 refine Sim.of Try.func10 rfl rfl (lE rfl) (fun e0 w0 => ?_)
 refine JC.at ⟨[(0, ov (PTR gb_3 0)), (1, ov (S (rL (rV 32 (rU UInt8))) a_1))], [cvar gb_3 r_merkle_Tree t_2], []⟩ <| jr <| jc (op_assign lb .cB) <| jn <| jr <| jmv rfl rfl <| bI hm fun v_4 hv_4 hm => jx (op_call (js := []) ld cl27 (sim_ref08_Nodes k a_1 v_4 hv_4) .func (.cons tR .nil) rfl) fun go_5 => jc (op_assign lb tR) <| jn <| bI hm fun tv1 hx1 hq1 => JC.seqK (α := Unit) (γ := Unit) (stj := fun v q => ⟨[(0, ov (PTR gb_3 0)), (1, ov (S (rL (rV 32 (rU UInt8))) a_1)), (5, ov (HDR go_5 0 (List.length v_4) (Int.toNat (128 : Int))))], [cvar gb_3 r_merkle_Tree t_2, cown go_5 (rV 32 (rU UInt8)) v_4 0 (Int.toNat (128 : Int))], []⟩) (p := fun v => tv1 = (.inl v)) (fun v q hv => ?_) ?_
 · subst hv
   skip
   obtain _ := q
   dsimp only at hq1
   refine JC.at ⟨[(0, ov (PTR gb_3 0)), (1, ov (S (rL (rV 32 (rU UInt8))) a_1)), (5, ov (HDR go_5 0 (List.length v_4) (Int.toNat (128 : Int))))], [cvar gb_3 r_merkle_Tree t_2, cown go_5 (rV 32 (rU UInt8)) v_4 0 (Int.toNat (128 : Int))], []⟩ <| jr <| jmv rfl rfl <| bI hq1 fun v_28 hv_28 hq1 => jx (op_call (js := [0]) ld cl23 (sim_merkle_Tree_Leaves k t_2 gb_3 v_28 hv_28) .func (.cons tR .nil) rfl) (fun q => ?_)
   obtain ⟨go_29, gc_30⟩ := q
   refine jc (op_assign lb tR) <| jn <| JC.seq <| bI hq1 fun x_37 hx22 hq22 => JC.seqJ (γ := Unit) (stj := fun _ => ⟨[(0, ov (PTR gb_3 0)), (1, ov (S (rL (rV 32 (rU UInt8))) a_1)), (9, ov (HDR go_29 0 (List.length v_28) gc_30)), (61, ov (S rB x_37))], [cvar gb_3 r_merkle_Tree t_2, cown go_29 (rV 32 (rU UInt8)) v_28 0 gc_30], []⟩) (fun _ => ?_) ?_
   · refine jif tR hq22 (fun hc26 hq22 => ?_) (fun hc26 hq22 => ?_)
     · refine jr <| jc (op_assign lb .cB) <| jn <| JC.ret <| JQ.outR ?_
       obtain rfl := so hq22
       exact JQ.done (js := [0]) (ss := [.val (S rB false)]) () (.inl rfl) (.nil rfl) rfl (.cons (.tmp rfl) .nil) rfl rfl rfl
     refine JC.skip <| JQ.then <| bI hq22 fun _ hx27 hq27 => JC.seqJ (γ := Unit) (stj := fun _ => ⟨[(0, ov (PTR gb_3 0)), (1, ov (S (rL (rV 32 (rU UInt8))) a_1))], [cvar gb_3 r_merkle_Tree t_2], []⟩) (fun _ => ?_) ?_
     · refine jr <| jmv rfl rfl <| bI hq27 fun v_44 hv_44 hq27 => jx (op_call (js := [0]) ld cl23 (sim_merkle_Tree_Leaves k t_2 gb_3 v_44 hv_44) .func (.cons tR .nil) rfl) (fun q => ?_)
       obtain ⟨go_45, gc_46⟩ := q
       refine jmv rfl rfl <| bI hq27 fun v_47 hv_47 hq27 => jx (op_call (js := [0]) ld cl21 (sim_ref08_Same_ov k a_1 v_44 go_45 gc_46 v_47 hv_47) .func (.cons tR (.cons tR .nil)) rfl) fun _ => jc (op_assign lb tR) <| jn <| JC.ret ?_
       obtain rfl := so hq27
       exact JQ.done (js := [1]) (ss := [.val (S rB v_47)]) () (.inl rfl) (.nil rfl) rfl (.cons (.tmp rfl) .nil) rfl rfl rfl
     refine jr <| jc (op_assign lb .cI) <| jn <| JC.block <| JC.pre ?_ (JC.loop (γ := Unit) (stf := fun s q => ⟨[(0, ov (PTR gb_3 0)), (1, ov (S (rL (rV 32 (rU UInt8))) a_1)), (9, ov (HDR go_29 0 (List.length s.1) gc_30)), (10, ov (S (rI .i64) s.2))], [cvar gb_3 r_merkle_Tree t_2, cown go_29 (rV 32 (rU UInt8)) s.1 0 gc_30], []⟩) (q := ()) hx27 ?_)
     · exact (Imp.norm (js := [0, 0]) rfl (.cons rfl (.cons rfl (.cons rfl (.cons rfl .nil)))))
     intro s q x hx hr
     obtain ⟨x_38, x_39⟩ := s
     obtain _ := q
     change law08_stands.b2 k x_38 x_39 = some x at hx
     unfold law08_stands.b2 at hx
     refine JC.at ⟨[(0, ov (PTR gb_3 0)), (1, ov (S (rL (rV 32 (rU UInt8))) a_1)), (9, ov (HDR go_29 0 (List.length x_38) gc_30)), (10, ov (S (rI .i64) x_39))], [cvar gb_3 r_merkle_Tree t_2, cown go_29 (rV 32 (rU UInt8)) x_38 0 gc_30], []⟩ <| JC.seq <| jr <| jmv rfl rfl <| jmv rfl rfl <| jc (op_lenH lb tu22 tR) <| lI hx fun v_40 hv_40 hx => jc (op_cmpI lb tR tR (cs hv_40)) <| jn <| jif tR hx (fun hc29 hx => ?_) (fun hc29 hx => ?_)
     · refine JC.skip <| JQ.then <| JC.seq <| JC.block <| JC.region <| jmv rfl rfl <| jmv rfl rfl <| jc (op_build lb tZ30 zv30 tp30 .nil rfl) <| bI hx fun i_41 hv_i_41 hx => jc (op_indexAddrOF (r := (rV 32 (rU UInt8))) (j := 1) lb tu22 tz30 rfl tR tR hv_i_41) <| bI hx fun x_42 hv_x_42 hx => jc (op_storeOAg (r := (rV 32 (rU UInt8))) (j := 1) tA30 rfl tR tR hv_x_42) <| JL.pre (Imp.slot (s := 9) (q := HDR go_29 0 (List.length x_42) gc_30) rfl (wkLen (setO'_len hv_x_42))) <| JL.pre (Imp.slot (s := 63) (q := HDR go_29 0 (List.length x_42) gc_30) rfl (wkLen (setO'_len hv_x_42))) ?_
       refine JL.pre (Imp.slot (s := 68) (q := HDR go_29 0 (List.length x_42) gc_30) rfl (wkLen (setO'_len hv_x_42))) <| JL.nil <| JQ.outNB <| JQ.then <| JC.region <| jmv rfl rfl <| JL.sub ⟨[(0, ov (PTR gb_3 0)), (1, ov (S (rL (rV 32 (rU UInt8))) a_1)), (9, ov (HDR go_29 0 (List.length x_42) gc_30)), (10, ov (S (rI .i64) x_39)), (66, ov (S (rI .i64) x_39))], [cvar gb_3 r_merkle_Tree t_2, cown go_29 (rV 32 (rU UInt8)) x_42 0 gc_30], []⟩ (.cons rfl (.cons rfl (.cons rfl (.cons rfl (.cons rfl .nil))))) rfl rfl <| lI hx fun v_43 hv_43 hx => jc (op_arI lb tR .cI (cs hv_43)) <| jc (op_assign lb tR) <| JL.nil ?_
       try obtain rfl := so hx
       exact JQ.next () rfl (Imp.norm (js := [0, 0]) rfl (.cons rfl (.cons rfl (.cons rfl (.cons rfl .nil)))))
     refine JC.exit <| JQ.outX ?_
     try obtain rfl := so hx
     have ht := hr _ rfl
     have hq28 := cs ht
     clear hr ht
     exact JQ.outX <| JQ.here <| JQ.join () (Imp.norm (js := [0]) rfl (.cons rfl (.cons rfl .nil)))
   refine bI hx22 fun v_31 hv_31 hx22 => ?_
   obtain ⟨v_32, hv_32, hx22⟩ := lt1_inv hx22
   rcases iteB_inv hx22 with ⟨hc25, hx22⟩ | ⟨hc25, hx22⟩
   · refine JC.anyF (base := [(0, ov (PTR gb_3 0)), (1, ov (S (rL (rV 32 (rU UInt8))) a_1)), (9, ov (HDR go_29 0 (List.length v_28) gc_30))])
         (fs := fun γ => [⟨some 50, ov (HDR go_29 0 (List.length v_28) gc_30)⟩, ⟨some 51, ov (S (rL (rV 32 (rU UInt8))) a_1)⟩, ⟨some 52, ov (S rB v_31)⟩, ⟨some 53, ov (S rB v_32)⟩, ⟨some 54, ov (S rB v_32)⟩, ⟨some 55, bif (!v_32) then ov (PTR gb_3 0) else .one .und⟩, ⟨some 56, .one .und⟩, ⟨some 57, .one .und⟩, ⟨some 58, .one .und⟩, ⟨some 59, .one .und⟩, ⟨some 60, .one .und⟩, ⟨some 61, ov (S rB true)⟩])
         (rs := fun γ => [⟨cown go_29 (rV 32 (rU UInt8)) v_28 0 gc_30, none, none, [2]⟩, ⟨cvar gb_3 r_merkle_Tree t_2, none, none, []⟩, ⟨cown go_5 (rV 32 (rU UInt8)) v_4 0 (Int.toNat (128 : Int)), none, none, []⟩])
         (afts := nn 12) (js := [0, 0, 0]) mixed (.cons rfl (.cons rfl (.cons rfl .nil))) (fun _ => rfl)
         (by
      refine db 1 9 <| db 2 1 <| dR 3 (fun γ ρ B hb hd => OpStep.lk ⟨ρ, (cown go_29 (rV 32 (rU UInt8)) v_28 0 gc_30) :: B, _⟩ ((op_call (js := [0]) ld cl21 (sim_ref08_Same_ov k a_1 v_28 go_29 gc_30 v_31 hv_31) .func (.cons (tl hd 0 50) (.cons (tl hd 1 51) .nil)) rfl).post (fun _ => Imp.pick (js := [0]) rfl rfl))) <| dS 4 (fun γ ρ B hb hd => op_not lb (tl hd 2 52) hv_32) <| dm 5 3 53 ?_
      refine dF 6 4 54 v_32 (fun γ => ov (PTR gb_3 0)) (fun γ ρ B hb hd hq_23 => op_move lb (.tmp (hb 0 _ rfl))) ?_
      refine kn 7 4 54 rfl hc25 <| kn 8 4 54 rfl hc25 <| kn 9 4 54 rfl hc25 <| kn 10 4 54 rfl hc25 <| kn 11 4 54 rfl hc25 ?_
      refine dS 12 (fun γ ρ B hb hd => op_pickT lb (tl hd 4 54) hc25 .cB) ?_
      exact DSteps.nil)
         (by decide +kernel) (fun _ => rfl) (fun _ => rfl) (fun _ => rfl) rfl
         (ρ' := fun γ => [(0, ov (PTR gb_3 0)), (1, ov (S (rL (rV 32 (rU UInt8))) a_1)), (9, ov (HDR go_29 0 (List.length v_28) gc_30)), (61, ov (S rB true))])
         (X' := fun γ => [cown go_29 (rV 32 (rU UInt8)) v_28 0 gc_30, cvar gb_3 r_merkle_Tree t_2, cown go_5 (rV 32 (rU UInt8)) v_4 0 (Int.toNat (128 : Int))])
         (fun γ ρ hb hd => (.cons (hb 0 _ rfl) (.cons (hb 1 _ rfl) (.cons (hb 9 _ rfl) (.cons (hdq hd 11 61 rfl) .nil))))) (fun _ => rfl) (fun γ => ?_)
     refine JQ.at ⟨[(0, ov (PTR gb_3 0)), (1, ov (S (rL (rV 32 (rU UInt8))) a_1)), (9, ov (HDR go_29 0 (List.length v_28) gc_30)), (61, ov (S rB true))], [cown go_29 (rV 32 (rU UInt8)) v_28 0 gc_30, cvar gb_3 r_merkle_Tree t_2, cown go_5 (rV 32 (rU UInt8)) v_4 0 (Int.toNat (128 : Int))], []⟩ ?_
     try obtain rfl := so hx22
     exact JQ.join () (Imp.norm (js := [1, 0]) rfl (.cons rfl (.cons rfl (.cons rfl (.cons rfl .nil)))))
   refine bI hx22 fun v_33 hv_33 hx22 => bI hx22 fun i_34 hv_i_34 hx22 => bI hx22 fun v_35 hv_35 hx22 => ?_
   obtain ⟨v_36, hv_36, hx22⟩ := lt1_inv hx22
   refine JC.anyF (base := [(0, ov (PTR gb_3 0)), (1, ov (S (rL (rV 32 (rU UInt8))) a_1)), (5, ov (HDR go_5 0 (List.length v_4) (Int.toNat (128 : Int)))), (9, ov (HDR go_29 0 (List.length v_28) gc_30))])
       (fs := fun γ => [⟨some 50, ov (HDR go_29 0 (List.length v_28) gc_30)⟩, ⟨some 51, ov (S (rL (rV 32 (rU UInt8))) a_1)⟩, ⟨some 52, ov (S rB v_31)⟩, ⟨some 53, ov (S rB v_32)⟩, ⟨some 54, ov (S rB v_32)⟩, ⟨some 55, bif (!v_32) then ov (PTR gb_3 0) else .one .und⟩, ⟨some 56, ov (A (rV 32 (rU UInt8)) v_33)⟩, ⟨some 57, ov (HDR go_5 0 (List.length v_4) (Int.toNat (128 : Int)))⟩, ⟨some 58, ov (EPT go_5 (i_34 * 32))⟩, ⟨some 59, ov (A (rV 32 (rU UInt8)) v_35)⟩, ⟨some 60, ov (S rB v_36)⟩, ⟨some 61, ov (S rB v_36)⟩])
       (rs := fun γ => [⟨cown go_29 (rV 32 (rU UInt8)) v_28 0 gc_30, none, none, [2]⟩, ⟨cvar gb_3 r_merkle_Tree t_2, none, none, [6]⟩, ⟨cown go_5 (rV 32 (rU UInt8)) v_4 0 (Int.toNat (128 : Int)), none, none, [8, 9]⟩])
       (afts := nn 12) (js := [0, 0, 0]) mixed (.cons rfl (.cons rfl (.cons rfl (.cons rfl .nil)))) (fun _ => rfl)
       (by
      refine db 1 9 <| db 2 1 <| dR 3 (fun γ ρ B hb hd => OpStep.lk ⟨ρ, (cown go_29 (rV 32 (rU UInt8)) v_28 0 gc_30) :: B, _⟩ ((op_call (js := [0]) ld cl21 (sim_ref08_Same_ov k a_1 v_28 go_29 gc_30 v_31 hv_31) .func (.cons (tl hd 0 50) (.cons (tl hd 1 51) .nil)) rfl).post (fun _ => Imp.pick (js := [0]) rfl rfl))) <| dS 4 (fun γ ρ B hb hd => op_not lb (tl hd 2 52) hv_32) <| dm 5 3 53 ?_
      refine dF 6 4 54 v_32 (fun γ => ov (PTR gb_3 0)) (fun γ ρ B hb hd hq_23 => op_move lb (.tmp (hb 0 _ rfl))) ?_
      refine dY 7 (fun γ ρ B hb hd => ⟨.yes rfl (ltB rfl) (hl hd 4 54 rfl) hc25, OpStep.lk ⟨ρ, (cvar gb_3 r_merkle_Tree t_2) :: B, _⟩ ((op_call (js := [0]) ld cl16 (sim_merkle_Tree_Root k t_2 gb_3 v_33 hv_33) .func (.cons (HasO.cnd (tl hd 5 55) (notT hc25)) .nil) rfl).post (fun _ => Imp.pick (js := [0]) rfl rfl))⟩) <| dY 8 (fun γ ρ B hb hd => ⟨.yes rfl (ltB rfl) (hl hd 4 54 rfl) hc25, lkB (op_move lb (.tmp (hb 5 _ rfl)))⟩) <| dY 9 (fun γ ρ B hb hd => ⟨.yes rfl (ltB rfl) (hl hd 4 54 rfl) hc25, OpStep.lk ⟨ρ, (cown go_5 (rV 32 (rU UInt8)) v_4 0 (Int.toNat (128 : Int))) :: B, _⟩ (op_indexAddrOF (r := (rV 32 (rU UInt8))) (j := 0) lb tu22 tz30 rfl (tl hd 7 57) .cI hv_i_34)⟩) <| dY 10 (fun γ ρ B hb hd => ⟨.yes rfl (ltB rfl) (hl hd 4 54 rfl) hc25, OpStep.lk ⟨ρ, (cown go_5 (rV 32 (rU UInt8)) v_4 0 (Int.toNat (128 : Int))) :: B, _⟩ (op_loadOA (r := (rV 32 (rU UInt8))) (i := i_34) (off := 0) (j := 0) lb tA30 rfl (tl hd 8 58) hv_35 (Comp.self (rV 32 (rU UInt8)) v_35) (by decide))⟩) <| dY 11 (fun γ ρ B hb hd => ⟨.yes rfl (ltB rfl) (hl hd 4 54 rfl) hc25, lkB (op_neA lb qa30 (by decide) ng30 (tl hd 6 56) (tl hd 9 59) hv_36)⟩) ?_
      refine dS 12 (fun γ ρ B hb hd => op_pickF lb (tl hd 4 54) hc25 (tl hd 10 60)) ?_
      exact DSteps.nil)
       (by decide +kernel) (fun _ => rfl) (fun _ => rfl) (fun _ => rfl) rfl
       (ρ' := fun γ => [(0, ov (PTR gb_3 0)), (1, ov (S (rL (rV 32 (rU UInt8))) a_1)), (9, ov (HDR go_29 0 (List.length v_28) gc_30)), (61, ov (S rB v_36))])
       (X' := fun γ => [cown go_29 (rV 32 (rU UInt8)) v_28 0 gc_30, cvar gb_3 r_merkle_Tree t_2, cown go_5 (rV 32 (rU UInt8)) v_4 0 (Int.toNat (128 : Int))])
       (fun γ ρ hb hd => (.cons (hb 0 _ rfl) (.cons (hb 1 _ rfl) (.cons (hb 9 _ rfl) (.cons (hdq hd 11 61 rfl) .nil))))) (fun _ => rfl) (fun γ => ?_)
   refine JQ.at ⟨[(0, ov (PTR gb_3 0)), (1, ov (S (rL (rV 32 (rU UInt8))) a_1)), (9, ov (HDR go_29 0 (List.length v_28) gc_30)), (61, ov (S rB v_36))], [cown go_29 (rV 32 (rU UInt8)) v_28 0 gc_30, cvar gb_3 r_merkle_Tree t_2, cown go_5 (rV 32 (rU UInt8)) v_4 0 (Int.toNat (128 : Int))], []⟩ ?_
   try obtain rfl := so hx22
   exact JQ.join () (Imp.norm (js := [1, 0]) rfl (.cons rfl (.cons rfl (.cons rfl (.cons rfl .nil)))))
 refine jr <| jc (op_assign lb .cI) <| jn <| JC.block <| bI hx1 fun tv2 hL2 hq2 => JC.pre ?_ (JC.loop (γ := Unit) (stf := fun s q => ⟨[(0, ov (PTR gb_3 0)), (1, ov (S (rL (rV 32 (rU UInt8))) a_1)), (5, ov (HDR go_5 0 (List.length v_4) (Int.toNat (128 : Int)))), (6, ov (S (rI .i64) s))], [cvar gb_3 r_merkle_Tree t_2, cown go_5 (rV 32 (rU UInt8)) v_4 0 (Int.toNat (128 : Int))], []⟩) (q := ()) hL2 ?_)
 · exact (Imp.norm (js := [1, 0]) rfl (.cons rfl (.cons rfl (.cons rfl (.cons rfl .nil)))))
 intro x_6 q x hx hr
 obtain _ := q
 change law08_stands.b1 k t_2 v_4 x_6 = some x at hx
 unfold law08_stands.b1 at hx
 refine JC.at ⟨[(0, ov (PTR gb_3 0)), (1, ov (S (rL (rV 32 (rU UInt8))) a_1)), (5, ov (HDR go_5 0 (List.length v_4) (Int.toNat (128 : Int)))), (6, ov (S (rI .i64) x_6))], [cvar gb_3 r_merkle_Tree t_2, cown go_5 (rV 32 (rU UInt8)) v_4 0 (Int.toNat (128 : Int))], []⟩ <| JC.seq <| jr <| jmv rfl rfl <| lI hx fun v_7 hv_7 hx => jc (op_cmpI lb tR .cI (cs hv_7)) <| jn <| jif tR hx (fun hc3 hx => ?_) (fun hc3 hx => ?_)
 · refine JC.skip <| JQ.then <| bI hx fun tv4 hx4 hq4 => JC.seqK (α := Unit) (γ := Unit) (stj := fun v q => ⟨[(0, ov (PTR gb_3 0)), (1, ov (S (rL (rV 32 (rU UInt8))) a_1)), (5, ov (HDR go_5 0 (List.length v_4) (Int.toNat (128 : Int)))), (6, ov (S (rI .i64) x_6))], [cvar gb_3 r_merkle_Tree t_2, cown go_5 (rV 32 (rU UInt8)) v_4 0 (Int.toNat (128 : Int))], []⟩) (p := fun v => tv4 = (.inl v)) (fun v q hv => ?_) ?_
   · subst hv
     skip
     obtain _ := q
     dsimp only at hq4
     refine JC.at ⟨[(0, ov (PTR gb_3 0)), (1, ov (S (rL (rV 32 (rU UInt8))) a_1)), (5, ov (HDR go_5 0 (List.length v_4) (Int.toNat (128 : Int)))), (6, ov (S (rI .i64) x_6))], [cvar gb_3 r_merkle_Tree t_2, cown go_5 (rV 32 (rU UInt8)) v_4 0 (Int.toNat (128 : Int))], []⟩ <| JC.region <| jmv rfl rfl <| lI hq4 fun v_27 hv_27 hq4 => jc (op_arI lb tR .cI (cs hv_27)) <| jc (op_assign lb tR) <| JL.nil ?_
     try obtain rfl := so hq4
     exact JQ.next () rfl (Imp.norm (js := [0, 0]) rfl (.cons rfl (.cons rfl (.cons rfl (.cons rfl .nil)))))
   refine JC.block <| jr <| jmv rfl rfl <| jmv rfl rfl ?_
   obtain ⟨⟨v_8, v_9⟩, hv_8, hx4⟩ := bnd_inv hx4
   refine jx (op_call (js := [0]) ld cl14 (sim_merkle_Tree_Node k x_6 t_2 gb_3 (v_8, v_9) hv_8) .func (.cons tR (.cons tR .nil)) rfl) fun _ => jmv rfl rfl <| jc (op_extract (i := 0) lb tR rfl) <| jc (op_extract (i := 1) lb tR rfl) <| jx (op_alloc lb tZ30 zr30) fun gb_10 => jc (op_storeA (j := 2) tA30 tR tR rfl (UpdR.self (by rfl)) rfl) <| JL.sub ⟨[(0, ov (PTR gb_3 0)), (1, ov (S (rL (rV 32 (rU UInt8))) a_1)), (5, ov (HDR go_5 0 (List.length v_4) (Int.toNat (128 : Int)))), (6, ov (S (rI .i64) x_6)), (7, ov (PTR gb_10 0)), (22, ov (S (rI .i64) v_9))], [cvar gb_3 r_merkle_Tree t_2, cown go_5 (rV 32 (rU UInt8)) v_4 0 (Int.toNat (128 : Int)), cvar gb_10 (rV 32 (rU UInt8)) v_8], []⟩ (.cons rfl (.cons rfl (.cons rfl (.cons rfl (.cons rfl (.cons rfl .nil)))))) rfl rfl <| jc (op_assign lb tR) <| jn <| bI hx4 fun x_14 hx5 hq5 => JC.seqJ (γ := Unit) (stj := fun _ => ⟨[(0, ov (PTR gb_3 0)), (1, ov (S (rL (rV 32 (rU UInt8))) a_1)), (5, ov (HDR go_5 0 (List.length v_4) (Int.toNat (128 : Int)))), (6, ov (S (rI .i64) x_6)), (7, ov (PTR gb_10 0)), (8, ov (S (rI .i64) v_9)), (28, ov (S rB x_14))], [cvar gb_3 r_merkle_Tree t_2, cown go_5 (rV 32 (rU UInt8)) v_4 0 (Int.toNat (128 : Int)), cvar gb_10 (rV 32 (rU UInt8)) v_8], []⟩) (fun _ => ?_) ?_
   · refine jif tR hq5 (fun hc9 hq5 => ?_) (fun hc9 hq5 => ?_)
     · refine bI hq5 fun x_19 hx10 hq10 => JC.seqJ (γ := Unit) (stj := fun _ => ⟨[(0, ov (PTR gb_3 0)), (1, ov (S (rL (rV 32 (rU UInt8))) a_1)), (5, ov (HDR go_5 0 (List.length v_4) (Int.toNat (128 : Int)))), (6, ov (S (rI .i64) x_6)), (36, ov (S rB x_19))], [cvar gb_3 r_merkle_Tree t_2, cown go_5 (rV 32 (rU UInt8)) v_4 0 (Int.toNat (128 : Int))], []⟩) (fun _ => ?_) ?_
       · refine jif tR hq10 (fun hc15 hq10 => ?_) (fun hc15 hq10 => ?_)
         · refine jr <| jc (op_assign lb .cB) <| jn <| JC.ret <| JQ.outRB ?_
           try obtain rfl := so hq10
           dsimp only at hq4
           refine JQ.outR ?_
           try obtain rfl := so hq4
           try obtain rfl := hr _ rfl
           dsimp only at hq2
           refine JQ.outR <| JQ.outRB ?_
           try obtain rfl := so hq2
           dsimp only at hq1
           refine JQ.outR ?_
           obtain rfl := so hq1
           exact JQ.done (js := [0]) (ss := [.val (S rB false)]) () (.inl rfl) (.nil rfl) rfl (.cons (.tmp rfl) .nil) rfl rfl rfl
         refine JC.skip <| JQ.outNB ?_
         try obtain rfl := so hq10
         exact JQ.joinK () () rfl (Imp.norm (js := [0, 0]) rfl (.cons rfl (.cons rfl (.cons rfl (.cons rfl .nil)))))
       refine JC.region <| jc (op_loadA (j := 2) lb tA30 tR rfl (Comp.self (rV 32 (rU UInt8)) v_8) rfl) <| jc (op_build lb tZ30 zv30 tp30 .nil rfl) <| lI hx10 fun v_15 hv_15 hx10 => jc (op_neA lb qa30 (by decide) ng30 tR tR hv_15) <| jmv rfl rfl <| jF (ov (S (rI .i64) v_9)) rfl rfl rfl rfl (fun hq_11 => op_move lb tR) <| bI hx10 fun _ hv_u_16 hx10 => jF (ov (S (rI .i64) v_9)) rfl rfl rfl rfl (fun hq_12 => (op_call (js := []) ld cl9 (sim_law08_num k v_9 () (ifT hv_u_16 hq_12)) .func (.cons (HasO.cnd tR (notT (notF hq_12))) .nil) rfl).post (fun _ => Imp.refl)) <| lI hx10 fun v_17 hv_17 hx10 => jF (ov (S rB v_17)) rfl rfl rfl rfl (fun hq_13 => op_cmpI lb (HasO.cnd tR (notT (notF hq_13))) .cI (cs hv_17)) ?_
       obtain ⟨v_18, hv_18, hx10⟩ := lt1_inv hx10
       refine jc (op_pickCS lb tR (fun hb14 => .cB) (fun hb14 => (HasO.cnd tR (notT hb14))) hv_18) <| JL.nil ?_
       try obtain rfl := so hx10
       exact JQ.join () (Imp.norm (js := [0, 0]) rfl (.cons rfl (.cons rfl (.cons rfl (.cons rfl (.cons rfl .nil))))))
     refine bI hq5 fun x_26 hx16 hq16 => JC.seqJ (γ := Unit) (stj := fun _ => ⟨[(0, ov (PTR gb_3 0)), (1, ov (S (rL (rV 32 (rU UInt8))) a_1)), (5, ov (HDR go_5 0 (List.length v_4) (Int.toNat (128 : Int)))), (6, ov (S (rI .i64) x_6)), (47, ov (S rB x_26))], [cvar gb_3 r_merkle_Tree t_2, cown go_5 (rV 32 (rU UInt8)) v_4 0 (Int.toNat (128 : Int))], []⟩) (fun _ => ?_) ?_
     · refine jif tR hq16 (fun hc21 hq16 => ?_) (fun hc21 hq16 => ?_)
       · refine jr <| jc (op_assign lb .cB) <| jn <| JC.ret <| JQ.outRB ?_
         try obtain rfl := so hq16
         dsimp only at hq4
         refine JQ.outR ?_
         try obtain rfl := so hq4
         try obtain rfl := hr _ rfl
         dsimp only at hq2
         refine JQ.outR <| JQ.outRB ?_
         try obtain rfl := so hq2
         dsimp only at hq1
         refine JQ.outR ?_
         obtain rfl := so hq1
         exact JQ.done (js := [0]) (ss := [.val (S rB false)]) () (.inl rfl) (.nil rfl) rfl (.cons (.tmp rfl) .nil) rfl rfl rfl
       refine JC.skip <| JQ.outNB ?_
       try obtain rfl := so hq16
       exact JQ.joinK () () rfl (Imp.norm (js := [0, 0]) rfl (.cons rfl (.cons rfl (.cons rfl (.cons rfl .nil)))))
     refine bI hx16 fun i_20 hv_i_20 hx16 => bI hx16 fun v_21 hv_21 hx16 => lI hx16 fun v_22 hv_22 hx16 => bI hx16 fun _ hv_u_23 hx16 => lI hx16 fun v_24 hv_24 hx16 => ?_
     obtain ⟨v_25, hv_25, hx16⟩ := lt1_inv hx16
     refine JC.anyF (base := [(0, ov (PTR gb_3 0)), (1, ov (S (rL (rV 32 (rU UInt8))) a_1)), (5, ov (HDR go_5 0 (List.length v_4) (Int.toNat (128 : Int)))), (6, ov (S (rI .i64) x_6)), (7, ov (PTR gb_10 0)), (8, ov (S (rI .i64) v_9))])
         (fs := fun γ => [⟨some 37, ov (A (rV 32 (rU UInt8)) v_8)⟩, ⟨some 38, ov (HDR go_5 0 (List.length v_4) (Int.toNat (128 : Int)))⟩, ⟨some 39, ov (S (rI .i64) x_6)⟩, ⟨some 40, ov (EPT go_5 (i_20 * 32))⟩, ⟨some 41, ov (A (rV 32 (rU UInt8)) v_21)⟩, ⟨some 42, ov (S rB v_22)⟩, ⟨some 43, ov (S rB v_22)⟩, ⟨some 44, bif (!v_22) then ov (S (rI .i64) v_9) else .one .und⟩, ⟨some 45, bif (!v_22) then ov (S (rI .i64) v_9) else .one .und⟩, ⟨some 46, bif (!v_22) then ov (S rB v_24) else .one .und⟩, ⟨some 47, ov (S rB v_25)⟩])
         (rs := fun γ => [⟨cvar gb_3 r_merkle_Tree t_2, none, none, []⟩, ⟨cown go_5 (rV 32 (rU UInt8)) v_4 0 (Int.toNat (128 : Int)), none, none, [3, 4]⟩, ⟨cvar gb_10 (rV 32 (rU UInt8)) v_8, none, none, [0]⟩])
         (afts := nn 11) (js := [0, 0, 0]) mixed (.cons rfl (.cons rfl (.cons rfl (.cons rfl (.cons rfl (.cons rfl .nil)))))) (fun _ => rfl)
         (by
      refine dR 1 (fun γ ρ B hb hd => OpStep.lk ⟨ρ, (cvar gb_10 (rV 32 (rU UInt8)) v_8) :: B, _⟩ (op_loadA (j := 0) lb tA30 (.tmp (hb 7 _ rfl)) rfl (Comp.self (rV 32 (rU UInt8)) v_8) rfl)) <| db 2 5 <| db 3 6 <| dR 4 (fun γ ρ B hb hd => OpStep.lk ⟨ρ, (cown go_5 (rV 32 (rU UInt8)) v_4 0 (Int.toNat (128 : Int))) :: B, _⟩ (op_indexAddrOF (r := (rV 32 (rU UInt8))) (j := 0) lb tu22 tz30 rfl (tl hd 1 38) (tl hd 2 39) hv_i_20)) <| dR 5 (fun γ ρ B hb hd => OpStep.lk ⟨ρ, (cown go_5 (rV 32 (rU UInt8)) v_4 0 (Int.toNat (128 : Int))) :: B, _⟩ (op_loadOA (r := (rV 32 (rU UInt8))) (i := i_20) (off := 0) (j := 0) lb tA30 rfl (tl hd 3 40) hv_21 (Comp.self (rV 32 (rU UInt8)) v_21) (by decide))) ?_
      refine dS 6 (fun γ ρ B hb hd => op_neA lb qa30 (by decide) ng30 (tl hd 0 37) (tl hd 4 41) hv_22) <| dm 7 5 42 ?_
      refine dF 8 6 43 v_22 (fun γ => ov (S (rI .i64) v_9)) (fun γ ρ B hb hd hq_17 => op_move lb (.tmp (hb 8 _ rfl))) ?_
      refine dF 9 6 43 v_22 (fun γ => ov (S (rI .i64) v_9)) (fun γ ρ B hb hd hq_18 => (op_call (js := []) ld cl9 (sim_law08_num k v_9 () (ifT hv_u_23 hq_18)) .func (.cons (HasO.cnd (tl hd 7 44) (notT (notF hq_18))) .nil) rfl).post (fun _ => Imp.refl)) ?_
      refine dF 10 6 43 v_22 (fun γ => ov (S rB v_24)) (fun γ ρ B hb hd hq_19 => op_cmpI lb (HasO.cnd (tl hd 8 45) (notT (notF hq_19))) .cI (cs hv_24)) ?_
      refine dS 11 (fun γ ρ B hb hd => op_pickCS lb (tl hd 6 43) (fun hb20 => .cB) (fun hb20 => (HasO.cnd (tl hd 9 46) (notT hb20))) hv_25) ?_
      exact DSteps.nil)
         (by decide +kernel) (fun _ => rfl) (fun _ => rfl) (fun _ => rfl) rfl
         (ρ' := fun γ => [(0, ov (PTR gb_3 0)), (1, ov (S (rL (rV 32 (rU UInt8))) a_1)), (5, ov (HDR go_5 0 (List.length v_4) (Int.toNat (128 : Int)))), (6, ov (S (rI .i64) x_6)), (47, ov (S rB v_25))])
         (X' := fun γ => [cvar gb_3 r_merkle_Tree t_2, cown go_5 (rV 32 (rU UInt8)) v_4 0 (Int.toNat (128 : Int)), cvar gb_10 (rV 32 (rU UInt8)) v_8])
         (fun γ ρ hb hd => (.cons (hb 0 _ rfl) (.cons (hb 1 _ rfl) (.cons (hb 5 _ rfl) (.cons (hb 6 _ rfl) (.cons (hdq hd 10 47 rfl) .nil)))))) (fun _ => rfl) (fun γ => ?_)
     refine JQ.at ⟨[(0, ov (PTR gb_3 0)), (1, ov (S (rL (rV 32 (rU UInt8))) a_1)), (5, ov (HDR go_5 0 (List.length v_4) (Int.toNat (128 : Int)))), (6, ov (S (rI .i64) x_6)), (47, ov (S rB v_25))], [cvar gb_3 r_merkle_Tree t_2, cown go_5 (rV 32 (rU UInt8)) v_4 0 (Int.toNat (128 : Int)), cvar gb_10 (rV 32 (rU UInt8)) v_8], []⟩ ?_
     try obtain rfl := so hx16
     exact JQ.join () (Imp.norm (js := [0, 0]) rfl (.cons rfl (.cons rfl (.cons rfl (.cons rfl (.cons rfl .nil))))))
   refine JC.region <| jmv rfl rfl <| lI hx5 fun v_11 hv_11 hx5 => jc (op_cmpI lb tR .cI (cs hv_11)) <| jmv rfl rfl <| jF (ov (S (rI .i64) x_6)) rfl rfl rfl rfl (fun hq_6 => op_move lb tR) <| lI hx5 fun v_12 hv_12 hx5 => jF (ov (S rB v_12)) rfl rfl rfl rfl (fun hq_7 => op_cmpI lb (HasO.cnd tR (notT (notF hq_7))) .cI (cs hv_12)) <| lI hx5 fun v_13 hv_13 hx5 => jc (op_pickCS lb tR (fun hb8 => .cB) (fun hb8 => (HasO.cnd tR (notT hb8))) hv_13) <| JL.nil ?_
   try obtain rfl := so hx5
   exact JQ.join () (Imp.norm (js := [0, 0, 0]) rfl (.cons rfl (.cons rfl (.cons rfl (.cons rfl (.cons rfl (.cons rfl (.cons rfl .nil))))))))
 refine JC.exit <| JQ.outX ?_
 try obtain rfl := so hx
 try obtain rfl := hr _ rfl
 dsimp only at hq2
 refine JQ.outX <| JQ.here ?_
 try obtain rfl := so hq2
 exact JQ.joinK () () rfl (Imp.norm (js := [0, 0]) rfl (.cons rfl (.cons rfl (.cons rfl .nil))))

end Go.Proofs.Ytbflmobpbjnekaa
