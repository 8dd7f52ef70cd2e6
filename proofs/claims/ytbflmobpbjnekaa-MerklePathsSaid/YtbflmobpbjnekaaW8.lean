/- Walks. -/
import Derived.Test.YtbflmobpbjnekaaT
import Derived.Test.YtbflmobpbjnekaaW0
import Derived.Test.YtbflmobpbjnekaaW2
import Derived.Test.YtbflmobpbjnekaaW3
import Derived.Test.YtbflmobpbjnekaaW5
import Derived.Test.YtbflmobpbjnekaaW7
namespace Go.Proofs.Ytbflmobpbjnekaa
open Go Fw
set_option linter.unusedVariables false
set_option maxRecDepth 100000
set_option maxHeartbeats 4000000

theorem sim_law08_MerklePaths (k : Nat) (t_1 : (List law08_Step)) (a_2 : Int) (r : Bool) (hm : law08_MerklePaths k t_1 a_2 = some r) : Sim Try.prog 4 [S (rL r_law08_Step) t_1, S (rI .i64) a_2] [] (γ := Unit) (fun q => []) (fun q => .one (.val (S rB r))) := by
 unfold law08_MerklePaths at hm
 refine Sim.of Try.func4 rfl rfl (lE rfl) (fun e0 w0 => ?_)
 refine JC.at ⟨[(0, ov (S (rL r_law08_Step) t_1)), (1, ov (S (rI .i64) a_2))], [], []⟩ <| jr <| jc (op_assign lb .cB) <| jn <| JC.seq <| bI hm fun x_8 hx1 hq1 => JC.seqJ (γ := Unit) (stj := fun _ => ⟨[(0, ov (S (rL r_law08_Step) t_1)), (1, ov (S (rI .i64) a_2)), (22, ov (S rB x_8))], [], []⟩) (fun _ => ?_) ?_
 · refine jif tR hq1 (fun hc8 hq1 => ?_) (fun hc8 hq1 => ?_)
   · refine jr <| bI hq1 fun v_9 hv_9 hq1 => jx (op_call (js := []) ld cl7 (sim_law08_known k v_9 hv_9) .func .nil rfl) fun _ => jc (op_assign lb tR) <| jn <| JC.ret <| JQ.outR ?_
     obtain rfl := so hq1
     exact jd (.val (S rB v_9)) rfl rfl rfl rfl rfl rfl
   refine JC.skip <| JQ.then <| jr ?_
   obtain ⟨ts9, hs9, hq1⟩ := bnd_inv hq1
   rcases ts9 with ts9 | ts9
   · obtain ⟨v_10, hvv⟩ : ∃ z, z = ts9 := ⟨_, rfl⟩
     subst hvv
     dsimp only at hq1
     refine jx (op_call (js := []) ld cl12 (sim_merkle_New_v0 k v_10 hs9) .func .nil rfl) fun gb_11 => jc (op_assign lb tR) <| jn <| JC.seq <| jr <| jmv rfl rfl <| jc (op_nilP (neg := false) lb tu24 tR (HasO.const (p := PTO none) fun _ => rfl)) <| jn <| JC.condF tR rfl <| JC.skip <| JQ.then <| bI hq1 fun x_20 hx10 hq10 => JC.seqJ (γ := Unit) (stj := fun _ => ⟨[(1, ov (S (rI .i64) a_2)), (5, ov (PTR gb_11 0))], [cvar gb_11 r_merkle_Tree x_20], []⟩) (fun _ => ?_) ?_
     · refine jr <| jmv rfl rfl <| lI hq10 fun v_21 hv_21 hq10 => jc (op_arI lb .cI tR (cs hv_21)) <| jc (op_assign lb tR) <| jn <| jr <| jmv rfl rfl <| jmv rfl rfl ?_
       obtain ⟨⟨v_22, v_23⟩, hv_22, hq10⟩ := bnd_inv hq10
       refine jx (op_call (js := [0]) ld cl14 (sim_merkle_Tree_Node k v_21 x_20 gb_11 (v_22, v_23) hv_22) .func (.cons tR (.cons tR .nil)) rfl) fun _ => jmv rfl rfl <| jc (op_extract (i := 0) lb tR rfl) <| jc (op_extract (i := 1) lb tR rfl) <| jx (op_alloc lb tZ30 zr30) fun gb_24 => JL.sub ⟨[(5, ov (PTR gb_11 0)), (7, ov (S (rI .i64) v_21)), (8, ov (PTR gb_24 0)), (51, ov (A (rV 32 (rU UInt8)) v_22)), (52, ov (S (rI .i64) v_23))], [cvar gb_11 r_merkle_Tree x_20, cvar gb_24 (rV 32 (rU UInt8)) (Vector.replicate 32 (0 : UInt8))], []⟩ (.cons rfl (.cons rfl (.cons rfl (.cons rfl (.cons rfl .nil))))) rfl rfl <| jc (op_storeA (j := 1) tA30 tR tR rfl (UpdR.self (by rfl)) rfl) <| jc (op_assign lb tR) <| jn <| bI hq10 fun tv13 hx13 hq13 => JC.seqK (α := (Vector UInt8 32)) (γ := Unit) (stj := fun v q => ⟨[(5, ov (PTR gb_11 0)), (8, ov (PTR gb_24 0)), (9, ov (S (rI .i64) v_23))], [cvar gb_11 r_merkle_Tree x_20, cvar gb_24 (rV 32 (rU UInt8)) v], []⟩) (p := fun v => tv13 = (.inl v)) (fun v q hv => ?_) ?_
       · subst hv
         obtain ⟨x_60, hvv⟩ : ∃ z, z = v := ⟨_, rfl⟩
         subst hvv
         obtain _ := q
         dsimp only at hq13
         refine JC.at ⟨[(5, ov (PTR gb_11 0)), (8, ov (PTR gb_24 0)), (9, ov (S (rI .i64) v_23))], [cvar gb_11 r_merkle_Tree x_20, cvar gb_24 (rV 32 (rU UInt8)) x_60], []⟩ <| bI hq13 fun x_67 hx19 hq19 => JC.seqJ (γ := Unit) (stj := fun _ => ⟨[(4, ov (S rB x_67))], [], []⟩) (fun _ => ?_) ?_
         · refine JC.ret ?_
           obtain rfl := so hq19
           exact jd (.val (S rB x_67)) rfl rfl rfl rfl rfl rfl
         refine bI hx19 fun _ hv_u_61 hx19 => ?_
         obtain ⟨v_62, hv_62, hx19⟩ := lt1_inv hx19
         rcases iteB_inv hx19 with ⟨hc23, hx19⟩ | ⟨hc23, hx19⟩
         · refine bI hx19 fun v_63 hv_63 hx19 => lI hx19 fun v_64 hv_64 hx19 => bI hx19 fun v_65 hv_65 hx19 => ?_
           obtain ⟨v_66, hv_66, hx19⟩ := lt1_inv hx19
           refine JC.anyF (base := [(5, ov (PTR gb_11 0)), (8, ov (PTR gb_24 0)), (9, ov (S (rI .i64) v_23))])
               (fs := fun γ => [⟨some 84, ov (S (rI .i64) v_23)⟩, ⟨some 85, ov (S (rI .i64) v_23)⟩, ⟨some 86, ov (S rB v_62)⟩, ⟨some 87, ov (S rB v_62)⟩, ⟨some 88, bif v_62 then ov (A (rV 32 (rU UInt8)) x_60) else .one .und⟩, ⟨some 89, bif v_62 then ov (PTR gb_11 0) else .one .und⟩, ⟨some 90, ov (A (rV 32 (rU UInt8)) v_63)⟩, ⟨some 91, ov (S rB v_64)⟩, ⟨some 92, ov (S rB v_64)⟩, ⟨some 93, ov (S rB v_64)⟩, ⟨some 94, bif v_64 then ov (S rB v_65) else .one .und⟩, ⟨some 95, ov (S rB v_66)⟩, ⟨some 4, ov (S rB v_66)⟩])
               (rs := fun γ => [⟨cvar gb_11 r_merkle_Tree x_20, none, none, [6]⟩, ⟨cvar gb_24 (rV 32 (rU UInt8)) x_60, none, none, [4]⟩])
               (afts := nn 13) (js := [0, 0]) mixed (.cons rfl (.cons rfl (.cons rfl .nil))) (fun _ => rfl)
               (by
      refine db 1 9 <| dS 2 (fun γ ρ B hb hd => (op_call (js := []) ld cl9 (sim_law08_num k v_23 () hv_u_61) .func (.cons (tl hd 0 84) .nil) rfl).post (fun _ => Imp.refl)) <| dS 3 (fun γ ρ B hb hd => op_cmpI lb (tl hd 1 85) .cI (cs hv_62)) <| dm 4 2 86 ?_
      refine eT 5 3 87 v_62 (fun γ => ov (A (rV 32 (rU UInt8)) x_60)) (fun γ ρ B hb hd hq_20 => OpStep.lk ⟨ρ, (cvar gb_24 (rV 32 (rU UInt8)) x_60) :: B, _⟩ (op_loadA (j := 0) lb tA30 (.tmp (hb 8 _ rfl)) rfl (Comp.self (rV 32 (rU UInt8)) x_60) rfl)) ?_
      refine dT 6 3 87 v_62 (fun γ => ov (PTR gb_11 0)) (fun γ ρ B hb hd hq_21 => op_move lb (.tmp (hb 5 _ rfl))) ?_
      refine dY 7 (fun γ ρ B hb hd => ⟨.yes rfl (ltB rfl) (hl hd 3 87 rfl) hc23, OpStep.lk ⟨ρ, (cvar gb_11 r_merkle_Tree x_20) :: B, _⟩ ((op_call (js := [0]) ld cl16 (sim_merkle_Tree_Root k x_20 gb_11 v_63 hv_63) .func (.cons (HasO.cnd (tl hd 5 89) hc23) .nil) rfl).post (fun _ => Imp.pick (js := [0]) rfl rfl))⟩) <| dY 8 (fun γ ρ B hb hd => ⟨.yes rfl (ltB rfl) (hl hd 3 87 rfl) hc23, lkB (op_eqA lb qa30 (by decide) ng30 (HasO.cnd (tl hd 4 88) hc23) (tl hd 6 90) hv_64)⟩) <| dS 9 (fun γ ρ B hb hd => op_pickT lb (tl hd 3 87) hc23 (tl hd 7 91)) <| dm 10 8 92 ?_
      refine dT 11 9 93 v_64 (fun γ => ov (S rB v_65)) (fun γ ρ B hb hd hq_24 => (op_call (js := []) ld cl7 (sim_law08_known k v_65 (ifT hv_65 hq_24)) .func .nil rfl).post (fun _ => Imp.refl)) ?_
      refine dS 12 (fun γ ρ B hb hd => op_pickCS lb (tl hd 9 93) (fun hb25 => (HasO.cnd (tl hd 10 94) hb25)) (fun hb25 => .cB) hv_66) <| dS 13 (fun γ ρ B hb hd => op_assign lb (tl hd 11 95)) ?_
      exact DSteps.nil)
               (by decide +kernel) (fun _ => rfl) (fun _ => rfl) (fun _ => rfl) rfl
               (ρ' := fun γ => [(4, ov (S rB v_66))])
               (X' := fun γ => [cvar gb_11 r_merkle_Tree x_20, cvar gb_24 (rV 32 (rU UInt8)) x_60])
               (fun γ ρ hb hd => (.cons (hdq hd 12 4 rfl) .nil)) (fun _ => rfl) (fun γ => ?_)
           refine JQ.at ⟨[(4, ov (S rB v_66))], [cvar gb_11 r_merkle_Tree x_20, cvar gb_24 (rV 32 (rU UInt8)) x_60], []⟩ ?_
           try obtain rfl := so hx19
           exact jo rfl rfl rfl
         refine JC.anyF (base := [(5, ov (PTR gb_11 0)), (8, ov (PTR gb_24 0)), (9, ov (S (rI .i64) v_23))])
             (fs := fun γ => [⟨some 84, ov (S (rI .i64) v_23)⟩, ⟨some 85, ov (S (rI .i64) v_23)⟩, ⟨some 86, ov (S rB v_62)⟩, ⟨some 87, ov (S rB v_62)⟩, ⟨some 88, bif v_62 then ov (A (rV 32 (rU UInt8)) x_60) else .one .und⟩, ⟨some 89, bif v_62 then ov (PTR gb_11 0) else .one .und⟩, ⟨some 90, .one .und⟩, ⟨some 91, .one .und⟩, ⟨some 92, ov (S rB false)⟩, ⟨some 93, ov (S rB false)⟩, ⟨some 94, .one .und⟩, ⟨some 95, ov (S rB false)⟩, ⟨some 4, ov (S rB false)⟩])
             (rs := fun γ => [⟨cvar gb_11 r_merkle_Tree x_20, none, none, []⟩, ⟨cvar gb_24 (rV 32 (rU UInt8)) x_60, none, none, [4]⟩])
             (afts := nn 13) (js := [0, 0]) mixed (.cons rfl (.cons rfl (.cons rfl .nil))) (fun _ => rfl)
             (by
      refine db 1 9 <| dS 2 (fun γ ρ B hb hd => (op_call (js := []) ld cl9 (sim_law08_num k v_23 () hv_u_61) .func (.cons (tl hd 0 84) .nil) rfl).post (fun _ => Imp.refl)) <| dS 3 (fun γ ρ B hb hd => op_cmpI lb (tl hd 1 85) .cI (cs hv_62)) <| dm 4 2 86 ?_
      refine eT 5 3 87 v_62 (fun γ => ov (A (rV 32 (rU UInt8)) x_60)) (fun γ ρ B hb hd hq_20 => OpStep.lk ⟨ρ, (cvar gb_24 (rV 32 (rU UInt8)) x_60) :: B, _⟩ (op_loadA (j := 0) lb tA30 (.tmp (hb 8 _ rfl)) rfl (Comp.self (rV 32 (rU UInt8)) x_60) rfl)) ?_
      refine dT 6 3 87 v_62 (fun γ => ov (PTR gb_11 0)) (fun γ ρ B hb hd hq_21 => op_move lb (.tmp (hb 5 _ rfl))) ?_
      refine kn 7 3 87 rfl hc23 <| kn 8 3 87 rfl hc23 <| dS 9 (fun γ ρ B hb hd => op_pickF lb (tl hd 3 87) hc23 .cB) <| dm 10 8 92 <| kn 11 9 93 rfl rfl ?_
      refine dS 12 (fun γ ρ B hb hd => op_pickF lb (tl hd 9 93) rfl .cB) <| dS 13 (fun γ ρ B hb hd => op_assign lb (tl hd 11 95)) ?_
      exact DSteps.nil)
             (by decide +kernel) (fun _ => rfl) (fun _ => rfl) (fun _ => rfl) rfl
             (ρ' := fun γ => [(4, ov (S rB false))])
             (X' := fun γ => [cvar gb_11 r_merkle_Tree x_20, cvar gb_24 (rV 32 (rU UInt8)) x_60])
             (fun γ ρ hb hd => (.cons (hdq hd 12 4 rfl) .nil)) (fun _ => rfl) (fun γ => ?_)
         refine JQ.at ⟨[(4, ov (S rB false))], [cvar gb_11 r_merkle_Tree x_20, cvar gb_24 (rV 32 (rU UInt8)) x_60], []⟩ ?_
         try obtain rfl := so hx19
         exact jo rfl rfl rfl
       refine JC.block <| bI hx13 fun tv14 hL14 hq14 => JC.pre ?_ (JC.loop (γ := Unit) (stf := fun s q => ⟨[(5, ov (PTR gb_11 0)), (7, ov (S (rI .i64) s.1)), (8, ov (PTR gb_24 0)), (9, ov (S (rI .i64) v_23))], [cvar gb_11 r_merkle_Tree x_20, cvar gb_24 (rV 32 (rU UInt8)) s.2], []⟩) (q := ()) hL14 ?_)
       · exact (Imp.norm (js := [0, 0]) rfl (.cons rfl (.cons rfl (.cons rfl (.cons rfl .nil)))))
       intro s q x hx hr
       obtain ⟨x_25, x_26⟩ := s
       obtain _ := q
       change law08_MerklePaths.b2 k x_20 x_25 x_26 = some x at hx
       unfold law08_MerklePaths.b2 at hx
       refine JC.at ⟨[(5, ov (PTR gb_11 0)), (7, ov (S (rI .i64) x_25)), (8, ov (PTR gb_24 0)), (9, ov (S (rI .i64) v_23))], [cvar gb_11 r_merkle_Tree x_20, cvar gb_24 (rV 32 (rU UInt8)) x_26], []⟩ <| JC.seq <| jr <| jmv rfl rfl <| lI hx fun v_27 hv_27 hx => jc (op_cmpI lb tR .cI (cs hv_27)) <| jn <| jif tR hx (fun hc15 hx => ?_) (fun hc15 hx => ?_)
       · refine JC.skip <| JQ.then <| JC.block <| jr <| jmv rfl rfl <| jmv rfl rfl <| lI hx fun v_28 hv_28 hx => jc (op_arI lb tR .cI (cs hv_28)) ?_
         obtain ⟨⟨v_29, v_30⟩, hv_29, hx⟩ := bnd_inv hx
         refine jx (op_call (js := [0]) ld cl14 (sim_merkle_Tree_Node k v_28 x_20 gb_11 (v_29, v_30) hv_29) .func (.cons tR (.cons tR .nil)) rfl) fun _ => jmv rfl rfl <| jc (op_extract (i := 0) lb tR rfl) <| jc (op_extract (i := 1) lb tR rfl) <| jx (op_alloc lb tZ30 zr30) fun gb_31 => JL.sub ⟨[(5, ov (PTR gb_11 0)), (7, ov (S (rI .i64) x_25)), (8, ov (PTR gb_24 0)), (9, ov (S (rI .i64) v_23)), (10, ov (PTR gb_31 0)), (60, ov (A (rV 32 (rU UInt8)) v_29)), (61, ov (S (rI .i64) v_30))], [cvar gb_11 r_merkle_Tree x_20, cvar gb_24 (rV 32 (rU UInt8)) x_26, cvar gb_31 (rV 32 (rU UInt8)) (Vector.replicate 32 (0 : UInt8))], []⟩ (.cons rfl (.cons rfl (.cons rfl (.cons rfl (.cons rfl (.cons rfl (.cons rfl .nil))))))) rfl rfl <| jc (op_storeA (j := 2) tA30 tR tR rfl (UpdR.self (by rfl)) rfl) <| jc (op_assign lb tR) <| jn <| JC.seq <| jr <| jmv rfl rfl <| bI hx fun _ hv_u_32 hx => jx (op_call (js := []) ld cl9 (sim_law08_num k v_30 () hv_u_32) .func (.cons tR .nil) rfl) fun _ => ?_
         obtain ⟨v_33, hv_33, hx⟩ := lt1_inv hx
         refine jc (op_cmpI lb tR .cI (cs hv_33)) <| jn <| jif tR hx (fun hc16 hx => ?_) (fun hc16 hx => ?_)
         · refine jr <| jc (op_assign lb .cB) <| jn <| JC.ret <| JQ.outR <| JQ.outRB ?_
           try obtain rfl := so hx
           try obtain rfl := hr _ rfl
           dsimp only at hq14
           refine JQ.outR <| JQ.outRB ?_
           try obtain rfl := so hq14
           dsimp only at hq13
           refine JQ.outR ?_
           obtain rfl := so hq13
           exact jd (.val (S rB false)) rfl rfl rfl rfl rfl rfl
         refine JC.skip <| JQ.then <| jr <| jx (op_buildO (r := (rU UInt8)) lb tu37 tz5 tZ5 rfl (lE rfl) (.S rfl (HasO.cU (x := (1 : UInt8)) rfl (by decide)) .nil) rfl) fun gb_34 => bI hx fun v_35 hv_35 hx => jc (op_sliceB lb tu30 tz5 tR (Comp.self (rV 32 (rU UInt8)) x_26) .none .none hv_35) <| bI hx fun x_36 hv_x_36 hx => jx (op_appendB (j' := 1) (j := 3) lb tu37 tu37 rfl tB5 rfl (Nat.lt_of_lt_of_le Nat.zero_lt_one (lE rfl)) (Nat.lt_of_lt_of_le Nat.zero_lt_one (lE rfl))  rfl tR rfl EF.u tR hv_x_36) (fun q => ?_)
         obtain ⟨go_37, gc_38⟩ := q
         refine JL.sub ⟨[(5, ov (PTR gb_11 0)), (7, ov (S (rI .i64) x_25)), (8, ov (PTR gb_24 0)), (9, ov (S (rI .i64) v_23)), (10, ov (PTR gb_31 0)), (67, ov (HDR go_37 0 (List.length x_36) gc_38))], [cvar gb_11 r_merkle_Tree x_20, cvar gb_24 (rV 32 (rU UInt8)) x_26, cvar gb_31 (rV 32 (rU UInt8)) v_29, cown go_37 (rU UInt8) x_36 0 gc_38], []⟩ (.cons rfl (.cons rfl (.cons rfl (.cons rfl (.cons rfl (.cons rfl .nil)))))) rfl rfl <| jc (op_assign lb tR) <| jn <| bI hx fun x_54 hx17 hq17 => JC.seqJ (γ := Option Nat × Nat) (stj := fun q => ⟨[(5, ov (PTR gb_11 0)), (7, ov (S (rI .i64) x_25)), (8, ov (PTR gb_24 0)), (9, ov (S (rI .i64) v_23)), (12, ov (HDR q.1 0 (List.length x_54) q.2))], [cvar gb_11 r_merkle_Tree x_20, cvar gb_24 (rV 32 (rU UInt8)) x_26, cown q.1 (rU UInt8) x_54 0 q.2], []⟩) (fun q => ?_) ?_
         · obtain ⟨go_55, gc_56⟩ := q
           refine JC.at ⟨[(5, ov (PTR gb_11 0)), (7, ov (S (rI .i64) x_25)), (8, ov (PTR gb_24 0)), (9, ov (S (rI .i64) v_23)), (12, ov (HDR go_55 0 (List.length x_54) gc_56))], [cvar gb_11 r_merkle_Tree x_20, cvar gb_24 (rV 32 (rU UInt8)) x_26, cown go_55 (rU UInt8) x_54 0 gc_56], []⟩ <| jr <| jmv rfl rfl <| bI hq17 fun v_57 hv_57 hq17 => JL.pre (Imp.frz (j := 2) rfl (ImpK.slotH (s := 12) rfl (ImpK.slotH (s := 80) rfl ImpK.refl))) <| jx (op_call (js := []) ld cl15 (sim_ref03_Sum k x_54 v_57 hv_57) .func (.cons (HasO.wk tR wkHL) .nil) rfl) fun _ => jc (op_storeA (j := 1) tA30 tR tR rfl (UpdR.self (by rfl)) rfl) <| jn <| JC.region <| jmv rfl rfl <| bI hq17 fun v_58 hv_58 hq17 => jc (op_arI lb tR .cI hv_58) <| jc (op_assign lb tR) <| JL.nil <| JQ.outNB ?_
           try obtain rfl := so hq17
           exact JQ.next () rfl (Imp.norm (js := [0, 0]) rfl (.cons rfl (.cons rfl (.cons rfl (.cons rfl .nil)))))
         refine jr <| jmv rfl rfl <| bI hx17 fun v_39 hv_39 hx17 => jc (op_arI lb tR .cI hv_39) <| lI hx17 fun v_40 hv_40 hx17 => jc (op_cmpI lb tR .cI (cs hv_40)) <| jn <| jif tR hx17 (fun hc18 hx17 => ?_) (fun hc18 hx17 => ?_)
         · refine jr <| jx (op_buildO (r := (rU UInt8)) lb tu37 tz5 tZ5 rfl (lE rfl) (.S rfl (HasO.cU (x := (1 : UInt8)) rfl (by decide)) .nil) rfl) fun gb_41 => bI hx17 fun v_42 hv_42 hx17 => jc (op_sliceB lb tu30 tz5 tR (Comp.self (rV 32 (rU UInt8)) v_29) .none .none hv_42) <| bI hx17 fun x_43 hv_x_43 hx17 => jx (op_appendB (j' := 2) (j := 4) lb tu37 tu37 rfl tB5 rfl (Nat.lt_of_lt_of_le Nat.zero_lt_one (lE rfl)) (Nat.lt_of_lt_of_le Nat.zero_lt_one (lE rfl))  rfl tR rfl EF.u tR hv_x_43) (fun q => ?_)
           obtain ⟨go_44, gc_45⟩ := q
           refine jc (op_assign lb tR) <| JL.nrm ⟨[(5, ov (PTR gb_11 0)), (7, ov (S (rI .i64) x_25)), (8, ov (PTR gb_24 0)), (9, ov (S (rI .i64) v_23)), (12, ov (HDR go_44 0 (List.length x_43) gc_45))], [cvar gb_11 r_merkle_Tree x_20, cvar gb_24 (rV 32 (rU UInt8)) x_26, cown go_44 (rU UInt8) x_43 0 gc_45], []⟩ [0, 0, 2] rfl (.cons rfl (.cons rfl (.cons rfl (.cons rfl (.cons rfl .nil))))) rfl <| jn <| JC.region <| jmv rfl rfl <| bI hx17 fun v_46 hv_46 hx17 => jc (op_sliceB lb tu30 tz5 tR (Comp.self (rV 32 (rU UInt8)) x_26) .none .none hv_46) <| bI hx17 fun x_47 hv_x_47 hx17 => jx (op_appendB (j' := 1) (j := 2) lb tu37 tu37 rfl tB5 rfl (Nat.lt_of_lt_of_le Nat.zero_lt_one (lE rfl)) (Nat.lt_of_lt_of_le Nat.zero_lt_one (lE rfl))  rfl tR rfl EF.u tR hv_x_47) (fun q => ?_)
           obtain ⟨go_48, gc_49⟩ := q
           refine jc (op_assign lb tR) <| JL.nil ?_
           try obtain rfl := so hx17
           exact JQ.join (go_48, gc_49) (Imp.norm (js := [0, 0, 0]) rfl (.cons rfl (.cons rfl (.cons rfl (.cons rfl (.cons rfl .nil))))))
         refine JC.region <| jmv rfl rfl <| bI hx17 fun v_50 hv_50 hx17 => jc (op_sliceB lb tu30 tz5 tR (Comp.self (rV 32 (rU UInt8)) v_29) .none .none hv_50) <| bI hx17 fun x_51 hv_x_51 hx17 => jx (op_appendB (j' := 2) (j := 3) lb tu37 tu37 rfl tB5 rfl (Nat.lt_of_lt_of_le Nat.zero_lt_one (lE rfl)) (Nat.lt_of_lt_of_le Nat.zero_lt_one (lE rfl))  rfl tR rfl EF.u tR hv_x_51) (fun q => ?_)
         obtain ⟨go_52, gc_53⟩ := q
         refine jc (op_assign lb tR) <| JL.nil ?_
         try obtain rfl := so hx17
         exact JQ.join (go_52, gc_53) (Imp.norm (js := [0, 0, 1]) rfl (.cons rfl (.cons rfl (.cons rfl (.cons rfl (.cons rfl .nil))))))
       refine JC.exit <| JQ.outX ?_
       try obtain rfl := so hx
       try obtain rfl := hr _ rfl
       dsimp only at hq14
       refine JQ.outX <| JQ.here ?_
       try obtain rfl := so hq14
       exact JQ.joinK x_26 () rfl (Imp.norm (js := [0, 0]) rfl (.cons rfl (.cons rfl (.cons rfl .nil))))
     refine jr <| jc (op_assign lb .cI) <| jn <| JC.block <| JC.pre ?_ (JC.loop (γ := Unit) (stf := fun s q => ⟨[(0, ov (S (rL r_law08_Step) t_1)), (1, ov (S (rI .i64) a_2)), (5, ov (PTR gb_11 0)), (6, ov (S (rI .i64) s.2))], [cvar gb_11 r_merkle_Tree s.1], []⟩) (q := ()) hx10 ?_)
     · exact (Imp.norm (js := [0]) rfl (.cons rfl (.cons rfl (.cons rfl (.cons rfl .nil)))))
     intro s q x hx hr
     obtain ⟨x_12, x_13⟩ := s
     obtain _ := q
     change law08_MerklePaths.b1 k t_1 x_12 x_13 = some x at hx
     unfold law08_MerklePaths.b1 at hx
     refine JC.at ⟨[(0, ov (S (rL r_law08_Step) t_1)), (1, ov (S (rI .i64) a_2)), (5, ov (PTR gb_11 0)), (6, ov (S (rI .i64) x_13))], [cvar gb_11 r_merkle_Tree x_12], []⟩ <| JC.seq <| jr <| jmv rfl rfl <| jmv rfl rfl <| jc (op_lenL lb tu33 tR) <| lI hx fun v_14 hv_14 hx => jc (op_cmpI lb tR tR (cs hv_14)) <| jn <| jif tR hx (fun hc12 hx => ?_) (fun hc12 hx => ?_)
     · refine JC.skip <| JQ.then <| JC.seq <| JC.block <| bI hx fun v_15 hv_15 hx => ?_
       obtain ⟨v_16, hv_16, hx⟩ := bnd_inv hx
       obtain ⟨⟨v_17, x_18⟩, hv_17, hx⟩ := bnd_inv hx
       refine JC.anyF (base := [(0, ov (S (rL r_law08_Step) t_1)), (1, ov (S (rI .i64) a_2)), (5, ov (PTR gb_11 0)), (6, ov (S (rI .i64) x_13))])
           (fs := fun γ => [⟨some 33, ov (PTR gb_11 0)⟩, ⟨some 34, ov (S (rL r_law08_Step) t_1)⟩, ⟨some 35, ov (S (rI .i64) x_13)⟩, ⟨some 36, ov (PT r_law08_Step v_15)⟩, ⟨some 37, ov (PT (rI .i64) v_15.Bucket)⟩, ⟨some 38, ov (S (rI .i64) v_15.Bucket)⟩, ⟨some 39, ov (S (rL r_law08_Step) t_1)⟩, ⟨some 40, ov (S (rI .i64) x_13)⟩, ⟨some 41, ov (PT r_law08_Step v_16)⟩, ⟨some 42, ov (PT (rL (rU UInt8)) v_16.B)⟩, ⟨some 43, ov (S (rL (rU UInt8)) v_16.B)⟩, ⟨some 44, ov (S (rI .i64) v_17)⟩])
           (rs := fun γ => [⟨cvar gb_11 r_merkle_Tree x_12, none, (some 11), []⟩, ⟨cvar gb_11 r_merkle_Tree x_18, (some 11), none, []⟩])
           (afts := nn 12) (js := [0]) mixed (.cons rfl (.cons rfl (.cons rfl (.cons rfl .nil)))) (fun _ => rfl)
           (by
      refine db 1 5 <| db 2 0 <| db 3 6 <| dS 4 (fun γ ρ B hb hd => op_indexAddrLg lb tu33 tz39 (tl hd 1 34) (tl hd 2 35) hv_15) <| dS 5 (fun γ ρ B hb hd => op_fieldAddrP lb tf39_0 (tl hd 3 36) (comp_law08_Step_Bucket v_15)) ?_
      refine dS 6 (fun γ ρ B hb hd => op_loadPSg lb tS3 rfl (tl hd 4 37) rfl) <| db 7 0 <| db 8 6 <| dS 9 (fun γ ρ B hb hd => op_indexAddrLg lb tu33 tz39 (tl hd 6 39) (tl hd 7 40) hv_16) <| dS 10 (fun γ ρ B hb hd => op_fieldAddrP lb tf39_1 (tl hd 8 41) (comp_law08_Step_B v_16)) ?_
      refine dS 11 (fun γ ρ B hb hd => op_loadPSg lb tS37 rfl (tl hd 9 42) rfl) <| dR 12 (fun γ ρ B hb hd => OpStep.at ⟨ρ, (cvar gb_11 r_merkle_Tree x_12) :: B, _⟩ (setO ⟨ρ, (cvar gb_11 r_merkle_Tree x_18) :: B, _⟩ _ _) ((op_call (js := [0]) ld cl13 (sim_merkle_Tree_Set k v_15.Bucket v_16.B x_12 gb_11 (v_17, x_18) hv_17) .func (.cons (tl hd 0 33) (.cons (tl hd 5 38) (.cons (tl hd 10 43) .nil))) rfl).post (fun _ => Imp.refl))) ?_
      exact DSteps.nil)
           (by decide +kernel) (fun _ => rfl) (fun _ => rfl) (fun _ => rfl) rfl
           (ρ' := fun γ => [(0, ov (S (rL r_law08_Step) t_1)), (1, ov (S (rI .i64) a_2)), (5, ov (PTR gb_11 0)), (6, ov (S (rI .i64) x_13))])
           (X' := fun γ => [cvar gb_11 r_merkle_Tree x_18])
           (fun γ ρ hb hd => (.cons (hb 0 _ rfl) (.cons (hb 1 _ rfl) (.cons (hb 5 _ rfl) (.cons (hb 6 _ rfl) .nil))))) (fun _ => rfl) (fun γ => ?_)
       refine JQ.at ⟨[(0, ov (S (rL r_law08_Step) t_1)), (1, ov (S (rI .i64) a_2)), (5, ov (PTR gb_11 0)), (6, ov (S (rI .i64) x_13))], [cvar gb_11 r_merkle_Tree x_18], []⟩ <| JQ.outNB <| JQ.then <| JC.region <| jmv rfl rfl <| lI hx fun v_19 hv_19 hx => jc (op_arI lb tR .cI (cs hv_19)) <| jc (op_assign lb tR) <| JL.nil ?_
       try obtain rfl := so hx
       exact JQ.next () rfl (Imp.norm (js := [0]) rfl (.cons rfl (.cons rfl (.cons rfl (.cons rfl .nil)))))
     refine JC.exit <| JQ.outX ?_
     try obtain rfl := so hx
     have ht := hr _ rfl
     have hq11 := cs ht
     clear hr ht
     refine JQ.outX <| JQ.here ?_
     try obtain rfl := so hq11
     exact JQ.join () (Imp.norm (js := [0]) rfl (.cons rfl (.cons rfl .nil)))
   obtain _ := ts9
   dsimp only at hq1
   refine jx (op_call (js := []) ld cl12 (sim_merkle_New_v1 k () hs9) .func .nil rfl) fun _ => jc (op_assign lb tR) <| jn <| JC.seq <| jr <| jmv rfl rfl <| jc (op_nilO (neg := false) (ob := none) lb tu24 tR (HasO.const (p := PTO none) fun _ => rfl) rfl) <| jn <| JC.condT tR rfl <| jr <| jc (op_assign lb .cB) <| jn <| JC.ret <| JQ.outR ?_
   obtain rfl := so hq1
   exact jd (.val (S rB false)) rfl rfl rfl rfl rfl rfl
 refine JC.region <| jmv rfl rfl <| bI hx1 fun v_3 hv_3 hx1 => jx (op_call (js := []) ld cl11 (sim_law08_much k t_1 v_3 hv_3) .func (.cons tR .nil) rfl) fun _ => jmv rfl rfl <| jF (ov (S (rI .i64) a_2)) rfl rfl rfl rfl (fun hq_2 => op_move lb tR) <| lI hx1 fun v_4 hv_4 hx1 => jF (ov (S rB v_4)) rfl rfl rfl rfl (fun hq_3 => op_cmpI lb (HasO.cnd tR (notT (notF hq_3))) .cI (cs hv_4)) <| lI hx1 fun v_5 hv_5 hx1 => jc (op_pickCS lb tR (fun hb4 => .cB) (fun hb4 => (HasO.cnd tR (notT hb4))) hv_5) <| jmv rfl rfl ?_
 refine jF (ov (S (rI .i64) a_2)) rfl rfl rfl rfl (fun hq_5 => op_move lb tR) <| lI hx1 fun v_6 hv_6 hx1 => jF (ov (S rB v_6)) rfl rfl rfl rfl (fun hq_6 => op_cmpI lb (HasO.cnd tR (notT (notF hq_6))) .cI (cs hv_6)) <| lI hx1 fun v_7 hv_7 hx1 => jc (op_pickCS lb tR (fun hb7 => .cB) (fun hb7 => (HasO.cnd tR (notT hb7))) hv_7) <| JL.nil ?_
 try obtain rfl := so hx1
 exact JQ.join () (Imp.norm (js := []) rfl (.cons rfl (.cons rfl (.cons rfl .nil))))

end Go.Proofs.Ytbflmobpbjnekaa
