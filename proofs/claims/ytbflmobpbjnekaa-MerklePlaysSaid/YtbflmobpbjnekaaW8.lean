/- Walks. -/
import Derived.Test.YtbflmobpbjnekaaT
import Derived.Test.YtbflmobpbjnekaaW2
import Derived.Test.YtbflmobpbjnekaaW3
import Derived.Test.YtbflmobpbjnekaaW7
namespace Go.Proofs.Ytbflmobpbjnekaa
open Go Fw
set_option linter.unusedVariables false
set_option maxRecDepth 100000
set_option maxHeartbeats 4000000

theorem sim_ref08_Empty (k : Nat) (r : (List (Vector UInt8 32))) (hm : ref08_Empty k = some r) : Sim Try.prog 17 [] [] (γ := Option Nat × Nat) (fun q => [cown q.1 (rV 32 (rU UInt8)) r 0 q.2]) (fun q => .one (.val (HDR q.1 0 (List.length r) q.2))) := by
 unfold ref08_Empty at hm
 refine Sim.of Try.func17 rfl rfl (lE rfl) (fun e0 w0 => ?_)
 refine JC.at ⟨[], [], []⟩ <| jr <| jc (op_assign lb HasO.nilH) <| jn <| jr <| jc (op_assign lb HasO.nilH) <| jn <| bI hm fun l_11 hx1 hq1 => JC.seqJ (γ := Option Nat × Nat) (stj := fun q => ⟨[(1, ov (HDR q.1 0 (List.length l_11) q.2))], [cown q.1 (rV 32 (rU UInt8)) l_11 0 q.2], []⟩) (fun q => ?_) ?_
 · obtain ⟨go_12, gc_13⟩ := q
   refine JC.at ⟨[(1, ov (HDR go_12 0 (List.length l_11) gc_13))], [cown go_12 (rV 32 (rU UInt8)) l_11 0 gc_13], []⟩ <| jr <| jmv rfl rfl <| jc (op_assign lb tR) <| jn <| JC.ret ?_
   obtain rfl := so hq1
   exact JQ.done (js := [0]) (ss := [.val (HDR go_12 0 (List.length l_11) gc_13)]) (go_12, gc_13) (.inl rfl) (.nil rfl) rfl (.cons (.tmp rfl) .nil) rfl rfl rfl
 refine jr <| jc (op_assign lb .cI) <| jn <| JC.block <| JC.pre (Imp.nilown (rV 32 (rU UInt8))) <| JC.pre ?_ (JC.loop (γ := Option Nat × Nat) (stf := fun s q => ⟨[(1, ov (HDR q.1 0 (List.length s.1) q.2)), (2, ov (S (rI .i64) s.2))], [cown q.1 (rV 32 (rU UInt8)) s.1 0 q.2], []⟩) (q := (none, 0)) hx1 ?_)
 · exact (Imp.norm (js := [0]) rfl (.cons rfl (.cons rfl .nil)))
 intro s q x hx hr
 obtain ⟨l_1, i_2⟩ := s
 obtain ⟨go_3, gc_4⟩ := q
 change ref08_Empty.b1 k l_1 i_2 = some x at hx
 unfold ref08_Empty.b1 at hx
 refine JC.at ⟨[(1, ov (HDR go_3 0 (List.length l_1) gc_4)), (2, ov (S (rI .i64) i_2))], [cown go_3 (rV 32 (rU UInt8)) l_1 0 gc_4], []⟩ <| JC.seq <| jr <| jmv rfl rfl <| lI hx fun v_5 hv_5 hx => jc (op_cmpI lb tR .cI (cs hv_5)) <| jn <| jif tR hx (fun hc3 hx => ?_) (fun hc3 hx => ?_)
 · refine JC.skip <| JQ.then <| JC.seq <| JC.block <| JC.region <| jmv rfl rfl <| jmv rfl rfl <| bI hx fun v_6 hv_6 hx => jx (op_call (js := []) ld cl33 (sim_ref08_Leaf k i_2 ([] : (List UInt8)) v_6 hv_6) .func (.cons tR (.cons (HasO.wk (q := S (rL (rU UInt8)) []) HasO.nilH wkNil) .nil)) rfl) fun _ => jc (op_buildF (r := (rV 32 (rU UInt8))) lb tu22 tz30 tZ30 rfl (lE rfl) (.A tR .nil) rfl) <| bI hx fun l_7 hv_l_7 hx => jx (op_appendL (j := 0) lb tu22 tu22 rfl tB30 rfl (Nat.lt_of_lt_of_le Nat.zero_lt_one (lE rfl)) (Nat.lt_of_lt_of_le Nat.zero_lt_one (lE rfl))  rfl tR tR hv_l_7) (fun q => ?_)
   obtain ⟨go_8, gc_9⟩ := q
   refine jc (op_assign lb tR) <| JL.nil <| JQ.outNB <| JQ.then <| JC.region <| jmv rfl rfl <| lI hx fun v_10 hv_10 hx => jc (op_arI lb tR .cI (cs hv_10)) <| JL.sub ⟨[(1, ov (HDR go_8 0 (List.length l_7) gc_9)), (2, ov (S (rI .i64) i_2)), (6, ov (S (rI .i64) v_10))], [cown go_8 (rV 32 (rU UInt8)) l_7 0 gc_9], []⟩ (.cons rfl (.cons rfl (.cons rfl .nil))) rfl rfl <| jc (op_assign lb tR) <| JL.nil ?_
   try obtain rfl := so hx
   exact JQ.next (go_8, gc_9) rfl (Imp.norm (js := [0]) rfl (.cons rfl (.cons rfl .nil)))
 refine JC.exit <| JQ.outX ?_
 try obtain rfl := so hx
 have ht := hr _ rfl
 have hq2 := cs ht
 clear hr ht
 refine JQ.outX <| JQ.here ?_
 try obtain rfl := so hq2
 exact JQ.join (go_3, gc_4) (Imp.norm (js := [0]) rfl (.cons rfl .nil))

theorem sim_law08_set_pov (k : Nat) (a_1 : (List law08_Step)) (t_2 : merkle_Tree) (x_4 : (List (Vector UInt8 32))) (gb_3 : Nat) (go_5 : Option Nat) (gc_6 : Nat) (r : Bool × merkle_Tree × (List (Vector UInt8 32))) (hm : law08_set_pov k a_1 t_2 x_4 = some r) : Sim Try.prog 18 [PTR gb_3 0, HDR go_5 0 (List.length x_4) gc_6, S (rL r_law08_Step) a_1] [cvar gb_3 r_merkle_Tree t_2, cown go_5 (rV 32 (rU UInt8)) x_4 0 gc_6] (γ := Unit) (fun q => [cvar gb_3 r_merkle_Tree r.2.1, cown go_5 (rV 32 (rU UInt8)) r.2.2 0 gc_6]) (fun q => .one (.val (S rB r.1))) := by
 unfold law08_set_pov at hm
 refine Sim.of Try.func18 rfl rfl (lE rfl) (fun e0 w0 => ?_)
 refine JC.at ⟨[(0, ov (PTR gb_3 0)), (1, ov (HDR go_5 0 (List.length x_4) gc_6)), (2, ov (S (rL r_law08_Step) a_1))], [cvar gb_3 r_merkle_Tree t_2, cown go_5 (rV 32 (rU UInt8)) x_4 0 gc_6], []⟩ <| jr <| jc (op_assign lb .cB) <| jn <| bI hm fun tv1 hx1 hq1 => JC.seqK (α := merkle_Tree × (List (Vector UInt8 32))) (γ := Unit) (stj := fun v q => ⟨[], [cvar gb_3 r_merkle_Tree v.1, cown go_5 (rV 32 (rU UInt8)) v.2 0 gc_6], []⟩) (p := fun v => tv1 = (.inl v)) (fun v q hv => ?_) ?_
 · subst hv
   obtain ⟨x_58, x_59⟩ := v
   obtain _ := q
   dsimp only at hq1
   refine JC.at ⟨[], [cvar gb_3 r_merkle_Tree x_58, cown go_5 (rV 32 (rU UInt8)) x_59 0 gc_6], []⟩ <| jr <| jc (op_assign lb .cB) <| jn <| JC.ret ?_
   obtain rfl := so hq1
   exact JQ.done (js := [0, 0]) (ss := [.val (S rB true)]) () (.inl rfl) (.nil rfl) rfl (.cons (.tmp rfl) .nil) rfl rfl rfl
 refine jr <| jc (op_assign lb .cI) <| jn <| JC.block <| bI hx1 fun tv2 hL2 hq2 => JC.pre ?_ (JC.loop (γ := Unit) (stf := fun s q => ⟨[(0, ov (PTR gb_3 0)), (1, ov (HDR go_5 0 (List.length s.2.1) gc_6)), (2, ov (S (rL r_law08_Step) a_1)), (7, ov (S (rI .i64) s.2.2))], [cvar gb_3 r_merkle_Tree s.1, cown go_5 (rV 32 (rU UInt8)) s.2.1 0 gc_6], []⟩) (q := ()) hL2 ?_)
 · exact (Imp.norm (js := [0, 0]) rfl (.cons rfl (.cons rfl (.cons rfl (.cons rfl .nil)))))
 intro s q x hx hr
 obtain ⟨t_7, x_8, x_9⟩ := s
 obtain _ := q
 change law08_set_pov.b1 k a_1 t_7 x_8 x_9 = some x at hx
 unfold law08_set_pov.b1 at hx
 refine JC.at ⟨[(0, ov (PTR gb_3 0)), (1, ov (HDR go_5 0 (List.length x_8) gc_6)), (2, ov (S (rL r_law08_Step) a_1)), (7, ov (S (rI .i64) x_9))], [cvar gb_3 r_merkle_Tree t_7, cown go_5 (rV 32 (rU UInt8)) x_8 0 gc_6], []⟩ <| JC.seq <| jr <| jmv rfl rfl <| jmv rfl rfl <| jc (op_lenL lb tu33 tR) <| lI hx fun v_10 hv_10 hx => jc (op_cmpI lb tR tR (cs hv_10)) <| jn <| jif tR hx (fun hc3 hx => ?_) (fun hc3 hx => ?_)
 · refine JC.skip <| JQ.then <| bI hx fun tv4 hx4 hq4 => JC.seqK (α := merkle_Tree × (List (Vector UInt8 32))) (γ := Unit) (stj := fun v q => ⟨[(0, ov (PTR gb_3 0)), (1, ov (HDR go_5 0 (List.length v.2) gc_6)), (2, ov (S (rL r_law08_Step) a_1)), (7, ov (S (rI .i64) x_9))], [cvar gb_3 r_merkle_Tree v.1, cown go_5 (rV 32 (rU UInt8)) v.2 0 gc_6], []⟩) (p := fun v => tv4 = (.inl v)) (fun v q hv => ?_) ?_
   · subst hv
     obtain ⟨t_53, x_54⟩ := v
     obtain _ := q
     dsimp only at hq4
     refine JC.at ⟨[(0, ov (PTR gb_3 0)), (1, ov (HDR go_5 0 (List.length x_54) gc_6)), (2, ov (S (rL r_law08_Step) a_1)), (7, ov (S (rI .i64) x_9))], [cvar gb_3 r_merkle_Tree t_53, cown go_5 (rV 32 (rU UInt8)) x_54 0 gc_6], []⟩ <| JC.region <| jmv rfl rfl <| lI hq4 fun v_55 hv_55 hq4 => jc (op_arI lb tR .cI (cs hv_55)) <| jc (op_assign lb tR) <| JL.nil ?_
     try obtain rfl := so hq4
     exact JQ.next () rfl (Imp.norm (js := [0, 0]) rfl (.cons rfl (.cons rfl (.cons rfl (.cons rfl .nil)))))
   refine JC.block <| jr <| jmv rfl rfl <| jmv rfl rfl <| bI hx4 fun v_11 hv_11 hx4 => jc (op_indexAddrLg lb tu33 tz39 tR tR hv_11) <| jc (op_fieldAddrP lb tf39_1 tR (comp_law08_Step_B v_11)) <| jc (op_loadPSg lb tS37 rfl tR rfl) <| bI hx4 fun v_12 hv_12 hx4 => JL.pre (Imp.nilown (rU UInt8)) <| jx (op_appendL (j := 2) lb tu37 tu37 rfl tB5 rfl (Nat.lt_of_lt_of_le Nat.zero_lt_one (lE rfl)) (Nat.lt_of_lt_of_le Nat.zero_lt_one (lE rfl))  rfl HasO.nilH tR hv_12) (fun q => ?_)
   obtain ⟨go_13, gc_14⟩ := q
   refine JL.sub ⟨[(0, ov (PTR gb_3 0)), (1, ov (HDR go_5 0 (List.length x_8) gc_6)), (2, ov (S (rL r_law08_Step) a_1)), (7, ov (S (rI .i64) x_9)), (23, ov (HDR go_13 0 (List.length v_12) gc_14))], [cvar gb_3 r_merkle_Tree t_7, cown go_5 (rV 32 (rU UInt8)) x_8 0 gc_6, cown go_13 (rU UInt8) v_12 0 gc_14], []⟩ (.cons rfl (.cons rfl (.cons rfl (.cons rfl (.cons rfl .nil))))) rfl rfl <| jc (op_assign lb tR) <| jn <| jr <| jmv rfl rfl <| jmv rfl rfl <| jmv rfl rfl <| bI hx4 fun v_15 hv_15 hx4 => jc (op_indexAddrLg lb tu33 tz39 tR tR hv_15) <| jc (op_fieldAddrP lb tf39_0 tR (comp_law08_Step_Bucket v_15)) <| jc (op_loadPSg lb tS3 rfl tR rfl) <| jmv rfl rfl ?_
   obtain ⟨⟨v_16, x_17⟩, hv_16, hx4⟩ := bnd_inv hx4
   refine JL.pre (Imp.frz (j := 2) rfl (ImpK.slotH (s := 8) rfl (ImpK.slotH (s := 23) rfl (ImpK.slotH (s := 30) rfl ImpK.refl)))) <| jx (op_call (js := [0]) ld cl13 (sim_merkle_Tree_Set k v_15.Bucket v_12 t_7 gb_3 (v_16, x_17) hv_16) .func (.cons tR (.cons tR (.cons (HasO.wk tR wkHL) .nil))) rfl) fun _ => jc (op_assign lb tR) <| JL.sub ⟨[(0, ov (PTR gb_3 0)), (1, ov (HDR go_5 0 (List.length x_8) gc_6)), (2, ov (S (rL r_law08_Step) a_1)), (7, ov (S (rI .i64) x_9)), (8, ov (HL go_13 (rU UInt8) v_12 gc_14)), (9, ov (S (rI .i64) v_16))], [cvar gb_3 r_merkle_Tree x_17, cown go_5 (rV 32 (rU UInt8)) x_8 0 gc_6, cown go_13 (rU UInt8) v_12 (List.length v_12) gc_14], []⟩ (.cons rfl (.cons rfl (.cons rfl (.cons rfl (.cons rfl (.cons rfl .nil)))))) rfl rfl <| jn <| jr <| jmv rfl rfl <| jmv rfl rfl <| bI hx4 fun v_18 hv_18 hx4 => jc (op_indexAddrLg lb tu33 tz39 tR tR hv_18) <| jc (op_fieldAddrP lb tf39_0 tR (comp_law08_Step_Bucket v_18)) <| jc (op_loadPSg lb tS3 rfl tR rfl) <| jmv rfl rfl ?_
   obtain ⟨⟨v_19, v_20⟩, hv_19, hx4⟩ := bnd_inv hx4
   refine jx (op_call (js := []) ld cl28 (sim_merkle_Leaf k v_18.Bucket v_12 (v_19, v_20) hv_19) .func (.cons tR (.cons (HasO.wk tR wkHL) .nil)) rfl) fun _ => jmv rfl rfl <| jc (op_extract (i := 0) lb tR rfl) <| jc (op_extract (i := 1) lb tR rfl) <| jx (op_alloc lb tZ30 zr30) fun gb_21 => JL.sub ⟨[(0, ov (PTR gb_3 0)), (1, ov (HDR go_5 0 (List.length x_8) gc_6)), (2, ov (S (rL r_law08_Step) a_1)), (7, ov (S (rI .i64) x_9)), (8, ov (HL go_13 (rU UInt8) v_12 gc_14)), (9, ov (S (rI .i64) v_16)), (10, ov (PTR gb_21 0)), (40, ov (A (rV 32 (rU UInt8)) v_19)), (41, ov (S (rI .i64) v_20))], [cvar gb_3 r_merkle_Tree x_17, cown go_5 (rV 32 (rU UInt8)) x_8 0 gc_6, cown go_13 (rU UInt8) v_12 (List.length v_12) gc_14, cvar gb_21 (rV 32 (rU UInt8)) (Vector.replicate 32 (0 : UInt8))], []⟩ (.cons rfl (.cons rfl (.cons rfl (.cons rfl (.cons rfl (.cons rfl (.cons rfl (.cons rfl (.cons rfl .nil))))))))) rfl rfl <| jc (op_storeA (j := 3) tA30 tR tR rfl (UpdR.self (by rfl)) rfl) <| jc (op_assign lb tR) <| jn <| JC.seq <| JC.seq <| bI hx4 fun v_22 hv_22 hx4 => ?_
   obtain ⟨v_23, hv_23, hx4⟩ := lt1_inv hx4
   refine JC.anyF (base := [(0, ov (PTR gb_3 0)), (1, ov (HDR go_5 0 (List.length x_8) gc_6)), (2, ov (S (rL r_law08_Step) a_1)), (7, ov (S (rI .i64) x_9)), (8, ov (HL go_13 (rU UInt8) v_12 gc_14)), (9, ov (S (rI .i64) v_16)), (10, ov (PTR gb_21 0)), (11, ov (S (rI .i64) v_20))])
       (fs := fun γ => [⟨some 42, ov (HL go_13 (rU UInt8) v_12 gc_14)⟩, ⟨some 43, ov (S rS v_12)⟩, ⟨some 44, ov (S (rL r_law08_Step) a_1)⟩, ⟨some 45, ov (S (rI .i64) x_9)⟩, ⟨some 46, ov (PT r_law08_Step v_22)⟩, ⟨some 47, ov (PT (rL (rU UInt8)) v_22.B)⟩, ⟨some 48, ov (S (rL (rU UInt8)) v_22.B)⟩, ⟨some 49, ov (S rS v_22.B)⟩, ⟨some 50, ov (S rB v_23)⟩])
       (rs := fun γ => [⟨cvar gb_3 r_merkle_Tree x_17, none, none, []⟩, ⟨cown go_5 (rV 32 (rU UInt8)) x_8 0 gc_6, none, none, []⟩, ⟨cown go_13 (rU UInt8) v_12 (List.length v_12) gc_14, none, none, []⟩, ⟨cvar gb_21 (rV 32 (rU UInt8)) v_19, none, none, []⟩])
       (afts := nn 9) (js := [0, 0, 0, 0]) mixed (.cons rfl (.cons rfl (.cons rfl (.cons rfl (.cons rfl (.cons rfl (.cons rfl (.cons rfl .nil)))))))) (fun _ => rfl)
       (by
      refine db 1 8 <| dS 2 (fun γ ρ B hb hd => op_convBS lb tu37 tu5 tu9 (HasO.wk (tl hd 0 42) wkHL)) <| db 3 2 <| db 4 7 <| dS 5 (fun γ ρ B hb hd => op_indexAddrLg lb tu33 tz39 (tl hd 2 44) (tl hd 3 45) hv_22) ?_
      refine dS 6 (fun γ ρ B hb hd => op_fieldAddrP lb tf39_1 (tl hd 4 46) (comp_law08_Step_B v_22)) <| dS 7 (fun γ ρ B hb hd => op_loadPSg lb tS37 rfl (tl hd 5 47) rfl) <| dS 8 (fun γ ρ B hb hd => op_convBS lb tu37 tu5 tu9 (tl hd 6 48)) <| dS 9 (fun γ ρ B hb hd => op_cmpS lb (tl hd 1 43) (tl hd 7 49) (cs hv_23)) ?_
      exact DSteps.nil)
       (by decide +kernel) (fun _ => rfl) (fun _ => rfl) (fun _ => rfl) rfl
       (ρ' := fun γ => [(0, ov (PTR gb_3 0)), (1, ov (HDR go_5 0 (List.length x_8) gc_6)), (2, ov (S (rL r_law08_Step) a_1)), (7, ov (S (rI .i64) x_9)), (9, ov (S (rI .i64) v_16)), (10, ov (PTR gb_21 0)), (11, ov (S (rI .i64) v_20)), (50, ov (S rB v_23))])
       (X' := fun γ => [cvar gb_3 r_merkle_Tree x_17, cown go_5 (rV 32 (rU UInt8)) x_8 0 gc_6, cown go_13 (rU UInt8) v_12 (List.length v_12) gc_14, cvar gb_21 (rV 32 (rU UInt8)) v_19])
       (fun γ ρ hb hd => (.cons (hb 0 _ rfl) (.cons (hb 1 _ rfl) (.cons (hb 2 _ rfl) (.cons (hb 7 _ rfl) (.cons (hb 9 _ rfl) (.cons (hb 10 _ rfl) (.cons (hb 11 _ rfl) (.cons (hdq hd 8 50 rfl) .nil))))))))) (fun _ => rfl) (fun γ => ?_)
   refine JQ.at ⟨[(0, ov (PTR gb_3 0)), (1, ov (HDR go_5 0 (List.length x_8) gc_6)), (2, ov (S (rL r_law08_Step) a_1)), (7, ov (S (rI .i64) x_9)), (9, ov (S (rI .i64) v_16)), (10, ov (PTR gb_21 0)), (11, ov (S (rI .i64) v_20)), (50, ov (S rB v_23))], [cvar gb_3 r_merkle_Tree x_17, cown go_5 (rV 32 (rU UInt8)) x_8 0 gc_6, cown go_13 (rU UInt8) v_12 (List.length v_12) gc_14, cvar gb_21 (rV 32 (rU UInt8)) v_19], []⟩ <| JQ.then <| jif tR hx4 (fun hc5 hx4 => ?_) (fun hc5 hx4 => ?_)
   · refine jr <| jc (op_assign lb .cB) <| jn <| JC.ret <| JQ.outR <| JQ.outRB ?_
     try obtain rfl := so hx4
     dsimp only at hq4
     refine JQ.outR ?_
     try obtain rfl := so hq4
     try obtain rfl := hr _ rfl
     dsimp only at hq2
     refine JQ.outR <| JQ.outRB ?_
     try obtain rfl := so hq2
     dsimp only at hq1
     refine JQ.outR ?_
     obtain rfl := so hq1
     exact JQ.done (js := [0, 0]) (ss := [.val (S rB false)]) () (.inl rfl) (.nil rfl) rfl (.cons (.tmp rfl) .nil) rfl rfl rfl
   refine JC.skip <| JQ.then <| JC.seq <| bI hx4 fun x_29 hx6 hq6 => JC.seqJ (γ := Unit) (stj := fun _ => ⟨[(0, ov (PTR gb_3 0)), (1, ov (HDR go_5 0 (List.length x_8) gc_6)), (2, ov (S (rL r_law08_Step) a_1)), (7, ov (S (rI .i64) x_9)), (9, ov (S (rI .i64) v_16)), (10, ov (PTR gb_21 0)), (11, ov (S (rI .i64) v_20)), (64, ov (S rB x_29))], [cvar gb_3 r_merkle_Tree x_17, cown go_5 (rV 32 (rU UInt8)) x_8 0 gc_6, cvar gb_21 (rV 32 (rU UInt8)) v_19], []⟩) (fun _ => ?_) ?_
   · refine jif tR hq6 (fun hc14 hq6 => ?_) (fun hc14 hq6 => ?_)
     · refine JC.seq <| bI hq6 fun x_37 hx15 hq15 => JC.seqJ (γ := Unit) (stj := fun _ => ⟨[(0, ov (PTR gb_3 0)), (1, ov (HDR go_5 0 (List.length x_8) gc_6)), (2, ov (S (rL r_law08_Step) a_1)), (7, ov (S (rI .i64) x_9)), (77, ov (S rB x_37))], [cvar gb_3 r_merkle_Tree x_17, cown go_5 (rV 32 (rU UInt8)) x_8 0 gc_6], []⟩) (fun _ => ?_) ?_
       · refine jif tR hq15 (fun hc24 hq15 => ?_) (fun hc24 hq15 => ?_)
         · refine jr <| jc (op_assign lb .cB) <| jn <| JC.ret <| JQ.outR <| JQ.outR <| JQ.outRB ?_
           try obtain rfl := so hq15
           dsimp only at hq4
           refine JQ.outR ?_
           try obtain rfl := so hq4
           try obtain rfl := hr _ rfl
           dsimp only at hq2
           refine JQ.outR <| JQ.outRB ?_
           try obtain rfl := so hq2
           dsimp only at hq1
           refine JQ.outR ?_
           obtain rfl := so hq1
           exact JQ.done (js := [0, 0]) (ss := [.val (S rB false)]) () (.inl rfl) (.nil rfl) rfl (.cons (.tmp rfl) .nil) rfl rfl rfl
         refine JC.skip <| JQ.then <| JC.exit <| JQ.outX <| JQ.here ?_
         try obtain rfl := so hq15
         exact JQ.joinK (x_17, x_8) () rfl (Imp.norm (js := [0, 0]) rfl (.cons rfl (.cons rfl (.cons rfl (.cons rfl .nil)))))
       refine JC.region <| jmv rfl rfl <| bI hx15 fun _ hv_u_30 hx15 => jx (op_call (js := []) ld cl9 (sim_law08_num k v_16 () hv_u_30) .func (.cons tR .nil) rfl) fun _ => lI hx15 fun v_31 hv_31 hx15 => jc (op_cmpI lb tR .cI (cs hv_31)) <| jmv rfl rfl <| jF (ov (S (rI .i64) v_20)) rfl rfl rfl rfl (fun hq_16 => op_move lb tR) <| bI hx15 fun _ hv_u_32 hx15 => jF (ov (S (rI .i64) v_20)) rfl rfl rfl rfl (fun hq_17 => (op_call (js := []) ld cl9 (sim_law08_num k v_20 () (ifT hv_u_32 hq_17)) .func (.cons (HasO.cnd tR (notT (notF hq_17))) .nil) rfl).post (fun _ => Imp.refl)) ?_
       obtain ⟨v_33, hv_33, hx15⟩ := lt1_inv hx15
       refine jF (ov (S rB v_33)) rfl rfl rfl rfl (fun hq_18 => op_cmpI lb (HasO.cnd tR (notT (notF hq_18))) .cI (cs hv_33)) <| lI hx15 fun v_34 hv_34 hx15 => jc (op_pickCS lb tR (fun hb19 => .cB) (fun hb19 => (HasO.cnd tR (notT hb19))) hv_34) <| jmv rfl rfl <| jF (ov (A (rV 32 (rU UInt8)) v_19)) rfl rfl rfl rfl (fun hq_20 => op_loadA (j := 2) lb tA30 tR rfl (Comp.self (rV 32 (rU UInt8)) v_19) rfl) <| jF (ov (A (rV 32 (rU UInt8)) (Vector.replicate 32 (0 : UInt8)))) rfl rfl rfl rfl (fun hq_21 => op_build lb tZ30 zv30 tp30 .nil rfl) <| lI hx15 fun v_35 hv_35 hx15 => jF (ov (S rB v_35)) rfl rfl rfl rfl (fun hq_22 => op_neA lb qa30 (by decide) ng30 (HasO.cnd tR (notT (notF hq_22))) (HasO.cnd tR (notT (notF hq_22))) hv_35) <| JL.nrm ⟨[(0, ov (PTR gb_3 0)), (1, ov (HDR go_5 0 (List.length x_8) gc_6)), (2, ov (S (rL r_law08_Step) a_1)), (7, ov (S (rI .i64) x_9)), (73, ov (S rB v_34)), (76, bif (!v_34) then ov (S rB v_35) else .one .und)], [cvar gb_3 r_merkle_Tree x_17, cown go_5 (rV 32 (rU UInt8)) x_8 0 gc_6], []⟩ [0, 0] rfl (.cons rfl (.cons rfl (.cons rfl (.cons rfl (.cons rfl (.cons rfl .nil)))))) rfl ?_
       obtain ⟨v_36, hv_36, hx15⟩ := lt1_inv hx15
       refine jc (op_pickCS lb tR (fun hb23 => .cB) (fun hb23 => (HasO.cnd tR (notT hb23))) hv_36) <| JL.nil ?_
       try obtain rfl := so hx15
       exact JQ.join () (Imp.norm (js := [0, 0]) rfl (.cons rfl (.cons rfl (.cons rfl (.cons rfl (.cons rfl .nil))))))
     refine JC.skip <| JQ.then <| JC.seq <| bI hq6 fun v_38 hv_38 hq6 => bI hq6 fun v_39 hv_39 hq6 => bI hq6 fun v_40 hv_40 hq6 => bI hq6 fun v_41 hv_41 hq6 => bI hq6 fun i_42 hv_i_42 hq6 => ?_
     obtain ⟨x_43, hv_x_43, hq6⟩ := bnd_inv hq6
     refine JC.anyF (base := [(0, ov (PTR gb_3 0)), (1, ov (HDR go_5 0 (List.length x_8) gc_6)), (2, ov (S (rL r_law08_Step) a_1)), (7, ov (S (rI .i64) x_9)), (9, ov (S (rI .i64) v_16)), (10, ov (PTR gb_21 0)), (11, ov (S (rI .i64) v_20))])
         (fs := fun γ => [⟨some 78, ov (HDR go_5 0 (List.length x_8) gc_6)⟩, ⟨some 79, ov (S (rL r_law08_Step) a_1)⟩, ⟨some 80, ov (S (rI .i64) x_9)⟩, ⟨some 81, ov (PT r_law08_Step v_38)⟩, ⟨some 82, ov (PT (rI .i64) v_38.Bucket)⟩, ⟨some 83, ov (S (rI .i64) v_38.Bucket)⟩, ⟨some 84, ov (S (rL r_law08_Step) a_1)⟩, ⟨some 85, ov (S (rI .i64) x_9)⟩, ⟨some 86, ov (PT r_law08_Step v_39)⟩, ⟨some 87, ov (PT (rI .i64) v_39.Bucket)⟩, ⟨some 88, ov (S (rI .i64) v_39.Bucket)⟩, ⟨some 89, ov (S (rL r_law08_Step) a_1)⟩, ⟨some 90, ov (S (rI .i64) x_9)⟩, ⟨some 91, ov (PT r_law08_Step v_40)⟩, ⟨some 92, ov (PT (rL (rU UInt8)) v_40.B)⟩, ⟨some 93, ov (S (rL (rU UInt8)) v_40.B)⟩, ⟨some 94, ov (A (rV 32 (rU UInt8)) v_41)⟩, ⟨some 95, ov (EPT go_5 (i_42 * 32))⟩, ⟨none, .one .any⟩])
         (rs := fun γ => [⟨cvar gb_3 r_merkle_Tree x_17, none, none, []⟩, ⟨cown go_5 (rV 32 (rU UInt8)) x_8 0 gc_6, none, (some 18), [17]⟩, ⟨cvar gb_21 (rV 32 (rU UInt8)) v_19, none, none, []⟩, ⟨cown go_5 (rV 32 (rU UInt8)) x_43 0 gc_6, (some 18), none, []⟩])
         (afts := nn 19) (js := [0, 0, 0]) mixed (.cons rfl (.cons rfl (.cons rfl (.cons rfl (.cons rfl (.cons rfl (.cons rfl .nil))))))) (fun _ => rfl)
         (by
      refine db 1 1 <| db 2 2 <| db 3 7 <| dS 4 (fun γ ρ B hb hd => op_indexAddrLg lb tu33 tz39 (tl hd 1 79) (tl hd 2 80) hv_38) <| dS 5 (fun γ ρ B hb hd => op_fieldAddrP lb tf39_0 (tl hd 3 81) (comp_law08_Step_Bucket v_38)) ?_
      refine dS 6 (fun γ ρ B hb hd => op_loadPSg lb tS3 rfl (tl hd 4 82) rfl) <| db 7 2 <| db 8 7 <| dS 9 (fun γ ρ B hb hd => op_indexAddrLg lb tu33 tz39 (tl hd 6 84) (tl hd 7 85) hv_39) <| dS 10 (fun γ ρ B hb hd => op_fieldAddrP lb tf39_0 (tl hd 8 86) (comp_law08_Step_Bucket v_39)) ?_
      refine dS 11 (fun γ ρ B hb hd => op_loadPSg lb tS3 rfl (tl hd 9 87) rfl) <| db 12 2 <| db 13 7 <| dS 14 (fun γ ρ B hb hd => op_indexAddrLg lb tu33 tz39 (tl hd 11 89) (tl hd 12 90) hv_40) <| dS 15 (fun γ ρ B hb hd => op_fieldAddrP lb tf39_1 (tl hd 13 91) (comp_law08_Step_B v_40)) ?_
      refine dS 16 (fun γ ρ B hb hd => op_loadPSg lb tS37 rfl (tl hd 14 92) rfl) <| dS 17 (fun γ ρ B hb hd => (op_call (js := []) ld cl33 (sim_ref08_Leaf k v_39.Bucket v_40.B v_41 hv_41) .func (.cons (tl hd 10 88) (.cons (tl hd 15 93) .nil)) rfl).post (fun _ => Imp.refl)) <| dR 18 (fun γ ρ B hb hd => OpStep.lk ⟨ρ, (cown go_5 (rV 32 (rU UInt8)) x_8 0 gc_6) :: B, _⟩ (op_indexAddrOF (r := (rV 32 (rU UInt8))) (j := 0) lb tu22 tz30 rfl (tl hd 0 78) (tl hd 5 83) hv_i_42)) <| dR 19 (fun γ ρ B hb hd => OpStep.at ⟨ρ, (cown go_5 (rV 32 (rU UInt8)) x_8 0 gc_6) :: B, _⟩ (setO ⟨ρ, (cown go_5 (rV 32 (rU UInt8)) x_43 0 gc_6) :: B, _⟩ _ _) (op_storeOAg (r := (rV 32 (rU UInt8))) (j := 0) tA30 rfl (tl hd 17 95) (tl hd 16 94) hv_x_43)) ?_
      exact DSteps.nil)
         (by decide +kernel) (fun _ => rfl) (fun _ => rfl) (fun _ => rfl) rfl
         (ρ' := fun γ => [(0, ov (PTR gb_3 0)), (1, ov (HDR go_5 0 (List.length x_8) gc_6)), (2, ov (S (rL r_law08_Step) a_1)), (7, ov (S (rI .i64) x_9)), (9, ov (S (rI .i64) v_16)), (10, ov (PTR gb_21 0)), (11, ov (S (rI .i64) v_20))])
         (X' := fun γ => [cvar gb_3 r_merkle_Tree x_17, cvar gb_21 (rV 32 (rU UInt8)) v_19, cown go_5 (rV 32 (rU UInt8)) x_43 0 gc_6])
         (fun γ ρ hb hd => (.cons (hb 0 _ rfl) (.cons (hb 1 _ rfl) (.cons (hb 2 _ rfl) (.cons (hb 7 _ rfl) (.cons (hb 9 _ rfl) (.cons (hb 10 _ rfl) (.cons (hb 11 _ rfl) .nil)))))))) (fun _ => rfl) (fun γ => ?_)
     refine JQ.at ⟨[(0, ov (PTR gb_3 0)), (1, ov (HDR go_5 0 (List.length x_8) gc_6)), (2, ov (S (rL r_law08_Step) a_1)), (7, ov (S (rI .i64) x_9)), (9, ov (S (rI .i64) v_16)), (10, ov (PTR gb_21 0)), (11, ov (S (rI .i64) v_20))], [cvar gb_3 r_merkle_Tree x_17, cvar gb_21 (rV 32 (rU UInt8)) v_19, cown go_5 (rV 32 (rU UInt8)) x_43 0 gc_6], []⟩ <| JQ.pre (Imp.slot (s := 1) rfl (wkLen (setO'_len hv_x_43))) <| JQ.then <| bI hq6 fun x_52 hx25 hq25 => JC.seqJ (γ := Unit) (stj := fun _ => ⟨[(0, ov (PTR gb_3 0)), (1, ov (HDR go_5 0 (List.length x_43) gc_6)), (2, ov (S (rL r_law08_Step) a_1)), (7, ov (S (rI .i64) x_9)), (113, ov (S rB x_52))], [cvar gb_3 r_merkle_Tree x_17, cown go_5 (rV 32 (rU UInt8)) x_43 0 gc_6], []⟩) (fun _ => ?_) ?_
     · refine jif tR hq25 (fun hc29 hq25 => ?_) (fun hc29 hq25 => ?_)
       · refine jr <| jc (op_assign lb .cB) <| jn <| JC.ret <| JQ.outRB ?_
         try obtain rfl := so hq25
         dsimp only at hq4
         refine JQ.outR ?_
         try obtain rfl := so hq4
         try obtain rfl := hr _ rfl
         dsimp only at hq2
         refine JQ.outR <| JQ.outRB ?_
         try obtain rfl := so hq2
         dsimp only at hq1
         refine JQ.outR ?_
         obtain rfl := so hq1
         exact JQ.done (js := [0, 0]) (ss := [.val (S rB false)]) () (.inl rfl) (.nil rfl) rfl (.cons (.tmp rfl) .nil) rfl rfl rfl
       refine JC.skip <| JQ.outNB ?_
       try obtain rfl := so hq25
       exact JQ.joinK (x_17, x_43) () rfl (Imp.norm (js := [0, 0]) rfl (.cons rfl (.cons rfl (.cons rfl (.cons rfl .nil)))))
     refine bI hx25 fun _ hv_u_44 hx25 => bI hx25 fun _ hv_u_45 hx25 => lI hx25 fun v_46 hv_46 hx25 => ?_
     obtain ⟨v_47, hv_47, hx25⟩ := lt1_inv hx25
     rcases iteB_inv hx25 with ⟨hc28, hx25⟩ | ⟨hc28, hx25⟩
     · refine JC.anyF (base := [(0, ov (PTR gb_3 0)), (1, ov (HDR go_5 0 (List.length x_43) gc_6)), (2, ov (S (rL r_law08_Step) a_1)), (7, ov (S (rI .i64) x_9)), (9, ov (S (rI .i64) v_16)), (10, ov (PTR gb_21 0)), (11, ov (S (rI .i64) v_20))])
           (fs := fun γ => [⟨some 96, ov (S (rI .i64) v_16)⟩, ⟨some 97, ov (S (rI .i64) v_16)⟩, ⟨some 98, ov (S (rI .i64) v_20)⟩, ⟨some 99, ov (S (rI .i64) v_20)⟩, ⟨some 100, ov (S (rI .i64) v_46)⟩, ⟨some 101, ov (S rB v_47)⟩, ⟨some 102, ov (S rB v_47)⟩, ⟨some 103, bif (!v_47) then ov (A (rV 32 (rU UInt8)) v_19) else .one .und⟩, ⟨some 104, .one .und⟩, ⟨some 105, .one .und⟩, ⟨some 106, .one .und⟩, ⟨some 107, .one .und⟩, ⟨some 108, .one .und⟩, ⟨some 109, .one .und⟩, ⟨some 110, .one .und⟩, ⟨some 111, .one .und⟩, ⟨some 112, .one .und⟩, ⟨some 113, ov (S rB true)⟩])
           (rs := fun γ => [⟨cvar gb_3 r_merkle_Tree x_17, none, none, []⟩, ⟨cvar gb_21 (rV 32 (rU UInt8)) v_19, none, none, [7]⟩, ⟨cown go_5 (rV 32 (rU UInt8)) x_43 0 gc_6, none, none, []⟩])
           (afts := nn 18) (js := [0, 0, 0]) mixed (.cons rfl (.cons rfl (.cons rfl (.cons rfl (.cons rfl (.cons rfl (.cons rfl .nil))))))) (fun _ => rfl)
           (by
      refine db 1 9 <| dS 2 (fun γ ρ B hb hd => (op_call (js := []) ld cl9 (sim_law08_num k v_16 () hv_u_44) .func (.cons (tl hd 0 96) .nil) rfl).post (fun _ => Imp.refl)) <| db 3 11 <| dS 4 (fun γ ρ B hb hd => (op_call (js := []) ld cl9 (sim_law08_num k v_20 () hv_u_45) .func (.cons (tl hd 2 98) .nil) rfl).post (fun _ => Imp.refl)) <| dS 5 (fun γ ρ B hb hd => op_arI lb (tl hd 1 97) (tl hd 3 99) (cs hv_46)) ?_
      refine dS 6 (fun γ ρ B hb hd => op_cmpI lb (tl hd 4 100) .cI (cs hv_47)) <| dm 7 5 101 ?_
      refine eF 8 6 102 v_47 (fun γ => ov (A (rV 32 (rU UInt8)) v_19)) (fun γ ρ B hb hd hq_26 => OpStep.lk ⟨ρ, (cvar gb_21 (rV 32 (rU UInt8)) v_19) :: B, _⟩ (op_loadA (j := 0) lb tA30 (.tmp (hb 10 _ rfl)) rfl (Comp.self (rV 32 (rU UInt8)) v_19) rfl)) ?_
      refine kn 9 6 102 rfl hc28 <| kn 10 6 102 rfl hc28 <| kn 11 6 102 rfl hc28 <| kn 12 6 102 rfl hc28 <| kn 13 6 102 rfl hc28 ?_
      refine kn 14 6 102 rfl hc28 <| kn 15 6 102 rfl hc28 <| kn 16 6 102 rfl hc28 <| kn 17 6 102 rfl hc28 <| dS 18 (fun γ ρ B hb hd => op_pickT lb (tl hd 6 102) hc28 .cB) ?_
      exact DSteps.nil)
           (by decide +kernel) (fun _ => rfl) (fun _ => rfl) (fun _ => rfl) rfl
           (ρ' := fun γ => [(0, ov (PTR gb_3 0)), (1, ov (HDR go_5 0 (List.length x_43) gc_6)), (2, ov (S (rL r_law08_Step) a_1)), (7, ov (S (rI .i64) x_9)), (113, ov (S rB true))])
           (X' := fun γ => [cvar gb_3 r_merkle_Tree x_17, cvar gb_21 (rV 32 (rU UInt8)) v_19, cown go_5 (rV 32 (rU UInt8)) x_43 0 gc_6])
           (fun γ ρ hb hd => (.cons (hb 0 _ rfl) (.cons (hb 1 _ rfl) (.cons (hb 2 _ rfl) (.cons (hb 7 _ rfl) (.cons (hdq hd 17 113 rfl) .nil)))))) (fun _ => rfl) (fun γ => ?_)
       refine JQ.at ⟨[(0, ov (PTR gb_3 0)), (1, ov (HDR go_5 0 (List.length x_43) gc_6)), (2, ov (S (rL r_law08_Step) a_1)), (7, ov (S (rI .i64) x_9)), (113, ov (S rB true))], [cvar gb_3 r_merkle_Tree x_17, cvar gb_21 (rV 32 (rU UInt8)) v_19, cown go_5 (rV 32 (rU UInt8)) x_43 0 gc_6], []⟩ ?_
       try obtain rfl := so hx25
       exact JQ.join () (Imp.norm (js := [0, 1]) rfl (.cons rfl (.cons rfl (.cons rfl (.cons rfl (.cons rfl .nil))))))
     refine bI hx25 fun v_48 hv_48 hx25 => bI hx25 fun i_49 hv_i_49 hx25 => bI hx25 fun v_50 hv_50 hx25 => ?_
     obtain ⟨v_51, hv_51, hx25⟩ := lt1_inv hx25
     refine JC.anyF (base := [(0, ov (PTR gb_3 0)), (1, ov (HDR go_5 0 (List.length x_43) gc_6)), (2, ov (S (rL r_law08_Step) a_1)), (7, ov (S (rI .i64) x_9)), (9, ov (S (rI .i64) v_16)), (10, ov (PTR gb_21 0)), (11, ov (S (rI .i64) v_20))])
         (fs := fun γ => [⟨some 96, ov (S (rI .i64) v_16)⟩, ⟨some 97, ov (S (rI .i64) v_16)⟩, ⟨some 98, ov (S (rI .i64) v_20)⟩, ⟨some 99, ov (S (rI .i64) v_20)⟩, ⟨some 100, ov (S (rI .i64) v_46)⟩, ⟨some 101, ov (S rB v_47)⟩, ⟨some 102, ov (S rB v_47)⟩, ⟨some 103, bif (!v_47) then ov (A (rV 32 (rU UInt8)) v_19) else .one .und⟩, ⟨some 104, ov (HDR go_5 0 (List.length x_43) gc_6)⟩, ⟨some 105, ov (S (rL r_law08_Step) a_1)⟩, ⟨some 106, ov (S (rI .i64) x_9)⟩, ⟨some 107, ov (PT r_law08_Step v_48)⟩, ⟨some 108, ov (PT (rI .i64) v_48.Bucket)⟩, ⟨some 109, ov (S (rI .i64) v_48.Bucket)⟩, ⟨some 110, ov (EPT go_5 (i_49 * 32))⟩, ⟨some 111, ov (A (rV 32 (rU UInt8)) v_50)⟩, ⟨some 112, ov (S rB v_51)⟩, ⟨some 113, ov (S rB v_51)⟩])
         (rs := fun γ => [⟨cvar gb_3 r_merkle_Tree x_17, none, none, []⟩, ⟨cvar gb_21 (rV 32 (rU UInt8)) v_19, none, none, [7]⟩, ⟨cown go_5 (rV 32 (rU UInt8)) x_43 0 gc_6, none, none, [14, 15]⟩])
         (afts := nn 18) (js := [0, 0, 0]) mixed (.cons rfl (.cons rfl (.cons rfl (.cons rfl (.cons rfl (.cons rfl (.cons rfl .nil))))))) (fun _ => rfl)
         (by
      refine db 1 9 <| dS 2 (fun γ ρ B hb hd => (op_call (js := []) ld cl9 (sim_law08_num k v_16 () hv_u_44) .func (.cons (tl hd 0 96) .nil) rfl).post (fun _ => Imp.refl)) <| db 3 11 <| dS 4 (fun γ ρ B hb hd => (op_call (js := []) ld cl9 (sim_law08_num k v_20 () hv_u_45) .func (.cons (tl hd 2 98) .nil) rfl).post (fun _ => Imp.refl)) <| dS 5 (fun γ ρ B hb hd => op_arI lb (tl hd 1 97) (tl hd 3 99) (cs hv_46)) ?_
      refine dS 6 (fun γ ρ B hb hd => op_cmpI lb (tl hd 4 100) .cI (cs hv_47)) <| dm 7 5 101 ?_
      refine eF 8 6 102 v_47 (fun γ => ov (A (rV 32 (rU UInt8)) v_19)) (fun γ ρ B hb hd hq_26 => OpStep.lk ⟨ρ, (cvar gb_21 (rV 32 (rU UInt8)) v_19) :: B, _⟩ (op_loadA (j := 0) lb tA30 (.tmp (hb 10 _ rfl)) rfl (Comp.self (rV 32 (rU UInt8)) v_19) rfl)) ?_
      refine dY 9 (fun γ ρ B hb hd => ⟨.yes rfl (ltB rfl) (hl hd 6 102 rfl) hc28, lkB (op_move lb (.tmp (hb 1 _ rfl)))⟩) <| dY 10 (fun γ ρ B hb hd => ⟨.yes rfl (ltB rfl) (hl hd 6 102 rfl) hc28, lkB (op_move lb (.tmp (hb 2 _ rfl)))⟩) <| dY 11 (fun γ ρ B hb hd => ⟨.yes rfl (ltB rfl) (hl hd 6 102 rfl) hc28, lkB (op_move lb (.tmp (hb 7 _ rfl)))⟩) <| dY 12 (fun γ ρ B hb hd => ⟨.yes rfl (ltB rfl) (hl hd 6 102 rfl) hc28, lkB (op_indexAddrLg lb tu33 tz39 (tl hd 9 105) (tl hd 10 106) hv_48)⟩) <| dY 13 (fun γ ρ B hb hd => ⟨.yes rfl (ltB rfl) (hl hd 6 102 rfl) hc28, lkB (op_fieldAddrP lb tf39_0 (tl hd 11 107) (comp_law08_Step_Bucket v_48))⟩) ?_
      refine dY 14 (fun γ ρ B hb hd => ⟨.yes rfl (ltB rfl) (hl hd 6 102 rfl) hc28, lkB (op_loadPSg lb tS3 rfl (tl hd 12 108) rfl)⟩) <| dY 15 (fun γ ρ B hb hd => ⟨.yes rfl (ltB rfl) (hl hd 6 102 rfl) hc28, OpStep.lk ⟨ρ, (cown go_5 (rV 32 (rU UInt8)) x_43 0 gc_6) :: B, _⟩ (op_indexAddrOF (r := (rV 32 (rU UInt8))) (j := 0) lb tu22 tz30 rfl (tl hd 8 104) (tl hd 13 109) hv_i_49)⟩) <| dY 16 (fun γ ρ B hb hd => ⟨.yes rfl (ltB rfl) (hl hd 6 102 rfl) hc28, OpStep.lk ⟨ρ, (cown go_5 (rV 32 (rU UInt8)) x_43 0 gc_6) :: B, _⟩ (op_loadOA (r := (rV 32 (rU UInt8))) (i := i_49) (off := 0) (j := 0) lb tA30 rfl (tl hd 14 110) hv_50 (Comp.self (rV 32 (rU UInt8)) v_50) (by decide))⟩) <| dY 17 (fun γ ρ B hb hd => ⟨.yes rfl (ltB rfl) (hl hd 6 102 rfl) hc28, lkB (op_neA lb qa30 (by decide) ng30 (HasO.cnd (tl hd 7 103) (notT hc28)) (tl hd 15 111) hv_51)⟩) <| dS 18 (fun γ ρ B hb hd => op_pickF lb (tl hd 6 102) hc28 (tl hd 16 112)) ?_
      exact DSteps.nil)
         (by decide +kernel) (fun _ => rfl) (fun _ => rfl) (fun _ => rfl) rfl
         (ρ' := fun γ => [(0, ov (PTR gb_3 0)), (1, ov (HDR go_5 0 (List.length x_43) gc_6)), (2, ov (S (rL r_law08_Step) a_1)), (7, ov (S (rI .i64) x_9)), (113, ov (S rB v_51))])
         (X' := fun γ => [cvar gb_3 r_merkle_Tree x_17, cvar gb_21 (rV 32 (rU UInt8)) v_19, cown go_5 (rV 32 (rU UInt8)) x_43 0 gc_6])
         (fun γ ρ hb hd => (.cons (hb 0 _ rfl) (.cons (hb 1 _ rfl) (.cons (hb 2 _ rfl) (.cons (hb 7 _ rfl) (.cons (hdq hd 17 113 rfl) .nil)))))) (fun _ => rfl) (fun γ => ?_)
     refine JQ.at ⟨[(0, ov (PTR gb_3 0)), (1, ov (HDR go_5 0 (List.length x_43) gc_6)), (2, ov (S (rL r_law08_Step) a_1)), (7, ov (S (rI .i64) x_9)), (113, ov (S rB v_51))], [cvar gb_3 r_merkle_Tree x_17, cvar gb_21 (rV 32 (rU UInt8)) v_19, cown go_5 (rV 32 (rU UInt8)) x_43 0 gc_6], []⟩ ?_
     try obtain rfl := so hx25
     exact JQ.join () (Imp.norm (js := [0, 1]) rfl (.cons rfl (.cons rfl (.cons rfl (.cons rfl (.cons rfl .nil))))))
   refine JC.region <| jmv rfl rfl <| jmv rfl rfl <| bI hx6 fun v_24 hv_24 hx6 => jc (op_indexAddrLg lb tu33 tz39 tR tR hv_24) <| jc (op_fieldAddrP lb tf39_0 tR (comp_law08_Step_Bucket v_24)) <| jc (op_loadPSg lb tS3 rfl tR rfl) <| lI hx6 fun v_25 hv_25 hx6 => jc (op_cmpI lb tR .cI (cs hv_25)) <| jmv rfl rfl <| jF (ov (S (rL r_law08_Step) a_1)) rfl rfl rfl rfl (fun hq_7 => op_move lb tR) <| jF (ov (S (rI .i64) x_9)) rfl rfl rfl rfl (fun hq_8 => op_move lb tR) <| bI hx6 fun v_26 hv_26 hx6 => jF (ov (PT r_law08_Step v_26)) rfl rfl rfl rfl (fun hq_9 => op_indexAddrLg lb tu33 tz39 (HasO.cnd tR (notT (notF hq_9))) (HasO.cnd tR (notT (notF hq_9))) (ifT hv_26 hq_9)) ?_
   refine jF (ov (PT (rI .i64) v_26.Bucket)) rfl rfl rfl rfl (fun hq_10 => op_fieldAddrP lb tf39_0 (HasO.cnd tR (notT (notF hq_10))) (comp_law08_Step_Bucket v_26)) <| jF (ov (S (rI .i64) v_26.Bucket)) rfl rfl rfl rfl (fun hq_11 => op_loadPSg lb tS3 rfl (HasO.cnd tR (notT (notF hq_11))) rfl) <| JL.nrm ⟨[(0, ov (PTR gb_3 0)), (1, ov (HDR go_5 0 (List.length x_8) gc_6)), (2, ov (S (rL r_law08_Step) a_1)), (7, ov (S (rI .i64) x_9)), (9, ov (S (rI .i64) v_16)), (10, ov (PTR gb_21 0)), (11, ov (S (rI .i64) v_20)), (57, ov (S rB v_25)), (62, bif (!v_25) then ov (S (rI .i64) v_26.Bucket) else .one .und)], [cvar gb_3 r_merkle_Tree x_17, cown go_5 (rV 32 (rU UInt8)) x_8 0 gc_6, cvar gb_21 (rV 32 (rU UInt8)) v_19], []⟩ [0, 0, 1] rfl (.cons rfl (.cons rfl (.cons rfl (.cons rfl (.cons rfl (.cons rfl (.cons rfl (.cons rfl (.cons rfl .nil))))))))) rfl <| lI hx6 fun v_27 hv_27 hx6 => jF (ov (S rB v_27)) rfl rfl rfl rfl (fun hq_12 => op_cmpI lb (HasO.cnd tR (notT (notF hq_12))) .cI (cs hv_27)) <| lI hx6 fun v_28 hv_28 hx6 => jc (op_pickCS lb tR (fun hb13 => .cB) (fun hb13 => (HasO.cnd tR (notT hb13))) hv_28) <| JL.nil ?_
   try obtain rfl := so hx6
   exact JQ.join () (Imp.norm (js := [0, 0, 0]) rfl (.cons rfl (.cons rfl (.cons rfl (.cons rfl (.cons rfl (.cons rfl (.cons rfl (.cons rfl .nil)))))))))
 refine JC.exit <| JQ.outX ?_
 try obtain rfl := so hx
 try obtain rfl := hr _ rfl
 dsimp only at hq2
 refine JQ.outX <| JQ.here ?_
 try obtain rfl := so hq2
 exact JQ.joinK (t_7, x_8) () rfl (Imp.norm (js := [0, 0]) rfl .nil)

theorem sim_ref08_Nodes (k : Nat) (leaves_1 : (List (Vector UInt8 32))) (r : (List (Vector UInt8 32))) (hm : ref08_Nodes k leaves_1 = some r) : Sim Try.prog 27 [S (rL (rV 32 (rU UInt8))) leaves_1] [] (γ := Option Nat) (fun q => [cown q (rV 32 (rU UInt8)) r 0 (Int.toNat (128 : Int))]) (fun q => .one (.val (HDR q 0 (List.length r) (Int.toNat (128 : Int))))) := by
 unfold ref08_Nodes at hm
 refine Sim.of Try.func27 rfl rfl (lE rfl) (fun e0 w0 => ?_)
 refine JC.at ⟨[(0, ov (S (rL (rV 32 (rU UInt8))) leaves_1))], [], []⟩ <| jr <| jc (op_assign lb HasO.nilH) <| jn <| jr <| bI hm fun v_2 hv_2 hm => jx (op_makeOg lb tu22 tB30 zv30 .cI .cI hv_2) fun gb_3 => jc (op_assign lb tR) <| jn <| bI hm fun n_12 hx1 hq1 => JC.seqJ (γ := Unit) (stj := fun _ => ⟨[(3, ov (HDR (some gb_3) 0 (List.length n_12) (Int.toNat (128 : Int))))], [cown (some gb_3) (rV 32 (rU UInt8)) n_12 0 (Int.toNat (128 : Int))], []⟩) (fun _ => ?_) ?_
 · refine bI hq1 fun n_38 hx4 hq4 => JC.seqJ (γ := Unit) (stj := fun _ => ⟨[(3, ov (HDR (some gb_3) 0 (List.length n_38) (Int.toNat (128 : Int))))], [cown (some gb_3) (rV 32 (rU UInt8)) n_38 0 (Int.toNat (128 : Int))], []⟩) (fun _ => ?_) ?_
   · refine jr <| jmv rfl rfl <| jc (op_assign lb tR) <| jn <| JC.ret ?_
     obtain rfl := so hq4
     exact JQ.done (js := [0]) (ss := [.val (HDR (some gb_3) 0 (List.length n_38) (Int.toNat (128 : Int)))]) (some gb_3) (.inl rfl) (.nil rfl) rfl (.cons (.tmp rfl) .nil) rfl rfl rfl
   refine jr <| jc (op_assign lb .cI) <| jn <| JC.block <| JC.pre ?_ (JC.loop (γ := Unit) (stf := fun s q => ⟨[(3, ov (HDR (some gb_3) 0 (List.length s.1) (Int.toNat (128 : Int)))), (5, ov (S (rI .i64) s.2))], [cown (some gb_3) (rV 32 (rU UInt8)) s.1 0 (Int.toNat (128 : Int))], []⟩) (q := ()) hx4 ?_)
   · exact (Imp.norm (js := [0]) rfl (.cons rfl (.cons rfl .nil)))
   intro s q x hx hr
   obtain ⟨n_13, i_14⟩ := s
   obtain _ := q
   change ref08_Nodes.b2 k n_13 i_14 = some x at hx
   unfold ref08_Nodes.b2 at hx
   refine JC.at ⟨[(3, ov (HDR (some gb_3) 0 (List.length n_13) (Int.toNat (128 : Int)))), (5, ov (S (rI .i64) i_14))], [cown (some gb_3) (rV 32 (rU UInt8)) n_13 0 (Int.toNat (128 : Int))], []⟩ <| JC.seq <| jr <| jmv rfl rfl <| lI hx fun v_15 hv_15 hx => jc (op_cmpI lb tR .cI (cs hv_15)) <| jn <| jif tR hx (fun hc6 hx => ?_) (fun hc6 hx => ?_)
   · refine JC.skip <| JQ.then <| JC.seq <| JC.block <| JC.seq <| lI hx fun v_16 hv_16 hx => bI hx fun i_17 hv_i_17 hx => bI hx fun v_18 hv_18 hx => lI hx fun v_19 hv_19 hx => lI hx fun v_20 hv_20 hx => bI hx fun i_21 hv_i_21 hx => ?_
     obtain ⟨v_22, hv_22, hx⟩ := bnd_inv hx
     refine JC.anyF (base := [(3, ov (HDR (some gb_3) 0 (List.length n_13) (Int.toNat (128 : Int)))), (5, ov (S (rI .i64) i_14))])
         (fs := fun γ => [⟨some 25, ov (HDR (some gb_3) 0 (List.length n_13) (Int.toNat (128 : Int)))⟩, ⟨some 26, ov (S (rI .i64) i_14)⟩, ⟨some 27, ov (S (rI .i64) v_16)⟩, ⟨some 28, ov (EPT (some gb_3) (i_17 * 32))⟩, ⟨some 29, ov (A (rV 32 (rU UInt8)) v_18)⟩, ⟨some 30, ov (HDR (some gb_3) 0 (List.length n_13) (Int.toNat (128 : Int)))⟩, ⟨some 31, ov (S (rI .i64) i_14)⟩, ⟨some 32, ov (S (rI .i64) v_19)⟩, ⟨some 33, ov (S (rI .i64) v_20)⟩, ⟨some 34, ov (EPT (some gb_3) (i_21 * 32))⟩, ⟨some 35, ov (A (rV 32 (rU UInt8)) v_22)⟩, ⟨some 6, ov (PTR (γ 11 0) 0)⟩, ⟨some 7, ov (PTR (γ 12 0) 0)⟩, ⟨none, .one .any⟩, ⟨none, .one .any⟩])
         (rs := fun γ => [⟨cown (some gb_3) (rV 32 (rU UInt8)) n_13 0 (Int.toNat (128 : Int)), none, none, [3, 4, 9, 10]⟩, ⟨cvar (γ 11 0) (rV 32 (rU UInt8)) (Vector.replicate 32 (0 : UInt8)), (some 11), (some 13), []⟩, ⟨cvar (γ 12 0) (rV 32 (rU UInt8)) (Vector.replicate 32 (0 : UInt8)), (some 12), (some 14), []⟩, ⟨cvar (γ 11 0) (rV 32 (rU UInt8)) v_18, (some 13), none, []⟩, ⟨cvar (γ 12 0) (rV 32 (rU UInt8)) v_22, (some 14), none, []⟩])
         (afts := [[], [], [], [], [], [], [], [], [], [], [], [11, 13, 14], [12, 13, 14], [], []]) (js := [0]) mixed (.cons rfl (.cons rfl .nil)) (fun _ => rfl)
         (by
      refine db 1 3 <| db 2 5 <| dS 3 (fun γ ρ B hb hd => op_arI lb .cI (tl hd 1 26) (cs hv_16)) <| dR 4 (fun γ ρ B hb hd => OpStep.lk ⟨ρ, (cown (some gb_3) (rV 32 (rU UInt8)) n_13 0 (Int.toNat (128 : Int))) :: B, _⟩ (op_indexAddrOF (r := (rV 32 (rU UInt8))) (j := 0) lb tu22 tz30 rfl (tl hd 0 25) (tl hd 2 27) hv_i_17)) <| dR 5 (fun γ ρ B hb hd => OpStep.lk ⟨ρ, (cown (some gb_3) (rV 32 (rU UInt8)) n_13 0 (Int.toNat (128 : Int))) :: B, _⟩ (op_loadOA (r := (rV 32 (rU UInt8))) (i := i_17) (off := 0) (j := 0) lb tA30 rfl (tl hd 3 28) hv_18 (Comp.self (rV 32 (rU UInt8)) v_18) (by decide))) ?_
      refine db 6 3 <| db 7 5 <| dS 8 (fun γ ρ B hb hd => op_arI lb .cI (tl hd 6 31) (cs hv_19)) <| dS 9 (fun γ ρ B hb hd => op_arI lb (tl hd 7 32) .cI (cs hv_20)) <| dR 10 (fun γ ρ B hb hd => OpStep.lk ⟨ρ, (cown (some gb_3) (rV 32 (rU UInt8)) n_13 0 (Int.toNat (128 : Int))) :: B, _⟩ (op_indexAddrOF (r := (rV 32 (rU UInt8))) (j := 0) lb tu22 tz30 rfl (tl hd 5 30) (tl hd 8 33) hv_i_21)) ?_
      refine dR 11 (fun γ ρ B hb hd => OpStep.lk ⟨ρ, (cown (some gb_3) (rV 32 (rU UInt8)) n_13 0 (Int.toNat (128 : Int))) :: B, _⟩ (op_loadOA (r := (rV 32 (rU UInt8))) (i := i_21) (off := 0) (j := 0) lb tA30 rfl (tl hd 9 34) hv_22 (Comp.self (rV 32 (rU UInt8)) v_22) (by decide))) ?_
      refine DSteps.cons (j := 12) rfl (fun _ => rfl) (.runX (fun _ _ => rfl) (fun γ ρ B hb hd => ⟨.none, OpX.ghost (γ := Nat) (st' := fun q => setO ⟨ρ, (cvar q (rV 32 (rU UInt8)) (Vector.replicate 32 (0 : UInt8))) :: B, _⟩ (some 6) (ov (PTR q 0))) (fun q c => q) (OpX.front (op_alloc lb tZ30 zr30)) (fun q => Imp.refl)⟩) (fun _ _ => rfl) (fun _ _ => rfl)) <| DSteps.cons (j := 13) rfl (fun _ => rfl) (.runX (fun _ _ => rfl) (fun γ ρ B hb hd => ⟨.none, OpX.ghost (γ := Nat) (st' := fun q => setO ⟨ρ, (cvar q (rV 32 (rU UInt8)) (Vector.replicate 32 (0 : UInt8))) :: B, _⟩ (some 7) (ov (PTR q 0))) (fun q c => q) (OpX.front (op_alloc lb tZ30 zr30)) (fun q => Imp.refl)⟩) (fun _ _ => rfl) (fun _ _ => rfl)) ?_
      refine dR 14 (fun γ ρ B hb hd => OpStep.at ⟨ρ, (cvar (γ 11 0) (rV 32 (rU UInt8)) (Vector.replicate 32 (0 : UInt8))) :: B, _⟩ (setO ⟨ρ, (cvar (γ 11 0) (rV 32 (rU UInt8)) v_18) :: B, _⟩ _ _) (op_storeA (j := 0) tA30 (tl hd 11 6) (tl hd 4 29) rfl (UpdR.self (by rfl)) rfl)) <| dR 15 (fun γ ρ B hb hd => OpStep.at ⟨ρ, (cvar (γ 12 0) (rV 32 (rU UInt8)) (Vector.replicate 32 (0 : UInt8))) :: B, _⟩ (setO ⟨ρ, (cvar (γ 12 0) (rV 32 (rU UInt8)) v_22) :: B, _⟩ _ _) (op_storeA (j := 0) tA30 (tl hd 12 7) (tl hd 10 35) rfl (UpdR.self (by rfl)) rfl)) ?_
      exact DSteps.nil)
         (by decide +kernel) (fun _ => rfl) (fun _ => rfl) (fun _ => rfl) rfl
         (ρ' := fun γ => [(3, ov (HDR (some gb_3) 0 (List.length n_13) (Int.toNat (128 : Int)))), (5, ov (S (rI .i64) i_14)), (6, ov (PTR (γ 11 0) 0)), (7, ov (PTR (γ 12 0) 0))])
         (X' := fun γ => [cown (some gb_3) (rV 32 (rU UInt8)) n_13 0 (Int.toNat (128 : Int)), cvar (γ 11 0) (rV 32 (rU UInt8)) v_18, cvar (γ 12 0) (rV 32 (rU UInt8)) v_22])
         (fun γ ρ hb hd => (.cons (hb 3 _ rfl) (.cons (hb 5 _ rfl) (.cons (hdq hd 11 6 rfl) (.cons (hdq hd 12 7 rfl) .nil))))) (fun _ => rfl) (fun γ => ?_)
     generalize (γ 11 0) = gb_23
     generalize (γ 12 0) = gb_24
     clear γ
     refine JQ.at ⟨[(3, ov (HDR (some gb_3) 0 (List.length n_13) (Int.toNat (128 : Int)))), (5, ov (S (rI .i64) i_14)), (6, ov (PTR gb_23 0)), (7, ov (PTR gb_24 0))], [cown (some gb_3) (rV 32 (rU UInt8)) n_13 0 (Int.toNat (128 : Int)), cvar gb_23 (rV 32 (rU UInt8)) v_18, cvar gb_24 (rV 32 (rU UInt8)) v_22], []⟩ <| JQ.then <| bI hx fun v_26 hv_26 hx => bI hx fun x_27 hv_x_27 hx => bI hx fun v_30 hv_30 hx => bI hx fun x_31 hv_x_31 hx => bI hx fun v_34 hv_34 hx => bI hx fun i_35 hv_i_35 hx => ?_
     obtain ⟨n_36, hv_n_36, hx⟩ := bnd_inv hx
     refine JC.anyF (base := [(3, ov (HDR (some gb_3) 0 (List.length n_13) (Int.toNat (128 : Int)))), (5, ov (S (rI .i64) i_14)), (6, ov (PTR gb_23 0)), (7, ov (PTR gb_24 0))])
         (fs := fun γ => [⟨some 36, ov (HDR (some gb_3) 0 (List.length n_13) (Int.toNat (128 : Int)))⟩, ⟨some 37, ov (S (rI .i64) i_14)⟩, ⟨some 38, ov (HDR (some (γ 2 0)) 0 (List.length ([(1 : UInt8)] : (List UInt8))) (1))⟩, ⟨some 39, ov (S (rBo (KV (rV 32 (rU UInt8)) v_18 gb_23) (rL (rU UInt8))) v_26)⟩, ⟨some 40, ov (HDR (deo (γ 4 0)) 0 (List.length x_27) (γ 4 1))⟩, ⟨some 41, ov (S (rBo (KV (rV 32 (rU UInt8)) v_22 gb_24) (rL (rU UInt8))) v_30)⟩, ⟨some 42, ov (S (rL (rU UInt8)) x_31)⟩, ⟨some 43, ov (A (rV 32 (rU UInt8)) v_34)⟩, ⟨some 44, ov (EPT (some gb_3) (i_35 * 32))⟩, ⟨none, .one .any⟩])
         (rs := fun γ => [⟨cown (some gb_3) (rV 32 (rU UInt8)) n_13 0 (Int.toNat (128 : Int)), none, (some 9), [8]⟩, ⟨cvar gb_23 (rV 32 (rU UInt8)) v_18, none, none, [4]⟩, ⟨cvar gb_24 (rV 32 (rU UInt8)) v_22, none, none, [6]⟩, ⟨cown (some (γ 2 0)) (rU UInt8) ([(1 : UInt8)] : (List UInt8)) 0 (1), (some 2), (some 4), []⟩, ⟨cown (deo (γ 4 0)) (rU UInt8) x_27 0 (γ 4 1), (some 4), (some 6), []⟩, ⟨cown (some gb_3) (rV 32 (rU UInt8)) n_36 0 (Int.toNat (128 : Int)), (some 9), none, []⟩])
         (afts := [[], [], [2, 4, 6, 7, 8, 9], [], [4, 6, 7, 8, 9], [], [], [], [], []]) (js := [0, 0, 0]) mixed (.cons rfl (.cons rfl (.cons rfl (.cons rfl .nil)))) (fun _ => rfl)
         (by
      refine db 1 3 <| db 2 5 <| DSteps.cons (j := 3) rfl (fun _ => rfl) (.runX (fun _ _ => rfl) (fun γ ρ B hb hd => ⟨.none, OpX.ghost (γ := Nat) (st' := fun q => setO ⟨ρ, (cown (some q) (rU UInt8) ([(1 : UInt8)] : (List UInt8)) 0 (1)) :: B, _⟩ (some 38) (ov (HDR (some q) 0 (List.length ([(1 : UInt8)] : (List UInt8))) (1)))) (fun q c => q) (OpX.front (op_buildO (r := (rU UInt8)) lb tu37 tz5 tZ5 rfl (lE rfl) (.S rfl (HasO.cU (x := (1 : UInt8)) rfl (by decide)) .nil) rfl)) (fun q => Imp.refl)⟩) (fun _ _ => rfl) (fun _ _ => rfl)) ?_
      refine dS 4 (fun γ ρ B hb hd => op_sliceB lb tu30 tz5 (.tmp (hb 6 _ rfl)) (Comp.self (rV 32 (rU UInt8)) v_18) .none .none hv_26) ?_
      refine DSteps.cons (j := 5) rfl (fun _ => rfl) (.runX (fun _ _ => rfl) (fun γ ρ B hb hd => ⟨.none, OpX.ghost (γ := Option Nat × Nat) (st' := fun q => setO ⟨ρ, (cown q.1 (rU UInt8) x_27 0 q.2) :: (cvar gb_23 (rV 32 (rU UInt8)) v_18) :: B, _⟩ (some 40) (ov (HDR q.1 0 (List.length x_27) q.2))) (fun q c => bif Nat.beq c 0 then eno q.1 else q.2) (op_appendB (j' := 1) (j := 0) lb tu37 tu37 rfl tB5 rfl (Nat.lt_of_lt_of_le Nat.zero_lt_one (lE rfl)) (Nat.lt_of_lt_of_le Nat.zero_lt_one (lE rfl))  rfl (tl hd 2 38) rfl EF.u (tl hd 3 39) hv_x_27) (fun q => by obtain ⟨q0, q1⟩ := q; cases q0 <;> exact Imp.refl)⟩) (fun _ _ => rfl) (fun _ _ => rfl)) ?_
      refine dS 6 (fun γ ρ B hb hd => op_sliceB lb tu30 tz5 (.tmp (hb 7 _ rfl)) (Comp.self (rV 32 (rU UInt8)) v_22) .none .none hv_30) <| dR 7 (fun γ ρ B hb hd => OpStep.at ⟨ρ, (cown (deo (γ 4 0)) (rU UInt8) x_27 0 (γ 4 1)) :: (cvar gb_24 (rV 32 (rU UInt8)) v_22) :: B, _⟩ (setO ⟨ρ, (cvar gb_24 (rV 32 (rU UInt8)) v_22) :: B, _⟩ _ _) ((op_appendB (j' := 1) (j := 0) lb tu37 tu37 rfl tB5 rfl (Nat.lt_of_lt_of_le Nat.zero_lt_one (lE rfl)) (Nat.lt_of_lt_of_le Nat.zero_lt_one (lE rfl))  rfl (tl hd 4 40) rfl EF.u (tl hd 5 41) hv_x_31).post (fun q => Imp.dropF (j := 0) rfl))) <| dS 8 (fun γ ρ B hb hd => (op_call (js := []) ld cl15 (sim_ref03_Sum k x_31 v_34 hv_34) .func (.cons (tl hd 6 42) .nil) rfl).post (fun _ => Imp.refl)) <| dR 9 (fun γ ρ B hb hd => OpStep.lk ⟨ρ, (cown (some gb_3) (rV 32 (rU UInt8)) n_13 0 (Int.toNat (128 : Int))) :: B, _⟩ (op_indexAddrOF (r := (rV 32 (rU UInt8))) (j := 0) lb tu22 tz30 rfl (tl hd 0 36) (tl hd 1 37) hv_i_35)) <| dR 10 (fun γ ρ B hb hd => OpStep.at ⟨ρ, (cown (some gb_3) (rV 32 (rU UInt8)) n_13 0 (Int.toNat (128 : Int))) :: B, _⟩ (setO ⟨ρ, (cown (some gb_3) (rV 32 (rU UInt8)) n_36 0 (Int.toNat (128 : Int))) :: B, _⟩ _ _) (op_storeOAg (r := (rV 32 (rU UInt8))) (j := 0) tA30 rfl (tl hd 8 44) (tl hd 7 43) hv_n_36)) ?_
      exact DSteps.nil)
         (by decide +kernel) (fun _ => rfl) (fun _ => rfl) (fun _ => rfl) rfl
         (ρ' := fun γ => [(3, ov (HDR (some gb_3) 0 (List.length n_13) (Int.toNat (128 : Int)))), (5, ov (S (rI .i64) i_14))])
         (X' := fun γ => [cvar gb_23 (rV 32 (rU UInt8)) v_18, cvar gb_24 (rV 32 (rU UInt8)) v_22, cown (some gb_3) (rV 32 (rU UInt8)) n_36 0 (Int.toNat (128 : Int))])
         (fun γ ρ hb hd => (.cons (hb 3 _ rfl) (.cons (hb 5 _ rfl) .nil))) (fun _ => rfl) (fun γ => ?_)
     generalize (γ 2 0) = gb_25
     generalize (deo (γ 4 0)) = go_28
     generalize (γ 4 1) = gc_29
     clear γ
     refine JQ.at ⟨[(3, ov (HDR (some gb_3) 0 (List.length n_13) (Int.toNat (128 : Int)))), (5, ov (S (rI .i64) i_14))], [cvar gb_23 (rV 32 (rU UInt8)) v_18, cvar gb_24 (rV 32 (rU UInt8)) v_22, cown (some gb_3) (rV 32 (rU UInt8)) n_36 0 (Int.toNat (128 : Int))], []⟩ <| JQ.pre (Imp.slot (s := 3) rfl (wkLen (setO'_len hv_n_36))) <| JQ.outNB <| JQ.then <| JC.region <| jmv rfl rfl <| lI hx fun v_37 hv_37 hx => jc (op_arI lb tR .cI (cs hv_37)) <| jc (op_assign lb tR) <| JL.nil ?_
     try obtain rfl := so hx
     exact JQ.next () rfl (Imp.norm (js := [2]) rfl (.cons rfl (.cons rfl .nil)))
   refine JC.exit <| JQ.outX ?_
   try obtain rfl := so hx
   have ht := hr _ rfl
   have hq5 := cs ht
   clear hr ht
   refine JQ.outX <| JQ.here ?_
   try obtain rfl := so hq5
   exact JQ.join () (Imp.norm (js := [0]) rfl (.cons rfl .nil))
 refine jr <| jc (op_assign lb .cI) <| jn <| JC.block <| JC.pre ?_ (JC.loop (γ := Unit) (stf := fun s q => ⟨[(0, ov (S (rL (rV 32 (rU UInt8))) leaves_1)), (3, ov (HDR (some gb_3) 0 (List.length s.1) (Int.toNat (128 : Int)))), (4, ov (S (rI .i64) s.2))], [cown (some gb_3) (rV 32 (rU UInt8)) s.1 0 (Int.toNat (128 : Int))], []⟩) (q := ()) hx1 ?_)
 · exact (Imp.norm (js := [0]) rfl (.cons rfl (.cons rfl (.cons rfl .nil))))
 intro s q x hx hr
 obtain ⟨n_4, i_5⟩ := s
 obtain _ := q
 change ref08_Nodes.b1 k leaves_1 n_4 i_5 = some x at hx
 unfold ref08_Nodes.b1 at hx
 refine JC.at ⟨[(0, ov (S (rL (rV 32 (rU UInt8))) leaves_1)), (3, ov (HDR (some gb_3) 0 (List.length n_4) (Int.toNat (128 : Int)))), (4, ov (S (rI .i64) i_5))], [cown (some gb_3) (rV 32 (rU UInt8)) n_4 0 (Int.toNat (128 : Int))], []⟩ <| JC.seq <| jr <| jmv rfl rfl <| lI hx fun v_6 hv_6 hx => jc (op_cmpI lb tR .cI (cs hv_6)) <| jn <| jif tR hx (fun hc3 hx => ?_) (fun hc3 hx => ?_)
 · refine JC.skip <| JQ.then <| JC.seq <| JC.block <| JC.region <| jmv rfl rfl <| jmv rfl rfl <| lI hx fun v_7 hv_7 hx => jc (op_arI lb .cI tR (cs hv_7)) <| jmv rfl rfl <| jmv rfl rfl <| bI hx fun v_8 hv_8 hx => jc (op_indexAddrLg lb tu22 tz30 tR tR hv_8) <| jc (op_loadPAg lb tA30 tR rfl) <| bI hx fun i_9 hv_i_9 hx => jc (op_indexAddrOF (r := (rV 32 (rU UInt8))) (j := 0) lb tu22 tz30 rfl tR tR hv_i_9) ?_
   refine bI hx fun n_10 hv_n_10 hx => jc (op_storeOAg (r := (rV 32 (rU UInt8))) (j := 0) tA30 rfl tR tR hv_n_10) <| JL.pre (Imp.slot (s := 3) (q := HDR (some gb_3) 0 (List.length n_10) (Int.toNat (128 : Int))) rfl (wkLen (setO'_len hv_n_10))) <| JL.pre (Imp.slot (s := 13) (q := HDR (some gb_3) 0 (List.length n_10) (Int.toNat (128 : Int))) rfl (wkLen (setO'_len hv_n_10))) <| JL.sub ⟨[(0, ov (S (rL (rV 32 (rU UInt8))) leaves_1)), (3, ov (HDR (some gb_3) 0 (List.length n_10) (Int.toNat (128 : Int)))), (4, ov (S (rI .i64) i_5))], [cown (some gb_3) (rV 32 (rU UInt8)) n_10 0 (Int.toNat (128 : Int))], []⟩ (.cons rfl (.cons rfl (.cons rfl .nil))) rfl rfl <| JL.nil <| JQ.outNB <| JQ.then <| JC.region <| jmv rfl rfl ?_
   obtain ⟨v_11, hv_11, hx⟩ := lt1_inv hx
   refine jc (op_arI lb tR .cI (cs hv_11)) <| jc (op_assign lb tR) <| JL.nil ?_
   try obtain rfl := so hx
   exact JQ.next () rfl (Imp.norm (js := [0]) rfl (.cons rfl (.cons rfl (.cons rfl .nil))))
 refine JC.exit <| JQ.outX ?_
 try obtain rfl := so hx
 have ht := hr _ rfl
 have hq2 := cs ht
 clear hr ht
 refine JQ.outX <| JQ.here ?_
 try obtain rfl := so hq2
 exact JQ.join () (Imp.norm (js := [0]) rfl (.cons rfl .nil))

theorem sim_merkle_Tree_Root (k : Nat) (t_1 : merkle_Tree) (gb_2 : Nat) (r : (Vector UInt8 32)) (hm : merkle_Tree_Root k t_1 = some r) : Sim Try.prog 16 [PTR gb_2 0] [cvar gb_2 r_merkle_Tree t_1] (γ := Unit) (fun q => [cvar gb_2 r_merkle_Tree t_1]) (fun q => .one (.val (A (rV 32 (rU UInt8)) r))) := by
 unfold merkle_Tree_Root at hm
 refine Sim.of Try.func16 rfl rfl (lE rfl) (fun e0 w0 => ?_)
 refine JC.at ⟨[(0, ov (PTR gb_2 0))], [cvar gb_2 r_merkle_Tree t_1], []⟩ <| jr <| jx (op_alloc lb tZ30 zr30) fun gb_3 => jn <| JC.seq <| jr <| jmv rfl rfl <| bI hm fun _ hv_u_4 hm => jx (op_call (js := [0]) ld cl29 (sim_merkle_Tree_there k t_1 gb_2 () hv_u_4) .func (.cons tR .nil) rfl) fun _ => lI hm fun v_5 hv_5 hm => jc (op_not lb tR hv_5) <| jn <| jif tR hm (fun hc1 hm => ?_) (fun hc1 hm => ?_)
 · refine jr <| jc (op_build lb tZ30 zv30 tp30 .nil rfl) <| jc (op_storeA (j := 1) tA30 tR tR rfl (UpdR.self (by rfl)) rfl) <| jn <| JC.ret <| JQ.outR ?_
   obtain rfl := so hm
   exact JQ.done (js := [0]) (ss := [.val (A (rV 32 (rU UInt8)) (Vector.replicate 32 (0 : UInt8)))]) () (.inl rfl) (.nil rfl) rfl (.cons (.cellA (j := 1) tA30 rfl rfl) .nil) rfl rfl rfl
 refine JC.skip <| JQ.then <| jr <| jmv rfl rfl <| jc (op_nilCheck lb tR (fun e v h => by subst h; rfl)) <| jc (op_fieldAddr (off := 0) lb tf52_0 tR) <| bI hm fun i_6 hv_i_6 hm => jc (op_indexAddrIF lb tr50 tR .cI hv_i_6) <| JL.sub ⟨[(2, ov (PTR gb_3 0)), (10, ov (PTR gb_2 ((0 + 0) + i_6.1 * 32)))], [cvar gb_2 r_merkle_Tree t_1, cvar gb_3 (rV 32 (rU UInt8)) (Vector.replicate 32 (0 : UInt8))], []⟩ (.cons rfl (.cons rfl .nil)) rfl rfl <| lI hm fun v_7 hv_7 hm => jc (op_loadA (j := 0) lb tA30 tR rfl (Comp.at (cT (comp_merkle_Tree_n t_1) rfl) i_6.2 rfl) hv_7) <| jc (op_storeA (j := 1) tA30 tR tR rfl (UpdR.self (by rfl)) rfl) <| jn <| JC.ret ?_
 obtain rfl := so hm
 exact JQ.done (js := [0]) (ss := [.val (A (rV 32 (rU UInt8)) v_7)]) () (.inl rfl) (.nil rfl) rfl (.cons (.cellA (j := 1) tA30 rfl rfl) .nil) rfl rfl rfl

theorem sim_ref08_Same_ov (k : Nat) (b_1 : (List (Vector UInt8 32))) (a_2 : (List (Vector UInt8 32))) (go_3 : Option Nat) (gc_4 : Nat) (r : Bool) (hm : ref08_Same_ov k b_1 a_2 = some r) : Sim Try.prog 21 [HDR go_3 0 (List.length a_2) gc_4, S (rL (rV 32 (rU UInt8))) b_1] [cown go_3 (rV 32 (rU UInt8)) a_2 0 gc_4] (γ := Unit) (fun q => [cown go_3 (rV 32 (rU UInt8)) a_2 0 gc_4]) (fun q => .one (.val (S rB r))) := by
 unfold ref08_Same_ov at hm
 refine Sim.of Try.func21 rfl rfl (lE rfl) (fun e0 w0 => ?_)
 refine JC.at ⟨[(0, ov (HDR go_3 0 (List.length a_2) gc_4)), (1, ov (S (rL (rV 32 (rU UInt8))) b_1))], [cown go_3 (rV 32 (rU UInt8)) a_2 0 gc_4], []⟩ <| jr <| jc (op_assign lb .cB) <| jn <| JC.seq <| jr <| jmv rfl rfl <| jc (op_lenH lb tu22 tR) <| jmv rfl rfl <| jc (op_lenL lb tu22 tR) <| lI hm fun v_5 hv_5 hm => jc (op_cmpI lb tR tR (cs hv_5)) <| jn <| jif tR hm (fun hc1 hm => ?_) (fun hc1 hm => ?_)
 · refine jr <| jc (op_assign lb .cB) <| jn <| JC.ret <| JQ.outR ?_
   obtain rfl := so hm
   exact JQ.done (js := [0]) (ss := [.val (S rB false)]) () (.inl rfl) (.nil rfl) rfl (.cons (.tmp rfl) .nil) rfl rfl rfl
 refine JC.skip <| JQ.then <| bI hm fun tv2 hx2 hq2 => JC.seqK (α := Unit) (γ := Unit) (stj := fun v q => ⟨[], [cown go_3 (rV 32 (rU UInt8)) a_2 0 gc_4], []⟩) (p := fun v => tv2 = (.inl v)) (fun v q hv => ?_) ?_
 · subst hv
   skip
   obtain _ := q
   dsimp only at hq2
   refine JC.at ⟨[], [cown go_3 (rV 32 (rU UInt8)) a_2 0 gc_4], []⟩ <| jr <| jc (op_assign lb .cB) <| jn <| JC.ret ?_
   obtain rfl := so hq2
   exact JQ.done (js := [0]) (ss := [.val (S rB true)]) () (.inl rfl) (.nil rfl) rfl (.cons (.tmp rfl) .nil) rfl rfl rfl
 refine jr <| jc (op_assign lb .cI) <| jn <| JC.block <| bI hx2 fun tv3 hL3 hq3 => JC.pre ?_ (JC.loop (γ := Unit) (stf := fun s q => ⟨[(0, ov (HDR go_3 0 (List.length a_2) gc_4)), (1, ov (S (rL (rV 32 (rU UInt8))) b_1)), (5, ov (S (rI .i64) s))], [cown go_3 (rV 32 (rU UInt8)) a_2 0 gc_4], []⟩) (q := ()) hL3 ?_)
 · exact (Imp.norm (js := [0]) rfl (.cons rfl (.cons rfl (.cons rfl .nil))))
 intro i_6 q x hx hr
 obtain _ := q
 change ref08_Same_ov.b1 k a_2 b_1 i_6 = some x at hx
 unfold ref08_Same_ov.b1 at hx
 refine JC.at ⟨[(0, ov (HDR go_3 0 (List.length a_2) gc_4)), (1, ov (S (rL (rV 32 (rU UInt8))) b_1)), (5, ov (S (rI .i64) i_6))], [cown go_3 (rV 32 (rU UInt8)) a_2 0 gc_4], []⟩ <| JC.seq <| jr <| jmv rfl rfl <| jmv rfl rfl <| jc (op_lenH lb tu22 tR) <| lI hx fun v_7 hv_7 hx => jc (op_cmpI lb tR tR (cs hv_7)) <| jn <| jif tR hx (fun hc4 hx => ?_) (fun hc4 hx => ?_)
 · refine JC.skip <| JQ.then <| JC.seq <| JC.block <| JC.seq <| bI hx fun i_8 hv_i_8 hx => bI hx fun v_9 hv_9 hx => bI hx fun v_10 hv_10 hx => ?_
   obtain ⟨v_11, hv_11, hx⟩ := lt1_inv hx
   refine JC.anyF (base := [(0, ov (HDR go_3 0 (List.length a_2) gc_4)), (1, ov (S (rL (rV 32 (rU UInt8))) b_1)), (5, ov (S (rI .i64) i_6))])
       (fs := fun γ => [⟨some 17, ov (HDR go_3 0 (List.length a_2) gc_4)⟩, ⟨some 18, ov (S (rI .i64) i_6)⟩, ⟨some 19, ov (EPT go_3 (i_8 * 32))⟩, ⟨some 20, ov (A (rV 32 (rU UInt8)) v_9)⟩, ⟨some 21, ov (S (rL (rV 32 (rU UInt8))) b_1)⟩, ⟨some 22, ov (S (rI .i64) i_6)⟩, ⟨some 23, ov (PT (rV 32 (rU UInt8)) v_10)⟩, ⟨some 24, ov (A (rV 32 (rU UInt8)) v_10)⟩, ⟨some 25, ov (S rB v_11)⟩])
       (rs := fun γ => [⟨cown go_3 (rV 32 (rU UInt8)) a_2 0 gc_4, none, none, [2, 3]⟩])
       (afts := nn 9) (js := [0]) mixed (.cons rfl (.cons rfl (.cons rfl .nil))) (fun _ => rfl)
       (by
      refine db 1 0 <| db 2 5 <| dR 3 (fun γ ρ B hb hd => OpStep.lk ⟨ρ, (cown go_3 (rV 32 (rU UInt8)) a_2 0 gc_4) :: B, _⟩ (op_indexAddrOF (r := (rV 32 (rU UInt8))) (j := 0) lb tu22 tz30 rfl (tl hd 0 17) (tl hd 1 18) hv_i_8)) <| dR 4 (fun γ ρ B hb hd => OpStep.lk ⟨ρ, (cown go_3 (rV 32 (rU UInt8)) a_2 0 gc_4) :: B, _⟩ (op_loadOA (r := (rV 32 (rU UInt8))) (i := i_8) (off := 0) (j := 0) lb tA30 rfl (tl hd 2 19) hv_9 (Comp.self (rV 32 (rU UInt8)) v_9) (by decide))) <| db 5 1 ?_
      refine db 6 5 <| dS 7 (fun γ ρ B hb hd => op_indexAddrLg lb tu22 tz30 (tl hd 4 21) (tl hd 5 22) hv_10) <| dS 8 (fun γ ρ B hb hd => op_loadPAg lb tA30 (tl hd 6 23) rfl) <| dS 9 (fun γ ρ B hb hd => op_neA lb qa30 (by decide) ng30 (tl hd 3 20) (tl hd 7 24) hv_11) ?_
      exact DSteps.nil)
       (by decide +kernel) (fun _ => rfl) (fun _ => rfl) (fun _ => rfl) rfl
       (ρ' := fun γ => [(0, ov (HDR go_3 0 (List.length a_2) gc_4)), (1, ov (S (rL (rV 32 (rU UInt8))) b_1)), (5, ov (S (rI .i64) i_6)), (25, ov (S rB v_11))])
       (X' := fun γ => [cown go_3 (rV 32 (rU UInt8)) a_2 0 gc_4])
       (fun γ ρ hb hd => (.cons (hb 0 _ rfl) (.cons (hb 1 _ rfl) (.cons (hb 5 _ rfl) (.cons (hdq hd 8 25 rfl) .nil))))) (fun _ => rfl) (fun γ => ?_)
   refine JQ.at ⟨[(0, ov (HDR go_3 0 (List.length a_2) gc_4)), (1, ov (S (rL (rV 32 (rU UInt8))) b_1)), (5, ov (S (rI .i64) i_6)), (25, ov (S rB v_11))], [cown go_3 (rV 32 (rU UInt8)) a_2 0 gc_4], []⟩ <| JQ.then <| jif tR hx (fun hc5 hx => ?_) (fun hc5 hx => ?_)
   · refine jr <| jc (op_assign lb .cB) <| jn <| JC.ret <| JQ.outRB <| JQ.outR ?_
     try obtain rfl := so hx
     try obtain rfl := hr _ rfl
     dsimp only at hq3
     refine JQ.outR <| JQ.outRB ?_
     try obtain rfl := so hq3
     dsimp only at hq2
     refine JQ.outR ?_
     obtain rfl := so hq2
     exact JQ.done (js := [0]) (ss := [.val (S rB false)]) () (.inl rfl) (.nil rfl) rfl (.cons (.tmp rfl) .nil) rfl rfl rfl
   refine JC.skip <| JQ.outNB <| JQ.then <| JC.region <| jmv rfl rfl <| lI hx fun v_12 hv_12 hx => jc (op_arI lb tR .cI (cs hv_12)) <| jc (op_assign lb tR) <| JL.nil ?_
   try obtain rfl := so hx
   exact JQ.next () rfl (Imp.norm (js := [0]) rfl (.cons rfl (.cons rfl (.cons rfl .nil))))
 refine JC.exit <| JQ.outX ?_
 try obtain rfl := so hx
 try obtain rfl := hr _ rfl
 dsimp only at hq3
 refine JQ.outX <| JQ.here ?_
 try obtain rfl := so hq3
 exact JQ.joinK () () rfl (Imp.norm (js := [0]) rfl .nil)

end Go.Proofs.Ytbflmobpbjnekaa
