/- Walks. -/
import Derived.Test.YtbflmobpbjnekaaT
import Derived.Test.YtbflmobpbjnekaaW0
import Derived.Test.YtbflmobpbjnekaaW1
namespace Go.Proofs.Ytbflmobpbjnekaa
open Go Fw
set_option linter.unusedVariables false
set_option maxRecDepth 100000
set_option maxHeartbeats 4000000

theorem sim_sha_state_hash (k : Nat) (s_1 : sha_state) (l_2 : (List (List UInt8))) (r : (Vector UInt8 32)) (hm : sha_state_hash k s_1 l_2 = some r) : Sim Try.prog 43 [A r_sha_state s_1, S (rL (rL (rU UInt8))) l_2] [] (γ := Unit) (fun q => []) (fun q => .one (.val (A (rV 32 (rU UInt8)) r))) := by
 unfold sha_state_hash at hm
 refine Sim.of Try.func43 rfl rfl (lE rfl) (fun e0 w0 => ?_)
 refine JC.at ⟨[(0, ov (A r_sha_state s_1)), (1, ov (S (rL (rL (rU UInt8))) l_2))], [], []⟩ <| jr <| jx (op_boxA lb tR) fun gb_3 => jx (op_alloc lb tZ30 zr30) fun gb_4 => jn <| jr <| jmv rfl rfl <| bI hm fun v_5 hv_5 hm => jx (op_call (js := []) ld cl48 (sim_slices_Concatbyte_byte k l_2 v_5 hv_5) .func (.cons tR .nil) rfl) (fun q => ?_)
 obtain ⟨go_6, gc_7⟩ := q
 refine jc (op_assign lb tR) <| jn <| jr <| jmv rfl rfl <| JL.sub ⟨[(2, ov (PTR gb_3 0)), (4, ov (PTR gb_4 0)), (5, ov (HDR go_6 0 (List.length v_5) gc_7)), (11, ov (HDR go_6 0 (List.length v_5) gc_7))], [cown go_6 (rU UInt8) v_5 0 gc_7, cvar gb_3 r_sha_state s_1, cvar gb_4 (rV 32 (rU UInt8)) (Vector.replicate 32 (0 : UInt8))], []⟩ (.cons rfl (.cons rfl (.cons rfl (.cons rfl .nil)))) rfl rfl <| jc (op_lenH lb tu37 tR) <| lI hm fun v_8 hv_8 hm => jc (op_convIU lb tu3 tu71 tR hv_8) <| lI hm fun v_9 hv_9 hm => jc (op_arU lb tR (HasO.cU (x := (8 : UInt64)) rfl (by decide)) (cs hv_9)) <| jc (op_assign lb tR) <| jn <| jr <| jmv rfl rfl <| jc (op_buildF (r := (rU UInt8)) lb tu37 tz5 tZ5 rfl (lE rfl) (.S rfl (HasO.cU (x := (128 : UInt8)) rfl (by decide)) .nil) rfl) ?_
 obtain ⟨b_10, hv_b_10, hm⟩ := bnd_inv hm
 refine jx (op_appendL (j := 0) lb tu37 tu37 rfl tB5 rfl (Nat.lt_of_lt_of_le Nat.zero_lt_one (lE rfl)) (Nat.lt_of_lt_of_le Nat.zero_lt_one (lE rfl))  rfl tR tR hv_b_10) (fun q => ?_)
 obtain ⟨go_11, gc_12⟩ := q
 refine jc (op_assign lb tR) <| jn <| jr <| jmv rfl rfl <| jmv rfl rfl <| JL.sub ⟨[(2, ov (PTR gb_3 0)), (4, ov (PTR gb_4 0)), (5, ov (HDR go_11 0 (List.length b_10) gc_12)), (6, ov (S (rU UInt64) v_9)), (18, ov (HDR go_11 0 (List.length b_10) gc_12)), (19, ov (HDR go_11 0 (List.length b_10) gc_12))], [cown go_11 (rU UInt8) b_10 0 gc_12, cvar gb_3 r_sha_state s_1, cvar gb_4 (rV 32 (rU UInt8)) (Vector.replicate 32 (0 : UInt8))], []⟩ (.cons rfl (.cons rfl (.cons rfl (.cons rfl (.cons rfl (.cons rfl .nil)))))) rfl rfl <| jc (op_lenH lb tu37 tR) <| bI hm fun v_13 hv_13 hm => jc (op_arI lb tR .cI hv_13) <| lI hm fun v_14 hv_14 hm => jc (op_arI lb .cI tR (cs hv_14)) <| bI hm fun v_15 hv_15 hm => jc (op_arI lb tR .cI hv_15) ?_
 refine bI hm fun b_16 hv_b_16 hm => jx (op_appendZ (j := 0) lb tu37 tu3 tB5 zv5 rfl (Nat.lt_of_lt_of_le Nat.zero_lt_one (lE rfl)) (Nat.lt_of_lt_of_le Nat.zero_lt_one (lE rfl)) rfl tR tR hv_b_16) (fun q => ?_)
 obtain ⟨go_17, gc_18⟩ := q
 refine jc (op_assign lb tR) <| jn <| bI hm fun b_32 hx1 hq1 => JC.seqJ (γ := Option Nat × Nat) (stj := fun q => ⟨[(2, ov (PTR gb_3 0)), (4, ov (PTR gb_4 0)), (5, ov (HDR q.1 0 (List.length b_32) q.2))], [cvar gb_3 r_sha_state s_1, cvar gb_4 (rV 32 (rU UInt8)) (Vector.replicate 32 (0 : UInt8)), cown q.1 (rU UInt8) b_32 0 q.2], []⟩) (fun q => ?_) ?_
 · obtain ⟨go_33, gc_34⟩ := q
   refine JC.at ⟨[(2, ov (PTR gb_3 0)), (4, ov (PTR gb_4 0)), (5, ov (HDR go_33 0 (List.length b_32) gc_34))], [cvar gb_3 r_sha_state s_1, cvar gb_4 (rV 32 (rU UInt8)) (Vector.replicate 32 (0 : UInt8)), cown go_33 (rU UInt8) b_32 0 gc_34], []⟩ <| bI hq1 fun s_41 hx4 hq4 => JC.seqJ (γ := Unit) (stj := fun _ => ⟨[(2, ov (PTR gb_3 0)), (4, ov (PTR gb_4 0))], [cvar gb_3 r_sha_state s_41, cvar gb_4 (rV 32 (rU UInt8)) (Vector.replicate 32 (0 : UInt8))], []⟩) (fun _ => ?_) ?_
   · refine bI hq4 fun out_56 hx7 hq7 => JC.seqJ (γ := Unit) (stj := fun _ => ⟨[(4, ov (PTR gb_4 0))], [cvar gb_4 (rV 32 (rU UInt8)) out_56], []⟩) (fun _ => ?_) ?_
     · refine jr <| jc (op_loadA (j := 0) lb tA30 tR rfl (Comp.self (rV 32 (rU UInt8)) out_56) rfl) <| jc (op_storeA (j := 0) tA30 tR tR rfl (UpdR.self (by rfl)) rfl) <| jn <| JC.ret ?_
       obtain rfl := so hq7
       exact JQ.done (js := []) (ss := [.val (A (rV 32 (rU UInt8)) out_56)]) () (.inl rfl) (.nil rfl) rfl (.cons (.cellA (j := 0) tA30 rfl rfl) .nil) rfl rfl rfl
     refine jr <| jc (op_move lb .cI) <| jn <| JC.block <| JC.pre ?_ (JC.loop (γ := Unit) (stf := fun s q => ⟨[(2, ov (PTR gb_3 0)), (4, ov (PTR gb_4 0)), (46, ov (S (rI .i64) s.2))], [cvar gb_3 r_sha_state s_41, cvar gb_4 (rV 32 (rU UInt8)) s.1], []⟩) (q := ()) hx7 ?_)
     · exact (Imp.norm (js := [0, 0]) rfl (.cons rfl (.cons rfl (.cons rfl .nil))))
     intro s q x hx hr
     obtain ⟨out_42, x_43⟩ := s
     obtain _ := q
     change sha_state_hash.b3 k s_41 out_42 x_43 = some x at hx
     unfold sha_state_hash.b3 at hx
     refine JC.at ⟨[(2, ov (PTR gb_3 0)), (4, ov (PTR gb_4 0)), (46, ov (S (rI .i64) x_43))], [cvar gb_3 r_sha_state s_41, cvar gb_4 (rV 32 (rU UInt8)) out_42], []⟩ <| jr <| lI hx fun v_44 hv_44 hx => jc (op_cmpI lb tR .cI (cs hv_44)) <| jn <| JC.seq <| jif tR hx (fun hc9 hx => ?_) (fun hc9 hx => ?_)
     · refine JC.skip <| JQ.then <| JC.seq <| JC.block <| jr <| jmv rfl rfl <| jc (op_assign lb tR) <| jn <| JC.region <| jmv rfl rfl <| jmv rfl rfl <| bI hx fun v_45 hv_45 hx => jc (op_arI lb tR .cI hv_45) <| jc (op_fieldAddr (off := 0) lb tf79_0 tR) <| bI hx fun i_46 hv_i_46 hx => jc (op_indexAddrIF lb tr61 tR tR hv_i_46) <| lI hx fun v_47 hv_47 hx => jc (op_loadS (j := 0) lb tS60 tR rfl (Comp.at (cT (comp_sha_state_h s_41) rfl) i_46.2 rfl) rfl hv_47) <| jmv rfl rfl ?_
       refine bI hx fun v_48 hv_48 hx => jc (op_arI lb tR .cI hv_48) <| lI hx fun v_49 hv_49 hx => jc (op_arI lb .cI tR (cs hv_49)) <| JL.sub ⟨[(2, ov (PTR gb_3 0)), (4, ov (PTR gb_4 0)), (46, ov (S (rI .i64) x_43)), (49, ov (S (rI .i64) x_43)), (54, ov (S (rU UInt32) v_47)), (57, ov (S (rI .i64) v_49))], [cvar gb_3 r_sha_state s_41, cvar gb_4 (rV 32 (rU UInt8)) out_42], []⟩ (.cons rfl (.cons rfl (.cons rfl (.cons rfl (.cons rfl (.cons rfl .nil)))))) rfl rfl <| lI hx fun v_50 hv_50 hx => jc (op_arI lb .cI tR (cs hv_50)) <| bI hx fun v_51 hv_51 hx => jc (op_shrUI lb tR tR hv_51) ?_
       refine lI hx fun v_52 hv_52 hx => jc (op_convUU lb tu60 tu5 tR hv_52) <| bI hx fun i_53 hv_i_53 hx => jc (op_indexAddrIF lb tr30 tR tR hv_i_53) <| lI hx fun out_54 hv_out_54 hx => jc (op_storeS (j := 1) tS5 tR tR rfl rfl (Upd.at (Comp.self (rV 32 (rU UInt8)) out_42) i_53.2 rfl (Upd.self (rV 32 (rU UInt8)) out_42 _)).R hv_out_54) <| JL.nil <| JQ.outNB <| JQ.then <| JC.region ?_
       obtain ⟨v_55, hv_55, hx⟩ := lt1_inv hx
       refine jc (op_arI lb tR .cI (cs hv_55)) <| jmv rfl rfl <| JL.nil ?_
       try obtain rfl := so hx
       exact JQ.next () rfl (Imp.norm (js := [0, 0]) rfl (.cons rfl (.cons rfl (.cons rfl .nil))))
     refine JC.exit <| JQ.outX ?_
     try obtain rfl := so hx
     have ht := hr _ rfl
     have hq8 := cs ht
     clear hr ht
     refine JQ.outX <| JQ.here ?_
     try obtain rfl := so hq8
     exact JQ.join () (Imp.norm (js := [1]) rfl (.cons rfl .nil))
   refine JC.block <| JC.pre (Imp.frz (j := 2) rfl (ImpK.slotH (s := 5) rfl ImpK.refl)) <| JC.pre (Imp.slot (s := 5) rfl wkHL) <| JC.pre ?_ (JC.loop (γ := Unit) (stf := fun s q => ⟨[(2, ov (PTR gb_3 0)), (4, ov (PTR gb_4 0)), (5, ov (S (rL (rU UInt8)) s.2))], [cvar gb_3 r_sha_state s.1, cvar gb_4 (rV 32 (rU UInt8)) (Vector.replicate 32 (0 : UInt8))], []⟩) (q := ()) hx4 ?_)
   · exact (Imp.norm (js := [0, 0]) rfl (.cons rfl (.cons rfl (.cons rfl .nil))))
   intro s q x hx hr
   obtain ⟨s_35, b_36⟩ := s
   obtain _ := q
   change sha_state_hash.b2 k s_35 b_36 = some x at hx
   unfold sha_state_hash.b2 at hx
   refine JC.at ⟨[(2, ov (PTR gb_3 0)), (4, ov (PTR gb_4 0)), (5, ov (S (rL (rU UInt8)) b_36))], [cvar gb_3 r_sha_state s_35, cvar gb_4 (rV 32 (rU UInt8)) (Vector.replicate 32 (0 : UInt8))], []⟩ <| JC.seq <| jr <| jmv rfl rfl <| jc (op_lenL lb tu37 tR) <| lI hx fun v_37 hv_37 hx => jc (op_cmpI lb tR .cI (cs hv_37)) <| jn <| jif tR hx (fun hc6 hx => ?_) (fun hc6 hx => ?_)
   · refine JC.skip <| JQ.then <| JC.seq <| JC.block <| JC.region <| jmv rfl rfl <| bI hx fun v_38 hv_38 hx => jc (op_sliceLg lb tu37 tz5 tR .none (.some .cI) hv_38) <| bI hx fun x_39 hv_x_39 hx => jx (op_call (js := [0]) ld cl49 (sim_sha_state_press k v_38 s_35 gb_3 x_39 hv_x_39) .func (.cons tR (.cons tR .nil)) rfl) fun _ => JL.nil <| JQ.outNB <| JQ.then <| JC.region <| jmv rfl rfl ?_
     refine bI hx fun v_40 hv_40 hx => jc (op_sliceLg lb tu37 tz5 tR (.some .cI) .none hv_40) <| jc (op_assign lb tR) <| JL.nil ?_
     try obtain rfl := so hx
     exact JQ.next () rfl (Imp.norm (js := [0, 0]) rfl (.cons rfl (.cons rfl (.cons rfl .nil))))
   refine JC.exit <| JQ.outX ?_
   try obtain rfl := so hx
   have ht := hr _ rfl
   have hq5 := cs ht
   clear hr ht
   refine JQ.outX <| JQ.here ?_
   try obtain rfl := so hq5
   exact JQ.join () (Imp.norm (js := [0, 0]) rfl (.cons rfl (.cons rfl .nil)))
 refine jr <| jc (op_move lb .cI) <| jn <| JC.block <| JC.pre ?_ (JC.loop (γ := Option Nat × Nat) (stf := fun s q => ⟨[(2, ov (PTR gb_3 0)), (4, ov (PTR gb_4 0)), (5, ov (HDR q.1 0 (List.length s.1) q.2)), (6, ov (S (rU UInt64) v_9)), (25, ov (S (rI .i64) s.2))], [cvar gb_3 r_sha_state s_1, cvar gb_4 (rV 32 (rU UInt8)) (Vector.replicate 32 (0 : UInt8)), cown q.1 (rU UInt8) s.1 0 q.2], []⟩) (q := (go_17, gc_18)) hx1 ?_)
 · exact (Imp.norm (js := [1, 1, 0]) rfl (.cons rfl (.cons rfl (.cons rfl (.cons rfl (.cons rfl .nil))))))
 intro s q x hx hr
 obtain ⟨b_19, x_20⟩ := s
 obtain ⟨go_21, gc_22⟩ := q
 change sha_state_hash.b1 k v_9 b_19 x_20 = some x at hx
 unfold sha_state_hash.b1 at hx
 refine JC.at ⟨[(2, ov (PTR gb_3 0)), (4, ov (PTR gb_4 0)), (5, ov (HDR go_21 0 (List.length b_19) gc_22)), (6, ov (S (rU UInt64) v_9)), (25, ov (S (rI .i64) x_20))], [cvar gb_3 r_sha_state s_1, cvar gb_4 (rV 32 (rU UInt8)) (Vector.replicate 32 (0 : UInt8)), cown go_21 (rU UInt8) b_19 0 gc_22], []⟩ <| jr <| lI hx fun v_23 hv_23 hx => jc (op_cmpI lb tR .cI (cs hv_23)) <| jn <| JC.seq <| jif tR hx (fun hc3 hx => ?_) (fun hc3 hx => ?_)
 · refine JC.skip <| JQ.then <| JC.seq <| JC.block <| jr <| jmv rfl rfl <| jc (op_assign lb tR) <| jn <| JC.region <| jmv rfl rfl <| jmv rfl rfl <| jmv rfl rfl <| lI hx fun v_24 hv_24 hx => jc (op_arI lb .cI tR (cs hv_24)) <| lI hx fun v_25 hv_25 hx => jc (op_arI lb .cI tR (cs hv_25)) ?_
   obtain ⟨v_26, hv_26, hx⟩ := bnd_inv hx
   refine jc (op_shrUI lb tR tR hv_26) <| lI hx fun v_27 hv_27 hx => jc (op_convUU lb tu71 tu5 tR hv_27) <| jc (op_buildF (r := (rU UInt8)) lb tu37 tz5 tZ5 rfl (lE rfl) (.S rfl tR .nil) rfl) <| bI hx fun b_28 hv_b_28 hx => jx (op_appendL (j := 2) lb tu37 tu37 rfl tB5 rfl (Nat.lt_of_lt_of_le Nat.zero_lt_one (lE rfl)) (Nat.lt_of_lt_of_le Nat.zero_lt_one (lE rfl))  rfl tR tR hv_b_28) (fun q => ?_)
   obtain ⟨go_29, gc_30⟩ := q
   refine JL.sub ⟨[(2, ov (PTR gb_3 0)), (4, ov (PTR gb_4 0)), (6, ov (S (rU UInt64) v_9)), (25, ov (S (rI .i64) x_20)), (36, ov (HDR go_29 0 (List.length b_28) gc_30))], [cvar gb_3 r_sha_state s_1, cvar gb_4 (rV 32 (rU UInt8)) (Vector.replicate 32 (0 : UInt8)), cown go_29 (rU UInt8) b_28 0 gc_30], []⟩ (.cons rfl (.cons rfl (.cons rfl (.cons rfl (.cons rfl .nil))))) rfl rfl <| jc (op_assign lb tR) <| JL.nil <| JQ.outNB <| JQ.then <| JC.region <| lI hx fun v_31 hv_31 hx => jc (op_arI lb tR .cI (cs hv_31)) <| jmv rfl rfl <| JL.nil ?_
   try obtain rfl := so hx
   exact JQ.next (go_29, gc_30) rfl (Imp.norm (js := [0, 0, 0]) rfl (.cons rfl (.cons rfl (.cons rfl (.cons rfl (.cons rfl .nil))))))
 refine JC.exit <| JQ.outX ?_
 try obtain rfl := so hx
 have ht := hr _ rfl
 have hq2 := cs ht
 clear hr ht
 refine JQ.outX <| JQ.here ?_
 try obtain rfl := so hq2
 exact JQ.join (go_21, gc_22) (Imp.norm (js := [0, 0, 0]) rfl (.cons rfl (.cons rfl (.cons rfl .nil))))

theorem sim_sha_Sum (k : Nat) (l_1 : (List (List UInt8))) (r : (Vector UInt8 32)) (hm : sha_Sum k l_1 = some r) : Sim Try.prog 37 [S (rL (rL (rU UInt8))) l_1] [] (γ := Unit) (fun q => []) (fun q => .one (.val (A (rV 32 (rU UInt8)) r))) := by
 unfold sha_Sum at hm
 refine Sim.of Try.func37 rfl rfl (lE rfl) (fun e0 w0 => ?_)
 refine JC.at ⟨[(0, ov (S (rL (rL (rU UInt8))) l_1))], [], []⟩ <| jr <| jx (op_alloc lb tZ30 zr30) fun gb_2 => jn <| jr <| bI hm fun v_3 hv_3 hm => jx (op_call (js := []) ld cl42 (sim_sha_begun k v_3 hv_3) .func .nil rfl) fun _ => jmv rfl rfl <| bI hm fun v_4 hv_4 hm => jx (op_call (js := []) ld cl43 (sim_sha_state_hash k v_3 l_1 v_4 hv_4) .func (.cons tR (.cons tR .nil)) rfl) (fun _ => ?_)
 refine jc (op_storeA (j := 0) tA30 tR tR rfl (UpdR.self (by rfl)) rfl) <| jn <| JC.ret ?_
 obtain rfl := so hm
 exact JQ.done (js := []) (ss := [.val (A (rV 32 (rU UInt8)) v_4)]) () (.inl rfl) (.nil rfl) rfl (.cons (.cellA (j := 0) tA30 rfl rfl) .nil) rfl rfl rfl

theorem sim_merkle_Leaf (k : Nat) (bucket_1 : Int) (b_2 : (List UInt8)) (r : (Vector UInt8 32) × Int) (hm : merkle_Leaf k bucket_1 b_2 = some r) : Sim Try.prog 28 [S (rI .i64) bucket_1, S (rL (rU UInt8)) b_2] [] (γ := Unit) (fun q => []) (fun q => .tup [.val (A (rV 32 (rU UInt8)) r.1), .val (S (rI .i64) r.2)]) := by
 unfold merkle_Leaf at hm
 refine Sim.of Try.func28 rfl rfl (lE rfl) (fun e0 w0 => ?_)
 refine JC.at ⟨[(0, ov (S (rI .i64) bucket_1)), (1, ov (S (rL (rU UInt8)) b_2))], [], []⟩ <| jr <| jx (op_alloc lb tZ30 zr30) fun gb_3 => jc (op_assign lb .cI) <| jn <| JC.seq <| bI hm fun x_7 hx1 hq1 => JC.seqJ (γ := Unit) (stj := fun _ => ⟨[(0, ov (S (rI .i64) bucket_1)), (1, ov (S (rL (rU UInt8)) b_2)), (4, ov (PTR gb_3 0)), (11, ov (S rB x_7))], [cvar gb_3 (rV 32 (rU UInt8)) (Vector.replicate 32 (0 : UInt8))], []⟩) (fun _ => ?_) ?_
 · refine jif tR hq1 (fun hc5 hq1 => ?_) (fun hc5 hq1 => ?_)
   · refine jr <| jc (op_build lb tZ30 zv30 tp30 .nil rfl) <| jc (op_storeA (j := 0) tA30 tR tR rfl (UpdR.self (by rfl)) rfl) <| jc (op_assign lb .cI) <| jn <| JC.ret <| JQ.outR ?_
     obtain rfl := so hq1
     exact JQ.done (js := []) (ss := [.val (A (rV 32 (rU UInt8)) (Vector.replicate 32 (0 : UInt8))), .val (S (rI .i64) (2 : Int))]) () (.inl rfl) (.nil rfl) rfl (.cons (.cellA (j := 0) tA30 rfl rfl) (.cons (.tmp rfl) .nil)) rfl rfl rfl
   refine JC.skip <| JQ.then <| jr <| jmv rfl rfl <| lI hq1 fun v_8 hv_8 hq1 => jc (op_convIU lb tu3 tu5 tR hv_8) <| jc (op_buildF (r := (rU UInt8)) lb tu37 tz5 tZ5 rfl (lE rfl) (.S rfl (HasO.cU (x := (0 : UInt8)) rfl (by decide)) (.S rfl tR .nil)) rfl) <| jmv rfl rfl <| jc (op_buildF (r := (rL (rU UInt8))) lb tu76 tz37 tZ37 rfl (lE rfl) (.S rfl tR (.S rfl tR .nil)) rfl) <| bI hq1 fun v_9 hv_9 hq1 => jx (op_call (js := []) ld cl37 (sim_sha_Sum k ([([(0 : UInt8), v_8] : (List UInt8)), b_2] : (List (List UInt8))) v_9 hv_9) .func (.cons tR .nil) rfl) fun _ => jc (op_storeA (j := 0) tA30 tR tR rfl (UpdR.self (by rfl)) rfl) <| jc (op_assign lb .cI) <| jn <| JC.ret ?_
   obtain rfl := so hq1
   exact JQ.done (js := []) (ss := [.val (A (rV 32 (rU UInt8)) v_9), .val (S (rI .i64) (0 : Int))]) () (.inl rfl) (.nil rfl) rfl (.cons (.cellA (j := 0) tA30 rfl rfl) (.cons (.tmp rfl) .nil)) rfl rfl rfl
 refine JC.region <| jmv rfl rfl <| lI hx1 fun v_4 hv_4 hx1 => jc (op_cmpI lb tR .cI (cs hv_4)) <| jmv rfl rfl <| jF (ov (S (rI .i64) bucket_1)) rfl rfl rfl rfl (fun hq_2 => op_move lb tR) <| lI hx1 fun v_5 hv_5 hx1 => jF (ov (S rB v_5)) rfl rfl rfl rfl (fun hq_3 => op_cmpI lb (HasO.cnd tR (notT (notF hq_3))) .cI (cs hv_5)) <| lI hx1 fun v_6 hv_6 hx1 => jc (op_pickCS lb tR (fun hb4 => .cB) (fun hb4 => (HasO.cnd tR (notT hb4))) hv_6) <| JL.nil ?_
 try obtain rfl := so hx1
 exact JQ.join () (Imp.norm (js := [0]) rfl (.cons rfl (.cons rfl (.cons rfl (.cons rfl .nil)))))

theorem sim_merkle_Tree_inner (k : Nat) (n_1 : Int) (t_2 : merkle_Tree) (gb_3 : Nat) (r : merkle_Tree) (hm : merkle_Tree_inner k n_1 t_2 = some r) : Sim Try.prog 26 [PTR gb_3 0, S (rI .i64) n_1] [cvar gb_3 r_merkle_Tree t_2] (γ := Unit) (fun q => [cvar gb_3 r_merkle_Tree r]) (fun q => .tup []) := by
 unfold merkle_Tree_inner at hm
 refine Sim.of Try.func26 rfl rfl (lE rfl) (fun e0 w0 => ?_)
 refine JC.at ⟨[(0, ov (PTR gb_3 0)), (1, ov (S (rI .i64) n_1))], [cvar gb_3 r_merkle_Tree t_2], []⟩ <| lI hm fun v_4 hv_4 hm => bI hm fun i_5 hv_i_5 hm => bI hm fun v_6 hv_6 hm => lI hm fun v_7 hv_7 hm => lI hm fun v_8 hv_8 hm => bI hm fun i_9 hv_i_9 hm => bI hm fun v_10 hv_10 hm => ?_
 obtain ⟨v_11, hv_11, hm⟩ := bnd_inv hm
 refine bI hm fun i_12 hv_i_12 hm => ?_
 obtain ⟨t_13, hv_t_13, hm⟩ := lt1_inv hm
 refine JC.anyF (base := [(0, ov (PTR gb_3 0)), (1, ov (S (rI .i64) n_1))])
     (fs := fun γ => [⟨some 4, ov (PTR gb_3 0)⟩, ⟨some 5, ov (S (rI .i64) n_1)⟩, ⟨some 6, ov (S (rL (rU UInt8)) ([(1 : UInt8)] : (List UInt8)))⟩, ⟨some 7, ov (PTR gb_3 0)⟩, ⟨some 8, ov (S (rI .i64) n_1)⟩, ⟨some 9, ov (S (rI .i64) v_4)⟩, ⟨some 10, ov (PTR gb_3 0)⟩, ⟨some 11, ov (PTR gb_3 (0 + 0))⟩, ⟨some 12, ov (PTR gb_3 ((0 + 0) + i_5.1 * 32))⟩, ⟨some 13, ov (S (rBo (KV r_merkle_Tree t_2 gb_3) (rL (rU UInt8))) v_6)⟩, ⟨some 14, ov (PTR gb_3 0)⟩, ⟨some 15, ov (S (rI .i64) n_1)⟩, ⟨some 16, ov (S (rI .i64) v_7)⟩, ⟨some 17, ov (S (rI .i64) v_8)⟩, ⟨some 18, ov (PTR gb_3 0)⟩, ⟨some 19, ov (PTR gb_3 (0 + 0))⟩, ⟨some 20, ov (PTR gb_3 ((0 + 0) + i_9.1 * 32))⟩, ⟨some 21, ov (S (rBo (KV r_merkle_Tree t_2 gb_3) (rL (rU UInt8))) v_10)⟩, ⟨some 22, ov (S (rL (rBo (KV r_merkle_Tree t_2 gb_3) (rL (rU UInt8)))) ([([(1 : UInt8)] : (List UInt8)), v_6, v_10] : (List (List UInt8))))⟩, ⟨some 23, ov (A (rV 32 (rU UInt8)) v_11)⟩, ⟨some 24, ov (PTR gb_3 0)⟩, ⟨some 25, ov (PTR gb_3 (0 + 0))⟩, ⟨some 26, ov (PTR gb_3 ((0 + 0) + i_12.1 * 32))⟩, ⟨none, .one .any⟩])
     (rs := fun γ => [⟨cvar gb_3 r_merkle_Tree t_2, none, (some 23), [19]⟩, ⟨cvar gb_3 r_merkle_Tree t_13, (some 23), none, []⟩])
     (afts := nn 24) (js := [0]) mixed (.cons rfl (.cons rfl .nil)) (fun _ => rfl)
     (by
      refine db 1 0 <| db 2 1 <| dS 3 (fun γ ρ B hb hd => op_buildF (r := (rU UInt8)) lb tu37 tz5 tZ5 rfl (lE rfl) (.S rfl (HasO.cU (x := (1 : UInt8)) rfl (by decide)) .nil) rfl) <| db 4 0 <| db 5 1 ?_
      refine dS 6 (fun γ ρ B hb hd => op_arI lb .cI (tl hd 4 8) (cs hv_4)) <| dS 7 (fun γ ρ B hb hd => op_nilCheck lb (tl hd 3 7) (fun e v h => by subst h; rfl)) <| dS 8 (fun γ ρ B hb hd => op_fieldAddr (off := 0) lb tf52_0 (tl hd 6 10)) <| dS 9 (fun γ ρ B hb hd => op_indexAddrIF lb tr50 (tl hd 7 11) (tl hd 5 9) hv_i_5) <| dS 10 (fun γ ρ B hb hd => op_sliceB lb tu30 tz5 (tl hd 8 12) (Comp.at (cT (comp_merkle_Tree_n t_2) rfl) i_5.2 rfl) .none .none hv_6) ?_
      refine db 11 0 <| db 12 1 <| dS 13 (fun γ ρ B hb hd => op_arI lb .cI (tl hd 11 15) (cs hv_7)) <| dS 14 (fun γ ρ B hb hd => op_arI lb (tl hd 12 16) .cI (cs hv_8)) <| dS 15 (fun γ ρ B hb hd => op_nilCheck lb (tl hd 10 14) (fun e v h => by subst h; rfl)) ?_
      refine dS 16 (fun γ ρ B hb hd => op_fieldAddr (off := 0) lb tf52_0 (tl hd 14 18)) <| dS 17 (fun γ ρ B hb hd => op_indexAddrIF lb tr50 (tl hd 15 19) (tl hd 13 17) hv_i_9) <| dS 18 (fun γ ρ B hb hd => op_sliceB lb tu30 tz5 (tl hd 16 20) (Comp.at (cT (comp_merkle_Tree_n t_2) rfl) i_9.2 rfl) .none .none hv_10) <| dS 19 (fun γ ρ B hb hd => op_buildF (r := rBo (KV r_merkle_Tree t_2 gb_3) (rL (rU UInt8))) lb tu76 tz37 tZ37 rfl (lE rfl) (.S rfl (HasO.wk (q := S (rBo (KV r_merkle_Tree t_2 gb_3) (rL (rU UInt8))) ([(1 : UInt8)] : (List UInt8))) (tl hd 2 6) wkBo) (.S rfl (tl hd 9 13) (.S rfl (tl hd 17 21) .nil))) rfl) <| dR 20 (fun γ ρ B hb hd => OpStep.lk ⟨ρ, (cvar gb_3 r_merkle_Tree t_2) :: B, _⟩ ((op_callL (j := 0) ld cl37 rfl (sim_sha_Sum k ([([(1 : UInt8)] : (List UInt8)), v_6, v_10] : (List (List UInt8))) v_11 hv_11) .func (.cons (tl hd 18 22) .nil) (ArgsB.cons boL ArgsB.nil) (fun _ => EF.sA (EF.v EF.u))).post (fun _ => Imp.refl))) ?_
      refine dS 21 (fun γ ρ B hb hd => op_nilCheck lb (tl hd 0 4) (fun e v h => by subst h; rfl)) <| dS 22 (fun γ ρ B hb hd => op_fieldAddr (off := 0) lb tf52_0 (tl hd 20 24)) <| dS 23 (fun γ ρ B hb hd => op_indexAddrIF lb tr50 (tl hd 21 25) (tl hd 1 5) hv_i_12) <| dR 24 (fun γ ρ B hb hd => OpStep.at ⟨ρ, (cvar gb_3 r_merkle_Tree t_2) :: B, _⟩ (setO ⟨ρ, (cvar gb_3 r_merkle_Tree t_13) :: B, _⟩ _ _) (op_storeA (j := 0) tA30 (tl hd 22 26) (tl hd 19 23) rfl (Upd.at (cT (comp_merkle_Tree_n t_2) rfl) i_12.2 rfl (Upd.trans (Comp.self r_merkle_Tree t_2) (Upd.self r_merkle_Tree t_2 _) (upd_merkle_Tree_n t_2 (putV t_2.n i_12 v_11)))).R hv_t_13)) ?_
      exact DSteps.nil)
     (by decide +kernel) (fun _ => rfl) (fun _ => rfl) (fun _ => rfl) rfl
     (ρ' := fun γ => [])
     (X' := fun γ => [cvar gb_3 r_merkle_Tree t_13])
     (fun γ ρ hb hd => .nil) (fun _ => rfl) (fun γ => ?_)
 refine JQ.at ⟨[], [cvar gb_3 r_merkle_Tree t_13], []⟩ ?_
 obtain rfl := so hm
 exact JQ.done (js := [0]) (ss := []) () (.inr rfl) (.nil rfl) rfl .nil rfl rfl rfl

theorem sim_merkle_Of_v0 (k : Nat) (leaves_1 : (List (Vector UInt8 32))) (r : merkle_Tree) (hm : merkle_Of k leaves_1 = some (.inl r)) : Sim Try.prog 8 [S (rL (rV 32 (rU UInt8))) leaves_1] [] (γ := Nat) (fun q => [cvar q r_merkle_Tree r]) (fun q => .tup [.val (PTR q 0), .val (S (rI .i64) (0 : Int))]) := by
 unfold merkle_Of at hm
 refine Sim.of Try.func8 rfl rfl (lE rfl) (fun e0 w0 => ?_)
 refine JC.at ⟨[(0, ov (S (rL (rV 32 (rU UInt8))) leaves_1))], [], []⟩ <| jr <| jc (op_assign lb (HasO.const (p := PTO none) fun _ => rfl)) <| jc (op_assign lb .cI) <| jn <| JC.seq <| jr <| jmv rfl rfl <| jc (op_lenL lb tu22 tR) <| lI hm fun v_2 hv_2 hm => jc (op_cmpI lb tR .cI (cs hv_2)) <| jn <| jif tR hm (fun hc1 hm => ?_) (fun hc1 hm => ?_)
 · refine jr <| jc (op_assign lb (HasO.const (p := PTO none) fun _ => rfl)) <| jc (op_assign lb .cI) <| jn <| JC.ret <| JQ.outR ?_
   cases hm
 refine JC.skip <| JQ.then <| jr <| jc (op_build lb tZ52 zs52 tp52 (.S (off := 4096) rfl .cB rfl ((UpdR.snd (UpdR.fst (UpdR.self (by rfl)))).at (by rfl)) .nil) rfl) <| jx (op_boxA lb tR) fun gb_3 => jc (op_assign lb tR) <| jn <| jr <| jmv rfl rfl <| jc (op_nilCheck lb tR (fun e v h => by subst h; rfl)) <| JL.sub ⟨[(0, ov (S (rL (rV 32 (rU UInt8))) leaves_1)), (4, ov (PTR gb_3 0)), (12, ov (PTR gb_3 0))], [cvar gb_3 zq1 zq3], []⟩ (.cons rfl (.cons rfl (.cons rfl .nil))) rfl rfl <| jc (op_fieldAddr (off := 0) lb tf52_0 tR) <| jc (op_sliceAV (l := 64) (h := 128) lb tu50 tz30 tR (.some .cI) .none (lE rfl) (lE rfl) (ltB rfl)) <| jmv rfl rfl <| lI hm fun t_4 hv_t_4 hm => jc (op_copyAV (j := 0) ld tu22 tz30 tR rfl (Comp.trans (Comp.self zq1 zq3) (Comp.at' (Comp.inF (Comp.self (rV 128 (rV 32 (rU UInt8))) ((merkle_Tree.mk (Vector.replicate 128 (Vector.replicate 32 (0 : UInt8))) false).n)) (lE rfl)) (by rfl : _ = 0)) (lE rfl)) (UpdR.fst (UpdR.self (by rfl))) (fun e a w => SrcN.list tR) (lE rfl) hv_t_4 rfl rfl) <| jn ?_
 obtain ⟨t_10, hx2, hq2⟩ := bnd_inv hm
 refine JC.seqJ (γ := Unit) (stj := fun _ => ⟨[(4, ov (PTR gb_3 0))], [cvar gb_3 r_merkle_Tree t_10], []⟩) (fun _ => ?_) ?_
 · refine jr <| jmv rfl rfl <| jc (op_assign lb tR) <| jc (op_assign lb .cI) <| jn <| JC.ret ?_
   injection hq2 with hq2
   injection hq2 with hq2
   subst hq2
   exact JQ.done (js := [0]) (ss := [.val (PTR gb_3 0), .val (S (rI .i64) (0 : Int))]) gb_3 (.inl rfl) (.nil rfl) rfl (.cons (.tmp rfl) (.cons (.tmp rfl) .nil)) rfl rfl rfl
 refine jr <| jc (op_assign lb .cI) <| jn <| JC.block <| JC.pre (Imp.var (j := 0) (q := r_merkle_Tree) (y := (merkle_Tree.mk t_4 true)) rfl (Wk.st Wk.refl)) ?_
 refine JC.pre ?_ (JC.loop (γ := Unit) (stf := fun s q => ⟨[(4, ov (PTR gb_3 0)), (5, ov (S (rI .i64) s.2))], [cvar gb_3 r_merkle_Tree s.1], []⟩) (q := ()) hx2 ?_)
 · exact (Imp.norm (js := [0]) rfl (.cons rfl (.cons rfl .nil)))
 intro s q x hx hr
 obtain ⟨t_5, n_6⟩ := s
 obtain _ := q
 change merkle_Of.b1 k t_5 n_6 = some x at hx
 unfold merkle_Of.b1 at hx
 refine JC.at ⟨[(4, ov (PTR gb_3 0)), (5, ov (S (rI .i64) n_6))], [cvar gb_3 r_merkle_Tree t_5], []⟩ <| JC.seq <| jr <| jmv rfl rfl <| lI hx fun v_7 hv_7 hx => jc (op_cmpI lb tR .cI (cs hv_7)) <| jn <| jif tR hx (fun hc4 hx => ?_) (fun hc4 hx => ?_)
 · refine JC.skip <| JQ.then <| JC.seq <| JC.block <| JC.region <| jmv rfl rfl <| jmv rfl rfl <| bI hx fun x_8 hv_x_8 hx => jx (op_call (js := [0]) ld cl26 (sim_merkle_Tree_inner k n_6 t_5 gb_3 x_8 hv_x_8) .func (.cons tR (.cons tR .nil)) rfl) fun _ => JL.nil <| JQ.outNB <| JQ.then <| JC.region <| jmv rfl rfl ?_
   obtain ⟨v_9, hv_9, hx⟩ := lt1_inv hx
   refine jc (op_arI lb tR .cI (cs hv_9)) <| jc (op_assign lb tR) <| JL.nil ?_
   try obtain rfl := so hx
   exact JQ.next () rfl (Imp.norm (js := [0]) rfl (.cons rfl (.cons rfl .nil)))
 refine JC.exit <| JQ.outX ?_
 try obtain rfl := so hx
 have ht := hr _ rfl
 have hq3 := cs ht
 clear hr ht
 refine JQ.outX <| JQ.here ?_
 try obtain rfl := so hq3
 exact JQ.join () (Imp.norm (js := [0]) rfl (.cons rfl .nil))

theorem sim_merkle_Of_v1 (k : Nat) (leaves_1 : (List (Vector UInt8 32))) (r : Unit) (hm : merkle_Of k leaves_1 = some (.inr r)) : Sim Try.prog 8 [S (rL (rV 32 (rU UInt8))) leaves_1] [] (γ := Unit) (fun q => []) (fun q => .tup [.val (PTO none), .val (S (rI .i64) (2 : Int))]) := by
 unfold merkle_Of at hm
 refine Sim.of Try.func8 rfl rfl (lE rfl) (fun e0 w0 => ?_)
 refine JC.at ⟨[(0, ov (S (rL (rV 32 (rU UInt8))) leaves_1))], [], []⟩ <| jr <| jc (op_assign lb (HasO.const (p := PTO none) fun _ => rfl)) <| jc (op_assign lb .cI) <| jn <| JC.seq <| jr <| jmv rfl rfl <| jc (op_lenL lb tu22 tR) <| lI hm fun v_2 hv_2 hm => jc (op_cmpI lb tR .cI (cs hv_2)) <| jn <| jif tR hm (fun hc1 hm => ?_) (fun hc1 hm => ?_)
 · exact jr <| jc (op_assign lb (HasO.const (p := PTO none) fun _ => rfl)) <| jc (op_assign lb .cI) <| jn <| JC.ret <| JQ.outR <| JQ.done (js := []) (ss := [.val (PTO none), .val (S (rI .i64) (2 : Int))]) () (.inl rfl) (.nil rfl) rfl (.cons (.tmp rfl) (.cons (.tmp rfl) .nil)) rfl rfl rfl
 refine JC.skip <| JQ.then <| jr <| jc (op_build lb tZ52 zs52 tp52 (.S (off := 4096) rfl .cB rfl ((UpdR.snd (UpdR.fst (UpdR.self (by rfl)))).at (by rfl)) .nil) rfl) <| jx (op_boxA lb tR) fun gb_3 => jc (op_assign lb tR) <| jn <| jr <| jmv rfl rfl <| jc (op_nilCheck lb tR (fun e v h => by subst h; rfl)) <| JL.sub ⟨[(0, ov (S (rL (rV 32 (rU UInt8))) leaves_1)), (4, ov (PTR gb_3 0)), (12, ov (PTR gb_3 0))], [cvar gb_3 zq1 zq3], []⟩ (.cons rfl (.cons rfl (.cons rfl .nil))) rfl rfl <| jc (op_fieldAddr (off := 0) lb tf52_0 tR) <| jc (op_sliceAV (l := 64) (h := 128) lb tu50 tz30 tR (.some .cI) .none (lE rfl) (lE rfl) (ltB rfl)) <| jmv rfl rfl <| lI hm fun t_4 hv_t_4 hm => jc (op_copyAV (j := 0) ld tu22 tz30 tR rfl (Comp.trans (Comp.self zq1 zq3) (Comp.at' (Comp.inF (Comp.self (rV 128 (rV 32 (rU UInt8))) ((merkle_Tree.mk (Vector.replicate 128 (Vector.replicate 32 (0 : UInt8))) false).n)) (lE rfl)) (by rfl : _ = 0)) (lE rfl)) (UpdR.fst (UpdR.self (by rfl))) (fun e a w => SrcN.list tR) (lE rfl) hv_t_4 rfl rfl) <| jn ?_
 obtain ⟨t_10, hx2, hq2⟩ := bnd_inv hm
 refine JC.seqJ (γ := Unit) (stj := fun _ => ⟨[(4, ov (PTR gb_3 0))], [cvar gb_3 r_merkle_Tree t_10], []⟩) (fun _ => ?_) ?_
 · refine jr <| jmv rfl rfl <| jc (op_assign lb tR) <| jc (op_assign lb .cI) <| jn <| JC.ret ?_
   cases hq2
 refine jr <| jc (op_assign lb .cI) <| jn <| JC.block <| JC.pre (Imp.var (j := 0) (q := r_merkle_Tree) (y := (merkle_Tree.mk t_4 true)) rfl (Wk.st Wk.refl)) ?_
 refine JC.pre ?_ (JC.loop (γ := Unit) (stf := fun s q => ⟨[(4, ov (PTR gb_3 0)), (5, ov (S (rI .i64) s.2))], [cvar gb_3 r_merkle_Tree s.1], []⟩) (q := ()) hx2 ?_)
 · exact (Imp.norm (js := [0]) rfl (.cons rfl (.cons rfl .nil)))
 intro s q x hx hr
 obtain ⟨t_5, n_6⟩ := s
 obtain _ := q
 change merkle_Of.b1 k t_5 n_6 = some x at hx
 unfold merkle_Of.b1 at hx
 refine JC.at ⟨[(4, ov (PTR gb_3 0)), (5, ov (S (rI .i64) n_6))], [cvar gb_3 r_merkle_Tree t_5], []⟩ <| JC.seq <| jr <| jmv rfl rfl <| lI hx fun v_7 hv_7 hx => jc (op_cmpI lb tR .cI (cs hv_7)) <| jn <| jif tR hx (fun hc4 hx => ?_) (fun hc4 hx => ?_)
 · refine JC.skip <| JQ.then <| JC.seq <| JC.block <| JC.region <| jmv rfl rfl <| jmv rfl rfl <| bI hx fun x_8 hv_x_8 hx => jx (op_call (js := [0]) ld cl26 (sim_merkle_Tree_inner k n_6 t_5 gb_3 x_8 hv_x_8) .func (.cons tR (.cons tR .nil)) rfl) fun _ => JL.nil <| JQ.outNB <| JQ.then <| JC.region <| jmv rfl rfl ?_
   obtain ⟨v_9, hv_9, hx⟩ := lt1_inv hx
   refine jc (op_arI lb tR .cI (cs hv_9)) <| jc (op_assign lb tR) <| JL.nil ?_
   try obtain rfl := so hx
   exact JQ.next () rfl (Imp.norm (js := [0]) rfl (.cons rfl (.cons rfl .nil)))
 refine JC.exit <| JQ.outX ?_
 try obtain rfl := so hx
 have ht := hr _ rfl
 have hq3 := cs ht
 clear hr ht
 refine JQ.outX <| JQ.here ?_
 try obtain rfl := so hq3
 exact JQ.join () (Imp.norm (js := [0]) rfl (.cons rfl .nil))

theorem sim_merkle_New_v0 (k : Nat) (r : merkle_Tree) (hm : merkle_New k = some (.inl r)) : Sim Try.prog 12 [] [] (γ := Nat) (fun q => [cvar q r_merkle_Tree r]) (fun q => .one (.val (PTR q 0))) := by
 unfold merkle_New at hm
 refine Sim.of Try.func12 rfl rfl (lE rfl) (fun e0 w0 => ?_)
 refine JC.at ⟨[], [], []⟩ <| jr <| jc (op_assign lb (HasO.const (p := PTO none) fun _ => rfl)) <| jn <| jr <| jc (op_assign lb HasO.nilH) <| jn <| bI hm fun l_13 hx1 hq1 => JC.seqJ (γ := Option Nat × Nat) (stj := fun q => ⟨[(1, ov (HDR q.1 0 (List.length l_13) q.2))], [cown q.1 (rV 32 (rU UInt8)) l_13 0 q.2], []⟩) (fun q => ?_) ?_
 · obtain ⟨go_14, gc_15⟩ := q
   refine JC.at ⟨[(1, ov (HDR go_14 0 (List.length l_13) gc_15))], [cown go_14 (rV 32 (rU UInt8)) l_13 0 gc_15], []⟩ <| jr <| jmv rfl rfl <| JL.pre (Imp.frz (j := 0) rfl (ImpK.slotH (s := 1) rfl (ImpK.slotH (s := 21) rfl ImpK.refl))) ?_
   obtain ⟨ts4, hs4, hq1⟩ := bnd_inv hq1
   rcases ts4 with ts4 | ts4
   · obtain ⟨v_16, hvv⟩ : ∃ z, z = ts4 := ⟨_, rfl⟩
     subst hvv
     dsimp only at hq1
     refine jx (op_call (js := []) ld cl8 (sim_merkle_Of_v0 k l_13 v_16 hs4) .func (.cons (HasO.wk tR wkHL) .nil) rfl) fun gb_17 => jmv rfl rfl <| jc (op_extract (i := 0) lb tR rfl) <| jc (op_extract (i := 1) lb tR rfl) <| jc (op_assign lb tR) <| jc (op_assign lb tR) <| jn <| jr <| jmv rfl rfl <| jc (op_assign lb tR) <| jn <| JC.ret ?_
     injection hq1 with hq1
     injection hq1 with hq1
     subst hq1
     exact JQ.done (js := [0]) (ss := [.val (PTR gb_17 0)]) gb_17 (.inl rfl) (.nil rfl) rfl (.cons (.tmp rfl) .nil) rfl rfl rfl
   obtain _ := ts4
   dsimp only at hq1
   refine jx (op_call (js := []) ld cl8 (sim_merkle_Of_v1 k l_13 () hs4) .func (.cons (HasO.wk tR wkHL) .nil) rfl) fun _ => jmv rfl rfl <| jc (op_extract (i := 0) lb tR rfl) <| jc (op_extract (i := 1) lb tR rfl) <| jc (op_assign lb tR) <| jc (op_assign lb tR) <| jn <| jr <| jmv rfl rfl <| jc (op_assign lb tR) <| jn <| JC.ret ?_
   cases hq1
 refine jr <| jc (op_move lb .cI) <| jn <| JC.block <| JC.pre (Imp.nilown (rV 32 (rU UInt8))) <| JC.pre ?_ (JC.loop (γ := Option Nat × Nat) (stf := fun s q => ⟨[(1, ov (HDR q.1 0 (List.length s.1) q.2)), (7, ov (S (rI .i64) s.2))], [cown q.1 (rV 32 (rU UInt8)) s.1 0 q.2], []⟩) (q := (none, 0)) hx1 ?_)
 · exact (Imp.norm (js := [0]) rfl (.cons rfl (.cons rfl .nil)))
 intro s q x hx hr
 obtain ⟨l_1, x_2⟩ := s
 obtain ⟨go_3, gc_4⟩ := q
 change merkle_New.b1 k l_1 x_2 = some x at hx
 unfold merkle_New.b1 at hx
 refine JC.at ⟨[(1, ov (HDR go_3 0 (List.length l_1) gc_4)), (7, ov (S (rI .i64) x_2))], [cown go_3 (rV 32 (rU UInt8)) l_1 0 gc_4], []⟩ <| jr <| lI hx fun v_5 hv_5 hx => jc (op_cmpI lb tR .cI (cs hv_5)) <| jn <| JC.seq <| jif tR hx (fun hc3 hx => ?_) (fun hc3 hx => ?_)
 · refine JC.skip <| JQ.then <| JC.seq <| JC.block <| jr <| jmv rfl rfl <| jc (op_assign lb tR) <| jn <| jr <| jmv rfl rfl ?_
   obtain ⟨⟨v_6, v_7⟩, hv_6, hx⟩ := bnd_inv hx
   refine jx (op_call (js := []) ld cl28 (sim_merkle_Leaf k x_2 ([] : (List UInt8)) (v_6, v_7) hv_6) .func (.cons tR (.cons (HasO.wk (q := S (rL (rU UInt8)) []) HasO.nilH wkNil) .nil)) rfl) fun _ => jmv rfl rfl <| jc (op_extract (i := 0) lb tR rfl) <| jc (op_extract (i := 1) lb tR rfl) <| jx (op_alloc lb tZ30 zr30) fun gb_8 => jc (op_storeA (j := 1) tA30 tR tR rfl (UpdR.self (by rfl)) rfl) <| JL.sub ⟨[(1, ov (HDR go_3 0 (List.length l_1) gc_4)), (3, ov (PTR gb_8 0)), (7, ov (S (rI .i64) x_2)), (14, ov (S (rI .i64) v_7))], [cown go_3 (rV 32 (rU UInt8)) l_1 0 gc_4, cvar gb_8 (rV 32 (rU UInt8)) v_6], []⟩ (.cons rfl (.cons rfl (.cons rfl (.cons rfl .nil)))) rfl rfl <| jc (op_assign lb tR) <| jn <| JC.region <| jmv rfl rfl <| jc (op_loadA (j := 1) lb tA30 tR rfl (Comp.self (rV 32 (rU UInt8)) v_6) rfl) <| jc (op_buildF (r := (rV 32 (rU UInt8))) lb tu22 tz30 tZ30 rfl (lE rfl) (.A tR .nil) rfl) <| bI hx fun l_9 hv_l_9 hx => jx (op_appendL (j := 0) lb tu22 tu22 rfl tB30 rfl (Nat.lt_of_lt_of_le Nat.zero_lt_one (lE rfl)) (Nat.lt_of_lt_of_le Nat.zero_lt_one (lE rfl))  rfl tR tR hv_l_9) (fun q => ?_)
   obtain ⟨go_10, gc_11⟩ := q
   refine jc (op_assign lb tR) <| JL.nil <| JQ.outNB <| JQ.then <| JC.region <| lI hx fun v_12 hv_12 hx => jc (op_arI lb tR .cI (cs hv_12)) <| jmv rfl rfl <| JL.nil ?_
   try obtain rfl := so hx
   exact JQ.next (go_10, gc_11) rfl (Imp.norm (js := [0]) rfl (.cons rfl (.cons rfl .nil)))
 refine JC.exit <| JQ.outX ?_
 try obtain rfl := so hx
 have ht := hr _ rfl
 have hq2 := cs ht
 clear hr ht
 refine JQ.outX <| JQ.here ?_
 try obtain rfl := so hq2
 exact JQ.join (go_3, gc_4) (Imp.norm (js := [0]) rfl (.cons rfl .nil))

theorem sim_merkle_New_v1 (k : Nat) (r : Unit) (hm : merkle_New k = some (.inr r)) : Sim Try.prog 12 [] [] (γ := Unit) (fun q => []) (fun q => .one (.val (PTO none))) := by
 unfold merkle_New at hm
 refine Sim.of Try.func12 rfl rfl (lE rfl) (fun e0 w0 => ?_)
 refine JC.at ⟨[], [], []⟩ <| jr <| jc (op_assign lb (HasO.const (p := PTO none) fun _ => rfl)) <| jn <| jr <| jc (op_assign lb HasO.nilH) <| jn <| bI hm fun l_13 hx1 hq1 => JC.seqJ (γ := Option Nat × Nat) (stj := fun q => ⟨[(1, ov (HDR q.1 0 (List.length l_13) q.2))], [cown q.1 (rV 32 (rU UInt8)) l_13 0 q.2], []⟩) (fun q => ?_) ?_
 · obtain ⟨go_14, gc_15⟩ := q
   refine JC.at ⟨[(1, ov (HDR go_14 0 (List.length l_13) gc_15))], [cown go_14 (rV 32 (rU UInt8)) l_13 0 gc_15], []⟩ <| jr <| jmv rfl rfl <| JL.pre (Imp.frz (j := 0) rfl (ImpK.slotH (s := 1) rfl (ImpK.slotH (s := 21) rfl ImpK.refl))) ?_
   obtain ⟨ts4, hs4, hq1⟩ := bnd_inv hq1
   rcases ts4 with ts4 | ts4
   · obtain ⟨v_16, hvv⟩ : ∃ z, z = ts4 := ⟨_, rfl⟩
     subst hvv
     dsimp only at hq1
     refine jx (op_call (js := []) ld cl8 (sim_merkle_Of_v0 k l_13 v_16 hs4) .func (.cons (HasO.wk tR wkHL) .nil) rfl) fun gb_17 => jmv rfl rfl <| jc (op_extract (i := 0) lb tR rfl) <| jc (op_extract (i := 1) lb tR rfl) <| jc (op_assign lb tR) <| jc (op_assign lb tR) <| jn <| jr <| jmv rfl rfl <| jc (op_assign lb tR) <| jn <| JC.ret ?_
     cases hq1
   obtain _ := ts4
   dsimp only at hq1
   exact jx (op_call (js := []) ld cl8 (sim_merkle_Of_v1 k l_13 () hs4) .func (.cons (HasO.wk tR wkHL) .nil) rfl) fun _ => jmv rfl rfl <| jc (op_extract (i := 0) lb tR rfl) <| jc (op_extract (i := 1) lb tR rfl) <| jc (op_assign lb tR) <| jc (op_assign lb tR) <| jn <| jr <| jmv rfl rfl <| jc (op_assign lb tR) <| jn <| JC.ret <| JQ.done (js := []) (ss := [.val (PTO none)]) () (.inl rfl) (.nil rfl) rfl (.cons (.tmp rfl) .nil) rfl rfl rfl
 refine jr <| jc (op_move lb .cI) <| jn <| JC.block <| JC.pre (Imp.nilown (rV 32 (rU UInt8))) <| JC.pre ?_ (JC.loop (γ := Option Nat × Nat) (stf := fun s q => ⟨[(1, ov (HDR q.1 0 (List.length s.1) q.2)), (7, ov (S (rI .i64) s.2))], [cown q.1 (rV 32 (rU UInt8)) s.1 0 q.2], []⟩) (q := (none, 0)) hx1 ?_)
 · exact (Imp.norm (js := [0]) rfl (.cons rfl (.cons rfl .nil)))
 intro s q x hx hr
 obtain ⟨l_1, x_2⟩ := s
 obtain ⟨go_3, gc_4⟩ := q
 change merkle_New.b1 k l_1 x_2 = some x at hx
 unfold merkle_New.b1 at hx
 refine JC.at ⟨[(1, ov (HDR go_3 0 (List.length l_1) gc_4)), (7, ov (S (rI .i64) x_2))], [cown go_3 (rV 32 (rU UInt8)) l_1 0 gc_4], []⟩ <| jr <| lI hx fun v_5 hv_5 hx => jc (op_cmpI lb tR .cI (cs hv_5)) <| jn <| JC.seq <| jif tR hx (fun hc3 hx => ?_) (fun hc3 hx => ?_)
 · refine JC.skip <| JQ.then <| JC.seq <| JC.block <| jr <| jmv rfl rfl <| jc (op_assign lb tR) <| jn <| jr <| jmv rfl rfl ?_
   obtain ⟨⟨v_6, v_7⟩, hv_6, hx⟩ := bnd_inv hx
   refine jx (op_call (js := []) ld cl28 (sim_merkle_Leaf k x_2 ([] : (List UInt8)) (v_6, v_7) hv_6) .func (.cons tR (.cons (HasO.wk (q := S (rL (rU UInt8)) []) HasO.nilH wkNil) .nil)) rfl) fun _ => jmv rfl rfl <| jc (op_extract (i := 0) lb tR rfl) <| jc (op_extract (i := 1) lb tR rfl) <| jx (op_alloc lb tZ30 zr30) fun gb_8 => jc (op_storeA (j := 1) tA30 tR tR rfl (UpdR.self (by rfl)) rfl) <| JL.sub ⟨[(1, ov (HDR go_3 0 (List.length l_1) gc_4)), (3, ov (PTR gb_8 0)), (7, ov (S (rI .i64) x_2)), (14, ov (S (rI .i64) v_7))], [cown go_3 (rV 32 (rU UInt8)) l_1 0 gc_4, cvar gb_8 (rV 32 (rU UInt8)) v_6], []⟩ (.cons rfl (.cons rfl (.cons rfl (.cons rfl .nil)))) rfl rfl <| jc (op_assign lb tR) <| jn <| JC.region <| jmv rfl rfl <| jc (op_loadA (j := 1) lb tA30 tR rfl (Comp.self (rV 32 (rU UInt8)) v_6) rfl) <| jc (op_buildF (r := (rV 32 (rU UInt8))) lb tu22 tz30 tZ30 rfl (lE rfl) (.A tR .nil) rfl) <| bI hx fun l_9 hv_l_9 hx => jx (op_appendL (j := 0) lb tu22 tu22 rfl tB30 rfl (Nat.lt_of_lt_of_le Nat.zero_lt_one (lE rfl)) (Nat.lt_of_lt_of_le Nat.zero_lt_one (lE rfl))  rfl tR tR hv_l_9) (fun q => ?_)
   obtain ⟨go_10, gc_11⟩ := q
   refine jc (op_assign lb tR) <| JL.nil <| JQ.outNB <| JQ.then <| JC.region <| lI hx fun v_12 hv_12 hx => jc (op_arI lb tR .cI (cs hv_12)) <| jmv rfl rfl <| JL.nil ?_
   try obtain rfl := so hx
   exact JQ.next (go_10, gc_11) rfl (Imp.norm (js := [0]) rfl (.cons rfl (.cons rfl .nil)))
 refine JC.exit <| JQ.outX ?_
 try obtain rfl := so hx
 have ht := hr _ rfl
 have hq2 := cs ht
 clear hr ht
 refine JQ.outX <| JQ.here ?_
 try obtain rfl := so hq2
 exact JQ.join (go_3, gc_4) (Imp.norm (js := [0]) rfl (.cons rfl .nil))

theorem sim_merkle_Tree_there (k : Nat) (t_1 : merkle_Tree) (gb_2 : Nat) (r : Unit) (hm : merkle_Tree_there k t_1 = some r) : Sim Try.prog 29 [PTR gb_2 0] [cvar gb_2 r_merkle_Tree t_1] (γ := Unit) (fun q => [cvar gb_2 r_merkle_Tree t_1]) (fun q => .one (.val (S rB t_1.is))) := by
 unfold merkle_Tree_there at hm
 refine Sim.of Try.func29 rfl rfl (lE rfl) (fun e0 w0 => ?_)
 refine JC.at ⟨[(0, ov (PTR gb_2 0))], [cvar gb_2 r_merkle_Tree t_1], []⟩ <| jr <| jc (op_assign lb .cB) <| jn <| bI hm fun _ hx1 hq1 => JC.seqJ (γ := Unit) (stj := fun _ => ⟨[(2, ov (S rB t_1.is))], [cvar gb_2 r_merkle_Tree t_1], []⟩) (fun _ => ?_) ?_
 · exact JC.ret <| JQ.done (js := [0]) (ss := [.val (S rB t_1.is)]) () (.inl rfl) (.nil rfl) rfl (.cons (.tmp rfl) .nil) rfl rfl rfl
 exact JC.region <| jmv rfl rfl <| jc (op_nilP (neg := true) lb tu24 tR (HasO.const (p := PTO none) fun _ => rfl)) <| jmv rfl rfl <| JL.run (.yes rfl (ltB rfl) rfl rfl) (op_move lb tR) <| JL.run (.yes rfl (ltB rfl) rfl rfl) (op_nilCheck lb tR (fun e v h => by subst h; rfl)) <| JL.run (.yes rfl (ltB rfl) rfl rfl) (op_fieldAddr (off := 4096) lb tf52_1 tR) <| JL.run (.yes rfl (ltB rfl) rfl rfl) (op_loadS (j := 0) lb tS4 tR rfl (cT (comp_merkle_Tree_is t_1) rfl) rfl rfl) <| jc (op_pickT lb tR rfl tR) <| jc (op_assign lb tR) <| JL.nil <| JQ.join () (Imp.norm (js := [0]) rfl (.cons rfl .nil))

theorem sim_merkle_Tree_Leaves (k : Nat) (t_1 : merkle_Tree) (gb_2 : Nat) (r : (List (Vector UInt8 32))) (hm : merkle_Tree_Leaves k t_1 = some r) : Sim Try.prog 23 [PTR gb_2 0] [cvar gb_2 r_merkle_Tree t_1] (γ := Option Nat × Nat) (fun q => [cown q.1 (rV 32 (rU UInt8)) r 0 q.2, cvar gb_2 r_merkle_Tree t_1]) (fun q => .one (.val (HDR q.1 0 (List.length r) q.2))) := by
 unfold merkle_Tree_Leaves at hm
 refine Sim.of Try.func23 rfl rfl (lE rfl) (fun e0 w0 => ?_)
 refine JC.at ⟨[(0, ov (PTR gb_2 0))], [cvar gb_2 r_merkle_Tree t_1], []⟩ <| jr <| jc (op_assign lb HasO.nilH) <| jn <| JC.seq <| jr <| jmv rfl rfl <| bI hm fun _ hv_u_3 hm => jx (op_call (js := [0]) ld cl29 (sim_merkle_Tree_there k t_1 gb_2 () hv_u_3) .func (.cons tR .nil) rfl) fun _ => lI hm fun v_4 hv_4 hm => jc (op_not lb tR hv_4) <| jn <| jif tR hm (fun hc1 hm => ?_) (fun hc1 hm => ?_)
 · refine jr <| jc (op_assign lb HasO.nilH) <| jn <| JC.ret <| JQ.outR ?_
   obtain rfl := so hm
   exact JQ.pre (Imp.nilown (rV 32 (rU UInt8))) <| JQ.done (js := [1, 0]) (ss := [.val (HDR none 0 (List.length ([] : (List (Vector UInt8 32)))) (0))]) (none, 0) (.inl rfl) (.nil rfl) rfl (.cons (.tmp rfl) .nil) rfl rfl rfl
 refine JC.skip <| JQ.then <| jr <| bI hm fun v_5 hv_5 hm => jx (op_makeOg lb tu22 tB30 zv30 .cI .cI hv_5) fun gb_6 => jc (op_assign lb tR) <| jn <| jr <| jmv rfl rfl <| jmv rfl rfl <| JL.sub ⟨[(3, ov (HDR (some gb_6) 0 (List.length v_5) (Int.toNat (64 : Int)))), (8, ov (HDR (some gb_6) 0 (List.length v_5) (Int.toNat (64 : Int)))), (9, ov (PTR gb_2 0))], [cvar gb_2 r_merkle_Tree t_1, cown (some gb_6) (rV 32 (rU UInt8)) v_5 0 (Int.toNat (64 : Int))], []⟩ (.cons rfl (.cons rfl (.cons rfl .nil))) rfl rfl <| jc (op_nilCheck lb tR (fun e v h => by subst h; rfl)) <| jc (op_fieldAddr (off := 0) lb tf52_0 tR) <| bI hm fun v_7 hv_7 hm => jc (op_sliceB lb tu50 tz30 tR (cT (comp_merkle_Tree_n t_1) rfl) (.some .cI) .none hv_7) ?_
 refine lI hm fun l_8 hv_l_8 hm => jc (op_copyO (j := 1) ld tu22 tz30 tR rfl (fun e a w => SrcN.bor (j := 0) rfl (EF.v EF.u) tR) hv_l_8 rfl) <| JL.pre (Imp.slot (s := 3) (q := HDR (some gb_6) 0 (List.length l_8) (Int.toNat (64 : Int))) rfl (wkLen (cpL_len hv_l_8))) <| JL.pre (Imp.slot (s := 8) (q := HDR (some gb_6) 0 (List.length l_8) (Int.toNat (64 : Int))) rfl (wkLen (cpL_len hv_l_8))) <| jn <| jr <| jmv rfl rfl <| jc (op_assign lb tR) <| jn <| JC.ret ?_
 obtain rfl := so hm
 exact JQ.done (js := [1, 0]) (ss := [.val (HDR (some gb_6) 0 (List.length l_8) (Int.toNat (64 : Int)))]) ((some gb_6), (Int.toNat (64 : Int))) (.inl rfl) (.nil rfl) rfl (.cons (.tmp rfl) .nil) rfl rfl rfl

theorem sim_sha_Equal (k : Nat) (a_1 : (Vector UInt8 32)) (b_2 : (Vector UInt8 32)) (r : Bool) (hm : sha_Equal k a_1 b_2 = some r) : Sim Try.prog 36 [A (rV 32 (rU UInt8)) a_1, A (rV 32 (rU UInt8)) b_2] [] (γ := Unit) (fun q => []) (fun q => .one (.val (S rB r))) := by
 unfold sha_Equal at hm
 refine Sim.of Try.func36 rfl rfl (lE rfl) (fun e0 w0 => ?_)
 refine JC.at ⟨[(0, ov (A (rV 32 (rU UInt8)) a_1)), (1, ov (A (rV 32 (rU UInt8)) b_2))], [], []⟩ <| jr <| jx (op_boxA lb tR) fun gb_3 => jx (op_boxA lb tR) fun gb_4 => jc (op_assign lb .cB) <| jn <| jr <| jc (op_assign lb (HasO.cU (x := (0 : UInt8)) rfl (by decide))) <| jn <| bI hm fun x_15 hx1 hq1 => JC.seqJ (γ := Unit) (stj := fun _ => ⟨[(5, ov (S (rU UInt8) x_15))], [], []⟩) (fun _ => ?_) ?_
 · refine jr <| jmv rfl rfl <| lI hq1 fun v_16 hv_16 hq1 => jc (op_cmpU lb tR (HasO.cU (x := (0 : UInt8)) rfl (by decide)) (cs hv_16)) <| jc (op_assign lb tR) <| jn <| JC.ret ?_
   obtain rfl := so hq1
   exact jd (.val (S rB v_16)) rfl rfl rfl rfl rfl rfl
 refine jr <| jc (op_move lb .cI) <| jn <| JC.block <| JC.pre ?_ (JC.loop (γ := Unit) (stf := fun s q => ⟨[(2, ov (PTR gb_3 0)), (3, ov (PTR gb_4 0)), (5, ov (S (rU UInt8) s.1)), (7, ov (S (rI .i64) s.2))], [cvar gb_3 (rV 32 (rU UInt8)) a_1, cvar gb_4 (rV 32 (rU UInt8)) b_2], []⟩) (q := ()) hx1 ?_)
 · exact (Imp.norm (js := [0, 0]) rfl (.cons rfl (.cons rfl (.cons rfl (.cons rfl .nil)))))
 intro s q x hx hr
 obtain ⟨x_5, x_6⟩ := s
 obtain _ := q
 change sha_Equal.b1 k a_1 b_2 x_5 x_6 = some x at hx
 unfold sha_Equal.b1 at hx
 refine JC.at ⟨[(2, ov (PTR gb_3 0)), (3, ov (PTR gb_4 0)), (5, ov (S (rU UInt8) x_5)), (7, ov (S (rI .i64) x_6))], [cvar gb_3 (rV 32 (rU UInt8)) a_1, cvar gb_4 (rV 32 (rU UInt8)) b_2], []⟩ <| jr <| lI hx fun v_7 hv_7 hx => jc (op_cmpI lb tR .cI (cs hv_7)) <| jn <| JC.seq <| jif tR hx (fun hc3 hx => ?_) (fun hc3 hx => ?_)
 · refine JC.skip <| JQ.then <| JC.seq <| JC.block <| jr <| jmv rfl rfl <| jc (op_assign lb tR) <| jn <| bI hx fun i_8 hv_i_8 hx => lI hx fun v_9 hv_9 hx => bI hx fun i_10 hv_i_10 hx => lI hx fun v_11 hv_11 hx => lI hx fun v_12 hv_12 hx => ?_
   obtain ⟨v_13, hv_13, hx⟩ := lt1_inv hx
   refine JC.anyE (kl := [5]) (kk := 9) (base := [(2, ov (PTR gb_3 0)), (3, ov (PTR gb_4 0)), (5, ov (S (rU UInt8) x_5)), (6, ov (S (rI .i64) x_6)), (7, ov (S (rI .i64) x_6))])
       (fs := fun γ => [⟨some 10, ov (S (rU UInt8) x_5)⟩, ⟨some 11, ov (S (rI .i64) x_6)⟩, ⟨some 12, ov (PTR gb_3 (0 + i_8.1 * 1))⟩, ⟨some 13, ov (S (rU UInt8) v_9)⟩, ⟨some 14, ov (S (rI .i64) x_6)⟩, ⟨some 15, ov (PTR gb_4 (0 + i_10.1 * 1))⟩, ⟨some 16, ov (S (rU UInt8) v_11)⟩, ⟨some 17, ov (S (rU UInt8) v_12)⟩, ⟨some 18, ov (S (rU UInt8) v_13)⟩, ⟨some 5, ov (S (rU UInt8) v_13)⟩])
       (rs := fun γ => [⟨cvar gb_3 (rV 32 (rU UInt8)) a_1, none, none, [3]⟩, ⟨cvar gb_4 (rV 32 (rU UInt8)) b_2, none, none, [6]⟩])
       (ds := [10, 11, 12, 13, 14, 15, 16, 17, 18, 5]) (bs := [2, 3, 5, 6, 7]) (afts := nn 10) (js := [0, 0]) mixed (.cons rfl (.cons rfl (.cons rfl (.cons rfl (.cons rfl .nil))))) (fun _ => rfl)
       (by
      refine db 1 5 <| db 2 6 <| dS 3 (fun γ ρ B hb hd => op_indexAddrIF lb tr30 (.tmp (hb 2 _ rfl)) (tl hd 1 11) hv_i_8) <| dR 4 (fun γ ρ B hb hd => OpStep.lk ⟨ρ, (cvar gb_3 (rV 32 (rU UInt8)) a_1) :: B, _⟩ (op_loadS (j := 0) lb tS5 (tl hd 2 12) rfl (Comp.at (Comp.self (rV 32 (rU UInt8)) a_1) i_8.2 rfl) rfl hv_9)) <| db 5 6 ?_
      refine dS 6 (fun γ ρ B hb hd => op_indexAddrIF lb tr30 (.tmp (hb 3 _ rfl)) (tl hd 4 14) hv_i_10) <| dR 7 (fun γ ρ B hb hd => OpStep.lk ⟨ρ, (cvar gb_4 (rV 32 (rU UInt8)) b_2) :: B, _⟩ (op_loadS (j := 0) lb tS5 (tl hd 5 15) rfl (Comp.at (Comp.self (rV 32 (rU UInt8)) b_2) i_10.2 rfl) rfl hv_11)) <| dS 8 (fun γ ρ B hb hd => op_arU lb (tl hd 3 13) (tl hd 6 16) (cs hv_12)) <| dS 9 (fun γ ρ B hb hd => op_arU lb (tl hd 0 10) (tl hd 7 17) (cs hv_13)) <| dS 10 (fun γ ρ B hb hd => op_assign lb (tl hd 8 18)) ?_
      exact DSteps.nil)
       (by decide +kernel) (fun _ => rfl) rfl (fun _ => rfl) (fun _ => rfl) rfl (by decide) (by decide) (by decide +kernel) (fun _ d h => by simp at h; subst h; exact ⟨_, rfl, rfl⟩)
       (ρ' := fun γ => [(2, ov (PTR gb_3 0)), (3, ov (PTR gb_4 0)), (5, ov (S (rU UInt8) v_13)), (7, ov (S (rI .i64) x_6))])
       (X' := fun γ => [cvar gb_3 (rV 32 (rU UInt8)) a_1, cvar gb_4 (rV 32 (rU UInt8)) b_2])
       (fun γ ρ hb hd => (.cons (hb 2 _ rfl (by decide)) (.cons (hb 3 _ rfl (by decide)) (.cons (hdq hd 9 5 rfl) (.cons (hb 7 _ rfl (by decide)) .nil))))) (fun _ => rfl) (fun γ => ?_)
   refine JQ.at ⟨[(2, ov (PTR gb_3 0)), (3, ov (PTR gb_4 0)), (5, ov (S (rU UInt8) v_13)), (7, ov (S (rI .i64) x_6))], [cvar gb_3 (rV 32 (rU UInt8)) a_1, cvar gb_4 (rV 32 (rU UInt8)) b_2], []⟩ <| JQ.outNB <| JQ.then <| JC.region <| lI hx fun v_14 hv_14 hx => jc (op_arI lb tR .cI (cs hv_14)) <| jmv rfl rfl <| JL.nil ?_
   try obtain rfl := so hx
   exact JQ.next () rfl (Imp.norm (js := [0, 0]) rfl (.cons rfl (.cons rfl (.cons rfl (.cons rfl .nil)))))
 refine JC.exit <| JQ.outX ?_
 try obtain rfl := so hx
 have ht := hr _ rfl
 have hq2 := cs ht
 clear hr ht
 refine JQ.outX <| JQ.here ?_
 try obtain rfl := so hq2
 exact jo rfl rfl rfl

theorem sim_merkle_Tree_Diff_1_vppppp_vpvrocrrrrr (d k : Nat) (n_1 : Int) (x_2 : Int) (x_5 : merkle_Tree) (x_9 : (List Int)) (gb_3 : Nat) (gb_4 : Nat) (gb_6 : Nat) (gb_7 : Nat) (gb_8 : Nat) (go_10 : Option Nat) (gc_11 : Nat) (gb_12 : Nat) (r : Int × (List Int)) (hm : merkle_Tree_Diff_1_vppppp_vpvrocrrrrr d k n_1 x_2 x_5 x_9 = some r) : Sim Try.prog 35 [S (rI .i64) n_1, PTR gb_3 0, PTR gb_4 0, PTR gb_7 0, PTR gb_8 0, PTR gb_12 0] [cvar gb_3 (rI .i64) x_2, cvar gb_4 (rW (PTR gb_6 0)) (), cvar gb_6 r_merkle_Tree x_5, cvar gb_7 (rW (PTR gb_6 0)) (), cvar gb_8 (rW (HDR go_10 0 (List.length x_9) gc_11)) (), cown go_10 (rI .i64) x_9 0 gc_11, zq4 gb_12 gb_3 gb_4 gb_7 gb_8] (γ := Option Nat × Nat) (fun q => [cvar gb_3 (rI .i64) r.1, cvar gb_4 (rW (PTR gb_6 0)) (), cvar gb_6 r_merkle_Tree x_5, cvar gb_7 (rW (PTR gb_6 0)) (), cvar gb_8 (rW (HDR q.1 0 (List.length r.2) q.2)) (), cown q.1 (rI .i64) r.2 0 q.2, zq4 gb_12 gb_3 gb_4 gb_7 gb_8]) (fun q => .tup []) := by
 induction d generalizing n_1 x_2 x_5 x_9 gb_3 gb_4 gb_6 gb_7 gb_8 go_10 gc_11 gb_12 r with
 | zero => cases hm
 | succ d ih =>
  replace ih := fun _ : Nat => @ih
  change merkle_Tree_Diff_1_vppppp_vpvrocrrrrr.bd (merkle_Tree_Diff_1_vppppp_vpvrocrrrrr d) k n_1 x_2 x_5 x_9 = _ at hm
  unfold merkle_Tree_Diff_1_vppppp_vpvrocrrrrr.bd at hm
  refine Sim.of Try.func35 rfl rfl (lE rfl) (fun e0 w0 => ?_)
  refine JC.at ⟨[(0, ov (S (rI .i64) n_1)), (1, ov (PTR gb_3 0)), (2, ov (PTR gb_4 0)), (3, ov (PTR gb_7 0)), (4, ov (PTR gb_8 0)), (5, ov (PTR gb_12 0))], [cvar gb_3 (rI .i64) x_2, cvar gb_4 (rW (PTR gb_6 0)) (), cvar gb_6 r_merkle_Tree x_5, cvar gb_7 (rW (PTR gb_6 0)) (), cvar gb_8 (rW (HDR go_10 0 (List.length x_9) gc_11)) (), cown go_10 (rI .i64) x_9 0 gc_11, zq4 gb_12 gb_3 gb_4 gb_7 gb_8], []⟩ <| jr <| jc (op_loadS (j := 0) lb tS3 tR rfl (Comp.self (rI .i64) x_2) rfl rfl) <| lI hm fun v_13 hv_13 hm => jc (op_arI lb tR .cI (cs hv_13)) <| jc (op_storeS (j := 0) tS3 tR tR rfl rfl (UpdR.self (by rfl)) rfl) <| jn <| JC.block <| JC.seq <| bI hm fun i_14 hv_i_14 hm => lI hm fun v_15 hv_15 hm => bI hm fun i_16 hv_i_16 hm => lI hm fun v_17 hv_17 hm => ?_
  obtain ⟨v_18, hv_18, hm⟩ := bnd_inv hm
  refine JC.anyF (base := [(0, ov (S (rI .i64) n_1)), (2, ov (PTR gb_4 0)), (3, ov (PTR gb_7 0)), (4, ov (PTR gb_8 0)), (5, ov (PTR gb_12 0))])
      (fs := fun γ => [⟨some 19, ov (PTR gb_6 0)⟩, ⟨some 20, ov (S (rI .i64) n_1)⟩, ⟨some 21, ov (PTR gb_6 0)⟩, ⟨some 22, ov (PTR gb_6 (0 + 0))⟩, ⟨some 23, ov (PTR gb_6 ((0 + 0) + i_14.1 * 32))⟩, ⟨some 24, ov (A (rV 32 (rU UInt8)) v_15)⟩, ⟨some 25, ov (PTR gb_6 0)⟩, ⟨some 26, ov (S (rI .i64) n_1)⟩, ⟨some 27, ov (PTR gb_6 0)⟩, ⟨some 28, ov (PTR gb_6 (0 + 0))⟩, ⟨some 29, ov (PTR gb_6 ((0 + 0) + i_16.1 * 32))⟩, ⟨some 30, ov (A (rV 32 (rU UInt8)) v_17)⟩, ⟨some 31, ov (S rB v_18)⟩, ⟨some 18, ov (S rB v_18)⟩])
      (rs := fun γ => [⟨cvar gb_3 (rI .i64) v_13, none, none, []⟩, ⟨cvar gb_4 (rW (PTR gb_6 0)) (), none, none, [0]⟩, ⟨cvar gb_6 r_merkle_Tree x_5, none, none, [5, 11]⟩, ⟨cvar gb_7 (rW (PTR gb_6 0)) (), none, none, [6]⟩, ⟨cvar gb_8 (rW (HDR go_10 0 (List.length x_9) gc_11)) (), none, none, []⟩, ⟨cown go_10 (rI .i64) x_9 0 gc_11, none, none, []⟩, ⟨zq4 gb_12 gb_3 gb_4 gb_7 gb_8, none, none, []⟩])
      (afts := nn 14) (js := [0, 0, 0, 0, 0, 0, 0]) mixed (.cons rfl (.cons rfl (.cons rfl (.cons rfl (.cons rfl .nil))))) (fun _ => rfl)
      (by
      refine dR 1 (fun γ ρ B hb hd => OpStep.lk ⟨ρ, (cvar gb_4 (rW (PTR gb_6 0)) ()) :: B, _⟩ (op_loadW (j := 0) lb tS24 (.tmp (hb 2 _ rfl)) rfl (Comp.self (rW (PTR gb_6 0)) ()))) <| db 2 0 <| dS 3 (fun γ ρ B hb hd => op_nilCheck lb (tl hd 0 19) (fun e v h => by subst h; rfl)) <| dS 4 (fun γ ρ B hb hd => op_fieldAddr (off := 0) lb tf52_0 (tl hd 2 21)) <| dS 5 (fun γ ρ B hb hd => op_indexAddrIF lb tr50 (tl hd 3 22) (tl hd 1 20) hv_i_14) ?_
      refine dR 6 (fun γ ρ B hb hd => OpStep.lk ⟨ρ, (cvar gb_6 r_merkle_Tree x_5) :: B, _⟩ (op_loadA (j := 0) lb tA30 (tl hd 4 23) rfl (Comp.at (cT (comp_merkle_Tree_n x_5) rfl) i_14.2 rfl) hv_15)) <| dR 7 (fun γ ρ B hb hd => OpStep.lk ⟨ρ, (cvar gb_7 (rW (PTR gb_6 0)) ()) :: B, _⟩ (op_loadW (j := 0) lb tS24 (.tmp (hb 3 _ rfl)) rfl (Comp.self (rW (PTR gb_6 0)) ()))) <| db 8 0 <| dS 9 (fun γ ρ B hb hd => op_nilCheck lb (tl hd 6 25) (fun e v h => by subst h; rfl)) <| dS 10 (fun γ ρ B hb hd => op_fieldAddr (off := 0) lb tf52_0 (tl hd 8 27)) ?_
      refine dS 11 (fun γ ρ B hb hd => op_indexAddrIF lb tr50 (tl hd 9 28) (tl hd 7 26) hv_i_16) <| dR 12 (fun γ ρ B hb hd => OpStep.lk ⟨ρ, (cvar gb_6 r_merkle_Tree x_5) :: B, _⟩ (op_loadA (j := 0) lb tA30 (tl hd 10 29) rfl (Comp.at (cT (comp_merkle_Tree_n x_5) rfl) i_16.2 rfl) hv_17)) <| dS 13 (fun γ ρ B hb hd => (op_call (js := []) ld cl36 (sim_sha_Equal k v_15 v_17 v_18 hv_18) .func (.cons (tl hd 5 24) (.cons (tl hd 11 30) .nil)) rfl).post (fun _ => Imp.refl)) <| dS 14 (fun γ ρ B hb hd => op_assign lb (tl hd 12 31)) ?_
      exact DSteps.nil)
      (by decide +kernel) (fun _ => rfl) (fun _ => rfl) (fun _ => rfl) rfl
      (ρ' := fun γ => [(0, ov (S (rI .i64) n_1)), (4, ov (PTR gb_8 0)), (5, ov (PTR gb_12 0)), (18, ov (S rB v_18))])
      (X' := fun γ => [cvar gb_3 (rI .i64) v_13, cvar gb_4 (rW (PTR gb_6 0)) (), cvar gb_6 r_merkle_Tree x_5, cvar gb_7 (rW (PTR gb_6 0)) (), cvar gb_8 (rW (HDR go_10 0 (List.length x_9) gc_11)) (), cown go_10 (rI .i64) x_9 0 gc_11, zq4 gb_12 gb_3 gb_4 gb_7 gb_8])
      (fun γ ρ hb hd => (.cons (hb 0 _ rfl) (.cons (hb 4 _ rfl) (.cons (hb 5 _ rfl) (.cons (hdq hd 13 18 rfl) .nil))))) (fun _ => rfl) (fun γ => ?_)
  refine JQ.at ⟨[(0, ov (S (rI .i64) n_1)), (4, ov (PTR gb_8 0)), (5, ov (PTR gb_12 0)), (18, ov (S rB v_18))], [cvar gb_3 (rI .i64) v_13, cvar gb_4 (rW (PTR gb_6 0)) (), cvar gb_6 r_merkle_Tree x_5, cvar gb_7 (rW (PTR gb_6 0)) (), cvar gb_8 (rW (HDR go_10 0 (List.length x_9) gc_11)) (), cown go_10 (rI .i64) x_9 0 gc_11, zq4 gb_12 gb_3 gb_4 gb_7 gb_8], []⟩ <| JQ.then ?_
  rcases iteB_inv hm with ⟨hc1, hm⟩ | ⟨hc1, hm⟩
  · refine JC.condT tR hc1 <| JC.skip <| JQ.outNB ?_
    obtain rfl := so hm
    exact JQ.done (js := [0, 0, 0, 0, 0, 0, 0]) (ss := []) (go_10, gc_11) (.inr rfl) (.nil rfl) rfl .nil rfl rfl rfl
  · refine JC.condF tR hc1 <| jr <| jmv rfl rfl <| lI hm fun v_19 hv_19 hm => jc (op_cmpI lb tR .cI (cs hv_19)) <| jc (op_assign lb tR) <| jn ?_
    rcases iteB_inv hm with ⟨hc2, hm⟩ | ⟨hc2, hm⟩
    · refine JC.condT tR hc2 <| JC.region <| jc (op_loadW (j := 4) lb tS53 tR rfl (Comp.self (rW (HDR go_10 0 (List.length x_9) gc_11)) ())) <| jmv rfl rfl <| lI hm fun v_20 hv_20 hm => jc (op_arI lb tR .cI (cs hv_20)) <| jc (op_buildF (r := (rI .i64)) lb tu53 tz3 tZ3 rfl (lE rfl) (.S rfl tR .nil) rfl) <| bI hm fun x_21 hv_x_21 hm => jx (op_appendL (j := 5) lb tu53 tu53 rfl tB3 rfl (Nat.lt_of_lt_of_le Nat.zero_lt_one (lE rfl)) (Nat.lt_of_lt_of_le Nat.zero_lt_one (lE rfl))  rfl tR tR hv_x_21) (fun q => ?_)
      obtain ⟨go_22, gc_23⟩ := q
      refine jc (op_storeW (j := 4) tS53 tR tR rfl (UpdR.self (by rfl)) rfl) <| JL.sub ⟨[], [cvar gb_3 (rI .i64) v_13, cvar gb_4 (rW (PTR gb_6 0)) (), cvar gb_6 r_merkle_Tree x_5, cvar gb_7 (rW (PTR gb_6 0)) (), cvar gb_8 (rW (HDR go_22 0 (List.length x_21) gc_23)) (), cown go_22 (rI .i64) x_21 0 gc_23, zq4 gb_12 gb_3 gb_4 gb_7 gb_8], []⟩ .nil rfl rfl <| JL.nil <| JQ.outNB ?_
      obtain rfl := so hm
      exact JQ.done (js := [0, 0, 0, 0, 0, 0, 0]) (ss := []) (go_22, gc_23) (.inr rfl) (.nil rfl) rfl .nil rfl rfl rfl
    · refine JC.condF tR hc2 <| jr <| jc (op_loadW (j := 6) lb tS57 tR rfl (Comp.self (rW (CLO 35 [PTR gb_3 0, PTR gb_4 0, PTR gb_7 0, PTR gb_8 0, PTR gb_12 0])) ())) <| jmv rfl rfl <| lI hm fun v_24 hv_24 hm => jc (op_arI lb .cI tR (cs hv_24)) ?_
      obtain ⟨⟨x_25, x_26⟩, hv_x_25, hm⟩ := bnd_inv hm
      refine jx (op_call (js := [0, 0, 0, 0, 0, 0, 0]) ld cl35 (ih k v_24 v_13 x_5 x_9 gb_3 gb_4 gb_6 gb_7 gb_8 go_10 gc_11 gb_12 (x_25, x_26) hv_x_25) tR (.cons tR .nil) rfl) (fun q => ?_)
      obtain ⟨go_27, gc_28⟩ := q
      refine jn <| JC.region <| jc (op_loadW (j := 6) lb tS57 tR rfl (Comp.self (rW (CLO 35 [PTR gb_3 0, PTR gb_4 0, PTR gb_7 0, PTR gb_8 0, PTR gb_12 0])) ())) <| jmv rfl rfl <| lI hm fun v_29 hv_29 hm => jc (op_arI lb .cI tR (cs hv_29)) <| JL.sub ⟨[(13, ov (CLO 35 [PTR gb_3 0, PTR gb_4 0, PTR gb_7 0, PTR gb_8 0, PTR gb_12 0])), (15, ov (S (rI .i64) v_29))], [cvar gb_3 (rI .i64) x_25, cvar gb_4 (rW (PTR gb_6 0)) (), cvar gb_6 r_merkle_Tree x_5, cvar gb_7 (rW (PTR gb_6 0)) (), cvar gb_8 (rW (HDR go_27 0 (List.length x_26) gc_28)) (), cown go_27 (rI .i64) x_26 0 gc_28, zq4 gb_12 gb_3 gb_4 gb_7 gb_8], []⟩ (.cons rfl (.cons rfl .nil)) rfl rfl <| lI hm fun v_30 hv_30 hm => jc (op_arI lb tR .cI (cs hv_30)) ?_
      obtain ⟨⟨x_31, x_32⟩, hv_x_31, hm⟩ := bnd_inv hm
      refine jx (op_call (js := [0, 0, 0, 0, 0, 0, 0]) ld cl35 (ih k v_30 x_25 x_5 x_26 gb_3 gb_4 gb_6 gb_7 gb_8 go_27 gc_28 gb_12 (x_31, x_32) hv_x_31) tR (.cons tR .nil) rfl) (fun q => ?_)
      obtain ⟨go_33, gc_34⟩ := q
      refine JL.nil <| JQ.outNB ?_
      obtain rfl := so hm
      exact JQ.done (js := [0, 0, 0, 0, 0, 0, 0]) (ss := []) (go_33, gc_34) (.inr rfl) (.nil rfl) rfl .nil rfl rfl rfl

end Go.Proofs.Ytbflmobpbjnekaa
