/- Walks. -/
import Derived.Test.YtipchpbcjkhnaaaT
import Derived.Test.YtipchpbcjkhnaaaW2
namespace Go.Proofs.Ytipchpbcjkhnaaa
open Go Fw
set_option linter.unusedVariables false
set_option maxRecDepth 100000
set_option maxHeartbeats 4000000

theorem sim_law05_full_p_smvvvvm (k : Nat) (capacity_1 : Int) (fuse_2 : Int) (dead_3 : Bool) (writes_4 : Int) (x_6 : (List ((List UInt8) × disk_file))) (gb_5 : Nat) (go_7 : Option Nat) (gbe_8 : ((List UInt8) → Nat)) (r : Bool) (hm : law05_full_p_smvvvvm k capacity_1 fuse_2 dead_3 writes_4 x_6 = some r) : Sim Try.prog 14 [PTR gb_5 0] [cvar gb_5 (zq1 go_7) ((), (capacity_1, (fuse_2, (dead_3, (writes_4, ()))))), cqm go_7 (S rS) r_disk_file gbe_8 (some x_6)] (γ := Unit) (fun q => [cvar gb_5 (zq1 go_7) ((), (capacity_1, (fuse_2, (dead_3, (writes_4, ()))))), cqm go_7 (S rS) r_disk_file gbe_8 (some x_6)]) (fun q => .one (.val (S rB r))) := by
 unfold law05_full_p_smvvvvm at hm
 refine Sim.of Try.func14 rfl rfl (lE rfl) (fun e0 w0 => ?_)
 refine JC.at ⟨[(0, ov (PTR gb_5 0))], [cvar gb_5 (zq1 go_7) ((), (capacity_1, (fuse_2, (dead_3, (writes_4, ()))))), cqm go_7 (S rS) r_disk_file gbe_8 (some x_6)], []⟩ <| jr <| jc (op_assign lb .cB) <| jn <| jr <| jx (op_alloc lb tZ3 zr3) fun gb_9 => jc (op_storeS (j := 2) tS3 tR .cI rfl rfl (UpdR.self (by rfl)) rfl) <| jn <| JC.seq <| jr <| jmv rfl rfl ?_
 obtain ⟨⟨v_10, x_11⟩, hv_10, hm⟩ := bnd_inv hm
 refine jx (op_call (js := [0, 0]) ld cl15 (sim_disk_Disk_Files_p_smvvvvm k capacity_1 fuse_2 dead_3 writes_4 x_6 gb_5 go_7 gbe_8 (v_10, x_11) hv_10) .func (.cons tR .nil) rfl) (fun q => ?_)
 obtain ⟨gb_12, go_13, gc_14, gb_15, go_16, gc_17⟩ := q
 refine jc (op_nilFn (neg := false) lb un41 tR (HasO.const (p := NILF) fun _ => rfl)) <| jn <| JC.condF tR rfl <| JC.skip <| JQ.then <| bI hm fun n_32 hx1 hq1 => JC.seqJ (γ := List Nat) (stj := fun q => ⟨[(3, ov (PTR gb_9 0))], [cvar gb_9 (rI .i64) n_32, cvar gb_5 (zq1 go_7) ((), (capacity_1, (fuse_2, (dead_3, (writes_4, ()))))), cqm go_7 (S rS) r_disk_file gbe_8 (some x_6), cdefs q], q⟩) (fun q => ?_) ?_
 · obtain ⟨gK_33, hqq⟩ : ∃ z, z = q := ⟨_, rfl⟩
   subst hqq
   refine JC.at ⟨[(3, ov (PTR gb_9 0))], [cvar gb_9 (rI .i64) n_32, cvar gb_5 (zq1 go_7) ((), (capacity_1, (fuse_2, (dead_3, (writes_4, ()))))), cqm go_7 (S rS) r_disk_file gbe_8 (some x_6), cdefs gK_33], gK_33⟩ <| jr <| jc (op_loadS (j := 0) lb tS3 tR rfl (Comp.self (rI .i64) n_32) rfl rfl) <| lI hq1 fun v_34 hv_34 hq1 => jc (op_cmpI lb tR .cI (cs hv_34)) <| jc (op_assign lb tR) <| jn <| JC.ret ?_
   obtain rfl := so hq1
   exact JQ.doneL (j := 3) (js := [1, 1]) (ss := [.val (S rB v_34)]) () (.inl rfl) rfl rfl (.cons (.tmp rfl) .nil) rfl rfl rfl
 refine jr <| jmv rfl rfl ?_
 obtain ⟨⟨v_18, x_19⟩, hv_18, hx1⟩ := bnd_inv hx1
 refine jx (op_call (js := [4, 4]) ld cl15 (sim_disk_Disk_Files_p_smvvvvm k capacity_1 fuse_2 dead_3 writes_4 x_6 gb_5 go_7 gbe_8 (v_18, x_19) hv_18) .func (.cons tR .nil) rfl) (fun q => ?_)
 obtain ⟨gb_20, go_21, gc_22, gb_23, go_24, gc_25⟩ := q
 refine JL.nrm ⟨[(3, ov (PTR gb_9 0)), (8, ov (CLO 40 [PTR gb_20 0, PTR gb_23 0]))], [cvar gb_20 (rW (HDR go_21 0 (List.length v_18) gc_22)) (), cown go_21 rS v_18 0 gc_22, cvar gb_23 (rW (HDR go_24 0 (List.length x_19) gc_25)) (), cown go_24 (rI .i64) x_19 0 gc_25, cvar gb_5 (zq1 go_7) ((), (capacity_1, (fuse_2, (dead_3, (writes_4, ()))))), cqm go_7 (S rS) r_disk_file gbe_8 (some x_6), cvar gb_9 (rI .i64) (0 : Int)], []⟩ [0, 0, 0, 0, 0, 0, 4] rfl (.cons rfl (.cons rfl .nil)) rfl <| jn <| JC.block <| bI hx1 fun tv2 hL2 hq2 => JC.pre (st' := ⟨[(3, ov (PTR gb_9 0)), (8, ov (CLO 40 [PTR gb_20 0, PTR gb_23 0]))], [cvar gb_20 (rW (HDR go_21 0 (List.length v_18) gc_22)) (), cown go_21 rS v_18 0 gc_22, cvar gb_23 (rW (HDR go_24 0 (List.length x_19) gc_25)) (), cown go_24 (rI .i64) x_19 0 gc_25, cvar gb_9 (rI .i64) (0 : Int), cvar gb_5 (zq1 go_7) ((), (capacity_1, (fuse_2, (dead_3, (writes_4, ()))))), cqm go_7 (S rS) r_disk_file gbe_8 (some x_6)], []⟩) (Imp.norm (js := [0, 0, 0, 0, 2, 0, 0]) rfl (.cons rfl (.cons rfl .nil))) ?_
 replace hx1 := hq2
 refine JC.rangeFunc (γ := Unit) (γ' := (Unit)) (r := tv2) (js := [0, 0, 0, 0]) (qf := fun g => g) (X' := fun g => [cvar gb_20 (rW (HDR go_21 0 (List.length v_18) gc_22)) (), cown go_21 rS v_18 0 gc_22, cvar gb_23 (rW (HDR go_24 0 (List.length x_19) gc_25)) (), cown go_24 (rI .i64) x_19 0 gc_25]) (sv := fun _ => .tup [])
     (fun (u : (List UInt8) × Int) (z : Unit) => [S rS u.1, S (rI .i64) u.2]) (fun (u : (List UInt8) × Int) (z : Unit) => []) (fun (s : Int) (u : (List UInt8) × Int) => law05_full_p_smvvvvm.y1 k s u.1 u.2) (fun (s : Int) q => [cvar gb_9 (rI .i64) s, cvar gb_5 (zq1 go_7) ((), (capacity_1, (fuse_2, (dead_3, (writes_4, ()))))), cqm go_7 (S rS) r_disk_file gbe_8 (some x_6)]) (fun (t : Empty) q => nomatch t) (fun (t : Empty) => nomatch t) [(3, ov (PTR gb_9 0))] (0 : Int) () rfl tR cl40 rfl (.cons rfl .nil) (fun _ _ => rfl) (by decide) rfl ?_ (fun L C hY => sim_disk_Disk_Files_1_ypp_loo k (fun (s : Int) (u : (List UInt8) × Int) => law05_full_p_smvvvvm.y1 k s u.1 u.2) (Sum.inl (0 : Int)) v_18 x_19 () gb_20 go_21 gc_22 gb_23 go_24 gc_25 L C hY tv2 hL2) ?_ ?_
 · intro e1 w1 F1 L K lp s q u z y hx hlp
   obtain ⟨n_26, hvv⟩ : ∃ z, z = s := ⟨_, rfl⟩
   subst hvv
   obtain ⟨a_27, a_28⟩ := u
   change law05_full_p_smvvvvm.y1 k n_26 a_27 a_28 = some y at hx
   unfold law05_full_p_smvvvvm.y1 at hx
   exact JC.at ⟨[(9, ov (S rS a_27)), (10, ov (S (rI .i64) a_28)), (3, ov (PTR gb_9 0))], [cLK L K (.loop lp), cvar gb_9 (rI .i64) n_26, cvar gb_5 (zq1 go_7) ((), (capacity_1, (fuse_2, (dead_3, (writes_4, ()))))), cqm go_7 (S rS) r_disk_file gbe_8 (some x_6)], []⟩ <| JC.skip <| JQ.begin (j := 0) hlp rfl <| JC.block <| JC.region <| jc (op_loadS (j := 1) lb tS3 tR rfl (Comp.self (rI .i64) n_26) rfl rfl) <| lI hx fun v_29 hv_29 hx => jc (op_arI lb tR .cI (cs hv_29)) <| jc (op_storeS (j := 1) tS3 tR tR rfl rfl (UpdR.self (by rfl)) rfl) <| JL.nil <| JQ.outNB <| JQ.rnext () (Option.some.inj hx).symm (Imp.norm (js := [0, 0, 0, 0]) rfl .nil)
 · intro s gK_30 gq0 hr
   obtain ⟨gq2, hgq⟩ : ∃ z, z = gq0 := ⟨_, rfl⟩
   obtain ⟨n_31, hvv⟩ : ∃ z, z = s := ⟨_, rfl⟩
   subst hvv
   subst hr
   dsimp only at hx1
   simp only [← hgq]
   refine JQ.pre Imp.defs1 <| JQ.pre (st' := ⟨[(3, ov (PTR gb_9 0))], [cdefs (gK_30 :: ([] : List Nat)), cvar gb_9 (rI .i64) n_31, cvar gb_5 (zq1 go_7) ((), (capacity_1, (fuse_2, (dead_3, (writes_4, ()))))), cqm go_7 (S rS) r_disk_file gbe_8 (some x_6)], (gK_30 :: ([] : List Nat))⟩) (Imp.norm (js := [0, 0, 0, 0]) rfl (.cons rfl .nil)) <| JQ.outNB ?_
   try obtain rfl := so hx1
   exact JQ.join (gK_30 :: ([] : List Nat)) (Imp.norm (js := [1, 1, 1, 0]) rfl (.cons rfl .nil))
 intro u
 exact nomatch u

end Go.Proofs.Ytipchpbcjkhnaaa
