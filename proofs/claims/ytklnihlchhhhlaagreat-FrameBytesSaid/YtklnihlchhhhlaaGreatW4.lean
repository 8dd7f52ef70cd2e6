/- Walks. -/
import Derived.Test.YtklnihlchhhhlaaGreatT
import Derived.Test.YtklnihlchhhhlaaGreatW2
import Derived.Test.YtklnihlchhhhlaaGreatW3
namespace Go.Proofs.YtklnihlchhhhlaaGreat
open Go Fw
set_option linter.unusedVariables false
set_option maxRecDepth 100000
set_option maxHeartbeats 4000000

theorem sim_frame_writer_buckets (k : Nat) (f_1 : api_Frame) (x_3 : (List UInt8)) (gb_2 : Nat) (go_4 : Option Nat) (gc_5 : Nat) (r : (List UInt8)) (hm : frame_writer_buckets k f_1 x_3 = some r) : Sim Tryz.prog 104 [PTR gb_2 0, A r_api_Frame f_1] [cvar gb_2 (zq21 go_4 x_3 gc_5) ((), ()), cown go_4 (rU UInt8) x_3 0 gc_5] (γ := Option Nat × Nat) (fun q => [cvar gb_2 (rP (rW (HDR q.1 0 (List.length r) q.2)) r0) ((), ()), cown q.1 (rU UInt8) r 0 q.2]) (fun q => .tup []) := by
 unfold frame_writer_buckets at hm
 refine Sim.of Tryz.func104 rfl rfl (lE rfl) (fun e0 w0 => ?_)
 refine JC.at ⟨[(0, ov (PTR gb_2 0)), (1, ov (A r_api_Frame f_1))], [cvar gb_2 (zq21 go_4 x_3 gc_5) ((), ()), cown go_4 (rU UInt8) x_3 0 gc_5], []⟩ <| jr <| jx (op_boxA lb (.tmp rfl)) fun gb_6 => jn <| JC.seq <| lI hm fun v_7 hv_7 hm => ?_
 obtain ⟨x_8, hv_x_8, hm⟩ := bnd_inv hm
 refine JC.anyF (base := [(0, ov (PTR gb_2 0)), (3, ov (PTR gb_6 0))])
     (fs := fun γ => [⟨some 6, ov (PTR gb_2 0)⟩, ⟨some 7, ov (PTR gb_2 0)⟩, ⟨some 8, ov (PTR gb_2 0)⟩, ⟨some 9, ov (PTR gb_2 (0 + 0))⟩, ⟨some 10, ov (HDR go_4 0 (List.length x_3) gc_5)⟩, ⟨some 11, ov (PTR gb_6 (0 + 92))⟩, ⟨some 12, ov (S (rL (rI .i64)) f_1.Buckets)⟩, ⟨some 13, ov (S (rI .i64) (List.length f_1.Buckets : Int))⟩, ⟨some 14, ov (S (rU UInt8) v_7)⟩, ⟨some 15, ov (S (rL (rU UInt8)) ([v_7] : (List UInt8)))⟩, ⟨some 16, ov (HDR (deo (γ 10 0)) 0 (List.length x_8) (γ 10 1))⟩, ⟨some 17, ov (PTR gb_2 0)⟩, ⟨some 18, ov (PTR gb_2 (0 + 0))⟩, ⟨none, .one .any⟩])
     (rs := fun γ => [⟨cvar gb_2 (zq21 go_4 x_3 gc_5) ((), ()), none, (some 13), [4]⟩, ⟨cown go_4 (rU UInt8) x_3 0 gc_5, none, (some 10), []⟩, ⟨cvar gb_6 r_api_Frame f_1, none, none, [6]⟩, ⟨cown (deo (γ 10 0)) (rU UInt8) x_8 0 (γ 10 1), (some 10), none, []⟩, ⟨cvar gb_2 (zq21 (deo (γ 10 0)) x_8 (γ 10 1)) ((), ()), (some 13), none, []⟩])
     (afts := [[], [], [], [], [], [], [], [], [], [], [10, 11, 12, 13], [], [], []]) (js := [0, 0, 0]) mixed (.cons rfl (.cons rfl .nil)) (fun _ => rfl)
     (by
      refine db 1 0 <| db 2 0 <| dS 3 (fun γ ρ B hb hd => op_nilCheck lb (tl hd 1 7) (fun e v h => by subst h; rfl)) <| dS 4 (fun γ ρ B hb hd => op_fieldAddr (off := 0) lb tf119_0 (tl hd 2 8)) <| dR 5 (fun γ ρ B hb hd => OpStep.lk ⟨ρ, (cvar gb_2 (zq21 go_4 x_3 gc_5) ((), ())) :: B, _⟩ (op_loadW (j := 0) lb tS27 (tl hd 3 9) rfl (Comp.trans (Comp.self (zq21 go_4 x_3 gc_5) ((), ())) (Comp.at' (Comp.inF (Comp.self (rW (HDR go_4 0 (List.length x_3) gc_5)) ()) (lE rfl)) (by rfl : _ = 0)) (lE rfl)))) ?_
      refine dS 6 (fun γ ρ B hb hd => op_fieldAddr (off := 92) lb tf39_11 (.tmp (hb 3 _ rfl))) <| dR 7 (fun γ ρ B hb hd => OpStep.lk ⟨ρ, (cvar gb_6 r_api_Frame f_1) :: B, _⟩ (op_loadS (j := 0) lb tS37 (tl hd 5 11) rfl (cT (comp_api_Frame_Buckets f_1) rfl) rfl rfl)) <| dS 8 (fun γ ρ B hb hd => op_lenL lb tu37 (tl hd 6 12)) <| dS 9 (fun γ ρ B hb hd => op_convIU lb tu3 tu5 (tl hd 7 13) hv_7) <| dS 10 (fun γ ρ B hb hd => op_buildF (r := (rU UInt8)) lb tu27 tz5 tZ5 rfl (lE rfl) (.S rfl (tl hd 8 14) .nil) rfl) ?_
      refine DSteps.cons (j := 11) rfl (fun _ => rfl) (.runX (fun _ _ => rfl) (fun γ ρ B hb hd => ⟨.none, OpX.ghost (γ := Option Nat × Nat) (st' := fun q => setO ⟨ρ, (cown q.1 (rU UInt8) x_8 0 q.2) :: B, _⟩ (some 16) (ov (HDR q.1 0 (List.length x_8) q.2))) (fun q c => bif Nat.beq c 0 then eno q.1 else q.2) (op_appendL (j := 0) lb tu27 tu27 rfl tB5 rfl (Nat.lt_of_lt_of_le Nat.zero_lt_one (lE rfl)) (Nat.lt_of_lt_of_le Nat.zero_lt_one (lE rfl))  rfl (tl hd 4 10) (tl hd 9 15) hv_x_8) (fun q => by obtain ⟨q0, q1⟩ := q; cases q0 <;> exact Imp.refl)⟩) (fun _ _ => rfl) (fun _ _ => rfl)) ?_
      refine dS 12 (fun γ ρ B hb hd => op_nilCheck lb (tl hd 0 6) (fun e v h => by subst h; rfl)) <| dS 13 (fun γ ρ B hb hd => op_fieldAddr (off := 0) lb tf119_0 (tl hd 11 17)) <| dR 14 (fun γ ρ B hb hd => OpStep.at ⟨ρ, (cvar gb_2 (zq21 go_4 x_3 gc_5) ((), ())) :: B, _⟩ (setO ⟨ρ, (cvar gb_2 (zq21 (deo (γ 10 0)) x_8 (γ 10 1)) ((), ())) :: B, _⟩ _ _) (op_storeW (j := 0) tS27 (tl hd 12 18) (tl hd 10 16) rfl ((UpdR.fst (UpdR.self (by rfl))).at (by change 0 = (0 + 0); omega)) rfl)) ?_
      exact DSteps.nil)
     (by decide +kernel) (fun _ => rfl) (fun _ => rfl) (fun _ => rfl) rfl
     (ρ' := fun γ => [(0, ov (PTR gb_2 0)), (3, ov (PTR gb_6 0))])
     (X' := fun γ => [cvar gb_6 r_api_Frame f_1, cown (deo (γ 10 0)) (rU UInt8) x_8 0 (γ 10 1), cvar gb_2 (zq21 (deo (γ 10 0)) x_8 (γ 10 1)) ((), ())])
     (fun γ ρ hb hd => (.cons (hb 0 _ rfl) (.cons (hb 3 _ rfl) .nil))) (fun _ => rfl) (fun γ => ?_)
 generalize (deo (γ 10 0)) = go_9
 generalize (γ 10 1) = gc_10
 clear γ
 refine JQ.at ⟨[(0, ov (PTR gb_2 0)), (3, ov (PTR gb_6 0))], [cvar gb_6 r_api_Frame f_1, cown go_9 (rU UInt8) x_8 0 gc_10, cvar gb_2 (zq21 go_9 x_8 gc_10) ((), ())], []⟩ <| JQ.then <| bI hm fun b_22 hx1 hq1 => JC.seqJ (γ := Option Nat × Nat) (stj := fun q => ⟨[(0, ov (PTR gb_2 0)), (3, ov (PTR gb_6 0))], [cvar gb_2 (rP (rW (HDR q.1 0 (List.length b_22) q.2)) r0) ((), ()), cown q.1 (rU UInt8) b_22 0 q.2, cvar gb_6 r_api_Frame f_1], []⟩) (fun q => ?_) ?_
 · obtain ⟨go_23, gc_24⟩ := q
   refine JC.at ⟨[(0, ov (PTR gb_2 0)), (3, ov (PTR gb_6 0))], [cvar gb_2 (zq21 go_23 b_22 gc_24) ((), ()), cown go_23 (rU UInt8) b_22 0 gc_24, cvar gb_6 r_api_Frame f_1], []⟩ <| jr <| jmv rfl rfl <| jc (op_fieldAddr (off := 3) lb tf39_3 (.tmp rfl)) <| jc (op_loadS (j := 2) lb tS23 (.tmp rfl) rfl (cT (comp_api_Frame_Items f_1) rfl) rfl rfl) <| bI hq1 fun x_25 hv_x_25 hq1 => jx (op_call (js := [0, 0]) ld cl75 (sim_frame_writer_items'3 k f_1.Items b_22 gb_2 go_23 gc_24 x_25 hv_x_25) .func (.cons (.tmp rfl) (.cons (.tmp rfl) .nil)) rfl) (fun q => ?_)
   obtain ⟨go_26, gc_27⟩ := q
   refine jn <| jr <| jmv rfl rfl <| jc (op_loadA (j := 2) lb tA39 (.tmp rfl) rfl (Comp.self r_api_Frame f_1) rfl) <| bI hq1 fun x_28 hv_x_28 hq1 => jx (op_call (js := [0, 0]) ld cl131 (sim_frame_writer_seen k f_1 x_25 gb_2 go_26 gc_27 x_28 hv_x_28) .func (.cons (.tmp rfl) (.cons (.tmp rfl) .nil)) rfl) (fun q => ?_)
   obtain ⟨go_29, gc_30⟩ := q
   refine jn <| JC.region <| jmv rfl rfl <| JL.sub ⟨[(3, ov (PTR gb_6 0)), (45, ov (PTR gb_2 0))], [cvar gb_2 (zq21 go_29 x_28 gc_30) ((), ()), cown go_29 (rU UInt8) x_28 0 gc_30, cvar gb_6 r_api_Frame f_1], []⟩ (.cons rfl (.cons rfl .nil)) rfl rfl <| jc (op_fieldAddr (off := 93) lb tf39_12 (.tmp rfl)) <| jc (op_loadS (j := 2) lb tS4 (.tmp rfl) rfl (cT (comp_api_Frame_Reply f_1) rfl) rfl rfl) <| bI hq1 fun x_31 hv_x_31 hq1 => jx (op_call (js := [0, 0]) ld cl113 (sim_frame_writer_flag k f_1.Reply x_28 gb_2 go_29 gc_30 x_31 hv_x_31) .func (.cons (.tmp rfl) (.cons (.tmp rfl) .nil)) rfl) (fun q => ?_)
   obtain ⟨go_32, gc_33⟩ := q
   refine JL.nil ?_
   obtain rfl := so hq1
   exact JQ.done (js := [0, 0]) (ss := []) (go_32, gc_33) (.inr rfl) (.nil rfl) rfl .nil rfl rfl rfl
 refine jr <| jc (op_fieldAddr (off := 92) lb tf39_11 (.tmp rfl)) <| jc (op_loadS (j := 0) lb tS37 (.tmp rfl) rfl (cT (comp_api_Frame_Buckets f_1) rfl) rfl rfl) <| jc (op_lenL lb tu37 (.tmp rfl)) <| jc (op_move lb .cI) <| jn <| JC.block <| JC.pre ?_ (JC.loop (γ := Option Nat × Nat) (stf := fun s q => ⟨[(0, ov (PTR gb_2 0)), (3, ov (PTR gb_6 0)), (20, ov (S (rL (rI .i64)) f_1.Buckets)), (21, ov (S (rI .i64) (List.length f_1.Buckets : Int))), (22, ov (S (rI .i64) s.2))], [cvar gb_2 (rP (rW (HDR q.1 0 (List.length s.1) q.2)) r0) ((), ()), cown q.1 (rU UInt8) s.1 0 q.2, cvar gb_6 r_api_Frame f_1], []⟩) (q := (go_9, gc_10)) hx1 ?_)
 · exact (Imp.norm (js := [2, 1, 0]) rfl (.cons rfl (.cons rfl (.cons rfl (.cons rfl (.cons rfl .nil))))))
 intro s q x hx hr
 obtain ⟨b_11, x_12⟩ := s
 obtain ⟨go_13, gc_14⟩ := q
 change frame_writer_buckets.b1 k f_1 b_11 x_12 = some x at hx
 unfold frame_writer_buckets.b1 at hx
 refine JC.at ⟨[(0, ov (PTR gb_2 0)), (3, ov (PTR gb_6 0)), (20, ov (S (rL (rI .i64)) f_1.Buckets)), (21, ov (S (rI .i64) (List.length f_1.Buckets : Int))), (22, ov (S (rI .i64) x_12))], [cvar gb_2 (zq21 go_13 b_11 gc_14) ((), ()), cown go_13 (rU UInt8) b_11 0 gc_14, cvar gb_6 r_api_Frame f_1], []⟩ <| jr <| lI hx fun v_15 hv_15 hx => jc (op_cmpI lb (.tmp rfl) (.tmp rfl) (cs hv_15)) <| jn <| JC.seq <| jif (.tmp rfl) hx (fun hc3 hx => ?_) (fun hc3 hx => ?_)
 · refine JC.skip <| JQ.then <| JC.seq <| JC.block <| jr <| bI hx fun v_16 hv_16 hx => jc (op_indexAddrLg lb tu37 tz3 (.tmp rfl) (.tmp rfl) hv_16) <| jc (op_loadPSg lb tS3 rfl (.tmp rfl) rfl) <| jc (op_assign lb (.tmp rfl)) <| jn <| JC.region <| jmv rfl rfl <| jmv rfl rfl <| jc (op_nilCheck lb (.tmp rfl) (fun e v h => by subst h; rfl)) <| jc (op_fieldAddr (off := 0) lb tf119_0 (.tmp rfl)) <| jc (op_loadW (j := 0) lb tS27 (.tmp rfl) rfl (Comp.trans (Comp.self (zq21 go_13 b_11 gc_14) ((), ())) (Comp.at' (Comp.inF (Comp.self (rW (HDR go_13 0 (List.length b_11) gc_14)) ()) (lE rfl)) (by rfl : _ = 0)) (lE rfl))) <| jmv rfl rfl <| lI hx fun v_17 hv_17 hx => jc (op_convIU lb tu3 tu5 (.tmp rfl) hv_17) <| jc (op_buildF (r := (rU UInt8)) lb tu27 tz5 tZ5 rfl (lE rfl) (.S rfl (.tmp rfl) .nil) rfl) <| JL.sub ⟨[(0, ov (PTR gb_2 0)), (3, ov (PTR gb_6 0)), (20, ov (S (rL (rI .i64)) f_1.Buckets)), (21, ov (S (rI .i64) (List.length f_1.Buckets : Int))), (22, ov (S (rI .i64) x_12)), (26, ov (PTR gb_2 0)), (30, ov (HDR go_13 0 (List.length b_11) gc_14)), (33, ov (S (rL (rU UInt8)) ([v_17] : (List UInt8))))], [cvar gb_2 (zq21 go_13 b_11 gc_14) ((), ()), cown go_13 (rU UInt8) b_11 0 gc_14, cvar gb_6 r_api_Frame f_1], []⟩ (.cons rfl (.cons rfl (.cons rfl (.cons rfl (.cons rfl (.cons rfl (.cons rfl (.cons rfl .nil)))))))) rfl rfl ?_
   refine bI hx fun x_18 hv_x_18 hx => jx (op_appendL (j := 1) lb tu27 tu27 rfl tB5 rfl (Nat.lt_of_lt_of_le Nat.zero_lt_one (lE rfl)) (Nat.lt_of_lt_of_le Nat.zero_lt_one (lE rfl))  rfl (.tmp rfl) (.tmp rfl) hv_x_18) (fun q => ?_)
   obtain ⟨go_19, gc_20⟩ := q
   refine jc (op_nilCheck lb (.tmp rfl) (fun e v h => by subst h; rfl)) <| jc (op_fieldAddr (off := 0) lb tf119_0 (.tmp rfl)) <| jc (op_storeW (j := 0) tS27 (.tmp rfl) (.tmp rfl) rfl ((UpdR.fst (UpdR.self (by rfl))).at (by change 0 = (0 + 0); omega)) rfl) <| JL.nil <| JQ.outNB <| JQ.then <| JC.region <| lI hx fun v_21 hv_21 hx => jc (op_arI lb (.tmp rfl) .cI (cs hv_21)) <| jmv rfl rfl <| JL.nil ?_
   try obtain rfl := so hx
   exact JQ.next (go_19, gc_20) rfl (Imp.norm (js := [0, 0, 0]) rfl (.cons rfl (.cons rfl (.cons rfl (.cons rfl (.cons rfl .nil))))))
 refine JC.exit <| JQ.outX ?_
 try obtain rfl := so hx
 have ht := hr _ rfl
 have hq2 := cs ht
 clear hr ht
 refine JQ.outX <| JQ.here ?_
 try obtain rfl := so hq2
 exact JQ.join (go_13, gc_14) (Imp.norm (js := [0, 0, 0]) rfl (.cons rfl (.cons rfl .nil)))

theorem sim_crc_fours (k : Nat) (r : (Vector UInt32 16)) (hm : crc_fours k = some r) : Sim Tryz.prog 141 [] [] (γ := Unit) (fun q => []) (fun q => .one (.val (A (rV 16 (rU UInt32)) r))) := by
 unfold crc_fours at hm
 refine Sim.of Tryz.func141 rfl rfl (lE rfl) (fun e0 w0 => ?_)
 refine JC.at ⟨[], [], []⟩ <| jr <| jx (op_alloc lb tZ171 zr171) fun gb_1 => jn <| bI hm fun f_20 hx1 hq1 => JC.seqJ (γ := Unit) (stj := fun _ => ⟨[(0, ov (PTR gb_1 0))], [cvar gb_1 (rV 16 (rU UInt32)) f_20], []⟩) (fun _ => ?_) ?_
 · refine jr <| jc (op_loadA (j := 0) lb tA171 (.tmp rfl) rfl (Comp.self (rV 16 (rU UInt32)) f_20) rfl) <| jc (op_storeA (j := 0) tA171 (.tmp rfl) (.tmp rfl) rfl (UpdR.self (by rfl)) rfl) <| jn <| JC.ret ?_
   obtain rfl := so hq1
   exact JQ.done (js := []) (ss := [.val (A (rV 16 (rU UInt32)) f_20)]) () (.inl rfl) (.nil rfl) rfl (.cons (.cellA (j := 0) tA171 rfl rfl) .nil) rfl rfl rfl
 refine jr <| jc (op_move lb (HasO.cU (x := (0 : UInt32)) rfl (by decide))) <| jn <| JC.block <| JC.pre ?_ (JC.loop (γ := Unit) (stf := fun s q => ⟨[(0, ov (PTR gb_1 0)), (3, ov (S (rU UInt32) s.2))], [cvar gb_1 (rV 16 (rU UInt32)) s.1], []⟩) (q := ()) hx1 ?_)
 · exact (Imp.norm (js := [0]) rfl (.cons rfl (.cons rfl .nil)))
 intro s q x hx hr
 obtain ⟨f_2, x_3⟩ := s
 obtain _ := q
 change crc_fours.b1 k f_2 x_3 = some x at hx
 unfold crc_fours.b1 at hx
 refine JC.at ⟨[(0, ov (PTR gb_1 0)), (3, ov (S (rU UInt32) x_3))], [cvar gb_1 (rV 16 (rU UInt32)) f_2], []⟩ <| jr <| lI hx fun v_4 hv_4 hx => jc (op_cmpU lb (.tmp rfl) (HasO.cU (x := (16 : UInt32)) rfl (by decide)) (cs hv_4)) <| jn <| JC.seq <| jif (.tmp rfl) hx (fun hc3 hx => ?_) (fun hc3 hx => ?_)
 · refine JC.skip <| JQ.then <| bI hx fun f_18 hx4 hq4 => JC.seqJ (γ := Unit) (stj := fun _ => ⟨[(0, ov (PTR gb_1 0)), (3, ov (S (rU UInt32) x_3))], [cvar gb_1 (rV 16 (rU UInt32)) f_18], []⟩) (fun _ => ?_) ?_
   · refine JC.region <| lI hq4 fun v_19 hv_19 hq4 => jc (op_arU lb (.tmp rfl) (HasO.cU (x := (1 : UInt32)) rfl (by decide)) (cs hv_19)) <| jmv rfl rfl <| JL.nil ?_
     try obtain rfl := so hq4
     exact JQ.next () rfl (Imp.norm (js := [0]) rfl (.cons rfl (.cons rfl .nil)))
   refine JC.block <| jr <| jmv rfl rfl <| jc (op_assign lb (.tmp rfl)) <| jn <| jr <| jmv rfl rfl <| jc (op_assign lb (.tmp rfl)) <| jn <| bI hx4 fun x_15 hx5 hq5 => JC.seqJ (γ := Unit) (stj := fun _ => ⟨[(0, ov (PTR gb_1 0)), (1, ov (S (rU UInt32) x_3)), (2, ov (S (rU UInt32) x_15)), (3, ov (S (rU UInt32) x_3))], [cvar gb_1 (rV 16 (rU UInt32)) f_2], []⟩) (fun _ => ?_) ?_
   · refine JC.region <| jmv rfl rfl <| jmv rfl rfl <| bI hq5 fun i_16 hv_i_16 hq5 => jc (op_indexAddrUF lb tr171 (.tmp rfl) (.tmp rfl) hv_i_16) <| lI hq5 fun f_17 hv_f_17 hq5 => jc (op_storeS (j := 0) tS84 (.tmp rfl) (.tmp rfl) rfl rfl (Upd.at (Comp.self (rV 16 (rU UInt32)) f_2) i_16.2 rfl (Upd.self (rV 16 (rU UInt32)) f_2 _)).R hv_f_17) <| JL.nil <| JQ.outNB ?_
     try obtain rfl := so hq5
     exact JQ.join () (Imp.norm (js := [0]) rfl (.cons rfl (.cons rfl .nil)))
   refine jr <| jc (op_move lb .cI) <| jn <| JC.block <| JC.pre ?_ (JC.loop (γ := Unit) (stf := fun s q => ⟨[(0, ov (PTR gb_1 0)), (1, ov (S (rU UInt32) x_3)), (2, ov (S (rU UInt32) s.1)), (3, ov (S (rU UInt32) x_3)), (7, ov (S (rI .i64) s.2))], [cvar gb_1 (rV 16 (rU UInt32)) f_2], []⟩) (q := ()) hx5 ?_)
   · exact (Imp.norm (js := [0]) rfl (.cons rfl (.cons rfl (.cons rfl (.cons rfl (.cons rfl .nil))))))
   intro s q x hx hr
   obtain ⟨x_5, x_6⟩ := s
   obtain _ := q
   change crc_fours.b2 k x_5 x_6 = some x at hx
   unfold crc_fours.b2 at hx
   refine JC.at ⟨[(0, ov (PTR gb_1 0)), (1, ov (S (rU UInt32) x_3)), (2, ov (S (rU UInt32) x_5)), (3, ov (S (rU UInt32) x_3)), (7, ov (S (rI .i64) x_6))], [cvar gb_1 (rV 16 (rU UInt32)) f_2], []⟩ <| jr <| lI hx fun v_7 hv_7 hx => jc (op_cmpI lb (.tmp rfl) .cI (cs hv_7)) <| jn <| JC.seq <| jif (.tmp rfl) hx (fun hc7 hx => ?_) (fun hc7 hx => ?_)
   · refine JC.skip <| JQ.then <| bI hx fun x_13 hx8 hq8 => JC.seqJ (γ := Unit) (stj := fun _ => ⟨[(0, ov (PTR gb_1 0)), (1, ov (S (rU UInt32) x_3)), (2, ov (S (rU UInt32) x_13)), (3, ov (S (rU UInt32) x_3)), (7, ov (S (rI .i64) x_6))], [cvar gb_1 (rV 16 (rU UInt32)) f_2], []⟩) (fun _ => ?_) ?_
     · refine JC.region <| lI hq8 fun v_14 hv_14 hq8 => jc (op_arI lb (.tmp rfl) .cI (cs hv_14)) <| jmv rfl rfl <| JL.nil ?_
       try obtain rfl := so hq8
       exact JQ.next () rfl (Imp.norm (js := [0]) rfl (.cons rfl (.cons rfl (.cons rfl (.cons rfl (.cons rfl .nil))))))
     refine JC.block <| jr <| jmv rfl rfl <| lI hx8 fun v_8 hv_8 hx8 => jc (op_arU lb (.tmp rfl) (HasO.cU (x := (1 : UInt32)) rfl (by decide)) (cs hv_8)) <| lI hx8 fun v_9 hv_9 hx8 => jc (op_cmpU lb (.tmp rfl) (HasO.cU (x := (1 : UInt32)) rfl (by decide)) (cs hv_9)) <| jn <| jif (.tmp rfl) hx8 (fun hc9 hx8 => ?_) (fun hc9 hx8 => ?_)
     · refine JC.region <| jmv rfl rfl <| lI hx8 fun v_10 hv_10 hx8 => jc (op_shrUU lb (.tmp rfl) (HasO.cU (x := (1 : UInt64)) rfl (by decide)) hv_10) <| lI hx8 fun v_11 hv_11 hx8 => jc (op_arU lb (.tmp rfl) (HasO.cU (x := (2197175160 : UInt32)) rfl (by decide)) (cs hv_11)) <| jc (op_assign lb (.tmp rfl)) <| JL.nil <| JQ.outNB ?_
       try obtain rfl := so hx8
       exact JQ.join () (Imp.norm (js := [0]) rfl (.cons rfl (.cons rfl (.cons rfl (.cons rfl (.cons rfl .nil))))))
     refine JC.region <| jmv rfl rfl <| lI hx8 fun v_12 hv_12 hx8 => jc (op_shrUU lb (.tmp rfl) (HasO.cU (x := (1 : UInt64)) rfl (by decide)) hv_12) <| jc (op_assign lb (.tmp rfl)) <| JL.nil <| JQ.outNB ?_
     try obtain rfl := so hx8
     exact JQ.join () (Imp.norm (js := [0]) rfl (.cons rfl (.cons rfl (.cons rfl (.cons rfl (.cons rfl .nil))))))
   refine JC.exit <| JQ.outX ?_
   try obtain rfl := so hx
   have ht := hr _ rfl
   have hq6 := cs ht
   clear hr ht
   refine JQ.outX <| JQ.here ?_
   try obtain rfl := so hq6
   exact JQ.join () (Imp.norm (js := [0]) rfl (.cons rfl (.cons rfl (.cons rfl (.cons rfl .nil)))))
 refine JC.exit <| JQ.outX ?_
 try obtain rfl := so hx
 have ht := hr _ rfl
 have hq2 := cs ht
 clear hr ht
 refine JQ.outX <| JQ.here ?_
 try obtain rfl := so hq2
 exact JQ.join () (Imp.norm (js := [0]) rfl (.cons rfl .nil))

theorem sim_crc_sum (k : Nat) (was_1 : UInt32) (b_2 : (List UInt8)) (r : UInt32) (hm : crc_sum k was_1 b_2 = some r) : Sim Tryz.prog 115 [S (rU UInt32) was_1, S (rL (rU UInt8)) b_2] [] (γ := Unit) (fun q => []) (fun q => .one (.val (S (rU UInt32) r))) := by
 unfold crc_sum at hm
 refine Sim.of Tryz.func115 rfl rfl (lE rfl) (fun e0 w0 => ?_)
 refine JC.at ⟨[(0, ov (S (rU UInt32) was_1)), (1, ov (S (rL (rU UInt8)) b_2))], [], []⟩ <| jr <| jc (op_assign lb (HasO.cU (x := (0 : UInt32)) rfl (by decide))) <| jn <| jr <| bI hm fun v_3 hv_3 hm => jx (op_call (js := []) ld cl141 (sim_crc_fours k v_3 hv_3) .func .nil rfl) fun _ => jmv rfl rfl <| lI hm fun v_4 hv_4 hm => jc (op_com lb (.tmp rfl) hv_4) <| jx (op_alloc lb tZ171 zr171) fun gb_5 => jc (op_storeA (j := 0) tA171 (.tmp rfl) (.tmp rfl) rfl (UpdR.self (by rfl)) rfl) <| jc (op_assign lb (.tmp rfl)) <| jn ?_
 refine bI hm fun x_23 hx1 hq1 => JC.seqJ (γ := Unit) (stj := fun _ => ⟨[(6, ov (S (rU UInt32) x_23))], [], []⟩) (fun _ => ?_) ?_
 · refine jr <| jmv rfl rfl <| lI hq1 fun v_24 hv_24 hq1 => jc (op_com lb (.tmp rfl) hv_24) <| jc (op_assign lb (.tmp rfl)) <| jn <| JC.ret ?_
   obtain rfl := so hq1
   exact jd (.val (S (rU UInt32) v_24)) rfl rfl rfl rfl rfl rfl
 refine jr <| jmv rfl rfl <| JL.sub ⟨[(5, ov (PTR gb_5 0)), (6, ov (S (rU UInt32) v_4)), (12, ov (S (rL (rU UInt8)) b_2))], [cvar gb_5 (rV 16 (rU UInt32)) v_3], []⟩ (.cons rfl (.cons rfl (.cons rfl .nil))) rfl rfl <| jc (op_lenL lb tu27 (.tmp rfl)) <| jc (op_move lb .cI) <| jn <| JC.block <| JC.pre ?_ (JC.loop (γ := Unit) (stf := fun s q => ⟨[(5, ov (PTR gb_5 0)), (6, ov (S (rU UInt32) s.1)), (12, ov (S (rL (rU UInt8)) b_2)), (13, ov (S (rI .i64) (List.length b_2 : Int))), (14, ov (S (rI .i64) s.2))], [cvar gb_5 (rV 16 (rU UInt32)) v_3], []⟩) (q := ()) hx1 ?_)
 · exact (Imp.norm (js := [0]) rfl (.cons rfl (.cons rfl (.cons rfl (.cons rfl (.cons rfl .nil))))))
 intro s q x hx hr
 obtain ⟨x_6, x_7⟩ := s
 obtain _ := q
 change crc_sum.b1 k b_2 v_3 x_6 x_7 = some x at hx
 unfold crc_sum.b1 at hx
 refine JC.at ⟨[(5, ov (PTR gb_5 0)), (6, ov (S (rU UInt32) x_6)), (12, ov (S (rL (rU UInt8)) b_2)), (13, ov (S (rI .i64) (List.length b_2 : Int))), (14, ov (S (rI .i64) x_7))], [cvar gb_5 (rV 16 (rU UInt32)) v_3], []⟩ <| jr <| lI hx fun v_8 hv_8 hx => jc (op_cmpI lb (.tmp rfl) (.tmp rfl) (cs hv_8)) <| jn <| JC.seq <| jif (.tmp rfl) hx (fun hc3 hx => ?_) (fun hc3 hx => ?_)
 · refine JC.skip <| JQ.then <| JC.seq <| JC.block <| jr <| bI hx fun v_9 hv_9 hx => jc (op_indexAddrLg lb tu27 tz5 (.tmp rfl) (.tmp rfl) hv_9) <| jc (op_loadPSg lb tS5 rfl (.tmp rfl) rfl) <| jc (op_assign lb (.tmp rfl)) <| jn <| jr <| jmv rfl rfl <| jmv rfl rfl <| lI hx fun v_10 hv_10 hx => jc (op_convUU lb tu5 tu84 (.tmp rfl) hv_10) <| lI hx fun v_11 hv_11 hx => jc (op_arU lb (.tmp rfl) (.tmp rfl) (cs hv_11)) <| jc (op_assign lb (.tmp rfl)) <| jn <| jr <| jmv rfl rfl ?_
   refine lI hx fun v_12 hv_12 hx => jc (op_arU lb (.tmp rfl) (HasO.cU (x := (15 : UInt32)) rfl (by decide)) (cs hv_12)) <| bI hx fun i_13 hv_i_13 hx => jc (op_indexAddrUF lb tr171 (.tmp rfl) (.tmp rfl) hv_i_13) <| JL.sub ⟨[(5, ov (PTR gb_5 0)), (6, ov (S (rU UInt32) v_11)), (12, ov (S (rL (rU UInt8)) b_2)), (13, ov (S (rI .i64) (List.length b_2 : Int))), (14, ov (S (rI .i64) x_7)), (24, ov (PTR gb_5 (0 + i_13.1 * 1)))], [cvar gb_5 (rV 16 (rU UInt32)) v_3], []⟩ (.cons rfl (.cons rfl (.cons rfl (.cons rfl (.cons rfl (.cons rfl .nil)))))) rfl rfl <| lI hx fun v_14 hv_14 hx => jc (op_loadS (j := 0) lb tS84 (.tmp rfl) rfl (Comp.at (Comp.self (rV 16 (rU UInt32)) v_3) i_13.2 rfl) rfl hv_14) <| jmv rfl rfl <| lI hx fun v_15 hv_15 hx => jc (op_shrUU lb (.tmp rfl) (HasO.cU (x := (4 : UInt64)) rfl (by decide)) hv_15) ?_
   refine lI hx fun v_16 hv_16 hx => jc (op_arU lb (.tmp rfl) (.tmp rfl) (cs hv_16)) <| jc (op_assign lb (.tmp rfl)) <| jn <| JC.region <| jmv rfl rfl <| lI hx fun v_17 hv_17 hx => jc (op_arU lb (.tmp rfl) (HasO.cU (x := (15 : UInt32)) rfl (by decide)) (cs hv_17)) <| bI hx fun i_18 hv_i_18 hx => jc (op_indexAddrUF lb tr171 (.tmp rfl) (.tmp rfl) hv_i_18) <| lI hx fun v_19 hv_19 hx => jc (op_loadS (j := 0) lb tS84 (.tmp rfl) rfl (Comp.at (Comp.self (rV 16 (rU UInt32)) v_3) i_18.2 rfl) rfl hv_19) <| jmv rfl rfl ?_
   obtain ⟨v_20, hv_20, hx⟩ := lt1_inv hx
   refine jc (op_shrUU lb (.tmp rfl) (HasO.cU (x := (4 : UInt64)) rfl (by decide)) hv_20) <| lI hx fun v_21 hv_21 hx => jc (op_arU lb (.tmp rfl) (.tmp rfl) (cs hv_21)) <| JL.sub ⟨[(5, ov (PTR gb_5 0)), (6, ov (S (rU UInt32) v_16)), (12, ov (S (rL (rU UInt8)) b_2)), (13, ov (S (rI .i64) (List.length b_2 : Int))), (14, ov (S (rI .i64) x_7)), (35, ov (S (rU UInt32) v_21))], [cvar gb_5 (rV 16 (rU UInt32)) v_3], []⟩ (.cons rfl (.cons rfl (.cons rfl (.cons rfl (.cons rfl (.cons rfl .nil)))))) rfl rfl <| jc (op_assign lb (.tmp rfl)) <| JL.nil <| JQ.outNB <| JQ.then <| JC.region <| lI hx fun v_22 hv_22 hx => jc (op_arI lb (.tmp rfl) .cI (cs hv_22)) <| jmv rfl rfl <| JL.nil ?_
   try obtain rfl := so hx
   exact JQ.next () rfl (Imp.norm (js := [0]) rfl (.cons rfl (.cons rfl (.cons rfl (.cons rfl (.cons rfl .nil))))))
 refine JC.exit <| JQ.outX ?_
 try obtain rfl := so hx
 have ht := hr _ rfl
 have hq2 := cs ht
 clear hr ht
 refine JQ.outX <| JQ.here ?_
 try obtain rfl := so hq2
 exact jo rfl rfl rfl

theorem sim_crc_Sum (k : Nat) (l_1 : (List (List UInt8))) (r : UInt32) (hm : crc_Sum k l_1 = some r) : Sim Tryz.prog 80 [S (rL (rL (rU UInt8))) l_1] [] (γ := Unit) (fun q => []) (fun q => .one (.val (S (rU UInt32) r))) := by
 unfold crc_Sum at hm
 refine Sim.of Tryz.func80 rfl rfl (lE rfl) (fun e0 w0 => ?_)
 refine JC.at ⟨[(0, ov (S (rL (rL (rU UInt8))) l_1))], [], []⟩ <| jr <| jc (op_assign lb (HasO.cU (x := (0 : UInt32)) rfl (by decide))) <| jn <| bI hm fun s_8 hx1 hq1 => JC.seqJ (γ := Unit) (stj := fun _ => ⟨[(2, ov (S (rU UInt32) s_8))], [], []⟩) (fun _ => ?_) ?_
 · refine jr <| jmv rfl rfl <| jc (op_assign lb (.tmp rfl)) <| jn <| JC.ret ?_
   obtain rfl := so hq1
   exact jd (.val (S (rU UInt32) s_8)) rfl rfl rfl rfl rfl rfl
 refine jr <| jmv rfl rfl <| jc (op_lenL lb tu77 (.tmp rfl)) <| jc (op_move lb .cI) <| jn <| JC.block <| JC.pre ?_ (JC.loop (γ := Unit) (stf := fun s q => ⟨[(2, ov (S (rU UInt32) s.1)), (5, ov (S (rL (rL (rU UInt8))) l_1)), (6, ov (S (rI .i64) (List.length l_1 : Int))), (7, ov (S (rI .i64) s.2))], [], []⟩) (q := ()) hx1 ?_)
 · exact (Imp.norm (js := []) rfl (.cons rfl (.cons rfl (.cons rfl (.cons rfl .nil)))))
 intro s q x hx hr
 obtain ⟨s_2, x_3⟩ := s
 obtain _ := q
 change crc_Sum.b1 k l_1 s_2 x_3 = some x at hx
 unfold crc_Sum.b1 at hx
 refine JC.at ⟨[(2, ov (S (rU UInt32) s_2)), (5, ov (S (rL (rL (rU UInt8))) l_1)), (6, ov (S (rI .i64) (List.length l_1 : Int))), (7, ov (S (rI .i64) x_3))], [], []⟩ <| jr <| lI hx fun v_4 hv_4 hx => jc (op_cmpI lb (.tmp rfl) (.tmp rfl) (cs hv_4)) <| jn <| JC.seq <| jif (.tmp rfl) hx (fun hc3 hx => ?_) (fun hc3 hx => ?_)
 · refine JC.skip <| JQ.then <| JC.seq <| JC.block <| jr <| bI hx fun v_5 hv_5 hx => jc (op_indexAddrLg lb tu77 tz27 (.tmp rfl) (.tmp rfl) hv_5) <| jc (op_loadPSg lb tS27 rfl (.tmp rfl) rfl) <| jc (op_assign lb (.tmp rfl)) <| jn <| JC.region <| jmv rfl rfl <| jmv rfl rfl <| bI hx fun v_6 hv_6 hx => jx (op_call (js := []) ld cl115 (sim_crc_sum k s_2 v_5 v_6 hv_6) .func (.cons (.tmp rfl) (.cons (.tmp rfl) .nil)) rfl) fun _ => jc (op_assign lb (.tmp rfl)) <| JL.nil <| JQ.outNB ?_
   refine JQ.then <| JC.region <| lI hx fun v_7 hv_7 hx => jc (op_arI lb (.tmp rfl) .cI (cs hv_7)) <| jmv rfl rfl <| JL.nil ?_
   try obtain rfl := so hx
   exact JQ.next () rfl (Imp.norm (js := []) rfl (.cons rfl (.cons rfl (.cons rfl (.cons rfl .nil)))))
 refine JC.exit <| JQ.outX ?_
 try obtain rfl := so hx
 have ht := hr _ rfl
 have hq2 := cs ht
 clear hr ht
 refine JQ.outX <| JQ.here ?_
 try obtain rfl := so hq2
 exact jo rfl rfl rfl

theorem sim_frame_writer_put'3 (k : Nat) (b_1 : (List UInt8)) (v_2 : Int) (x_4 : (List UInt8)) (gb_3 : Nat) (go_5 : Option Nat) (gc_6 : Nat) (r : (List UInt8)) (hm : frame_writer_put'3 k b_1 v_2 x_4 = some r) : Sim Tryz.prog 78 [PTR gb_3 0, S (rL (rU UInt8)) b_1, S (rI .i64) v_2] [cvar gb_3 (zq21 go_5 x_4 gc_6) ((), ()), cown go_5 (rU UInt8) x_4 (List.length x_4) gc_6] (γ := Option Nat × Nat) (fun q => [cvar gb_3 (rP (rW (HDR q.1 0 (List.length r) q.2)) r0) ((), ()), cown q.1 (rU UInt8) r (List.length r) q.2]) (fun q => .tup []) := by
 unfold frame_writer_put'3 at hm
 refine Sim.of Tryz.func78 rfl rfl (lE rfl) (fun e0 w0 => ?_)
 refine JC.at ⟨[(0, ov (PTR gb_3 0)), (1, ov (S (rL (rU UInt8)) b_1)), (2, ov (S (rI .i64) v_2))], [cvar gb_3 (zq21 go_5 x_4 gc_6) ((), ()), cown go_5 (rU UInt8) x_4 (List.length x_4) gc_6], []⟩ <| JC.region <| jmv rfl rfl <| jmv rfl rfl <| jc (op_nilCheck lb (.tmp rfl) (fun e v h => by subst h; rfl)) <| jc (op_fieldAddr (off := 0) lb tf119_0 (.tmp rfl)) <| jc (op_loadW (j := 0) lb tS27 (.tmp rfl) rfl (Comp.trans (Comp.self (zq21 go_5 x_4 gc_6) ((), ())) (Comp.at' (Comp.inF (Comp.self (rW (HDR go_5 0 (List.length x_4) gc_6)) ()) (lE rfl)) (by rfl : _ = 0)) (lE rfl))) <| jmv rfl rfl <| bI hm fun x_7 hv_x_7 hm => jx (op_appendL (j := 1) lb tu27 tu27 rfl tB5 rfl (Nat.lt_of_lt_of_le Nat.zero_lt_one (lE rfl)) (Nat.lt_of_lt_of_le Nat.zero_lt_one (lE rfl))  rfl (.tmp rfl) (.tmp rfl) hv_x_7) (fun q => ?_)
 obtain ⟨go_8, gc_9⟩ := q
 refine jc (op_nilCheck lb (.tmp rfl) (fun e v h => by subst h; rfl)) <| jc (op_fieldAddr (off := 0) lb tf119_0 (.tmp rfl)) <| jc (op_storeW (j := 0) tS27 (.tmp rfl) (.tmp rfl) rfl ((UpdR.fst (UpdR.self (by rfl))).at (by change 0 = (0 + 0); omega)) rfl) <| JL.sub ⟨[], [cvar gb_3 (zq21 go_8 x_7 gc_9) ((), ()), cown go_8 (rU UInt8) x_7 (List.length x_4) gc_9], []⟩ .nil rfl rfl <| JL.nil ?_
 obtain rfl := so hm
 exact JQ.pre (Imp.frz (j := 1) rfl ImpK.refl) <| JQ.done (js := [0, 0]) (ss := []) (go_8, gc_9) (.inr rfl) (.nil rfl) rfl .nil rfl rfl rfl

theorem sim_frame_bytes'4 (k : Nat) (f_1 : api_Frame) (r : (List UInt8)) (hm : frame_bytes'4 k f_1 = some r) : Sim Tryz.prog 27 [A r_api_Frame f_1] [] (γ := Option Nat × Nat) (fun q => [cown q.1 (rU UInt8) r (List.length r) q.2]) (fun q => .one (.val (HDR q.1 0 (List.length r) q.2))) := by
 unfold frame_bytes'4 at hm
 refine Sim.of Tryz.func27 rfl rfl (lE rfl) (fun e0 w0 => ?_)
 refine JC.at ⟨[(0, ov (A r_api_Frame f_1))], [], []⟩ <| jr <| jx (op_boxA lb (.tmp rfl)) fun gb_2 => jc (op_assign lb HasO.nilH) <| jn <| jr <| jc (op_fieldAddr (off := 0) lb tf39_0 (.tmp rfl)) <| jc (op_loadS (j := 0) lb tS22 (.tmp rfl) rfl (cT (comp_api_Frame_Kind f_1) rfl) rfl rfl) <| lI hm fun v_3 hv_3 hm => jc (op_convIU lb tu22 tu5 (.tmp rfl) hv_3) <| jc (op_fieldAddr (off := 1) lb tf39_1 (.tmp rfl)) <| jc (op_loadS (j := 0) lb tS3 (.tmp rfl) rfl (cT (comp_api_Frame_From f_1) rfl) rfl rfl) <| lI hm fun v_4 hv_4 hm => jc (op_convIU lb tu3 tu5 (.tmp rfl) hv_4) <| jc (op_fieldAddr (off := 2) lb tf39_2 (.tmp rfl)) <| jc (op_loadS (j := 0) lb tS3 (.tmp rfl) rfl (cT (comp_api_Frame_To f_1) rfl) rfl rfl) <| JL.sub ⟨[(1, ov (PTR gb_2 0)), (6, ov (S (rU UInt8) v_3)), (9, ov (S (rU UInt8) v_4)), (11, ov (S (rI .i64) f_1.To))], [cvar gb_2 r_api_Frame f_1], []⟩ (.cons rfl (.cons rfl (.cons rfl (.cons rfl .nil)))) rfl rfl ?_
 refine lI hm fun v_5 hv_5 hm => jc (op_convIU lb tu3 tu5 (.tmp rfl) hv_5) <| jx (op_buildO (r := (rU UInt8)) lb tu27 tz5 tZ5 rfl (lE rfl) (.S rfl (.tmp rfl) (.S rfl (.tmp rfl) (.S rfl (.tmp rfl) .nil))) rfl) fun gb_6 => jc (op_build lb tZ119 zr119 tp119 (.S (off := 0) (s := rW (HDR (some gb_6) 0 (List.length ([v_3, v_4, v_5] : (List UInt8))) (3))) (u := ()) rfl (HasO.wk (q := S (rW (HDR (some gb_6) 0 (List.length ([v_3, v_4, v_5] : (List UInt8))) (3))) ()) (.tmp rfl) wkV) rfl ((UpdR.fst (UpdR.self (by rfl))).at (by rfl)) .nil) rfl) <| jx (op_boxA lb (.tmp rfl)) fun gb_7 => jc (op_assign lb (.tmp rfl)) <| jn <| bI hm fun b_14 hx1 hq1 => JC.seqJ (γ := Option Nat × Nat) (stj := fun q => ⟨[(3, ov (PTR gb_7 0))], [cvar gb_7 (rP (rW (HDR q.1 0 (List.length b_14) q.2)) r0) ((), ()), cown q.1 (rU UInt8) b_14 0 q.2], []⟩) (fun q => ?_) ?_
 · obtain ⟨go_15, gc_16⟩ := q
   refine JC.at ⟨[(3, ov (PTR gb_7 0))], [cvar gb_7 (zq21 go_15 b_14 gc_16) ((), ()), cown go_15 (rU UInt8) b_14 0 gc_16], []⟩ <| jr <| jmv rfl rfl <| jmv rfl rfl <| jc (op_nilCheck lb (.tmp rfl) (fun e v h => by subst h; rfl)) <| jc (op_fieldAddr (off := 0) lb tf119_0 (.tmp rfl)) <| jc (op_loadW (j := 0) lb tS27 (.tmp rfl) rfl (Comp.trans (Comp.self (zq21 go_15 b_14 gc_16) ((), ())) (Comp.at' (Comp.inF (Comp.self (rW (HDR go_15 0 (List.length b_14) gc_16)) ()) (lE rfl)) (by rfl : _ = 0)) (lE rfl))) <| JL.pre (Imp.frz (j := 1) rfl (ImpK.slotH (s := 28) rfl (ImpK.var (j := 0) (q := (zq22 go_15 b_14 gc_16)) (y := ((), ())) rfl (Wk.pair Wk.own Wk.refl) ImpK.refl))) <| jc (op_buildF (r := (rL (rU UInt8))) lb tu77 tz27 tZ27 rfl (lE rfl) (.S rfl (HasO.wk (.tmp rfl) wkHL) .nil) rfl) <| bI hq1 fun v_17 hv_17 hq1 => jx (op_call (js := []) ld cl80 (sim_crc_Sum k ([b_14] : (List (List UInt8))) v_17 hv_17) .func (.cons (.tmp rfl) .nil) rfl) fun _ => lI hq1 fun v_18 hv_18 hq1 => jc (op_convUU lb tu84 tu24 (.tmp rfl) hv_18) ?_
   obtain ⟨⟨v_19, v_20⟩, hv_19, hq1⟩ := bnd_inv hq1
   refine jx (op_call (js := []) ld cl79 (sim_wire_Put k v_18 (4 : Int) (v_19, v_20) hv_19) .func (.cons (.tmp rfl) (.cons .cI .nil)) rfl) (fun q => ?_)
   obtain ⟨go_21, gc_22⟩ := q
   refine JL.sub ⟨[(3, ov (PTR gb_7 0)), (24, ov (PTR gb_7 0)), (32, .tup [.val (HDR go_21 0 (List.length v_19) gc_22), .val (S (rI .i64) v_20)])], [cown go_21 (rU UInt8) v_19 0 gc_22, cvar gb_7 (zq22 go_15 b_14 gc_16) ((), ()), cown go_15 (rU UInt8) b_14 (List.length b_14) gc_16], []⟩ (.cons rfl (.cons rfl (.cons rfl .nil))) rfl rfl <| jc (op_extract (i := 0) lb (.tmp rfl) rfl) <| jc (op_extract (i := 1) lb (.tmp rfl) rfl) <| bI hq1 fun x_23 hv_x_23 hq1 => JL.pre (Imp.frz (j := 0) rfl (ImpK.tupAt (s := 32) (i := 0) (q := HL go_21 (rU UInt8) v_19 gc_22) rfl rfl ownHL (ImpK.slotH (s := 33) rfl ImpK.refl))) <| JL.pre (Imp.var (j := 1) (q := (zq21 go_15 b_14 gc_16)) (y := ((), ())) rfl (Wk.pair Wk.hh Wk.refl)) <| jx (op_call (js := [1, 1]) ld cl78 (sim_frame_writer_put'3 k v_19 v_20 b_14 gb_7 go_15 gc_16 x_23 hv_x_23) .func (.cons (.tmp rfl) (.cons (HasO.wk (.tmp rfl) wkHL) (.cons (.tmp rfl) .nil))) rfl) (fun q => ?_)
   obtain ⟨go_24, gc_25⟩ := q
   refine JL.nrm ⟨[(3, ov (PTR gb_7 0))], [cvar gb_7 (zq21 go_24 x_23 gc_25) ((), ()), cown go_24 (rU UInt8) x_23 (List.length x_23) gc_25], []⟩ [0, 0] rfl (.cons rfl .nil) rfl <| jn <| jr <| jmv rfl rfl <| jc (op_nilCheck lb (.tmp rfl) (fun e v h => by subst h; rfl)) <| jc (op_fieldAddr (off := 0) lb tf119_0 (.tmp rfl)) <| jc (op_loadW (j := 0) lb tS27 (.tmp rfl) rfl (Comp.trans (Comp.self (zq21 go_24 x_23 gc_25) ((), ())) (Comp.at' (Comp.inF (Comp.self (rW (HDR go_24 0 (List.length x_23) gc_25)) ()) (lE rfl)) (by rfl : _ = 0)) (lE rfl))) <| jc (op_assign lb (.tmp rfl)) <| jn <| JC.ret ?_
   obtain rfl := so hq1
   exact JQ.done (js := [1]) (ss := [.val (HDR go_24 0 (List.length x_23) gc_25)]) (go_24, gc_25) (.inl rfl) (.nil rfl) rfl (.cons (.tmp rfl) .nil) rfl rfl rfl
 refine bI hx1 fun v_8 hv_8 hx1 => lI hx1 fun v_10 hv_10 hx1 => ?_
 obtain ⟨x_11, hv_x_11, hx1⟩ := bnd_inv hx1
 refine JC.anyF (base := [(1, ov (PTR gb_2 0)), (3, ov (PTR gb_7 0))])
     (fs := fun γ => [⟨some 16, ov (MPV (deo (γ 0 0)))⟩, ⟨some 17, ov (PTR gb_2 (0 + 0))⟩, ⟨some 18, ov (S (rI .i64) f_1.Kind)⟩, ⟨some 19, ov (A r_frame_form v_10)⟩, ⟨some 20, ov (S rFn v_10.write)⟩, ⟨some 21, ov (PTR gb_7 0)⟩, ⟨some 22, ov (A r_api_Frame f_1)⟩, ⟨some 23, .tup []⟩])
     (rs := fun γ => [⟨cvar gb_2 r_api_Frame f_1, none, none, [2, 6]⟩, ⟨cown (some gb_6) (rU UInt8) ([v_3, v_4, v_5] : (List UInt8)) 0 (3), none, (some 7), []⟩, ⟨cvar gb_7 (zq20 gb_6 v_3 v_4 v_5) ((), ()), none, (some 7), []⟩, ⟨cmap (deo (γ 0 0)) (S (rI .i64)) (A r_frame_form) (some (v_8)), (some 0), none, [3]⟩, ⟨cvar gb_7 (zq21 (deo (γ 7 0)) x_11 (γ 7 1)) ((), ()), (some 7), none, []⟩, ⟨cown (deo (γ 7 0)) (rU UInt8) x_11 0 (γ 7 1), (some 7), none, []⟩])
     (afts := [[0, 3, 4, 7], [], [], [], [], [], [], [7]]) (js := [0, 0, 0]) mixed (.cons rfl (.cons rfl .nil)) (fun _ => rfl)
     (by
      refine DSteps.cons (j := 1) rfl (fun _ => rfl) (.runX (fun _ _ => rfl) (fun γ ρ B hb hd => ⟨.none, OpX.ghost (γ := Option Nat) (st' := fun q => setO ⟨ρ, (cmap q (S (rI .i64)) (A r_frame_form) (some (v_8))) :: B, _⟩ (some 16) (ov (MPV q))) (fun q c => eno q) (op_call (js := []) ld cl54 (sim_frame_forms k v_8 hv_8) .func .nil rfl) (fun q => by cases q <;> exact Imp.refl)⟩) (fun _ _ => rfl) (fun _ _ => rfl)) ?_
      refine dS 2 (fun γ ρ B hb hd => op_fieldAddr (off := 0) lb tf39_0 (.tmp (hb 1 _ rfl))) <| dR 3 (fun γ ρ B hb hd => OpStep.lk ⟨ρ, (cvar gb_2 r_api_Frame f_1) :: B, _⟩ (op_loadS (j := 0) lb tS22 (tl hd 1 17) rfl (cT (comp_api_Frame_Kind f_1) rfl) rfl rfl)) <| dR 4 (fun γ ρ B hb hd => OpStep.lk ⟨ρ, (cmap (deo (γ 0 0)) (S (rI .i64)) (A r_frame_form) (some (v_8))) :: B, _⟩ (op_lookup (z0 := (frame_form.mk (none : Option Nat) (none : Option Nat))) (j := 0) lb tu97 ky22 tZ95 (fun e => ⟨_, rfl, zv95 e⟩) rfl (tl hd 0 16) (tl hd 2 18) hv_10)) <| dS 5 (fun γ ρ B hb hd => op_fieldSg lb td95_0 (tl hd 3 19) (comp_frame_form_write v_10) rfl rfl) <| db 6 3 ?_
      refine dR 7 (fun γ ρ B hb hd => OpStep.lk ⟨ρ, (cvar gb_2 r_api_Frame f_1) :: B, _⟩ (op_loadA (j := 0) lb tA39 (.tmp (hb 1 _ rfl)) rfl (Comp.self r_api_Frame f_1) rfl)) ?_
      refine DSteps.cons (j := 8) rfl (fun _ => rfl) (.runX (fun _ _ => rfl) (fun γ ρ B hb hd => ⟨.none, OpX.ghost (γ := Option Nat × Nat) (st' := fun q => setO ⟨ρ, (cvar gb_7 (zq21 q.1 x_11 q.2) ((), ())) :: (cown q.1 (rU UInt8) x_11 0 q.2) :: B, _⟩ (some 23) (.tup [])) (fun q c => bif Nat.beq c 0 then eno q.1 else q.2) ((fnsplit hv_x_11 (fun hc hv_x_11 => op_call (js := [1, 0]) ld cl92 (sim_frame_writer_delta'4 k f_1 ([v_3, v_4, v_5] : (List UInt8)) gb_7 (some gb_6) (3) x_11 hv_x_11) (HasO.wk (q := CLO 92 []) (tl hd 4 20) (wkCFn hc)) (.cons (tl hd 5 21) (.cons (tl hd 6 22) .nil)) rfl) (fun hz1 => (fnsplit hz1 (fun hc hv_x_11 => op_call (js := [1, 0]) ld cl94 (sim_frame_writer_event k f_1 ([v_3, v_4, v_5] : (List UInt8)) gb_7 (some gb_6) (3) x_11 hv_x_11) (HasO.wk (q := CLO 94 []) (tl hd 4 20) (wkCFn hc)) (.cons (tl hd 5 21) (.cons (tl hd 6 22) .nil)) rfl) (fun hz2 => (fnsplit hz2 (fun hc hv_x_11 => op_call (js := [1, 0]) ld cl96 (sim_frame_writer_have k f_1 ([v_3, v_4, v_5] : (List UInt8)) gb_7 (some gb_6) (3) x_11 hv_x_11) (HasO.wk (q := CLO 96 []) (tl hd 4 20) (wkCFn hc)) (.cons (tl hd 5 21) (.cons (tl hd 6 22) .nil)) rfl) (fun hz3 => (fnsplit hz3 (fun hc hv_x_11 => op_call (js := [1, 0]) ld cl98 (sim_frame_writer_known k f_1 ([v_3, v_4, v_5] : (List UInt8)) gb_7 (some gb_6) (3) x_11 hv_x_11) (HasO.wk (q := CLO 98 []) (tl hd 4 20) (wkCFn hc)) (.cons (tl hd 5 21) (.cons (tl hd 6 22) .nil)) rfl) (fun hz4 => (fnsplit hz4 (fun hc hv_x_11 => op_call (js := [1, 0]) ld cl100 (sim_frame_writer_root k f_1 ([v_3, v_4, v_5] : (List UInt8)) gb_7 (some gb_6) (3) x_11 hv_x_11) (HasO.wk (q := CLO 100 []) (tl hd 4 20) (wkCFn hc)) (.cons (tl hd 5 21) (.cons (tl hd 6 22) .nil)) rfl) (fun hz5 => (fnsplit hz5 (fun hc hv_x_11 => op_call (js := [1, 0]) ld cl102 (sim_frame_writer_leaves k f_1 ([v_3, v_4, v_5] : (List UInt8)) gb_7 (some gb_6) (3) x_11 hv_x_11) (HasO.wk (q := CLO 102 []) (tl hd 4 20) (wkCFn hc)) (.cons (tl hd 5 21) (.cons (tl hd 6 22) .nil)) rfl) (fun hz6 => (fnsplit hz6 (fun hc hv_x_11 => op_call (js := [1, 0]) ld cl104 (sim_frame_writer_buckets k f_1 ([v_3, v_4, v_5] : (List UInt8)) gb_7 (some gb_6) (3) x_11 hv_x_11) (HasO.wk (q := CLO 104 []) (tl hd 4 20) (wkCFn hc)) (.cons (tl hd 5 21) (.cons (tl hd 6 22) .nil)) rfl) (fun hz7 => (fnone hz7)))))))))))))))) (fun q => by obtain ⟨q0, q1⟩ := q; cases q0 <;> exact Imp.refl)⟩) (fun _ _ => rfl) (fun _ _ => rfl)) ?_
      exact DSteps.nil)
     (by decide +kernel) (fun _ => rfl) (fun _ => rfl) (fun _ => rfl) rfl
     (ρ' := fun γ => [(3, ov (PTR gb_7 0))])
     (X' := fun γ => [cvar gb_2 r_api_Frame f_1, cmap (deo (γ 0 0)) (S (rI .i64)) (A r_frame_form) (some (v_8)), cvar gb_7 (zq21 (deo (γ 7 0)) x_11 (γ 7 1)) ((), ()), cown (deo (γ 7 0)) (rU UInt8) x_11 0 (γ 7 1)])
     (fun γ ρ hb hd => (.cons (hb 3 _ rfl) .nil)) (fun _ => rfl) (fun γ => ?_)
 generalize (deo (γ 0 0)) = go_9
 generalize (deo (γ 7 0)) = go_12
 generalize (γ 7 1) = gc_13
 clear γ
 refine JQ.at ⟨[(3, ov (PTR gb_7 0))], [cvar gb_2 r_api_Frame f_1, cmap go_9 (S (rI .i64)) (A r_frame_form) (some (v_8)), cvar gb_7 (zq21 go_12 x_11 gc_13) ((), ()), cown go_12 (rU UInt8) x_11 0 gc_13], []⟩ ?_
 try obtain rfl := so hx1
 exact JQ.join (go_12, gc_13) (Imp.norm (js := [2, 2]) rfl (.cons rfl .nil))

theorem sim_frame_Bytes'4 (k : Nat) (f_1 : api_Frame) (r : (List UInt8) × Int) (hm : frame_Bytes'4 k f_1 = some r) : Sim Tryz.prog 10 [A r_api_Frame f_1] [] (γ := Option Nat × Nat) (fun q => [cown q.1 (rU UInt8) r.1 (List.length r.1) q.2]) (fun q => .tup [.val (HDR q.1 0 (List.length r.1) q.2), .val (S (rI .i64) r.2)]) := by
 unfold frame_Bytes'4 at hm
 refine Sim.of Tryz.func10 rfl rfl (lE rfl) (fun e0 w0 => ?_)
 refine JC.at ⟨[(0, ov (A r_api_Frame f_1))], [], []⟩ <| jr <| jx (op_boxA lb (.tmp rfl)) fun gb_2 => jc (op_assign lb HasO.nilH) <| jc (op_assign lb .cI) <| jn <| JC.seq <| jr <| jc (op_loadA (j := 0) lb tA39 (.tmp rfl) rfl (Comp.self r_api_Frame f_1) rfl) <| bI hm fun v_3 hv_3 hm => jx (op_call (js := []) ld cl11 (sim_frame_May k f_1 v_3 hv_3) .func (.cons (.tmp rfl) .nil) rfl) fun _ => lI hm fun v_4 hv_4 hm => jc (op_not lb (.tmp rfl) hv_4) <| jn ?_
 refine jif (.tmp rfl) hm (fun hc1 hm => ?_) (fun hc1 hm => ?_)
 · refine jr <| jc (op_assign lb HasO.nilH) <| jc (op_assign lb .cI) <| jn <| JC.ret <| JQ.outR ?_
   obtain rfl := so hm
   exact JQ.pre (Imp.nilown (rU UInt8)) <| JQ.pre (Imp.frz (j := 1) rfl ImpK.refl) <| JQ.done (js := [1]) (ss := [.val (HDR none 0 (List.length ([] : (List UInt8))) (0)), .val (S (rI .i64) (2 : Int))]) (none, 0) (.inl rfl) (.nil rfl) rfl (.cons (.tmp rfl) (.cons (.tmp rfl) .nil)) rfl rfl rfl
 refine JC.skip <| JQ.then <| jr <| jc (op_loadA (j := 0) lb tA39 (.tmp rfl) rfl (Comp.self r_api_Frame f_1) rfl) <| bI hm fun v_5 hv_5 hm => jx (op_call (js := []) ld cl27 (sim_frame_bytes'4 k f_1 v_5 hv_5) .func (.cons (.tmp rfl) .nil) rfl) (fun q => ?_)
 obtain ⟨go_6, gc_7⟩ := q
 refine JL.nrm ⟨[(2, ov (HDR none 0 0 0)), (3, ov (S (rI .i64) (0 : Int))), (8, ov (HDR go_6 0 (List.length v_5) gc_7))], [cown go_6 (rU UInt8) v_5 (List.length v_5) gc_7], []⟩ [0] rfl (.cons rfl (.cons rfl (.cons rfl .nil))) rfl <| jc (op_assign lb (.tmp rfl)) <| jc (op_assign lb .cI) <| jn <| JC.ret ?_
 obtain rfl := so hm
 exact JQ.done (js := [0]) (ss := [.val (HDR go_6 0 (List.length v_5) gc_7), .val (S (rI .i64) (0 : Int))]) (go_6, gc_7) (.inl rfl) (.nil rfl) rfl (.cons (.tmp rfl) (.cons (.tmp rfl) .nil)) rfl rfl rfl

theorem sim_slices_Clonebyte_byte (k : Nat) (s_1 : (List UInt8)) (r : (List UInt8)) (hm : slices_Clonebyte_byte k s_1 = some r) : Sim Tryz.prog 89 [S (rL (rU UInt8)) s_1] [] (γ := Option Nat × Nat) (fun q => [cown q.1 (rU UInt8) r 0 q.2]) (fun q => .one (.val (HDR q.1 0 (List.length r) q.2))) := by
 unfold slices_Clonebyte_byte at hm
 refine Sim.of Tryz.func89 rfl rfl (lE rfl) (fun e0 w0 => ?_)
 refine JC.at ⟨[(0, ov (S (rL (rU UInt8)) s_1))], [], []⟩ <| jr <| jc (op_assign lb HasO.nilH) <| jn <| JC.seq <| jr <| jmv rfl rfl <| JL.consX rfl (op_isNil (neg := false) (ltB rfl) tu27 (.tmp rfl) HasO.nilH) (fun q => ?_)
 obtain ⟨hb1, hb1_⟩ := q
 cases hb1
 · refine jn <| JC.condF (.tmp rfl) rfl <| JC.skip <| JQ.then <| jr <| jx (op_buildO (r := (rU UInt8)) lb tu27 tz5 tZ5 rfl (lE rfl) .nil rfl) fun gb_2 => jmv rfl rfl <| bI hm fun x_3 hv_x_3 hm => jx (op_appendL (j := 0) lb tu27 tu27 rfl tB5 rfl (Nat.lt_of_lt_of_le Nat.zero_lt_one (lE rfl)) (Nat.lt_of_lt_of_le Nat.zero_lt_one (lE rfl))  rfl (.tmp rfl) (.tmp rfl) hv_x_3) (fun q => ?_)
   obtain ⟨go_4, gc_5⟩ := q
   refine jc (op_assign lb (.tmp rfl)) <| jn <| JC.ret ?_
   obtain rfl := so hm
   exact JQ.done (js := [0]) (ss := [.val (HDR go_4 0 (List.length x_3) gc_5)]) (go_4, gc_5) (.inl rfl) (.nil rfl) rfl (.cons (.tmp rfl) .nil) rfl rfl rfl
 replace hm := nilK hm (show _ = (
       some ([] : (List UInt8))
       ) by simp [hb1_ rfl, subL, apL])
 refine jn <| JC.condT (.tmp rfl) rfl <| jr <| jc (op_assign lb HasO.nilH) <| jn <| JC.ret <| JQ.outR ?_
 obtain rfl := so hm
 exact JQ.pre (Imp.nilown (rU UInt8)) <| JQ.done (js := [0]) (ss := [.val (HDR none 0 (List.length ([] : (List UInt8))) (0))]) (none, 0) (.inl rfl) (.nil rfl) rfl (.cons (.tmp rfl) .nil) rfl rfl rfl

theorem sim_wire_Read (k : Nat) (b_1 : (List UInt8)) (r : (List UInt8)) (hm : wire_Read k b_1 = some r) : Sim Tryz.prog 52 [S (rL (rU UInt8)) b_1] [] (γ := Nat × Option Nat × Nat) (fun q => [cvar q.1 (rP (rW (HDR q.2.1 0 (List.length r) q.2.2)) (rP rB (rP rB r0))) ((), (true, (true, ()))), cown q.2.1 (rU UInt8) r 0 q.2.2]) (fun q => .one (.val (PTR q.1 0))) := by
 unfold wire_Read at hm
 refine Sim.of Tryz.func52 rfl rfl (lE rfl) (fun e0 w0 => ?_)
 refine JC.at ⟨[(0, ov (S (rL (rU UInt8)) b_1))], [], []⟩ <| jr <| jc (op_assign lb (HasO.const (p := PTO none) fun _ => rfl)) <| jn <| jr <| jmv rfl rfl <| bI hm fun v_2 hv_2 hm => jx (op_call (js := []) ld cl89 (sim_slices_Clonebyte_byte k b_1 v_2 hv_2) .func (.cons (.tmp rfl) .nil) rfl) (fun q => ?_)
 obtain ⟨go_3, gc_4⟩ := q
 refine jc (op_build lb tZ138 zr138 tp138 (.S (off := 0) (s := rW (HDR go_3 0 (List.length v_2) gc_4)) (u := ()) rfl (HasO.wk (q := S (rW (HDR go_3 0 (List.length v_2) gc_4)) ()) (.tmp rfl) wkV) rfl ((UpdR.fst (UpdR.self (by rfl))).at (by rfl)) (.S (off := 1) rfl .cB rfl ((UpdR.snd (UpdR.fst (UpdR.self (by rfl)))).at (by rfl)) (.S (off := 2) rfl .cB rfl ((UpdR.snd (UpdR.snd (UpdR.fst (UpdR.self (by rfl))))).at (by rfl)) .nil))) rfl) <| jx (op_boxA lb (.tmp rfl)) fun gb_5 => jc (op_assign lb (.tmp rfl)) <| jn <| JC.ret ?_
 obtain rfl := so hm
 exact JQ.done (js := [1, 0]) (ss := [.val (PTR gb_5 0)]) (gb_5, go_3, gc_4) (.inl rfl) (.nil rfl) rfl (.cons (.tmp rfl) .nil) rfl rfl rfl

theorem sim_wire_Reader_Failed (k : Nat) (is_1 : Bool) (made_2 : Bool) (x_4 : (List UInt8)) (gb_3 : Nat) (go_5 : Option Nat) (gc_6 : Nat) (r : Bool) (hm : wire_Reader_Failed k is_1 made_2 x_4 = some r) : Sim Tryz.prog 122 [PTR gb_3 0] [cvar gb_3 (zq28 go_5 x_4 gc_6) ((), (is_1, (made_2, ()))), cown go_5 (rU UInt8) x_4 0 gc_6] (γ := Unit) (fun q => [cvar gb_3 (zq28 go_5 x_4 gc_6) ((), (is_1, (made_2, ()))), cown go_5 (rU UInt8) x_4 0 gc_6]) (fun q => .one (.val (S rB r))) := by
 unfold wire_Reader_Failed at hm
 refine Sim.of Tryz.func122 rfl rfl (lE rfl) (fun e0 w0 => ?_)
 refine JC.at ⟨[(0, ov (PTR gb_3 0))], [cvar gb_3 (zq28 go_5 x_4 gc_6) ((), (is_1, (made_2, ()))), cown go_5 (rU UInt8) x_4 0 gc_6], []⟩ <| jr <| jc (op_assign lb .cB) <| jn <| bI hm fun x_8 hx1 hq1 => JC.seqJ (γ := Unit) (stj := fun _ => ⟨[(2, ov (S rB x_8))], [cvar gb_3 (zq28 go_5 x_4 gc_6) ((), (is_1, (made_2, ()))), cown go_5 (rU UInt8) x_4 0 gc_6], []⟩) (fun _ => ?_) ?_
 · refine JC.ret ?_
   obtain rfl := so hq1
   exact JQ.done (js := [0, 0]) (ss := [.val (S rB x_8)]) () (.inl rfl) (.nil rfl) rfl (.cons (.tmp rfl) .nil) rfl rfl rfl
 refine JC.region <| jmv rfl rfl <| jc (op_nilP (neg := false) lb tu87 (.tmp rfl) (HasO.const (p := PTO none) fun _ => rfl)) <| jmv rfl rfl <| JL.run (.yes rfl (ltB rfl) rfl rfl) (op_move lb (.tmp rfl)) <| JL.run (.yes rfl (ltB rfl) rfl rfl) (op_nilCheck lb (.tmp rfl) (fun e v h => by subst h; rfl)) <| JL.run (.yes rfl (ltB rfl) rfl rfl) (op_fieldAddr (off := 1) lb tf138_1 (.tmp rfl)) <| JL.run (.yes rfl (ltB rfl) rfl rfl) (op_loadS (j := 0) lb tS4 (.tmp rfl) rfl (Comp.trans (Comp.self (zq28 go_5 x_4 gc_6) ((), (is_1, (made_2, ())))) (Comp.at' (Comp.inS (Comp.inF (Comp.self rB is_1) (lE rfl))) (by rfl : _ = 1)) (lE rfl)) rfl rfl) <| lI hx1 fun v_7 hv_7 hx1 => JL.run (.yes rfl (ltB rfl) rfl rfl) (op_not lb (.tmp rfl) hv_7) <| jc (op_pickF lb (.tmp rfl) rfl (.tmp rfl)) <| jc (op_assign lb (.tmp rfl)) <| JL.nil ?_
 try obtain rfl := so hx1
 exact JQ.pre (Imp.var (j := 0) (q := (zq28 go_5 x_4 gc_6)) (y := ((), (is_1, (made_2, ())))) rfl Wk.refl) <| JQ.join () (Imp.norm (js := [0, 0]) rfl (.cons rfl .nil))

theorem sim_wire_Reader_take (k : Nat) (n_1 : Int) (is_2 : Bool) (made_3 : Bool) (x_5 : (List UInt8)) (gb_4 : Nat) (go_6 : Option Nat) (gc_7 : Nat) (r : (List UInt8) × Bool × (List UInt8) × Bool × Bool) (hm : wire_Reader_take k n_1 is_2 made_3 x_5 = some r) : Sim Tryz.prog 90 [PTR gb_4 0, S (rI .i64) n_1] [cvar gb_4 (zq28 go_6 x_5 gc_7) ((), (is_2, (made_3, ()))), cown go_6 (rU UInt8) x_5 0 gc_7] (γ := Unit) (fun q => [cvar gb_4 (rP (rL (rU UInt8)) (rP rB (rP rB r0))) (r.2.2.1, (r.2.2.2.1, (r.2.2.2.2, ()))), cown go_6 (rU UInt8) x_5 (List.length x_5) gc_7]) (fun q => .tup [.val (S (rL (rU UInt8)) r.1), .val (S rB r.2.1)]) := by
 unfold wire_Reader_take at hm
 refine Sim.of Tryz.func90 rfl rfl (lE rfl) (fun e0 w0 => ?_)
 refine JC.at ⟨[(0, ov (PTR gb_4 0)), (1, ov (S (rI .i64) n_1))], [cvar gb_4 (zq28 go_6 x_5 gc_7) ((), (is_2, (made_3, ()))), cown go_6 (rU UInt8) x_5 0 gc_7], []⟩ <| jr <| jc (op_assign lb HasO.nilH) <| jc (op_assign lb .cB) <| jn <| JC.seq <| JC.block <| jr <| jmv rfl rfl <| bI hm fun v_8 hv_8 hm => jx (op_call (js := [0, 0]) ld cl122 (sim_wire_Reader_Failed k is_2 made_3 x_5 gb_4 go_6 gc_7 v_8 hv_8) .func (.cons (.tmp rfl) .nil) rfl) fun _ => jc (op_assign lb (.tmp rfl)) <| jn <| jif (.tmp rfl) hm (fun hc1 hm => ?_) (fun hc1 hm => ?_)
 · refine jr <| jc (op_assign lb HasO.nilH) <| jc (op_assign lb .cB) <| jn <| JC.ret <| JQ.outRB <| JQ.outR ?_
   obtain rfl := so hm
   exact JQ.pre (Imp.slot (s := 4) (q := S (rL (rU UInt8)) ([] : (List UInt8))) rfl wkNil) <| JQ.pre (Imp.frz (j := 1) rfl (ImpK.var (j := 0) (q := (zq29 go_6 x_5 gc_7)) (y := ((), (is_2, (made_3, ())))) rfl (Wk.pair Wk.own (Wk.pair Wk.refl (Wk.pair Wk.refl Wk.refl))) ImpK.refl)) <| JQ.pre (Imp.var (j := 0) (q := (rP (rL (rU UInt8)) (rP rB (rP rB r0)))) (y := (x_5, (is_2, (made_3, ())))) rfl (Wk.pair Wk.hl (Wk.pair Wk.refl (Wk.pair Wk.refl Wk.refl)))) <| JQ.done (js := [0, 0]) (ss := [.val (S (rL (rU UInt8)) ([] : (List UInt8))), .val (S rB false)]) () (.inl rfl) (.nil rfl) rfl (.cons (.tmp rfl) (.cons (.tmp rfl) .nil)) rfl rfl rfl
 refine bI hm fun x_11 hx2 hq2 => JC.seqJ (γ := Unit) (stj := fun _ => ⟨[(0, ov (PTR gb_4 0)), (1, ov (S (rI .i64) n_1)), (10, ov (S rB x_11))], [cvar gb_4 (zq28 go_6 x_5 gc_7) ((), (is_2, (made_3, ()))), cown go_6 (rU UInt8) x_5 0 gc_7], []⟩) (fun _ => ?_) ?_
 · refine jif (.tmp rfl) hq2 (fun hc9 hq2 => ?_) (fun hc9 hq2 => ?_)
   · refine jr <| jmv rfl rfl <| jc (op_build lb tZ138 zr138 tp138 (.S (off := 2) rfl .cB rfl ((UpdR.snd (UpdR.snd (UpdR.fst (UpdR.self (by rfl))))).at (by rfl)) .nil) rfl) <| jc (op_nilCheck lb (.tmp rfl) (fun e v h => by subst h; rfl)) <| jc (op_storeA (j := 0) tA138 (.tmp rfl) (.tmp rfl) rfl (UpdR.self (by rfl)) rfl) <| jn <| jr <| jc (op_assign lb HasO.nilH) <| jc (op_assign lb .cB) <| jn <| JC.ret <| JQ.outRB <| JQ.outR ?_
     obtain rfl := so hq2
     exact JQ.pre (Imp.slot (s := 4) (q := S (rL (rU UInt8)) ([] : (List UInt8))) rfl wkNil) <| JQ.pre (Imp.frz (j := 1) rfl ImpK.refl) <| JQ.pre (Imp.var (j := 0) (q := (rP (rL (rU UInt8)) (rP rB (rP rB r0)))) (y := (([] : (List UInt8)), (false, (true, ())))) rfl (Wk.pair Wk.nil (Wk.pair Wk.refl (Wk.pair Wk.refl Wk.refl)))) <| JQ.done (js := [0, 0]) (ss := [.val (S (rL (rU UInt8)) ([] : (List UInt8))), .val (S rB false)]) () (.inl rfl) (.nil rfl) rfl (.cons (.tmp rfl) (.cons (.tmp rfl) .nil)) rfl rfl rfl
   refine JC.skip <| JQ.outNB <| JQ.then <| jr <| jmv rfl rfl <| jc (op_nilCheck lb (.tmp rfl) (fun e v h => by subst h; rfl)) <| jc (op_fieldAddr (off := 0) lb tf138_0 (.tmp rfl)) <| jc (op_loadW (j := 0) lb tS27 (.tmp rfl) rfl (Comp.trans (Comp.self (zq28 go_6 x_5 gc_7) ((), (is_2, (made_3, ())))) (Comp.at' (Comp.inF (Comp.self (rW (HDR go_6 0 (List.length x_5) gc_7)) ()) (lE rfl)) (by rfl : _ = 0)) (lE rfl))) <| jmv rfl rfl <| jmv rfl rfl <| bI hq2 fun v_12 hv_12 hq2 => JL.pre (Imp.frz (j := 1) rfl (ImpK.slotH (s := 28) rfl (ImpK.var (j := 0) (q := (zq29 go_6 x_5 gc_7)) (y := ((), (is_2, (made_3, ())))) rfl (Wk.pair Wk.own (Wk.pair Wk.refl (Wk.pair Wk.refl Wk.refl))) ImpK.refl))) <| jc (op_sliceLcg lb tu27 tz5 (HasO.wk (.tmp rfl) wkHL) .none (.some (.tmp rfl)) (.some (.tmp rfl)) hv_12) <| jc (op_assign lb (.tmp rfl)) <| jn <| jr <| jmv rfl rfl <| jmv rfl rfl <| JL.sub ⟨[(1, ov (S (rI .i64) n_1)), (6, ov (S (rLc (rU UInt8)) v_12)), (32, ov (PTR gb_4 0)), (33, ov (PTR gb_4 0))], [cvar gb_4 (zq29 go_6 x_5 gc_7) ((), (is_2, (made_3, ()))), cown go_6 (rU UInt8) x_5 (List.length x_5) gc_7], []⟩ (.cons rfl (.cons rfl (.cons rfl (.cons rfl .nil)))) rfl rfl ?_
   refine jc (op_nilCheck lb (.tmp rfl) (fun e v h => by subst h; rfl)) <| jc (op_fieldAddr (off := 0) lb tf138_0 (.tmp rfl)) <| jc (op_loadW (j := 0) lb tS27 (.tmp rfl) rfl (Comp.trans (Comp.self (zq29 go_6 x_5 gc_7) ((), (is_2, (made_3, ())))) (Comp.at' (Comp.inF (Comp.self (rW (HL go_6 (rU UInt8) x_5 gc_7)) ()) (lE rfl)) (by rfl : _ = 0)) (lE rfl))) <| jmv rfl rfl <| bI hq2 fun v_13 hv_13 hq2 => jc (op_sliceLg lb tu27 tz5 (HasO.wk (.tmp rfl) wkHL) (.some (.tmp rfl)) .none hv_13) <| jc (op_nilCheck lb (.tmp rfl) (fun e v h => by subst h; rfl)) <| jc (op_fieldAddr (off := 0) lb tf138_0 (.tmp rfl)) <| jc (op_storeS (j := 0) tS27 (.tmp rfl) (.tmp rfl) rfl rfl ((UpdR.fst (UpdR.self (by rfl))).at (by change 0 = (0 + 0); omega)) rfl) <| jn <| jr <| jmv rfl rfl <| jc (op_assign lb (.tmp rfl)) <| JL.sub ⟨[(4, ov (S (rLc (rU UInt8)) v_12))], [cvar gb_4 (rP (rL (rU UInt8)) (rP rB (rP rB r0))) (v_13, (is_2, (made_3, ()))), cown go_6 (rU UInt8) x_5 (List.length x_5) gc_7], []⟩ (.cons rfl .nil) rfl rfl <| jc (op_assign lb .cB) <| jn <| JC.ret ?_
   obtain rfl := so hq2
   exact JQ.pre (Imp.slotS (s := 4) rfl Wk.clip) <| JQ.done (js := [0, 0]) (ss := [.val (S (rL (rU UInt8)) v_12), .val (S rB true)]) () (.inl rfl) (.nil rfl) rfl (.cons (.tmp rfl) (.cons (.tmp rfl) .nil)) rfl rfl rfl
 refine JC.region <| jmv rfl rfl <| lI hx2 fun v_9 hv_9 hx2 => jc (op_cmpI lb (.tmp rfl) .cI (cs hv_9)) <| jmv rfl rfl <| jF (ov (S (rI .i64) n_1)) rfl rfl rfl rfl (fun hq_3 => op_move lb (.tmp rfl)) <| jF (ov (PTR gb_4 0)) rfl rfl rfl rfl (fun hq_4 => op_move lb (.tmp rfl)) <| JL.sub ⟨[(0, ov (PTR gb_4 0)), (1, ov (S (rI .i64) n_1)), (13, ov (S rB v_9)), (14, bif (!v_9) then ov (S (rI .i64) n_1) else .one .und), (15, bif (!v_9) then ov (PTR gb_4 0) else .one .und)], [cvar gb_4 (zq28 go_6 x_5 gc_7) ((), (is_2, (made_3, ()))), cown go_6 (rU UInt8) x_5 0 gc_7], []⟩ (.cons rfl (.cons rfl (.cons rfl (.cons rfl (.cons rfl .nil))))) rfl rfl <| jF (ov (PTR gb_4 0)) rfl rfl rfl rfl (fun hq_5 => op_nilCheck lb (HasO.cnd (.tmp rfl) (notT (notF hq_5))) (fun e v h => by subst h; rfl)) <| jF (ov (PTR gb_4 (0 + 0))) rfl rfl rfl rfl (fun hq_6 => op_fieldAddr (off := 0) lb tf138_0 (HasO.cnd (.tmp rfl) (notT (notF hq_6)))) ?_
 rcases iteB_inv hx2 with ⟨hc8, hx2⟩ | ⟨hc8, hx2⟩
 · refine jk rfl hc8 <| jk rfl hc8 <| jk rfl hc8 <| jc (op_pickT lb (.tmp rfl) hc8 .cB) <| jc (op_assign lb (.tmp rfl)) <| JL.nil ?_
   try obtain rfl := so hx2
   exact JQ.join () (Imp.norm (js := [0, 0]) rfl (.cons rfl (.cons rfl (.cons rfl .nil))))
 refine JL.run (.yes rfl (ltB rfl) rfl hc8) (op_loadW (j := 0) lb tS27 (HasO.cnd (.tmp rfl) (notT hc8)) rfl (Comp.trans (Comp.self (zq28 go_6 x_5 gc_7) ((), (is_2, (made_3, ())))) (Comp.at' (Comp.inF (Comp.self (rW (HDR go_6 0 (List.length x_5) gc_7)) ()) (lE rfl)) (by rfl : _ = 0)) (lE rfl))) <| JL.run (.yes rfl (ltB rfl) rfl hc8) (op_lenH lb tu27 (.tmp rfl)) <| lI hx2 fun v_10 hv_10 hx2 => JL.run (.yes rfl (ltB rfl) rfl hc8) (op_cmpI lb (HasO.cnd (.tmp rfl) (notT hc8)) (.tmp rfl) (cs hv_10)) <| jc (op_pickF lb (.tmp rfl) hc8 (.tmp rfl)) <| jc (op_assign lb (.tmp rfl)) <| JL.nil ?_
 try obtain rfl := so hx2
 exact JQ.join () (Imp.norm (js := [0, 0]) rfl (.cons rfl (.cons rfl (.cons rfl .nil))))

theorem sim_wire_Get (k : Nat) (b_1 : (List UInt8)) (r : UInt64 × Int) (hm : wire_Get k b_1 = some r) : Sim Tryz.prog 91 [S (rL (rU UInt8)) b_1] [] (γ := Unit) (fun q => []) (fun q => .tup [.val (S (rU UInt64) r.1), .val (S (rI .i64) r.2)]) := by
 unfold wire_Get at hm
 refine Sim.of Tryz.func91 rfl rfl (lE rfl) (fun e0 w0 => ?_)
 refine JC.at ⟨[(0, ov (S (rL (rU UInt8)) b_1))], [], []⟩ <| jr <| jc (op_assign lb (HasO.cU (x := (0 : UInt64)) rfl (by decide))) <| jc (op_assign lb .cI) <| jn <| JC.seq <| bI hm fun x_5 hx1 hq1 => JC.seqJ (γ := Unit) (stj := fun _ => ⟨[(0, ov (S (rL (rU UInt8)) b_1)), (14, ov (S rB x_5))], [], []⟩) (fun _ => ?_) ?_
 · refine jif (.tmp rfl) hq1 (fun hc6 hq1 => ?_) (fun hc6 hq1 => ?_)
   · refine jr <| jc (op_assign lb (HasO.cU (x := (0 : UInt64)) rfl (by decide))) <| jc (op_assign lb .cI) <| jn <| JC.ret <| JQ.outR ?_
     obtain rfl := so hq1
     exact JQ.done (js := []) (ss := [.val (S (rU UInt64) (0 : UInt64)), .val (S (rI .i64) (2 : Int))]) () (.inl rfl) (.nil rfl) rfl (.cons (.tmp rfl) (.cons (.tmp rfl) .nil)) rfl rfl rfl
   refine JC.skip <| JQ.then <| jr <| jc (op_assign lb (HasO.cU (x := (0 : UInt64)) rfl (by decide))) <| jn <| bI hq1 fun n_14 hx7 hq7 => JC.seqJ (γ := Unit) (stj := fun _ => ⟨[(4, ov (S (rU UInt64) n_14))], [], []⟩) (fun _ => ?_) ?_
   · refine jr <| jmv rfl rfl <| jc (op_assign lb (.tmp rfl)) <| jc (op_assign lb .cI) <| jn <| JC.ret ?_
     obtain rfl := so hq7
     exact JQ.done (js := []) (ss := [.val (S (rU UInt64) n_14), .val (S (rI .i64) (0 : Int))]) () (.inl rfl) (.nil rfl) rfl (.cons (.tmp rfl) (.cons (.tmp rfl) .nil)) rfl rfl rfl
   refine jr <| jmv rfl rfl <| jc (op_lenL lb tu27 (.tmp rfl)) <| jc (op_move lb .cI) <| jn <| JC.block <| JC.pre ?_ (JC.loop (γ := Unit) (stf := fun s q => ⟨[(4, ov (S (rU UInt64) s.1)), (15, ov (S (rL (rU UInt8)) b_1)), (16, ov (S (rI .i64) (List.length b_1 : Int))), (17, ov (S (rI .i64) s.2))], [], []⟩) (q := ()) hx7 ?_)
   · exact (Imp.norm (js := []) rfl (.cons rfl (.cons rfl (.cons rfl (.cons rfl .nil)))))
   intro s q x hx hr
   obtain ⟨n_6, x_7⟩ := s
   obtain _ := q
   change wire_Get.b1 k b_1 n_6 x_7 = some x at hx
   unfold wire_Get.b1 at hx
   refine JC.at ⟨[(4, ov (S (rU UInt64) n_6)), (15, ov (S (rL (rU UInt8)) b_1)), (16, ov (S (rI .i64) (List.length b_1 : Int))), (17, ov (S (rI .i64) x_7))], [], []⟩ <| jr <| lI hx fun v_8 hv_8 hx => jc (op_cmpI lb (.tmp rfl) (.tmp rfl) (cs hv_8)) <| jn <| JC.seq <| jif (.tmp rfl) hx (fun hc9 hx => ?_) (fun hc9 hx => ?_)
   · refine JC.skip <| JQ.then <| JC.seq <| JC.block <| jr <| bI hx fun v_9 hv_9 hx => jc (op_indexAddrLg lb tu27 tz5 (.tmp rfl) (.tmp rfl) hv_9) <| jc (op_loadPSg lb tS5 rfl (.tmp rfl) rfl) <| jc (op_assign lb (.tmp rfl)) <| jn <| JC.region <| jmv rfl rfl <| lI hx fun v_10 hv_10 hx => jc (op_shlUU lb (.tmp rfl) (HasO.cU (x := (8 : UInt64)) rfl (by decide)) hv_10) <| jmv rfl rfl <| lI hx fun v_11 hv_11 hx => jc (op_convUU lb tu5 tu24 (.tmp rfl) hv_11) ?_
     refine lI hx fun v_12 hv_12 hx => jc (op_arU lb (.tmp rfl) (.tmp rfl) (cs hv_12)) <| jc (op_assign lb (.tmp rfl)) <| JL.nil <| JQ.outNB <| JQ.then <| JC.region <| lI hx fun v_13 hv_13 hx => jc (op_arI lb (.tmp rfl) .cI (cs hv_13)) <| jmv rfl rfl <| JL.sub ⟨[(4, ov (S (rU UInt64) v_12)), (15, ov (S (rL (rU UInt8)) b_1)), (16, ov (S (rI .i64) (List.length b_1 : Int))), (17, ov (S (rI .i64) v_13))], [], []⟩ (.cons rfl (.cons rfl (.cons rfl (.cons rfl .nil)))) rfl rfl <| JL.nil ?_
     try obtain rfl := so hx
     exact JQ.next () rfl (Imp.norm (js := []) rfl (.cons rfl (.cons rfl (.cons rfl (.cons rfl .nil)))))
   refine JC.exit <| JQ.outX ?_
   try obtain rfl := so hx
   have ht := hr _ rfl
   have hq8 := cs ht
   clear hr ht
   refine JQ.outX <| JQ.here ?_
   try obtain rfl := so hq8
   exact jo rfl rfl rfl
 refine JC.region <| jmv rfl rfl <| jc (op_lenL lb tu27 (.tmp rfl)) <| lI hx1 fun v_2 hv_2 hx1 => jc (op_cmpI lb (.tmp rfl) .cI (cs hv_2)) <| jmv rfl rfl <| jF (ov (S (rL (rU UInt8)) b_1)) rfl rfl rfl rfl (fun hq_2 => op_move lb (.tmp rfl)) <| jF (ov (S (rI .i64) (List.length b_1 : Int))) rfl rfl rfl rfl (fun hq_3 => op_lenL lb tu27 (HasO.cnd (.tmp rfl) (notT (notF hq_3)))) <| lI hx1 fun v_3 hv_3 hx1 => jF (ov (S rB v_3)) rfl rfl rfl rfl (fun hq_4 => op_cmpI lb (HasO.cnd (.tmp rfl) (notT (notF hq_4))) .cI (cs hv_3)) <| lI hx1 fun v_4 hv_4 hx1 => jc (op_pickCS lb (.tmp rfl) (fun hb5 => .cB) (fun hb5 => (HasO.cnd (.tmp rfl) (notT hb5))) hv_4) <| JL.nil ?_
 try obtain rfl := so hx1
 exact JQ.join () (Imp.norm (js := []) rfl (.cons rfl (.cons rfl .nil)))

theorem sim_wire_Reader_Number (k : Nat) (size_1 : Int) (is_2 : Bool) (made_3 : Bool) (x_5 : (List UInt8)) (gb_4 : Nat) (go_6 : Option Nat) (gc_7 : Nat) (r : UInt64 × wire_Reader) (hm : wire_Reader_Number k size_1 is_2 made_3 x_5 = some r) : Sim Tryz.prog 53 [PTR gb_4 0, S (rI .i64) size_1] [cvar gb_4 (zq28 go_6 x_5 gc_7) ((), (is_2, (made_3, ()))), cown go_6 (rU UInt8) x_5 0 gc_7] (γ := Unit) (fun q => [cvar gb_4 r_wire_Reader r.2, cown go_6 (rU UInt8) x_5 (List.length x_5) gc_7]) (fun q => .one (.val (S (rU UInt64) r.1))) := by
 unfold wire_Reader_Number at hm
 refine Sim.of Tryz.func53 rfl rfl (lE rfl) (fun e0 w0 => ?_)
 refine JC.at ⟨[(0, ov (PTR gb_4 0)), (1, ov (S (rI .i64) size_1))], [cvar gb_4 (zq28 go_6 x_5 gc_7) ((), (is_2, (made_3, ()))), cown go_6 (rU UInt8) x_5 0 gc_7], []⟩ <| jr <| jc (op_assign lb (HasO.cU (x := (0 : UInt64)) rfl (by decide))) <| jn <| bI hm fun size_12 hx1 hq1 => JC.seqJ (γ := Unit) (stj := fun _ => ⟨[(0, ov (PTR gb_4 0)), (1, ov (S (rI .i64) size_12))], [cvar gb_4 (zq28 go_6 x_5 gc_7) ((), (is_2, (made_3, ()))), cown go_6 (rU UInt8) x_5 0 gc_7], []⟩) (fun _ => ?_) ?_
 · refine jr <| jmv rfl rfl <| jmv rfl rfl ?_
   obtain ⟨⟨v_13, v_14, x_15, x_16, x_17⟩, hv_13, hq1⟩ := bnd_inv hq1
   refine jx (op_call (js := [0, 0]) ld cl90 (sim_wire_Reader_take k size_12 is_2 made_3 x_5 gb_4 go_6 gc_7 (v_13, v_14, x_15, x_16, x_17) hv_13) .func (.cons (.tmp rfl) (.cons (.tmp rfl) .nil)) rfl) fun _ => jmv rfl rfl <| jc (op_extract (i := 0) lb (.tmp rfl) rfl) <| jc (op_extract (i := 1) lb (.tmp rfl) rfl) <| jc (op_assign lb (.tmp rfl)) <| jc (op_assign lb (.tmp rfl)) <| jn <| jr <| jmv rfl rfl ?_
   obtain ⟨⟨v_18, v_19⟩, hv_18, hq1⟩ := bnd_inv hq1
   refine jx (op_call (js := []) ld cl91 (sim_wire_Get k v_13 (v_18, v_19) hv_18) .func (.cons (.tmp rfl) .nil) rfl) fun _ => JL.sub ⟨[(23, .tup [.val (S (rU UInt64) v_18), .val (S (rI .i64) v_19)])], [cvar gb_4 (rP (rL (rU UInt8)) (rP rB (rP rB r0))) (x_15, (x_16, (x_17, ()))), cown go_6 (rU UInt8) x_5 (List.length x_5) gc_7], []⟩ (.cons rfl .nil) rfl rfl <| jmv rfl rfl <| jc (op_extract (i := 0) lb (.tmp rfl) rfl) <| jc (op_extract (i := 1) lb (.tmp rfl) rfl) <| jc (op_assign lb (.tmp rfl)) <| jc (op_assign lb (.tmp rfl)) <| jn <| jr <| jmv rfl rfl <| jc (op_assign lb (.tmp rfl)) <| jn <| JC.ret ?_
   obtain rfl := so hq1
   exact JQ.pre (Imp.var (j := 0) (q := r_wire_Reader) (y := (wire_Reader.mk x_15 x_16 x_17)) rfl (Wk.st Wk.refl)) <| JQ.done (js := [0, 0]) (ss := [.val (S (rU UInt64) v_18)]) () (.inl rfl) (.nil rfl) rfl (.cons (.tmp rfl) .nil) rfl rfl rfl
 refine bI hx1 fun x_11 hx2 hq2 => JC.seqJ (γ := Unit) (stj := fun _ => ⟨[(0, ov (PTR gb_4 0)), (1, ov (S (rI .i64) size_1)), (14, ov (S rB x_11))], [cvar gb_4 (zq28 go_6 x_5 gc_7) ((), (is_2, (made_3, ()))), cown go_6 (rU UInt8) x_5 0 gc_7], []⟩) (fun _ => ?_) ?_
 · refine jif (.tmp rfl) hq2 (fun hc6 hq2 => ?_) (fun hc6 hq2 => ?_)
   · refine JC.region <| jc (op_assign lb .cI) <| JL.nil ?_
     try obtain rfl := so hq2
     exact JQ.join () (Imp.norm (js := [0, 0]) rfl (.cons rfl (.cons rfl .nil)))
   refine JC.skip ?_
   try obtain rfl := so hq2
   exact JQ.join () (Imp.norm (js := [0, 0]) rfl (.cons rfl (.cons rfl .nil)))
 refine JC.region <| jmv rfl rfl <| lI hx2 fun v_8 hv_8 hx2 => jc (op_cmpI lb (.tmp rfl) .cI (cs hv_8)) <| jmv rfl rfl <| jF (ov (S (rI .i64) size_1)) rfl rfl rfl rfl (fun hq_3 => op_move lb (.tmp rfl)) <| lI hx2 fun v_9 hv_9 hx2 => jF (ov (S rB v_9)) rfl rfl rfl rfl (fun hq_4 => op_cmpI lb (HasO.cnd (.tmp rfl) (notT (notF hq_4))) .cI (cs hv_9)) <| lI hx2 fun v_10 hv_10 hx2 => jc (op_pickCS lb (.tmp rfl) (fun hb5 => .cB) (fun hb5 => (HasO.cnd (.tmp rfl) (notT hb5))) hv_10) <| JL.nil ?_
 try obtain rfl := so hx2
 exact JQ.pre (Imp.var (j := 0) (q := (zq28 go_6 x_5 gc_7)) (y := ((), (is_2, (made_3, ())))) rfl Wk.refl) <| JQ.join () (Imp.norm (js := [0, 0]) rfl (.cons rfl (.cons rfl (.cons rfl .nil))))

theorem sim_wire_Reader_Failed'2 (k : Nat) (r_1 : wire_Reader) (gb_2 : Nat) (r : Bool) (hm : wire_Reader_Failed'2 k r_1 = some r) : Sim Tryz.prog 122 [PTR gb_2 0] [cvar gb_2 r_wire_Reader r_1] (γ := Unit) (fun q => [cvar gb_2 r_wire_Reader r_1]) (fun q => .one (.val (S rB r))) := by
 unfold wire_Reader_Failed'2 at hm
 refine Sim.of Tryz.func122 rfl rfl (lE rfl) (fun e0 w0 => ?_)
 refine JC.at ⟨[(0, ov (PTR gb_2 0))], [cvar gb_2 r_wire_Reader r_1], []⟩ <| jr <| jc (op_assign lb .cB) <| jn <| bI hm fun x_4 hx1 hq1 => JC.seqJ (γ := Unit) (stj := fun _ => ⟨[(2, ov (S rB x_4))], [cvar gb_2 r_wire_Reader r_1], []⟩) (fun _ => ?_) ?_
 · refine JC.ret ?_
   obtain rfl := so hq1
   exact JQ.done (js := [0]) (ss := [.val (S rB x_4)]) () (.inl rfl) (.nil rfl) rfl (.cons (.tmp rfl) .nil) rfl rfl rfl
 refine JC.region <| jmv rfl rfl <| jc (op_nilP (neg := false) lb tu87 (.tmp rfl) (HasO.const (p := PTO none) fun _ => rfl)) <| jmv rfl rfl <| JL.run (.yes rfl (ltB rfl) rfl rfl) (op_move lb (.tmp rfl)) <| JL.run (.yes rfl (ltB rfl) rfl rfl) (op_nilCheck lb (.tmp rfl) (fun e v h => by subst h; rfl)) <| JL.run (.yes rfl (ltB rfl) rfl rfl) (op_fieldAddr (off := 1) lb tf138_1 (.tmp rfl)) <| JL.run (.yes rfl (ltB rfl) rfl rfl) (op_loadS (j := 0) lb tS4 (.tmp rfl) rfl (cT (comp_wire_Reader_is r_1) rfl) rfl rfl) <| lI hx1 fun v_3 hv_3 hx1 => JL.run (.yes rfl (ltB rfl) rfl rfl) (op_not lb (.tmp rfl) hv_3) <| jc (op_pickF lb (.tmp rfl) rfl (.tmp rfl)) <| jc (op_assign lb (.tmp rfl)) <| JL.nil ?_
 try obtain rfl := so hx1
 exact JQ.join () (Imp.norm (js := [0]) rfl (.cons rfl .nil))

theorem sim_wire_Reader_take'2 (k : Nat) (n_1 : Int) (r_2 : wire_Reader) (gb_3 : Nat) (r : (List UInt8) × Bool × wire_Reader) (hm : wire_Reader_take'2 k n_1 r_2 = some r) : Sim Tryz.prog 90 [PTR gb_3 0, S (rI .i64) n_1] [cvar gb_3 r_wire_Reader r_2] (γ := Unit) (fun q => [cvar gb_3 r_wire_Reader r.2.2]) (fun q => .tup [.val (S (rL (rU UInt8)) r.1), .val (S rB r.2.1)]) := by
 unfold wire_Reader_take'2 at hm
 refine Sim.of Tryz.func90 rfl rfl (lE rfl) (fun e0 w0 => ?_)
 refine JC.at ⟨[(0, ov (PTR gb_3 0)), (1, ov (S (rI .i64) n_1))], [cvar gb_3 r_wire_Reader r_2], []⟩ <| jr <| jc (op_assign lb HasO.nilH) <| jc (op_assign lb .cB) <| jn <| JC.seq <| JC.block <| jr <| jmv rfl rfl <| bI hm fun v_4 hv_4 hm => jx (op_call (js := [0]) ld cl122 (sim_wire_Reader_Failed'2 k r_2 gb_3 v_4 hv_4) .func (.cons (.tmp rfl) .nil) rfl) fun _ => jc (op_assign lb (.tmp rfl)) <| jn <| jif (.tmp rfl) hm (fun hc1 hm => ?_) (fun hc1 hm => ?_)
 · refine jr <| jc (op_assign lb HasO.nilH) <| jc (op_assign lb .cB) <| jn <| JC.ret <| JQ.outRB <| JQ.outR ?_
   obtain rfl := so hm
   exact JQ.pre (Imp.slot (s := 4) (q := S (rL (rU UInt8)) ([] : (List UInt8))) rfl wkNil) <| JQ.done (js := [0]) (ss := [.val (S (rL (rU UInt8)) ([] : (List UInt8))), .val (S rB false)]) () (.inl rfl) (.nil rfl) rfl (.cons (.tmp rfl) (.cons (.tmp rfl) .nil)) rfl rfl rfl
 refine bI hm fun x_8 hx2 hq2 => JC.seqJ (γ := Unit) (stj := fun _ => ⟨[(0, ov (PTR gb_3 0)), (1, ov (S (rI .i64) n_1)), (10, ov (S rB x_8))], [cvar gb_3 r_wire_Reader r_2], []⟩) (fun _ => ?_) ?_
 · refine jif (.tmp rfl) hq2 (fun hc11 hq2 => ?_) (fun hc11 hq2 => ?_)
   · refine jr <| jmv rfl rfl <| jc (op_build lb tZ138 zr138 tp138 (.S (off := 2) rfl .cB rfl ((UpdR.snd (UpdR.snd (UpdR.fst (UpdR.self (by rfl))))).at (by rfl)) .nil) rfl) <| jc (op_nilCheck lb (.tmp rfl) (fun e v h => by subst h; rfl)) <| jc (op_storeA (j := 0) tA138 (.tmp rfl) (.tmp rfl) rfl (UpdR.self (by rfl)) rfl) <| jn <| jr <| jc (op_assign lb HasO.nilH) <| jc (op_assign lb .cB) <| jn <| JC.ret <| JQ.outRB <| JQ.outR ?_
     obtain rfl := so hq2
     exact JQ.pre (Imp.slot (s := 4) (q := S (rL (rU UInt8)) ([] : (List UInt8))) rfl wkNil) <| JQ.pre (Imp.var (j := 0) (q := r_wire_Reader) (y := (wire_Reader.mk ([] : (List UInt8)) false true)) rfl (Wk.st (Wk.pair Wk.nil (Wk.pair Wk.refl (Wk.pair Wk.refl Wk.refl))))) <| JQ.done (js := [0]) (ss := [.val (S (rL (rU UInt8)) ([] : (List UInt8))), .val (S rB false)]) () (.inl rfl) (.nil rfl) rfl (.cons (.tmp rfl) (.cons (.tmp rfl) .nil)) rfl rfl rfl
   refine JC.skip <| JQ.outNB <| JQ.then <| jr <| jmv rfl rfl <| jc (op_nilCheck lb (.tmp rfl) (fun e v h => by subst h; rfl)) <| jc (op_fieldAddr (off := 0) lb tf138_0 (.tmp rfl)) <| jc (op_loadS (j := 0) lb tS27 (.tmp rfl) rfl (cT (comp_wire_Reader_rest r_2) rfl) rfl rfl) <| jmv rfl rfl <| jmv rfl rfl <| bI hq2 fun v_9 hv_9 hq2 => jc (op_sliceLcg lb tu27 tz5 (.tmp rfl) .none (.some (.tmp rfl)) (.some (.tmp rfl)) hv_9) <| jc (op_assign lb (.tmp rfl)) <| jn <| jr <| jmv rfl rfl <| jmv rfl rfl <| jc (op_nilCheck lb (.tmp rfl) (fun e v h => by subst h; rfl)) <| jc (op_fieldAddr (off := 0) lb tf138_0 (.tmp rfl)) <| JL.sub ⟨[(1, ov (S (rI .i64) n_1)), (6, ov (S (rLc (rU UInt8)) v_9)), (32, ov (PTR gb_3 0)), (35, ov (PTR gb_3 (0 + 0)))], [cvar gb_3 r_wire_Reader r_2], []⟩ (.cons rfl (.cons rfl (.cons rfl (.cons rfl .nil)))) rfl rfl <| jc (op_loadS (j := 0) lb tS27 (.tmp rfl) rfl (cT (comp_wire_Reader_rest r_2) rfl) rfl rfl) <| jmv rfl rfl ?_
   refine bI hq2 fun v_10 hv_10 hq2 => jc (op_sliceLg lb tu27 tz5 (.tmp rfl) (.some (.tmp rfl)) .none hv_10) <| jc (op_nilCheck lb (.tmp rfl) (fun e v h => by subst h; rfl)) <| jc (op_fieldAddr (off := 0) lb tf138_0 (.tmp rfl)) <| lI hq2 fun x_11 hv_x_11 hq2 => jc (op_storeS (j := 0) tS27 (.tmp rfl) (.tmp rfl) rfl rfl (Upd.trans (Comp.self r_wire_Reader r_2) (Upd.self r_wire_Reader r_2 _) (upd_wire_Reader_rest r_2 v_10)).R hv_x_11) <| jn <| jr <| jmv rfl rfl <| jc (op_assign lb (.tmp rfl)) <| jc (op_assign lb .cB) <| jn <| JC.ret ?_
   obtain rfl := so hq2
   exact JQ.pre (Imp.slotS (s := 4) rfl Wk.clip) <| JQ.done (js := [0]) (ss := [.val (S (rL (rU UInt8)) v_9), .val (S rB true)]) () (.inl rfl) (.nil rfl) rfl (.cons (.tmp rfl) (.cons (.tmp rfl) .nil)) rfl rfl rfl
 refine JC.region <| jmv rfl rfl <| lI hx2 fun v_5 hv_5 hx2 => jc (op_cmpI lb (.tmp rfl) .cI (cs hv_5)) <| jmv rfl rfl <| jF (ov (S (rI .i64) n_1)) rfl rfl rfl rfl (fun hq_3 => op_move lb (.tmp rfl)) <| jF (ov (PTR gb_3 0)) rfl rfl rfl rfl (fun hq_4 => op_move lb (.tmp rfl)) <| JL.sub ⟨[(0, ov (PTR gb_3 0)), (1, ov (S (rI .i64) n_1)), (13, ov (S rB v_5)), (14, bif (!v_5) then ov (S (rI .i64) n_1) else .one .und), (15, bif (!v_5) then ov (PTR gb_3 0) else .one .und)], [cvar gb_3 r_wire_Reader r_2], []⟩ (.cons rfl (.cons rfl (.cons rfl (.cons rfl (.cons rfl .nil))))) rfl rfl <| jF (ov (PTR gb_3 0)) rfl rfl rfl rfl (fun hq_5 => op_nilCheck lb (HasO.cnd (.tmp rfl) (notT (notF hq_5))) (fun e v h => by subst h; rfl)) <| jF (ov (PTR gb_3 (0 + 0))) rfl rfl rfl rfl (fun hq_6 => op_fieldAddr (off := 0) lb tf138_0 (HasO.cnd (.tmp rfl) (notT (notF hq_6)))) <| jF (ov (S (rL (rU UInt8)) r_2.rest)) rfl rfl rfl rfl (fun hq_7 => op_loadS (j := 0) lb tS27 (HasO.cnd (.tmp rfl) (notT (notF hq_7))) rfl (cT (comp_wire_Reader_rest r_2) rfl) rfl rfl) ?_
 refine jF (ov (S (rI .i64) (List.length r_2.rest : Int))) rfl rfl rfl rfl (fun hq_8 => op_lenL lb tu27 (HasO.cnd (.tmp rfl) (notT (notF hq_8)))) <| lI hx2 fun v_6 hv_6 hx2 => jF (ov (S rB v_6)) rfl rfl rfl rfl (fun hq_9 => op_cmpI lb (HasO.cnd (.tmp rfl) (notT (notF hq_9))) (HasO.cnd (.tmp rfl) (notT (notF hq_9))) (cs hv_6)) <| lI hx2 fun v_7 hv_7 hx2 => jc (op_pickCS lb (.tmp rfl) (fun hb10 => .cB) (fun hb10 => (HasO.cnd (.tmp rfl) (notT hb10))) hv_7) <| jc (op_assign lb (.tmp rfl)) <| JL.nil ?_
 try obtain rfl := so hx2
 exact JQ.join () (Imp.norm (js := [0]) rfl (.cons rfl (.cons rfl (.cons rfl .nil))))

theorem sim_wire_Reader_Number'2 (k : Nat) (size_1 : Int) (r_2 : wire_Reader) (gb_3 : Nat) (r : UInt64 × wire_Reader) (hm : wire_Reader_Number'2 k size_1 r_2 = some r) : Sim Tryz.prog 53 [PTR gb_3 0, S (rI .i64) size_1] [cvar gb_3 r_wire_Reader r_2] (γ := Unit) (fun q => [cvar gb_3 r_wire_Reader r.2]) (fun q => .one (.val (S (rU UInt64) r.1))) := by
 unfold wire_Reader_Number'2 at hm
 refine Sim.of Tryz.func53 rfl rfl (lE rfl) (fun e0 w0 => ?_)
 refine JC.at ⟨[(0, ov (PTR gb_3 0)), (1, ov (S (rI .i64) size_1))], [cvar gb_3 r_wire_Reader r_2], []⟩ <| jr <| jc (op_assign lb (HasO.cU (x := (0 : UInt64)) rfl (by decide))) <| jn <| bI hm fun size_8 hx1 hq1 => JC.seqJ (γ := Unit) (stj := fun _ => ⟨[(0, ov (PTR gb_3 0)), (1, ov (S (rI .i64) size_8))], [cvar gb_3 r_wire_Reader r_2], []⟩) (fun _ => ?_) ?_
 · refine jr <| jmv rfl rfl <| jmv rfl rfl ?_
   obtain ⟨⟨v_9, v_10, x_11⟩, hv_9, hq1⟩ := bnd_inv hq1
   refine jx (op_call (js := [0]) ld cl90 (sim_wire_Reader_take'2 k size_8 r_2 gb_3 (v_9, v_10, x_11) hv_9) .func (.cons (.tmp rfl) (.cons (.tmp rfl) .nil)) rfl) fun _ => jmv rfl rfl <| jc (op_extract (i := 0) lb (.tmp rfl) rfl) <| jc (op_extract (i := 1) lb (.tmp rfl) rfl) <| jc (op_assign lb (.tmp rfl)) <| jc (op_assign lb (.tmp rfl)) <| jn <| jr <| jmv rfl rfl ?_
   obtain ⟨⟨v_12, v_13⟩, hv_12, hq1⟩ := bnd_inv hq1
   refine jx (op_call (js := []) ld cl91 (sim_wire_Get k v_9 (v_12, v_13) hv_12) .func (.cons (.tmp rfl) .nil) rfl) fun _ => JL.sub ⟨[(23, .tup [.val (S (rU UInt64) v_12), .val (S (rI .i64) v_13)])], [cvar gb_3 r_wire_Reader x_11], []⟩ (.cons rfl .nil) rfl rfl <| jmv rfl rfl <| jc (op_extract (i := 0) lb (.tmp rfl) rfl) <| jc (op_extract (i := 1) lb (.tmp rfl) rfl) <| jc (op_assign lb (.tmp rfl)) <| jc (op_assign lb (.tmp rfl)) <| jn <| jr <| jmv rfl rfl <| jc (op_assign lb (.tmp rfl)) <| jn <| JC.ret ?_
   obtain rfl := so hq1
   exact JQ.done (js := [0]) (ss := [.val (S (rU UInt64) v_12)]) () (.inl rfl) (.nil rfl) rfl (.cons (.tmp rfl) .nil) rfl rfl rfl
 refine bI hx1 fun x_7 hx2 hq2 => JC.seqJ (γ := Unit) (stj := fun _ => ⟨[(0, ov (PTR gb_3 0)), (1, ov (S (rI .i64) size_1)), (14, ov (S rB x_7))], [cvar gb_3 r_wire_Reader r_2], []⟩) (fun _ => ?_) ?_
 · refine jif (.tmp rfl) hq2 (fun hc6 hq2 => ?_) (fun hc6 hq2 => ?_)
   · refine JC.region <| jc (op_assign lb .cI) <| JL.nil ?_
     try obtain rfl := so hq2
     exact JQ.join () (Imp.norm (js := [0]) rfl (.cons rfl (.cons rfl .nil)))
   refine JC.skip ?_
   try obtain rfl := so hq2
   exact JQ.join () (Imp.norm (js := [0]) rfl (.cons rfl (.cons rfl .nil)))
 refine JC.region <| jmv rfl rfl <| lI hx2 fun v_4 hv_4 hx2 => jc (op_cmpI lb (.tmp rfl) .cI (cs hv_4)) <| jmv rfl rfl <| jF (ov (S (rI .i64) size_1)) rfl rfl rfl rfl (fun hq_3 => op_move lb (.tmp rfl)) <| lI hx2 fun v_5 hv_5 hx2 => jF (ov (S rB v_5)) rfl rfl rfl rfl (fun hq_4 => op_cmpI lb (HasO.cnd (.tmp rfl) (notT (notF hq_4))) .cI (cs hv_5)) <| lI hx2 fun v_6 hv_6 hx2 => jc (op_pickCS lb (.tmp rfl) (fun hb5 => .cB) (fun hb5 => (HasO.cnd (.tmp rfl) (notT hb5))) hv_6) <| JL.nil ?_
 try obtain rfl := so hx2
 exact JQ.join () (Imp.norm (js := [0]) rfl (.cons rfl (.cons rfl (.cons rfl .nil))))

end Go.Proofs.YtklnihlchhhhlaaGreat
