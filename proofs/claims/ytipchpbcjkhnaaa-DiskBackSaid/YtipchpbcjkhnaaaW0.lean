/- Walks. -/
import Derived.Test.YtipchpbcjkhnaaaT
namespace Go.Proofs.Ytipchpbcjkhnaaa
open Go Fw
set_option linter.unusedVariables false
set_option maxRecDepth 100000
set_option maxHeartbeats 4000000

theorem sim_disk_New_v0 (k : Nat) (capacity_1 : Int) (r : Unit) (hm : disk_New k capacity_1 = some (.inl r)) : Sim Try.prog 9 [S (rI .i64) capacity_1] [] (γ := Nat × Option Nat) (fun q => [cvar q.1 (rP (rW (MPV q.2)) (rP (rI .i64) (rP (rI .i64) (rP rB (rP (rI .i64) r0))))) ((), (capacity_1, ((-1 : Int), (false, ((0 : Int), ()))))), cqm q.2 (S rS) r_disk_file (fun _ : (List UInt8) => 0) (some ([] : (List ((List UInt8) × disk_file))))]) (fun q => .tup [.val (PTR q.1 0), .val (S (rI .i64) (0 : Int))]) := by
 unfold disk_New at hm
 refine Sim.of Try.func9 rfl rfl (lE rfl) (fun e0 w0 => ?_)
 refine JC.at ⟨[(0, ov (S (rI .i64) capacity_1))], [], []⟩ <| jr <| jc (op_assign lb (HasO.const (p := PTO none) fun _ => rfl)) <| jc (op_assign lb .cI) <| jn <| JC.seq <| bI hm fun x_5 hx1 hq1 => JC.seqJ (γ := Unit) (stj := fun _ => ⟨[(0, ov (S (rI .i64) capacity_1)), (9, ov (S rB x_5))], [], []⟩) (fun _ => ?_) ?_
 · refine jif tR hq1 (fun hc5 hq1 => ?_) (fun hc5 hq1 => ?_)
   · refine jr <| jc (op_assign lb (HasO.const (p := PTO none) fun _ => rfl)) <| jc (op_assign lb .cI) <| jn <| JC.ret <| JQ.outR ?_
     cases hq1
   exact JC.skip <| JQ.then <| jr <| jx (op_makeMapQ lb (S rS) r_disk_file (fun _ : (List UInt8) => 0)) fun gb_6 => jmv rfl rfl <| jc (op_build lb tZ64 zr64 tp64 (.S (off := 0) (s := rW (MPV (some gb_6))) (u := ()) rfl (HasO.wk (q := S (rW (MPV (some gb_6))) ()) tR wkV) rfl ((UpdR.fst (UpdR.self (by rfl))).at (by rfl)) (.S (off := 1) rfl tR rfl ((UpdR.snd (UpdR.fst (UpdR.self (by rfl)))).at (by rfl)) (.S (off := 2) rfl .cI rfl ((UpdR.snd (UpdR.snd (UpdR.fst (UpdR.self (by rfl))))).at (by rfl)) .nil))) rfl) <| jx (op_boxA lb tR) fun gb_7 => jc (op_assign lb tR) <| jc (op_assign lb .cI) <| jn <| JC.ret <| JQ.done (js := [1, 0]) (ss := [.val (PTR gb_7 0), .val (S (rI .i64) (0 : Int))]) (gb_7, (some gb_6)) (.inl rfl) (.nil rfl) rfl (.cons (.tmp rfl) (.cons (.tmp rfl) .nil)) rfl rfl rfl
 refine JC.region <| jmv rfl rfl <| lI hx1 fun v_2 hv_2 hx1 => jc (op_cmpI lb tR .cI (cs hv_2)) <| jmv rfl rfl <| jF (ov (S (rI .i64) capacity_1)) rfl rfl rfl rfl (fun hq_2 => op_move lb tR) <| lI hx1 fun v_3 hv_3 hx1 => jF (ov (S rB v_3)) rfl rfl rfl rfl (fun hq_3 => op_cmpI lb (HasO.cnd tR (notT (notF hq_3))) .cI (cs hv_3)) <| lI hx1 fun v_4 hv_4 hx1 => jc (op_pickCS lb tR (fun hb4 => .cB) (fun hb4 => (HasO.cnd tR (notT hb4))) hv_4) <| JL.nil ?_
 try obtain rfl := so hx1
 exact JQ.join () (Imp.norm (js := []) rfl (.cons rfl (.cons rfl .nil)))

theorem sim_disk_New_v1 (k : Nat) (capacity_1 : Int) (r : Unit) (hm : disk_New k capacity_1 = some (.inr r)) : Sim Try.prog 9 [S (rI .i64) capacity_1] [] (γ := Unit) (fun q => []) (fun q => .tup [.val (PTO none), .val (S (rI .i64) (2 : Int))]) := by
 unfold disk_New at hm
 refine Sim.of Try.func9 rfl rfl (lE rfl) (fun e0 w0 => ?_)
 refine JC.at ⟨[(0, ov (S (rI .i64) capacity_1))], [], []⟩ <| jr <| jc (op_assign lb (HasO.const (p := PTO none) fun _ => rfl)) <| jc (op_assign lb .cI) <| jn <| JC.seq <| bI hm fun x_5 hx1 hq1 => JC.seqJ (γ := Unit) (stj := fun _ => ⟨[(0, ov (S (rI .i64) capacity_1)), (9, ov (S rB x_5))], [], []⟩) (fun _ => ?_) ?_
 · refine jif tR hq1 (fun hc5 hq1 => ?_) (fun hc5 hq1 => ?_)
   · exact jr <| jc (op_assign lb (HasO.const (p := PTO none) fun _ => rfl)) <| jc (op_assign lb .cI) <| jn <| JC.ret <| JQ.outR <| JQ.done (js := []) (ss := [.val (PTO none), .val (S (rI .i64) (2 : Int))]) () (.inl rfl) (.nil rfl) rfl (.cons (.tmp rfl) (.cons (.tmp rfl) .nil)) rfl rfl rfl
   refine JC.skip <| JQ.then <| jr <| jx (op_makeMapQ lb (S rS) r_disk_file (fun _ : (List UInt8) => 0)) fun gb_6 => jmv rfl rfl <| jc (op_build lb tZ64 zr64 tp64 (.S (off := 0) (s := rW (MPV (some gb_6))) (u := ()) rfl (HasO.wk (q := S (rW (MPV (some gb_6))) ()) tR wkV) rfl ((UpdR.fst (UpdR.self (by rfl))).at (by rfl)) (.S (off := 1) rfl tR rfl ((UpdR.snd (UpdR.fst (UpdR.self (by rfl)))).at (by rfl)) (.S (off := 2) rfl .cI rfl ((UpdR.snd (UpdR.snd (UpdR.fst (UpdR.self (by rfl))))).at (by rfl)) .nil))) rfl) <| jx (op_boxA lb tR) fun gb_7 => jc (op_assign lb tR) <| jc (op_assign lb .cI) <| jn <| JC.ret ?_
   cases hq1
 refine JC.region <| jmv rfl rfl <| lI hx1 fun v_2 hv_2 hx1 => jc (op_cmpI lb tR .cI (cs hv_2)) <| jmv rfl rfl <| jF (ov (S (rI .i64) capacity_1)) rfl rfl rfl rfl (fun hq_2 => op_move lb tR) <| lI hx1 fun v_3 hv_3 hx1 => jF (ov (S rB v_3)) rfl rfl rfl rfl (fun hq_3 => op_cmpI lb (HasO.cnd tR (notT (notF hq_3))) .cI (cs hv_3)) <| lI hx1 fun v_4 hv_4 hx1 => jc (op_pickCS lb tR (fun hb4 => .cB) (fun hb4 => (HasO.cnd tR (notT hb4))) hv_4) <| JL.nil ?_
 try obtain rfl := so hx1
 exact JQ.join () (Imp.norm (js := []) rfl (.cons rfl (.cons rfl .nil)))

theorem sim_law05_num (k : Nat) (e_1 : Int) (r : Unit) (hm : law05_num k e_1 = some r) : Sim Try.prog 10 [S (rI .i64) e_1] [] (γ := Unit) (fun q => []) (fun q => .one (.val (S (rI .i64) e_1))) := by
 unfold law05_num at hm
 refine Sim.of Try.func10 rfl rfl (lE rfl) (fun e0 w0 => ?_)
 exact JC.at ⟨[(0, ov (S (rI .i64) e_1))], [], []⟩ <| jr <| jc (op_assign lb .cI) <| jn <| jr <| jmv rfl rfl <| jc (op_assign lb tR) <| jn <| JC.ret <| jd (.val (S (rI .i64) e_1)) rfl rfl rfl rfl rfl rfl

theorem sim_disk_Disk_there_p_smvvvvm (k : Nat) (capacity_1 : Int) (fuse_2 : Int) (dead_3 : Bool) (writes_4 : Int) (x_6 : (List ((List UInt8) × disk_file))) (gb_5 : Nat) (go_7 : Option Nat) (gbe_8 : ((List UInt8) → Nat)) (r : Unit) (hm : disk_Disk_there_p_smvvvvm k capacity_1 fuse_2 dead_3 writes_4 x_6 = some r) : Sim Try.prog 34 [PTR gb_5 0] [cvar gb_5 (zq1 go_7) ((), (capacity_1, (fuse_2, (dead_3, (writes_4, ()))))), cqm go_7 (S rS) r_disk_file gbe_8 (some x_6)] (γ := Unit) (fun q => [cvar gb_5 (zq1 go_7) ((), (capacity_1, (fuse_2, (dead_3, (writes_4, ()))))), cqm go_7 (S rS) r_disk_file gbe_8 (some x_6)]) (fun q => .one (.val (S rB true))) := by
 unfold disk_Disk_there_p_smvvvvm at hm
 refine Sim.of Try.func34 rfl rfl (lE rfl) (fun e0 w0 => ?_)
 refine JC.at ⟨[(0, ov (PTR gb_5 0))], [cvar gb_5 (zq1 go_7) ((), (capacity_1, (fuse_2, (dead_3, (writes_4, ()))))), cqm go_7 (S rS) r_disk_file gbe_8 (some x_6)], []⟩ <| jr <| jc (op_assign lb .cB) <| jn <| bI hm fun _ hx1 hq1 => JC.seqJ (γ := Unit) (stj := fun _ => ⟨[(2, ov (S rB true))], [cvar gb_5 (zq1 go_7) ((), (capacity_1, (fuse_2, (dead_3, (writes_4, ()))))), cqm go_7 (S rS) r_disk_file gbe_8 (some x_6)], []⟩) (fun _ => ?_) ?_
 · exact JC.ret <| JQ.done (js := [0, 0]) (ss := [.val (S rB true)]) () (.inl rfl) (.nil rfl) rfl (.cons (.tmp rfl) .nil) rfl rfl rfl
 refine JC.region <| jmv rfl rfl <| jc (op_nilP (neg := true) lb tu25 tR (HasO.const (p := PTO none) fun _ => rfl)) <| jmv rfl rfl <| JL.run (.yes rfl (ltB rfl) rfl rfl) (op_move lb tR) <| JL.run (.yes rfl (ltB rfl) rfl rfl) (op_nilCheck lb tR (fun e v h => by subst h; rfl)) <| JL.run (.yes rfl (ltB rfl) rfl rfl) (op_fieldAddr (off := 0) lb tf64_0 tR) <| JL.run (.yes rfl (ltB rfl) rfl rfl) (op_loadW (j := 0) lb tS62 tR rfl (Comp.trans (Comp.self (zq1 go_7) ((), (capacity_1, (fuse_2, (dead_3, (writes_4, ())))))) (Comp.at' (Comp.inF (Comp.self (rW (MPV go_7)) ()) (lE rfl)) (by rfl : _ = 0)) (lE rfl))) <| JL.run (.yes rfl (ltB rfl) rfl rfl) (op_nilMXQ (neg := true) (j := 1) lb tu62 rfl tR (HasO.const (p := MPV none) fun _ => rfl) rfl) <| jc (op_pickT lb tR rfl tR) <| jc (op_assign lb tR) <| JL.nil <| JQ.pre (Imp.var (j := 0) (q := (zq1 go_7)) (y := ((), (capacity_1, (fuse_2, (dead_3, (writes_4, ())))))) rfl Wk.refl) ?_
 exact JQ.join () (Imp.norm (js := [0, 0]) rfl (.cons rfl .nil))

theorem sim_disk_MayName (k : Nat) (name_1 : (List UInt8)) (r : Bool) (hm : disk_MayName k name_1 = some r) : Sim Try.prog 16 [S rS name_1] [] (γ := Unit) (fun q => []) (fun q => .one (.val (S rB r))) := by
 unfold disk_MayName at hm
 refine Sim.of Try.func16 rfl rfl (lE rfl) (fun e0 w0 => ?_)
 refine JC.at ⟨[(0, ov (S rS name_1))], [], []⟩ <| jr <| jc (op_assign lb .cB) <| jn <| bI hm fun tv1 hx1 hq1 => JC.seqK (α := Unit) (γ := Unit) (stj := fun v q => ⟨[(0, ov (S rS name_1))], [], []⟩) (p := fun v => tv1 = (.inl v)) (fun v q hv => ?_) ?_
 · subst hv
   skip
   obtain _ := q
   dsimp only at hq1
   refine JC.at ⟨[(0, ov (S rS name_1))], [], []⟩ <| bI hq1 fun x_21 hx23 hq23 => JC.seqJ (γ := Unit) (stj := fun _ => ⟨[(2, ov (S rB x_21))], [], []⟩) (fun _ => ?_) ?_
   · refine JC.ret ?_
     obtain rfl := so hq23
     exact jd (.val (S rB x_21)) rfl rfl rfl rfl rfl rfl
   refine JC.region <| jmv rfl rfl <| jc (op_lenS lb tu9 tR) <| lI hx23 fun v_18 hv_18 hx23 => jc (op_cmpI lb tR .cI (cs hv_18)) <| jmv rfl rfl <| jT (ov (S rS name_1)) rfl rfl rfl rfl (fun hq_24 => op_move lb tR) <| jT (ov (S (rI .i64) (List.length name_1 : Int))) rfl rfl rfl rfl (fun hq_25 => op_lenS lb tu9 (HasO.cnd tR hq_25)) <| lI hx23 fun v_19 hv_19 hx23 => jT (ov (S rB v_19)) rfl rfl rfl rfl (fun hq_26 => op_cmpI lb (HasO.cnd tR hq_26) .cI (cs hv_19)) <| lI hx23 fun v_20 hv_20 hx23 => jc (op_pickCS lb tR (fun hb27 => (HasO.cnd tR hb27)) (fun hb27 => .cB) hv_20) <| jc (op_assign lb tR) <| JL.nil ?_
   try obtain rfl := so hx23
   exact jo rfl rfl rfl
 refine jr <| jmv rfl rfl <| jc (op_convSB lb tu9 tu31 tu5 tR) <| jc (op_lenL lb tu31 tR) <| jc (op_move lb .cI) <| jn <| JC.block <| bI hx1 fun tv2 hL2 hq2 => JC.pre ?_ (JC.loop (γ := Unit) (stf := fun s q => ⟨[(0, ov (S rS name_1)), (6, ov (S (rL (rU UInt8)) name_1)), (7, ov (S (rI .i64) (List.length name_1 : Int))), (8, ov (S (rI .i64) s))], [], []⟩) (q := ()) hL2 ?_)
 · exact (Imp.norm (js := []) rfl (.cons rfl (.cons rfl (.cons rfl (.cons rfl .nil)))))
 intro x_2 q x hx hr
 obtain _ := q
 change disk_MayName.b1 k name_1 x_2 = some x at hx
 unfold disk_MayName.b1 at hx
 refine JC.at ⟨[(0, ov (S rS name_1)), (6, ov (S (rL (rU UInt8)) name_1)), (7, ov (S (rI .i64) (List.length name_1 : Int))), (8, ov (S (rI .i64) x_2))], [], []⟩ <| jr <| lI hx fun v_3 hv_3 hx => jc (op_cmpI lb tR tR (cs hv_3)) <| jn <| JC.seq <| jif tR hx (fun hc3 hx => ?_) (fun hc3 hx => ?_)
 · refine JC.skip <| JQ.then <| JC.seq <| JC.block <| jr <| bI hx fun v_4 hv_4 hx => jc (op_indexAddrLg lb tu31 tz5 tR tR hv_4) <| jc (op_loadPSg lb tS5 rfl tR rfl) <| jc (op_assign lb tR) <| jn <| bI hx fun x_16 hx4 hq4 => JC.seqJ (γ := Unit) (stj := fun _ => ⟨[(0, ov (S rS name_1)), (6, ov (S (rL (rU UInt8)) name_1)), (7, ov (S (rI .i64) (List.length name_1 : Int))), (8, ov (S (rI .i64) x_2)), (33, ov (S rB x_16))], [], []⟩) (fun _ => ?_) ?_
   · refine jif tR hq4 (fun hc22 hq4 => ?_) (fun hc22 hq4 => ?_)
     · refine jr <| jc (op_assign lb .cB) <| jn <| JC.ret <| JQ.outRB <| JQ.outR ?_
       try obtain rfl := so hq4
       try obtain rfl := hr _ rfl
       dsimp only at hq2
       refine JQ.outR <| JQ.outRB ?_
       try obtain rfl := so hq2
       dsimp only at hq1
       refine JQ.outR ?_
       obtain rfl := so hq1
       exact jd (.val (S rB false)) rfl rfl rfl rfl rfl rfl
     refine JC.skip <| JQ.outNB <| JQ.then <| JC.region <| lI hq4 fun v_17 hv_17 hq4 => jc (op_arI lb tR .cI (cs hv_17)) <| jmv rfl rfl <| JL.nil ?_
     try obtain rfl := so hq4
     exact JQ.next () rfl (Imp.norm (js := []) rfl (.cons rfl (.cons rfl (.cons rfl (.cons rfl .nil)))))
   refine JC.region <| jmv rfl rfl <| lI hx4 fun v_5 hv_5 hx4 => jc (op_cmpU lb tR (HasO.cU (x := (97 : UInt8)) rfl (by decide)) (cs hv_5)) <| jmv rfl rfl <| jF (ov (S (rU UInt8) v_4)) rfl rfl rfl rfl (fun hq_5 => op_move lb tR) <| lI hx4 fun v_6 hv_6 hx4 => jF (ov (S rB v_6)) rfl rfl rfl rfl (fun hq_6 => op_cmpU lb (HasO.cnd tR (notT (notF hq_6))) (HasO.cU (x := (122 : UInt8)) rfl (by decide)) (cs hv_6)) <| lI hx4 fun v_7 hv_7 hx4 => jc (op_pickCS lb tR (fun hb7 => .cB) (fun hb7 => (HasO.cnd tR (notT hb7))) hv_7) <| jmv rfl rfl <| jT (ov (S (rU UInt8) v_4)) rfl rfl rfl rfl (fun hq_8 => op_move lb tR) ?_
   refine JL.sub ⟨[(0, ov (S rS name_1)), (4, ov (S (rU UInt8) v_4)), (6, ov (S (rL (rU UInt8)) name_1)), (7, ov (S (rI .i64) (List.length name_1 : Int))), (8, ov (S (rI .i64) x_2)), (18, ov (S rB v_7)), (19, bif v_7 then ov (S (rU UInt8) v_4) else .one .und)], [], []⟩ (.cons rfl (.cons rfl (.cons rfl (.cons rfl (.cons rfl (.cons rfl (.cons rfl .nil))))))) rfl rfl <| lI hx4 fun v_8 hv_8 hx4 => jT (ov (S rB v_8)) rfl rfl rfl rfl (fun hq_9 => op_cmpU lb (HasO.cnd tR hq_9) (HasO.cU (x := (48 : UInt8)) rfl (by decide)) (cs hv_8)) <| jT (ov (S rB v_8)) rfl rfl rfl rfl (fun hq_10 => op_move lb (HasO.cnd tR hq_10)) <| JL.cnd (sv := ov (S (rU UInt8) v_4)) (Guard.cF (q := v_7) (ltB rfl) rfl rfl) rfl (ltB rfl) (fun hq_11 => op_move lb tR) <| lI hx4 fun v_9 hv_9 hx4 => JL.cnd (sv := ov (S rB v_9)) (Guard.cF (q := v_7) (ltB rfl) rfl rfl) rfl (ltB rfl) (fun hq_12 => op_cmpU lb (HasO.cnd tR (andI (andL hq_12) (notT (notF (andR hq_12))))) (HasO.cU (x := (57 : UInt8)) rfl (by decide)) (cs hv_9)) <| lI hx4 fun v_10 hv_10 hx4 => jT (ov (S rB v_10)) rfl rfl rfl rfl (fun hq_13 => op_pickCS lb (HasO.cnd tR hq_13) (fun hb14 => .cB) (fun hb14 => (HasO.cnd tR (andI hq_13 (notT hb14)))) hv_10) ?_
   refine lI hx4 fun v_11 hv_11 hx4 => jc (op_pickCS lb tR (fun hb15 => (HasO.cnd tR hb15)) (fun hb15 => .cB) hv_11) <| jmv rfl rfl <| jT (ov (S (rU UInt8) v_4)) rfl rfl rfl rfl (fun hq_16 => op_move lb tR) <| lI hx4 fun v_12 hv_12 hx4 => jT (ov (S rB v_12)) rfl rfl rfl rfl (fun hq_17 => op_cmpU lb (HasO.cnd tR hq_17) (HasO.cU (x := (46 : UInt8)) rfl (by decide)) (cs hv_12)) <| lI hx4 fun v_13 hv_13 hx4 => jc (op_pickCS lb tR (fun hb18 => (HasO.cnd tR hb18)) (fun hb18 => .cB) hv_13) <| jmv rfl rfl <| jT (ov (S (rU UInt8) v_4)) rfl rfl rfl rfl (fun hq_19 => op_move lb tR) <| JL.sub ⟨[(0, ov (S rS name_1)), (6, ov (S (rL (rU UInt8)) name_1)), (7, ov (S (rI .i64) (List.length name_1 : Int))), (8, ov (S (rI .i64) x_2)), (30, ov (S rB v_13)), (31, bif v_13 then ov (S (rU UInt8) v_4) else .one .und)], [], []⟩ (.cons rfl (.cons rfl (.cons rfl (.cons rfl (.cons rfl (.cons rfl .nil)))))) rfl rfl ?_
   refine lI hx4 fun v_14 hv_14 hx4 => jT (ov (S rB v_14)) rfl rfl rfl rfl (fun hq_20 => op_cmpU lb (HasO.cnd tR hq_20) (HasO.cU (x := (45 : UInt8)) rfl (by decide)) (cs hv_14)) <| lI hx4 fun v_15 hv_15 hx4 => jc (op_pickCS lb tR (fun hb21 => (HasO.cnd tR hb21)) (fun hb21 => .cB) hv_15) <| JL.nil ?_
   try obtain rfl := so hx4
   exact JQ.join () (Imp.norm (js := []) rfl (.cons rfl (.cons rfl (.cons rfl (.cons rfl (.cons rfl .nil))))))
 refine JC.exit <| JQ.outX ?_
 try obtain rfl := so hx
 try obtain rfl := hr _ rfl
 dsimp only at hq2
 refine JQ.outX <| JQ.here ?_
 try obtain rfl := so hq2
 exact JQ.joinK () () rfl (Imp.norm (js := []) rfl (.cons rfl .nil))

theorem sim_disk_Disk_Room_p_smvvvvm (k : Nat) (capacity_1 : Int) (fuse_2 : Int) (dead_3 : Bool) (writes_4 : Int) (x_6 : (List ((List UInt8) × disk_file))) (gb_5 : Nat) (go_7 : Option Nat) (gbe_8 : ((List UInt8) → Nat)) (r : Int) (hm : disk_Disk_Room_p_smvvvvm k capacity_1 fuse_2 dead_3 writes_4 x_6 = some r) : Sim Try.prog 11 [PTR gb_5 0] [cvar gb_5 (zq1 go_7) ((), (capacity_1, (fuse_2, (dead_3, (writes_4, ()))))), cqm go_7 (S rS) r_disk_file gbe_8 (some x_6)] (γ := Unit) (fun q => [cvar gb_5 (zq1 go_7) ((), (capacity_1, (fuse_2, (dead_3, (writes_4, ()))))), cqm go_7 (S rS) r_disk_file gbe_8 (some x_6)]) (fun q => .one (.val (S (rI .i64) r))) := by
 unfold disk_Disk_Room_p_smvvvvm at hm
 refine Sim.of Try.func11 rfl rfl (lE rfl) (fun e0 w0 => ?_)
 refine JC.at ⟨[(0, ov (PTR gb_5 0))], [cvar gb_5 (zq1 go_7) ((), (capacity_1, (fuse_2, (dead_3, (writes_4, ()))))), cqm go_7 (S rS) r_disk_file gbe_8 (some x_6)], []⟩ <| jr <| jc (op_assign lb .cI) <| jn <| JC.seq <| jr <| jmv rfl rfl <| bI hm fun _ hv_u_9 hm => jx (op_call (js := [0, 0]) ld cl34 (sim_disk_Disk_there_p_smvvvvm k capacity_1 fuse_2 dead_3 writes_4 x_6 gb_5 go_7 gbe_8 () hv_u_9) .func (.cons tR .nil) rfl) fun _ => jc (op_not lb tR rfl) <| jn <| JC.condF tR rfl <| JC.skip <| JQ.then <| jr <| jmv rfl rfl <| jc (op_nilCheck lb tR (fun e v h => by subst h; rfl)) <| jc (op_fieldAddr (off := 1) lb tf64_1 tR) ?_
 refine jc (op_loadS (j := 0) lb tS3 tR rfl (Comp.trans (Comp.self (zq1 go_7) ((), (capacity_1, (fuse_2, (dead_3, (writes_4, ())))))) (Comp.at' (Comp.inS (Comp.inF (Comp.self (rI .i64) capacity_1) (lE rfl))) (by rfl : _ = 1)) (lE rfl)) rfl rfl) <| jc (op_assign lb tR) <| jn <| bI hm fun n_17 hx1 hq1 => JC.seqJ (γ := Unit) (stj := fun _ => ⟨[(3, ov (S (rI .i64) n_17))], [cvar gb_5 (zq1 go_7) ((), (capacity_1, (fuse_2, (dead_3, (writes_4, ()))))), cqm go_7 (S rS) r_disk_file gbe_8 (some x_6)], []⟩) (fun _ => ?_) ?_
 · refine jr <| jmv rfl rfl <| jc (op_assign lb tR) <| jn <| JC.ret ?_
   obtain rfl := so hq1
   exact JQ.done (js := [0, 0]) (ss := [.val (S (rI .i64) n_17)]) () (.inl rfl) (.nil rfl) rfl (.cons (.tmp rfl) .nil) rfl rfl rfl
 refine jr <| jmv rfl rfl <| JL.sub ⟨[(3, ov (S (rI .i64) capacity_1)), (13, ov (PTR gb_5 0))], [cvar gb_5 (zq1 go_7) ((), (capacity_1, (fuse_2, (dead_3, (writes_4, ()))))), cqm go_7 (S rS) r_disk_file gbe_8 (some x_6)], []⟩ (.cons rfl (.cons rfl .nil)) rfl rfl <| jc (op_nilCheck lb tR (fun e v h => by subst h; rfl)) <| jc (op_fieldAddr (off := 0) lb tf64_0 tR) <| jc (op_loadW (j := 0) lb tS62 tR rfl (Comp.trans (Comp.self (zq1 go_7) ((), (capacity_1, (fuse_2, (dead_3, (writes_4, ())))))) (Comp.at' (Comp.inF (Comp.self (rW (MPV go_7)) ()) (lE rfl)) (by rfl : _ = 0)) (lE rfl))) <| jx (op_rangeQ (j := 1) lb tu62 rfl tR) fun gr_10 => jn <| JC.block <| JC.pre ?_ (JC.mloop (γ := Unit) (stf := fun s rem q => ⟨[(3, ov (S (rI .i64) s)), (17, ov (PTR gr_10 0))], [cqmI go_7 gr_10 (S rS) r_disk_file gbe_8 (some x_6) rem none, cvar gb_5 (zq1 go_7) ((), (capacity_1, (fuse_2, (dead_3, (writes_4, ())))))], []⟩) (q := ()) hx1 ?_)
 · exact (Imp.norm (js := [1, 0]) rfl (.cons rfl (.cons rfl .nil)))
 intro n_12 rem_11 q hf
 obtain _ := q
 refine JC.at ⟨[(3, ov (S (rI .i64) n_12)), (17, ov (PTR gr_10 0))], [cqmI go_7 gr_10 (S rS) r_disk_file gbe_8 (some x_6) rem_11 none, cvar gb_5 (zq1 go_7) ((), (capacity_1, (fuse_2, (dead_3, (writes_4, ())))))], []⟩ <| jr <| JL.nextQ (j := 0) lb rfl tR (fun h0 => ?_) (fun e_13 rem_14 hp => ?_)
 · subst h0
   replace hf := foldO_end hf
   change disk_Disk_Room_p_smvvvvm.f1 k n_12 = some _ at hf
   unfold disk_Disk_Room_p_smvvvvm.f1 at hf
   refine jc (op_extract (i := 0) lb tR rfl) <| jn <| JC.seq <| JC.condF tR rfl <| JC.exit <| JQ.outX ?_
   have ht := Option.some.inj hf
   have hr := ht
   have hq2 := cs ht
   clear hr ht
   refine JQ.outX <| JQ.pre (Imp.endItQ (j := 0) rfl) <| JQ.here ?_
   try obtain rfl := so hq2
   exact JQ.join () (Imp.norm (js := [1, 0]) rfl (.cons rfl .nil))
 obtain ⟨x, hx, hr, hn⟩ := foldO_step hf hp
 change disk_Disk_Room_p_smvvvvm.b1 k x_6 n_12 e_13 = some x at hx
 unfold disk_Disk_Room_p_smvvvvm.b1 at hx
 refine jc (op_extract (i := 0) lb tR rfl) <| jn <| JC.seq <| JC.condT tR rfl <| JC.skip <| JQ.then <| JC.block <| jr <| jc (op_entryQ (j := 0) lb rfl tR) <| jc (op_extract (i := 1) lb tR rfl) <| jc (op_assign lb tR) <| jn <| JC.region <| jmv rfl rfl <| jmv rfl rfl <| jc (op_nilCheck lb tR (fun e v h => by subst h; rfl)) <| jc (op_fieldAddr (off := 0) lb tf71_0 tR) <| bI hx fun u_15 hv_u_15 hx => jc (op_loadQS (j := 0) (m := (some x_6)) lb tS31 tR rfl hv_u_15 (cT (comp_disk_file_b u_15) rfl) rfl rfl) <| jc (op_lenL lb tu31 tR) ?_
 obtain ⟨v_16, hv_16, hx⟩ := lt1_inv hx
 refine jc (op_arI lb tR tR (cs hv_16)) <| jc (op_assign lb tR) <| JL.sub ⟨[(3, ov (S (rI .i64) v_16)), (17, ov (PTR gr_10 0))], [cqmI go_7 gr_10 (S rS) r_disk_file gbe_8 (some x_6) rem_14 (some e_13), cvar gb_5 (zq1 go_7) ((), (capacity_1, (fuse_2, (dead_3, (writes_4, ())))))], []⟩ (.cons rfl (.cons rfl .nil)) rfl rfl <| JL.nil <| JQ.outNB ?_
 try obtain rfl := so hx
 exact JQ.pre (Imp.forgetQ (j := 0) rfl) <| JQ.mnext () hp (hn _ rfl) (Imp.norm (js := [0, 0]) rfl (.cons rfl (.cons rfl .nil)))

theorem sim_slices_Clonebyte_byte (k : Nat) (s_1 : (List UInt8)) (r : (List UInt8)) (hm : slices_Clonebyte_byte k s_1 = some r) : Sim Try.prog 36 [S (rL (rU UInt8)) s_1] [] (γ := Option Nat × Nat) (fun q => [cown q.1 (rU UInt8) r 0 q.2]) (fun q => .one (.val (HDR q.1 0 (List.length r) q.2))) := by
 unfold slices_Clonebyte_byte at hm
 refine Sim.of Try.func36 rfl rfl (lE rfl) (fun e0 w0 => ?_)
 refine JC.at ⟨[(0, ov (S (rL (rU UInt8)) s_1))], [], []⟩ <| jr <| jc (op_assign lb HasO.nilH) <| jn <| JC.seq <| jr <| jmv rfl rfl <| JL.consX rfl (op_isNil (neg := false) (ltB rfl) tu31 tR HasO.nilH) (fun q => ?_)
 obtain ⟨hb1, hb1_⟩ := q
 cases hb1
 · refine jn <| JC.condF tR rfl <| JC.skip <| JQ.then <| jr <| jx (op_buildO (r := (rU UInt8)) lb tu31 tz5 tZ5 rfl (lE rfl) .nil rfl) fun gb_2 => jmv rfl rfl <| bI hm fun x_3 hv_x_3 hm => jx (op_appendL (j := 0) lb tu31 tu31 rfl tB5 rfl (Nat.lt_of_lt_of_le Nat.zero_lt_one (lE rfl)) (Nat.lt_of_lt_of_le Nat.zero_lt_one (lE rfl))  rfl tR tR hv_x_3) (fun q => ?_)
   obtain ⟨go_4, gc_5⟩ := q
   refine jc (op_assign lb tR) <| jn <| JC.ret ?_
   obtain rfl := so hm
   exact JQ.done (js := [0]) (ss := [.val (HDR go_4 0 (List.length x_3) gc_5)]) (go_4, gc_5) (.inl rfl) (.nil rfl) rfl (.cons (.tmp rfl) .nil) rfl rfl rfl
 replace hm := nilK hm (show _ = (
       some ([] : (List UInt8))
       ) by simp [hb1_ rfl, subL, apL])
 refine jn <| JC.condT tR rfl <| jr <| jc (op_assign lb HasO.nilH) <| jn <| JC.ret <| JQ.outR ?_
 obtain rfl := so hm
 exact JQ.pre (Imp.nilown (rU UInt8)) <| JQ.done (js := [0]) (ss := [.val (HDR none 0 (List.length ([] : (List UInt8))) (0))]) (none, 0) (.inl rfl) (.nil rfl) rfl (.cons (.tmp rfl) .nil) rfl rfl rfl

theorem sim_disk_Disk_Append_1_pppp_xmpsmvvvvvv (k : Nat) (x_1 : (Option disk_file)) (x_3 : (List ((List UInt8) × disk_file))) (capacity_7 : Int) (fuse_8 : Int) (dead_9 : Bool) (writes_10 : Int) (x_12 : (List UInt8)) (x_14 : (List UInt8)) (gb_2 : Nat) (go_4 : Option Nat) (gbe_5 : ((List UInt8) → Nat)) (gb_6 : Nat) (gb_11 : Nat) (gb_13 : Nat) (gb_15 : Nat) (r : (List ((List UInt8) × disk_file)) × (Option disk_file)) (hm : disk_Disk_Append_1_pppp_xmpsmvvvvvv k x_1 x_3 capacity_7 fuse_8 dead_9 writes_10 x_12 x_14 = some r) : Sim Try.prog 52 [PTR gb_2 0, PTR gb_6 0, PTR gb_13 0, PTR gb_15 0] [cvar gb_2 (rW (PTO (Option.map (fun _ => gbe_5 x_12) x_1))) (), cqm go_4 (S rS) r_disk_file gbe_5 (some x_3), cvar gb_6 (rW (PTR gb_11 0)) (), cvar gb_11 (zq1 go_4) ((), (capacity_7, (fuse_8, (dead_9, (writes_10, ()))))), cvar gb_13 rS x_12, cvar gb_15 (rL (rU UInt8)) x_14] (γ := ((List UInt8) → Nat)) (fun q => [cvar gb_2 (rW (PTO (Option.map (fun _ => q x_12) r.2))) (), cqm go_4 (S rS) r_disk_file q (some r.1), cvar gb_6 (rW (PTR gb_11 0)) (), cvar gb_11 (zq1 go_4) ((), (capacity_7, (fuse_8, (dead_9, (writes_10, ()))))), cvar gb_13 rS x_12, cvar gb_15 (rL (rU UInt8)) x_14]) (fun q => .tup []) := by
 unfold disk_Disk_Append_1_pppp_xmpsmvvvvvv at hm
 refine Sim.of Try.func52 rfl rfl (lE rfl) (fun e0 w0 => ?_)
 refine JC.at ⟨[(0, ov (PTR gb_2 0)), (1, ov (PTR gb_6 0)), (2, ov (PTR gb_13 0)), (3, ov (PTR gb_15 0))], [cvar gb_2 (rW (PTO (Option.map (fun _ => gbe_5 x_12) x_1))) (), cqm go_4 (S rS) r_disk_file gbe_5 (some x_3), cvar gb_6 (rW (PTR gb_11 0)) (), cvar gb_11 (zq1 go_4) ((), (capacity_7, (fuse_8, (dead_9, (writes_10, ()))))), cvar gb_13 rS x_12, cvar gb_15 (rL (rU UInt8)) x_14], []⟩ ?_
 obtain ⟨⟨x_19, x_20⟩, hx1, hq1⟩ := bnd_inv hm
 refine JC.seqJ (γ := ((List UInt8) → Nat)) (stj := fun q => ⟨[(0, ov (PTR gb_2 0)), (3, ov (PTR gb_15 0))], [cvar gb_2 (rW (PTO (Option.map (fun _ => q x_12) x_20))) (), cqm go_4 (S rS) r_disk_file q (some x_19), cvar gb_15 (rL (rU UInt8)) x_14, cvar gb_6 (rW (PTR gb_11 0)) (), cvar gb_11 (zq1 go_4) ((), (capacity_7, (fuse_8, (dead_9, (writes_10, ()))))), cvar gb_13 rS x_12], []⟩) (fun q => ?_) ?_
 · obtain ⟨gbe_21, hqq⟩ : ∃ z, z = q := ⟨_, rfl⟩
   subst hqq
   refine JC.at ⟨[(0, ov (PTR gb_2 0)), (3, ov (PTR gb_15 0))], [cvar gb_2 (rW (PTO (Option.map (fun _ => gbe_21 x_12) x_20))) (), cqm go_4 (S rS) r_disk_file gbe_21 (some x_19), cvar gb_15 (rL (rU UInt8)) x_14, cvar gb_6 (rW (PTR gb_11 0)) (), cvar gb_11 (zq1 go_4) ((), (capacity_7, (fuse_8, (dead_9, (writes_10, ()))))), cvar gb_13 rS x_12], []⟩ <| bI hq1 fun u_22 hv_u_22 hq1 => bI hq1 fun u_23 hv_u_23 hq1 => bI hq1 fun v_24 hv_24 hq1 => bI hq1 fun x_27 hv_x_27 hq1 => bI hq1 fun u_30 hv_u_30 hq1 => ?_
   obtain ⟨x_32, hv_x_32, hq1⟩ := bnd_inv hq1
   refine JC.anyF (base := [(0, ov (PTR gb_2 0)), (3, ov (PTR gb_15 0))])
       (fs := fun γ => [⟨some 14, ov (PTO (Option.map (fun _ => gbe_21 x_12) x_20))⟩, ⟨some 15, ov (PTO (Option.map (fun _ => gbe_21 x_12) x_20))⟩, ⟨some 16, ov (PTR (gbe_21 x_12) 0)⟩, ⟨some 17, ov (PTR (gbe_21 x_12) (0 + 0))⟩, ⟨some 18, ov (S (rL (rU UInt8)) u_23.b)⟩, ⟨some 19, ov (HDR (deo (γ 5 0)) 0 (List.length v_24) (γ 5 1))⟩, ⟨some 20, ov (S (rL (rU UInt8)) x_14)⟩, ⟨some 21, ov (S (rL (rU UInt8)) x_27)⟩, ⟨some 22, ov (PTR (gbe_21 x_12) 0)⟩, ⟨some 23, ov (PTR (gbe_21 x_12) (0 + 0))⟩, ⟨none, .one .any⟩])
       (rs := fun γ => [⟨cvar gb_2 (rW (PTO (Option.map (fun _ => gbe_21 x_12) x_20))) (), none, none, [0, 1]⟩, ⟨cqm go_4 (S rS) r_disk_file gbe_21 (some x_19), none, (some 10), [4]⟩, ⟨cvar gb_15 (rL (rU UInt8)) x_14, none, none, [6]⟩, ⟨cvar gb_6 (rW (PTR gb_11 0)) (), none, none, []⟩, ⟨cvar gb_11 (zq1 go_4) ((), (capacity_7, (fuse_8, (dead_9, (writes_10, ()))))), none, none, []⟩, ⟨cvar gb_13 rS x_12, none, none, []⟩, ⟨cown (deo (γ 5 0)) (rU UInt8) v_24 0 (γ 5 1), (some 5), (some 7), []⟩, ⟨cqm go_4 (S rS) r_disk_file gbe_21 (some x_32), (some 10), none, []⟩])
       (afts := [[], [], [], [], [], [5, 7, 8, 9, 10], [], [], [], [], []]) (js := [0, 0, 0, 0, 0, 0]) mixed (.cons rfl (.cons rfl .nil)) (fun _ => rfl)
       (by
      refine dR 1 (fun γ ρ B hb hd => OpStep.lk ⟨ρ, (cvar gb_2 (rW (PTO (Option.map (fun _ => gbe_21 x_12) x_20))) ()) :: B, _⟩ (op_loadW (j := 0) lb tS69 (.tmp (hb 0 _ rfl)) rfl (Comp.self (rW (PTO (Option.map (fun _ => gbe_21 x_12) x_20))) ()))) <| dR 2 (fun γ ρ B hb hd => OpStep.lk ⟨ρ, (cvar gb_2 (rW (PTO (Option.map (fun _ => gbe_21 x_12) x_20))) ()) :: B, _⟩ (op_loadW (j := 0) lb tS69 (.tmp (hb 0 _ rfl)) rfl (Comp.self (rW (PTO (Option.map (fun _ => gbe_21 x_12) x_20))) ()))) <| dS 3 (fun γ ρ B hb hd => op_nilCheck lb (HasO.wk (tl hd 1 15) (wkPOs hv_u_22)) (fun e v h => by subst h; rfl)) <| dS 4 (fun γ ρ B hb hd => op_fieldAddr (off := 0) lb tf71_0 (tl hd 2 16)) <| dR 5 (fun γ ρ B hb hd => OpStep.lk ⟨ρ, (cqm go_4 (S rS) r_disk_file gbe_21 (some x_19)) :: B, _⟩ (op_loadQS (j := 0) (m := (some x_19)) lb tS31 (tl hd 3 17) rfl hv_u_23 (cT (comp_disk_file_b u_23) rfl) rfl rfl)) ?_
      refine DSteps.cons (j := 6) rfl (fun _ => rfl) (.runX (fun _ _ => rfl) (fun γ ρ B hb hd => ⟨.none, OpX.ghost (γ := Option Nat × Nat) (st' := fun q => setO ⟨ρ, (cown q.1 (rU UInt8) v_24 0 q.2) :: B, _⟩ (some 19) (ov (HDR q.1 0 (List.length v_24) q.2))) (fun q c => bif Nat.beq c 0 then eno q.1 else q.2) (op_call (js := []) ld cl36 (sim_slices_Clonebyte_byte k u_23.b v_24 hv_24) .func (.cons (tl hd 4 18) .nil) rfl) (fun q => by obtain ⟨q0, q1⟩ := q; cases q0 <;> exact Imp.refl)⟩) (fun _ _ => rfl) (fun _ _ => rfl)) ?_
      refine dR 7 (fun γ ρ B hb hd => OpStep.lk ⟨ρ, (cvar gb_15 (rL (rU UInt8)) x_14) :: B, _⟩ (op_loadS (j := 0) lb tS31 (.tmp (hb 3 _ rfl)) rfl (Comp.self (rL (rU UInt8)) x_14) rfl rfl)) <| dR 8 (fun γ ρ B hb hd => OpStep.at ⟨ρ, (cown (deo (γ 5 0)) (rU UInt8) v_24 0 (γ 5 1)) :: B, _⟩ (setO ⟨ρ, B, _⟩ _ _) ((op_appendL (j := 0) lb tu31 tu31 rfl tB5 rfl (Nat.lt_of_lt_of_le Nat.zero_lt_one (lE rfl)) (Nat.lt_of_lt_of_le Nat.zero_lt_one (lE rfl))  rfl (tl hd 5 19) (tl hd 6 20) hv_x_27).post (fun q => Imp.dropF (j := 0) rfl))) <| dS 9 (fun γ ρ B hb hd => op_nilCheck lb (HasO.wk (tl hd 0 14) (wkPOs hv_u_30)) (fun e v h => by subst h; rfl)) <| dS 10 (fun γ ρ B hb hd => op_fieldAddr (off := 0) lb tf71_0 (tl hd 8 22)) <| dR 11 (fun γ ρ B hb hd => OpStep.at ⟨ρ, (cqm go_4 (S rS) r_disk_file gbe_21 (some x_19)) :: B, _⟩ (setO ⟨ρ, (cqm go_4 (S rS) r_disk_file gbe_21 (some x_32)) :: B, _⟩ _ _) (op_storeQSf (j := 0) tS31 (tl hd 9 23) (tl hd 7 21) rfl rfl (fun u => (Upd.trans (Comp.self r_disk_file u) (Upd.self r_disk_file u _) (upd_disk_file_b u x_27)).R) (qupdN_some hv_x_32))) ?_
      exact DSteps.nil)
       (by decide +kernel) (fun _ => rfl) (fun _ => rfl) (fun _ => rfl) rfl
       (ρ' := fun γ => [])
       (X' := fun γ => [cvar gb_2 (rW (PTO (Option.map (fun _ => gbe_21 x_12) x_20))) (), cvar gb_15 (rL (rU UInt8)) x_14, cvar gb_6 (rW (PTR gb_11 0)) (), cvar gb_11 (zq1 go_4) ((), (capacity_7, (fuse_8, (dead_9, (writes_10, ()))))), cvar gb_13 rS x_12, cqm go_4 (S rS) r_disk_file gbe_21 (some x_32)])
       (fun γ ρ hb hd => .nil) (fun _ => rfl) (fun γ => ?_)
   generalize (deo (γ 5 0)) = go_25
   generalize (γ 5 1) = gc_26
   clear γ
   refine JQ.at ⟨[], [cvar gb_2 (rW (PTO (Option.map (fun _ => gbe_21 x_12) x_20))) (), cvar gb_15 (rL (rU UInt8)) x_14, cvar gb_6 (rW (PTR gb_11 0)) (), cvar gb_11 (zq1 go_4) ((), (capacity_7, (fuse_8, (dead_9, (writes_10, ()))))), cvar gb_13 rS x_12, cqm go_4 (S rS) r_disk_file gbe_21 (some x_32)], []⟩ ?_
   obtain rfl := so hq1
   exact JQ.done (js := [0, 4, 1, 1, 1, 0]) (ss := []) gbe_21 (.inr rfl) (.nil rfl) rfl .nil rfl rfl rfl
 refine jr <| jc (op_loadW (j := 0) lb tS69 tR rfl (Comp.self (rW (PTO (Option.map (fun _ => gbe_5 x_12) x_1))) ())) <| lI hx1 fun v_16 hv_16 hx1 => jc (op_nilQ (neg := false) lb tu69 tR (HasO.const (p := PTO none) fun _ => rfl) hv_16) <| jn <| jif tR hx1 (fun hc2 hx1 => ?_) (fun hc2 hx1 => ?_)
 · refine jr <| jc (op_build lb tZ71 zr71 tp71 .nil rfl) <| jx (op_boxA lb tR) fun gb_17 => jc (op_storeW (j := 0) tS69 tR tR rfl (UpdR.self (by rfl)) rfl) <| jn ?_
   obtain ⟨x_18, hv_x_18, hx1⟩ := lt1_inv hx1
   refine JC.anyF (base := [(0, ov (PTR gb_2 0)), (1, ov (PTR gb_6 0)), (2, ov (PTR gb_13 0)), (3, ov (PTR gb_15 0))])
       (fs := fun γ => [⟨some 8, ov (PTR gb_11 0)⟩, ⟨some 9, ov (PTR gb_11 0)⟩, ⟨some 10, ov (PTR gb_11 (0 + 0))⟩, ⟨some 11, ov (MPV go_4)⟩, ⟨some 12, ov (S rS x_12)⟩, ⟨some 13, ov (PTR gb_17 0)⟩, ⟨none, .one .any⟩])
       (rs := fun γ => [⟨cvar gb_2 (rW (PTR gb_17 0)) (), none, none, [5]⟩, ⟨cqm go_4 (S rS) r_disk_file gbe_5 (some x_3), none, (some 6), []⟩, ⟨cvar gb_6 (rW (PTR gb_11 0)) (), none, none, [0]⟩, ⟨cvar gb_11 (zq1 go_4) ((), (capacity_7, (fuse_8, (dead_9, (writes_10, ()))))), none, none, [3]⟩, ⟨cvar gb_13 rS x_12, none, none, [4]⟩, ⟨cvar gb_15 (rL (rU UInt8)) x_14, none, none, []⟩, ⟨cvar gb_17 zq2 ((), ((0 : Int), ())), none, (some 6), []⟩, ⟨cqm go_4 (S rS) r_disk_file (updF gbe_5 x_12 gb_17) (some x_18), (some 6), none, []⟩])
       (afts := nn 7) (js := [0, 0, 0, 0, 0, 0, 0]) mixed (.cons rfl (.cons rfl (.cons rfl (.cons rfl .nil)))) (fun _ => rfl)
       (by
      refine dR 1 (fun γ ρ B hb hd => OpStep.lk ⟨ρ, (cvar gb_6 (rW (PTR gb_11 0)) ()) :: B, _⟩ (op_loadW (j := 0) lb tS25 (.tmp (hb 1 _ rfl)) rfl (Comp.self (rW (PTR gb_11 0)) ()))) <| dS 2 (fun γ ρ B hb hd => op_nilCheck lb (tl hd 0 8) (fun e v h => by subst h; rfl)) <| dS 3 (fun γ ρ B hb hd => op_fieldAddr (off := 0) lb tf64_0 (tl hd 1 9)) <| dR 4 (fun γ ρ B hb hd => OpStep.lk ⟨ρ, (cvar gb_11 (zq1 go_4) ((), (capacity_7, (fuse_8, (dead_9, (writes_10, ())))))) :: B, _⟩ (op_loadW (j := 0) lb tS62 (tl hd 2 10) rfl (Comp.trans (Comp.self (zq1 go_4) ((), (capacity_7, (fuse_8, (dead_9, (writes_10, ())))))) (Comp.at' (Comp.inF (Comp.self (rW (MPV go_4)) ()) (lE rfl)) (by rfl : _ = 0)) (lE rfl)))) <| dR 5 (fun γ ρ B hb hd => OpStep.lk ⟨ρ, (cvar gb_13 rS x_12) :: B, _⟩ (op_loadS (j := 0) lb tS9 (.tmp (hb 2 _ rfl)) rfl (Comp.self rS x_12) rfl rfl)) ?_
      refine dR 6 (fun γ ρ B hb hd => OpStep.lk ⟨ρ, (cvar gb_2 (rW (PTR gb_17 0)) ()) :: B, _⟩ (op_loadW (j := 0) lb tS69 (.tmp (hb 0 _ rfl)) rfl (Comp.self (rW (PTR gb_17 0)) ()))) <| dR 7 (fun γ ρ B hb hd => OpStep.at ⟨ρ, (cqm go_4 (S rS) r_disk_file gbe_5 (some x_3)) :: (cvar gb_17 zq2 ((), ((0 : Int), ()))) :: B, _⟩ (setO ⟨ρ, (cqm go_4 (S rS) r_disk_file (updF gbe_5 x_12 gb_17) (some x_18)) :: B, _⟩ _ _) (op_putQ (js := [0, 0]) (.inl rfl) tu62 ky9 rfl (Wk.st (Wk.pair Wk.nil (Wk.pair Wk.refl Wk.refl))) (tl hd 3 11) (tl hd 4 12) (tl hd 5 13) (congrArg (fun z => some (some z)) hv_x_18))) ?_
      exact DSteps.nil)
       (by decide +kernel) (fun _ => rfl) (fun _ => rfl) (fun _ => rfl) rfl
       (ρ' := fun γ => [(0, ov (PTR gb_2 0)), (3, ov (PTR gb_15 0))])
       (X' := fun γ => [cvar gb_2 (rW (PTR gb_17 0)) (), cvar gb_6 (rW (PTR gb_11 0)) (), cvar gb_11 (zq1 go_4) ((), (capacity_7, (fuse_8, (dead_9, (writes_10, ()))))), cvar gb_13 rS x_12, cvar gb_15 (rL (rU UInt8)) x_14, cqm go_4 (S rS) r_disk_file (updF gbe_5 x_12 gb_17) (some x_18)])
       (fun γ ρ hb hd => (.cons (hb 0 _ rfl) (.cons (hb 3 _ rfl) .nil))) (fun _ => rfl) (fun γ => ?_)
   refine JQ.at ⟨[(0, ov (PTR gb_2 0)), (3, ov (PTR gb_15 0))], [cvar gb_2 (rW (PTR gb_17 0)) (), cvar gb_6 (rW (PTR gb_11 0)) (), cvar gb_11 (zq1 go_4) ((), (capacity_7, (fuse_8, (dead_9, (writes_10, ()))))), cvar gb_13 rS x_12, cvar gb_15 (rL (rU UInt8)) x_14, cqm go_4 (S rS) r_disk_file (updF gbe_5 x_12 gb_17) (some x_18)], []⟩ <| JQ.pre (Imp.var (j := 0) (q := (rW (PTR ((updF gbe_5 x_12 gb_17) x_12) 0))) (y := ()) rfl (Wk.w wkUpd)) ?_
   have hz := Option.some.inj hx1
   replace hz := Prod.mk.inj hz
   obtain ⟨hz_a, hz⟩ := hz
   first | subst hz_a | clear hz_a
   first | subst hz | clear hz
   refine JQ.pre (Imp.var (j := 0) (q := (rW (PTO (Option.map (fun _ => (updF gbe_5 x_12 gb_17) x_12) (some default : Option disk_file))))) (y := ()) rfl (Wk.w wkPTo)) ?_
   refine JQ.pre (Imp.var (j := 2) (q := (zq1 go_4)) (y := ((), (capacity_7, (fuse_8, (dead_9, (writes_10, ())))))) rfl Wk.refl) ?_
   exact JQ.join (updF gbe_5 x_12 gb_17) (Imp.norm (js := [0, 4, 3, 0, 0, 0]) rfl (.cons rfl (.cons rfl .nil)))
 refine JC.skip ?_
 have hz := Option.some.inj hx1
 replace hz := Prod.mk.inj hz
 obtain ⟨hz_a, hz⟩ := hz
 first | subst hz_a | clear hz_a
 first | subst hz | clear hz
 refine JQ.pre (Imp.var (j := 3) (q := (zq1 go_4)) (y := ((), (capacity_7, (fuse_8, (dead_9, (writes_10, ())))))) rfl Wk.refl) ?_
 exact JQ.join gbe_5 (Imp.norm (js := [0, 0, 3, 0, 0, 0]) rfl (.cons rfl (.cons rfl .nil)))

theorem sim_disk_Disk_write_pcppppcrrrr_smvvvvmxrvv (k : Nat) (capacity_1 : Int) (fuse_2 : Int) (dead_3 : Bool) (writes_4 : Int) (x_6 : (List ((List UInt8) × disk_file))) (x_9 : (Option disk_file)) (x_12 : (List UInt8)) (x_14 : (List UInt8)) (gb_5 : Nat) (go_7 : Option Nat) (gbe_8 : ((List UInt8) → Nat)) (gb_10 : Nat) (gb_11 : Nat) (gb_13 : Nat) (gb_15 : Nat) (r : Int × (List ((List UInt8) × disk_file)) × Int × Bool × Int × (Option disk_file)) (hm : disk_Disk_write_pcppppcrrrr_smvvvvmxrvv k capacity_1 fuse_2 dead_3 writes_4 x_6 x_9 x_12 x_14 = some r) : Sim Try.prog 53 [PTR gb_5 0, CLO 52 [PTR gb_10 0, PTR gb_11 0, PTR gb_13 0, PTR gb_15 0], CLO 52 [PTR gb_10 0, PTR gb_11 0, PTR gb_13 0, PTR gb_15 0]] [cvar gb_5 (zq1 go_7) ((), (capacity_1, (fuse_2, (dead_3, (writes_4, ()))))), cqm go_7 (S rS) r_disk_file gbe_8 (some x_6), cvar gb_10 (rW (PTO (Option.map (fun _ => gbe_8 x_12) x_9))) (), cvar gb_11 (rW (PTR gb_5 0)) (), cvar gb_13 rS x_12, cvar gb_15 (rL (rU UInt8)) x_14] (γ := ((List UInt8) → Nat)) (fun q => [cvar gb_5 (zq1 go_7) ((), (capacity_1, (r.2.2.1, (r.2.2.2.1, (r.2.2.2.2.1, ()))))), cqm go_7 (S rS) r_disk_file q (some r.2.1), cvar gb_10 (rW (PTO (Option.map (fun _ => q x_12) r.2.2.2.2.2))) (), cvar gb_11 (rW (PTR gb_5 0)) (), cvar gb_13 rS x_12, cvar gb_15 (rL (rU UInt8)) x_14]) (fun q => .one (.val (S (rI .i64) r.1))) := by
 unfold disk_Disk_write_pcppppcrrrr_smvvvvmxrvv at hm
 refine Sim.of Try.func53 rfl rfl (lE rfl) (fun e0 w0 => ?_)
 refine JC.at ⟨[(0, ov (PTR gb_5 0)), (1, ov (CLO 52 [PTR gb_10 0, PTR gb_11 0, PTR gb_13 0, PTR gb_15 0])), (2, ov (CLO 52 [PTR gb_10 0, PTR gb_11 0, PTR gb_13 0, PTR gb_15 0]))], [cvar gb_5 (zq1 go_7) ((), (capacity_1, (fuse_2, (dead_3, (writes_4, ()))))), cqm go_7 (S rS) r_disk_file gbe_8 (some x_6), cvar gb_10 (rW (PTO (Option.map (fun _ => gbe_8 x_12) x_9))) (), cvar gb_11 (rW (PTR gb_5 0)) (), cvar gb_13 rS x_12, cvar gb_15 (rL (rU UInt8)) x_14], []⟩ <| jr <| jc (op_assign lb .cI) <| jn <| JC.seq <| jr <| jmv rfl rfl <| jc (op_nilCheck lb tR (fun e v h => by subst h; rfl)) <| jc (op_fieldAddr (off := 3) lb tf64_3 tR) <| jc (op_loadS (j := 0) lb tS4 tR rfl (Comp.trans (Comp.self (zq1 go_7) ((), (capacity_1, (fuse_2, (dead_3, (writes_4, ())))))) (Comp.at' (Comp.inS (Comp.inS (Comp.inS (Comp.inF (Comp.self rB dead_3) (lE rfl))))) (by rfl : _ = 3)) (lE rfl)) rfl rfl) <| jn <| jif tR hm (fun hc1 hm => ?_) (fun hc1 hm => ?_)
 · refine jr <| jc (op_assign lb .cI) <| jn <| JC.ret <| JQ.outR ?_
   obtain rfl := so hm
   refine JQ.pre (Imp.var (j := 0) (q := (zq1 go_7)) (y := ((), (capacity_1, (fuse_2, (dead_3, (writes_4, ())))))) rfl Wk.refl) ?_
   exact JQ.done (js := [0, 0, 0, 0, 0, 0]) (ss := [.val (S (rI .i64) (8 : Int))]) gbe_8 (.inl rfl) (.nil rfl) rfl (.cons (.tmp rfl) .nil) rfl rfl rfl
 refine JC.skip <| JQ.then <| jr <| jmv rfl rfl <| jc (op_nilCheck lb tR (fun e v h => by subst h; rfl)) <| jc (op_fieldAddr (off := 4) lb tf64_4 tR) <| jc (op_loadS (j := 0) lb tS3 tR rfl (Comp.trans (Comp.self (zq1 go_7) ((), (capacity_1, (fuse_2, (dead_3, (writes_4, ())))))) (Comp.at' (Comp.inS (Comp.inS (Comp.inS (Comp.inS (Comp.inF (Comp.self (rI .i64) writes_4) (lE rfl)))))) (by rfl : _ = 4)) (lE rfl)) rfl rfl) <| lI hm fun v_16 hv_16 hm => jc (op_arI lb tR .cI (cs hv_16)) <| jc (op_nilCheck lb tR (fun e v h => by subst h; rfl)) <| jc (op_fieldAddr (off := 4) lb tf64_4 tR) <| JL.sub ⟨[(0, ov (PTR gb_5 0)), (1, ov (CLO 52 [PTR gb_10 0, PTR gb_11 0, PTR gb_13 0, PTR gb_15 0])), (2, ov (CLO 52 [PTR gb_10 0, PTR gb_11 0, PTR gb_13 0, PTR gb_15 0])), (15, ov (S (rI .i64) v_16)), (17, ov (PTR gb_5 (0 + 4)))], [cvar gb_5 (zq1 go_7) ((), (capacity_1, (fuse_2, (dead_3, (writes_4, ()))))), cqm go_7 (S rS) r_disk_file gbe_8 (some x_6), cvar gb_10 (rW (PTO (Option.map (fun _ => gbe_8 x_12) x_9))) (), cvar gb_11 (rW (PTR gb_5 0)) (), cvar gb_13 rS x_12, cvar gb_15 (rL (rU UInt8)) x_14], []⟩ (.cons rfl (.cons rfl (.cons rfl (.cons rfl (.cons rfl .nil))))) rfl rfl <| jc (op_storeS (j := 0) tS3 tR tR rfl rfl ((UpdR.snd (UpdR.snd (UpdR.snd (UpdR.snd (UpdR.fst (UpdR.self (by rfl))))))).at (by change (1 + (1 + (1 + (1 + 0)))) = (0 + 4); omega)) rfl) <| jn <| JC.seq <| jr <| jmv rfl rfl <| jc (op_nilCheck lb tR (fun e v h => by subst h; rfl)) <| jc (op_fieldAddr (off := 2) lb tf64_2 tR) <| jc (op_loadS (j := 0) lb tS3 tR rfl (Comp.trans (Comp.self (zq1 go_7) ((), (capacity_1, (fuse_2, (dead_3, (v_16, ())))))) (Comp.at' (Comp.inS (Comp.inS (Comp.inF (Comp.self (rI .i64) fuse_2) (lE rfl)))) (by rfl : _ = 2)) (lE rfl)) rfl rfl) ?_
 obtain ⟨v_17, hv_17, hm⟩ := lt1_inv hm
 refine jc (op_cmpI lb tR .cI (cs hv_17)) <| jn <| jif tR hm (fun hc2 hm => ?_) (fun hc2 hm => ?_)
 · refine jr <| jmv rfl rfl <| jc (op_nilCheck lb tR (fun e v h => by subst h; rfl)) <| jc (op_fieldAddr (off := 3) lb tf64_3 tR) <| jc (op_storeS (j := 0) tS4 tR .cB rfl rfl ((UpdR.snd (UpdR.snd (UpdR.snd (UpdR.fst (UpdR.self (by rfl)))))).at (by change (1 + (1 + (1 + 0))) = (0 + 3); omega)) rfl) <| JL.sub ⟨[(2, ov (CLO 52 [PTR gb_10 0, PTR gb_11 0, PTR gb_13 0, PTR gb_15 0]))], [cvar gb_5 (zq1 go_7) ((), (capacity_1, (fuse_2, (true, (v_16, ()))))), cqm go_7 (S rS) r_disk_file gbe_8 (some x_6), cvar gb_10 (rW (PTO (Option.map (fun _ => gbe_8 x_12) x_9))) (), cvar gb_11 (rW (PTR gb_5 0)) (), cvar gb_13 rS x_12, cvar gb_15 (rL (rU UInt8)) x_14], []⟩ (.cons rfl .nil) rfl rfl <| jn <| jr <| jmv rfl rfl ?_
   obtain ⟨⟨x_18, x_19⟩, hv_x_18, hm⟩ := bnd_inv hm
   refine jx (op_call (js := [2, 1, 1, 0, 0, 0]) ld cl52 (sim_disk_Disk_Append_1_pppp_xmpsmvvvvvv k x_9 x_6 capacity_1 fuse_2 true v_16 x_12 x_14 gb_10 go_7 gbe_8 gb_11 gb_5 gb_13 gb_15 (x_18, x_19) hv_x_18) tR .nil rfl) fun gbe_20 => jn <| jr <| jc (op_assign lb .cI) <| jn <| JC.ret <| JQ.outR ?_
   obtain rfl := so hm
   exact JQ.done (js := [3, 1, 0, 0, 0, 0]) (ss := [.val (S (rI .i64) (8 : Int))]) gbe_20 (.inl rfl) (.nil rfl) rfl (.cons (.tmp rfl) .nil) rfl rfl rfl
 refine JC.skip <| JQ.then <| bI hm fun x_23 hx3 hq3 => JC.seqJ (γ := Unit) (stj := fun _ => ⟨[(1, ov (CLO 52 [PTR gb_10 0, PTR gb_11 0, PTR gb_13 0, PTR gb_15 0]))], [cvar gb_10 (rW (PTO (Option.map (fun _ => gbe_8 x_12) x_9))) (), cqm go_7 (S rS) r_disk_file gbe_8 (some x_6), cvar gb_11 (rW (PTR gb_5 0)) (), cvar gb_5 (zq1 go_7) ((), (capacity_1, (x_23, (dead_3, (v_16, ()))))), cvar gb_13 rS x_12, cvar gb_15 (rL (rU UInt8)) x_14], []⟩) (fun _ => ?_) ?_
 · refine jr <| jmv rfl rfl ?_
   obtain ⟨⟨x_24, x_25⟩, hv_x_24, hq3⟩ := bnd_inv hq3
   refine jx (op_call (js := [0, 0, 0, 0, 0, 0]) ld cl52 (sim_disk_Disk_Append_1_pppp_xmpsmvvvvvv k x_9 x_6 capacity_1 x_23 dead_3 v_16 x_12 x_14 gb_10 go_7 gbe_8 gb_11 gb_5 gb_13 gb_15 (x_24, x_25) hv_x_24) tR .nil rfl) fun gbe_26 => jn <| jr <| jc (op_assign lb .cI) <| jn <| JC.ret ?_
   obtain rfl := so hq3
   exact JQ.done (js := [3, 1, 0, 0, 0, 0]) (ss := [.val (S (rI .i64) (0 : Int))]) gbe_26 (.inl rfl) (.nil rfl) rfl (.cons (.tmp rfl) .nil) rfl rfl rfl
 refine jr <| jmv rfl rfl <| jc (op_nilCheck lb tR (fun e v h => by subst h; rfl)) <| jc (op_fieldAddr (off := 2) lb tf64_2 tR) <| jc (op_loadS (j := 0) lb tS3 tR rfl (Comp.trans (Comp.self (zq1 go_7) ((), (capacity_1, (fuse_2, (dead_3, (v_16, ())))))) (Comp.at' (Comp.inS (Comp.inS (Comp.inF (Comp.self (rI .i64) fuse_2) (lE rfl)))) (by rfl : _ = 2)) (lE rfl)) rfl rfl) <| JL.sub ⟨[(0, ov (PTR gb_5 0)), (1, ov (CLO 52 [PTR gb_10 0, PTR gb_11 0, PTR gb_13 0, PTR gb_15 0])), (31, ov (S (rI .i64) fuse_2))], [cvar gb_5 (zq1 go_7) ((), (capacity_1, (fuse_2, (dead_3, (v_16, ()))))), cqm go_7 (S rS) r_disk_file gbe_8 (some x_6), cvar gb_10 (rW (PTO (Option.map (fun _ => gbe_8 x_12) x_9))) (), cvar gb_11 (rW (PTR gb_5 0)) (), cvar gb_13 rS x_12, cvar gb_15 (rL (rU UInt8)) x_14], []⟩ (.cons rfl (.cons rfl (.cons rfl .nil))) rfl rfl <| lI hx3 fun v_21 hv_21 hx3 => jc (op_cmpI lb tR .cI (cs hv_21)) <| jn <| jif tR hx3 (fun hc4 hx3 => ?_) (fun hc4 hx3 => ?_)
 · refine JC.region <| jmv rfl rfl <| jc (op_nilCheck lb tR (fun e v h => by subst h; rfl)) <| jc (op_fieldAddr (off := 2) lb tf64_2 tR) <| jc (op_loadS (j := 0) lb tS3 tR rfl (Comp.trans (Comp.self (zq1 go_7) ((), (capacity_1, (fuse_2, (dead_3, (v_16, ())))))) (Comp.at' (Comp.inS (Comp.inS (Comp.inF (Comp.self (rI .i64) fuse_2) (lE rfl)))) (by rfl : _ = 2)) (lE rfl)) rfl rfl) <| lI hx3 fun v_22 hv_22 hx3 => jc (op_arI lb tR .cI (cs hv_22)) <| jc (op_nilCheck lb tR (fun e v h => by subst h; rfl)) <| jc (op_fieldAddr (off := 2) lb tf64_2 tR) <| jc (op_storeS (j := 0) tS3 tR tR rfl rfl ((UpdR.snd (UpdR.snd (UpdR.fst (UpdR.self (by rfl))))).at (by change (1 + (1 + 0)) = (0 + 2); omega)) rfl) <| JL.nil ?_
   try obtain rfl := so hx3
   refine JQ.pre (Imp.var (j := 0) (q := (zq1 go_7)) (y := ((), (capacity_1, (v_22, (dead_3, (v_16, ())))))) rfl Wk.refl) ?_
   exact JQ.join () (Imp.norm (js := [2, 1, 1, 0, 0, 0]) rfl (.cons rfl .nil))
 refine JC.skip ?_
 try obtain rfl := so hx3
 refine JQ.pre (Imp.var (j := 0) (q := (zq1 go_7)) (y := ((), (capacity_1, (fuse_2, (dead_3, (v_16, ())))))) rfl Wk.refl) ?_
 exact JQ.join () (Imp.norm (js := [2, 1, 1, 0, 0, 0]) rfl (.cons rfl .nil))

end Go.Proofs.Ytipchpbcjkhnaaa
