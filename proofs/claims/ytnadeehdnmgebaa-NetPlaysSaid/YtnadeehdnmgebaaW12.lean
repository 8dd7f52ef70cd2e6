/- Walks. -/
import Derived.Test.YtnadeehdnmgebaaT
import Derived.Test.YtnadeehdnmgebaaW1
import Derived.Test.YtnadeehdnmgebaaW10
import Derived.Test.YtnadeehdnmgebaaW11
namespace Go.Proofs.Ytnadeehdnmgebaa
open Go Fw
set_option linter.unusedVariables false
set_option maxRecDepth 100000
set_option maxHeartbeats 4000000

theorem sim_law12_once (k : Nat) (a_1 : Int) (ends_2 : Int) (lost_3 : Int) (x_5 : (List (net_pair × (List (List UInt8))))) (Ends_7 : Int) (Lost_8 : Int) (x_10 : (List api_Flight)) (gb_4 : Nat) (go_6 : Option Nat) (gb_9 : Nat) (go_11 : Option Nat) (gc_12 : Nat) (r : Bool) (hm : law12_once k a_1 ends_2 lost_3 x_5 Ends_7 Lost_8 x_10 = some r) : Sim Try.prog 22 [PTR gb_4 0, PTR gb_9 0, S (rI .i64) a_1] [cvar gb_4 (rP (rW (MPV go_6)) (rP (rI .i64) (rP (rI .i64) r0))) ((), (ends_2, (lost_3, ()))), cmap go_6 (A r_net_pair) (S (rL (rL (rU UInt8)))) (some x_5), cvar gb_9 (rP (rW (HDR go_11 0 (List.length x_10) gc_12)) (rP (rI .i64) (rP (rI .i64) r0))) ((), (Ends_7, (Lost_8, ()))), cown go_11 r_api_Flight x_10 0 gc_12] (γ := Unit) (fun q => [cvar gb_4 (rP (rW (MPV go_6)) (rP (rI .i64) (rP (rI .i64) r0))) ((), (ends_2, (lost_3, ()))), cmap go_6 (A r_net_pair) (S (rL (rL (rU UInt8)))) (some x_5), cvar gb_9 (rP (rW (HDR go_11 0 (List.length x_10) gc_12)) (rP (rI .i64) (rP (rI .i64) r0))) ((), (Ends_7, (Lost_8, ()))), cown go_11 r_api_Flight x_10 0 gc_12]) (fun q => .one (.val (S rB r))) := by
 unfold law12_once at hm
 refine Sim.of Try.func22 rfl rfl (Nat.le_of_ble_eq_true rfl) (fun e0 w0 => ?_)
 refine JC.at ⟨[(0, ov (PTR gb_4 0)), (1, ov (PTR gb_9 0)), (2, ov (S (rI .i64) a_1))], [cvar gb_4 (rP (rW (MPV go_6)) (rP (rI .i64) (rP (rI .i64) r0))) ((), (ends_2, (lost_3, ()))), cmap go_6 (A r_net_pair) (S (rL (rL (rU UInt8)))) (some x_5), cvar gb_9 (rP (rW (HDR go_11 0 (List.length x_10) gc_12)) (rP (rI .i64) (rP (rI .i64) r0))) ((), (Ends_7, (Lost_8, ()))), cown go_11 r_api_Flight x_10 0 gc_12], []⟩ ?_
 refine JC.seq ?_
 refine JC.region ?_
 refine jx (op_boxW lb (.tmp rfl)) (fun q => ?_)
 obtain ⟨gb_13, hqq⟩ : ∃ z, z = q := ⟨_, rfl⟩
 subst hqq
 refine jx (op_boxS lb (.tmp rfl)) (fun q => ?_)
 obtain ⟨gb_14, hqq⟩ : ∃ z, z = q := ⟨_, rfl⟩
 subst hqq
 refine jx (op_alloc lb tZ4 zr4) (fun q => ?_)
 obtain ⟨gb_15, hqq⟩ : ∃ z, z = q := ⟨_, rfl⟩
 subst hqq
 refine JL.nil ?_
 refine JQ.then ?_
 refine JC.seq ?_
 refine JC.region ?_
 refine jx (op_alloc lb tZ3 zr3) (fun q => ?_)
 obtain ⟨gb_16, hqq⟩ : ∃ z, z = q := ⟨_, rfl⟩
 subst hqq
 refine JL.sub ⟨[(0, ov (PTR gb_4 0)), (4, ov (PTR gb_13 0)), (5, ov (PTR gb_14 0)), (6, ov (PTR gb_15 0)), (7, ov (PTR gb_16 0))], [cvar gb_4 (rP (rW (MPV go_6)) (rP (rI .i64) (rP (rI .i64) r0))) ((), (ends_2, (lost_3, ()))), cmap go_6 (A r_net_pair) (S (rL (rL (rU UInt8)))) (some x_5), cvar gb_9 (rP (rW (HDR go_11 0 (List.length x_10) gc_12)) (rP (rI .i64) (rP (rI .i64) r0))) ((), (Ends_7, (Lost_8, ()))), cown go_11 r_api_Flight x_10 0 gc_12, cvar gb_13 (rW (PTR gb_9 0)) (), cvar gb_14 (rI .i64) a_1, cvar gb_15 rB false, cvar gb_16 (rI .i64) (0 : Int)], []⟩ (.cons rfl (.cons rfl (.cons rfl (.cons rfl (.cons rfl .nil))))) rfl rfl ?_
 refine jc (op_storeS (j := 7) tS3 (.tmp rfl) .cI rfl rfl (UpdR.self (by rfl)) rfl) ?_
 refine JL.nil ?_
 refine JQ.then ?_
 refine JC.seq ?_
 refine JC.region ?_
 refine jc (op_move lb (.tmp rfl)) ?_
 replace hm := bnd_inv hm
 obtain ⟨v_17, hv_v_17, hm⟩ := hm
 refine jx (op_call (js := [0, 0]) ld cl31 (sim_net_Net_All k ends_2 lost_3 x_5 gb_4 go_6 v_17 hv_v_17) .func (.cons (.tmp rfl) .nil) rfl) (fun q => ?_)
 obtain ⟨gb_18, go_19, gc_20⟩ := q
 refine jc (op_assign lb (.tmp rfl)) ?_
 refine JL.nil ?_
 refine JQ.then ?_
 refine JC.seq ?_
 refine JC.seq ?_
 refine JC.region ?_
 refine jc (op_move lb (.tmp rfl)) ?_
 refine jc (op_nilFn (neg := false) lb un63 (.tmp rfl) (HasO.const (p := NILF) fun _ => rfl)) ?_
 refine JL.nil ?_
 refine JQ.then ?_
 refine JC.condF (.tmp rfl) rfl ?_
 refine JC.skip ?_
 refine JQ.then ?_
 replace hm := bnd_inv hm
 obtain ⟨tv1, hx1, hq1⟩ := hm
 refine JC.seqK (α := Int) (γ := Nat) (stj := fun v q => ⟨[(4, ov (PTR gb_13 0)), (6, ov (PTR gb_15 0)), (7, ov (PTR gb_16 0))], [cvar gb_13 (rW (PTR gb_9 0)) (), cvar gb_9 (rP (rW (HDR go_11 0 (List.length x_10) gc_12)) (rP (rI .i64) (rP (rI .i64) r0))) ((), (Ends_7, (Lost_8, ()))), cown go_11 r_api_Flight x_10 0 gc_12, cvar gb_15 rB false, cvar gb_16 (rI .i64) v, cvar gb_4 (rP (rW (MPV go_6)) (rP (rI .i64) (rP (rI .i64) r0))) ((), (ends_2, (lost_3, ()))), cmap go_6 (A r_net_pair) (S (rL (rL (rU UInt8)))) (some x_5), cdef q], [q]⟩) (p := fun v => tv1 = (.inl v)) (fun v q hv => ?_) ?_
 · subst hv
   obtain ⟨x_53, hvv⟩ : ∃ z, z = v := ⟨_, rfl⟩
   subst hvv
   obtain ⟨gK_54, hqq⟩ : ∃ z, z = q := ⟨_, rfl⟩
   subst hqq
   dsimp only at hq1
   refine JC.at ⟨[(4, ov (PTR gb_13 0)), (6, ov (PTR gb_15 0)), (7, ov (PTR gb_16 0))], [cvar gb_13 (rW (PTR gb_9 0)) (), cvar gb_9 (rP (rW (HDR go_11 0 (List.length x_10) gc_12)) (rP (rI .i64) (rP (rI .i64) r0))) ((), (Ends_7, (Lost_8, ()))), cown go_11 r_api_Flight x_10 0 gc_12, cvar gb_15 rB false, cvar gb_16 (rI .i64) x_53, cvar gb_4 (rP (rW (MPV go_6)) (rP (rI .i64) (rP (rI .i64) r0))) ((), (ends_2, (lost_3, ()))), cmap go_6 (A r_net_pair) (S (rL (rL (rU UInt8)))) (some x_5), cdef gK_54], [gK_54]⟩ ?_
   refine JC.seq ?_
   replace hq1 := lt1_inv hq1
   obtain ⟨v_55, hv_v_55, hq1⟩ := hq1
   refine JC.anyE (kl := []) (kk := 0) (base := [(4, ov (PTR gb_13 0)), (6, ov (PTR gb_15 0)), (7, ov (PTR gb_16 0))])
       (fs := fun γ => [⟨some 65, ov (S (rI .i64) x_53)⟩, ⟨some 66, ov (PTR gb_9 0)⟩, ⟨some 67, ov (PTR gb_9 0)⟩, ⟨some 68, ov (PTR gb_9 (0 + 0))⟩, ⟨some 69, ov (HDR go_11 0 (List.length x_10) gc_12)⟩, ⟨some 70, ov (S (rI .i64) (List.length x_10 : Int))⟩, ⟨some 71, ov (S rB v_55)⟩, ⟨none, .one .any⟩])
       (rs := fun γ => [⟨cvar gb_13 (rW (PTR gb_9 0)) (), none, none, [1]⟩, ⟨cvar gb_9 (rP (rW (HDR go_11 0 (List.length x_10) gc_12)) (rP (rI .i64) (rP (rI .i64) r0))) ((), (Ends_7, (Lost_8, ()))), none, none, [4]⟩, ⟨cown go_11 r_api_Flight x_10 0 gc_12, none, none, []⟩, ⟨cvar gb_15 rB false, none, (some 7), []⟩, ⟨cvar gb_16 (rI .i64) x_53, none, none, [0]⟩, ⟨cvar gb_4 (rP (rW (MPV go_6)) (rP (rI .i64) (rP (rI .i64) r0))) ((), (ends_2, (lost_3, ()))), none, none, []⟩, ⟨cmap go_6 (A r_net_pair) (S (rL (rL (rU UInt8)))) (some x_5), none, none, []⟩, ⟨cdef gK_54, none, none, []⟩, ⟨cvar gb_15 rB v_55, (some 7), none, []⟩])
       (ds := [65, 66, 67, 68, 69, 70, 71]) (bs := [4, 6, 7]) (afts := [[], [], [], [], [], [], [], []]) (js := [0, 0, 0, 0, 0, 0, 0, 0]) mixed (.cons rfl (.cons rfl (.cons rfl .nil))) (fun _ => rfl)
       (by
      refine DSteps.cons (j := 1) rfl (fun _ => rfl) (.run (fun γ ρ B hb hd => ⟨.none, OpStep.at ⟨ρ, (cvar gb_16 (rI .i64) x_53) :: B, _⟩ (setO ⟨ρ, (cvar gb_16 (rI .i64) x_53) :: B, _⟩ _ _) (op_loadS (j := 0) lb tS3 (.tmp (hb 7 _ rfl)) rfl (Comp.self (rI .i64) x_53) rfl rfl)⟩)) ?_
      refine DSteps.cons (j := 2) rfl (fun _ => rfl) (.run (fun γ ρ B hb hd => ⟨.none, OpStep.at ⟨ρ, (cvar gb_13 (rW (PTR gb_9 0)) ()) :: B, _⟩ (setO ⟨ρ, (cvar gb_13 (rW (PTR gb_9 0)) ()) :: B, _⟩ _ _) (op_loadW (j := 0) lb tS41 (.tmp (hb 4 _ rfl)) rfl (Comp.self (rW (PTR gb_9 0)) ()))⟩)) ?_
      refine dS 3 (fun γ ρ B hb hd => op_nilCheck lb (.tmp (hl hd 1 66 rfl)) (fun e v h => by subst h; rfl)) ?_
      refine dS 4 (fun γ ρ B hb hd => op_fieldAddr (off := 0) lb tf43_0 (.tmp (hl hd 2 67 rfl))) ?_
      refine DSteps.cons (j := 5) rfl (fun _ => rfl) (.run (fun γ ρ B hb hd => ⟨.none, OpStep.at ⟨ρ, (cvar gb_9 (rP (rW (HDR go_11 0 (List.length x_10) gc_12)) (rP (rI .i64) (rP (rI .i64) r0))) ((), (Ends_7, (Lost_8, ())))) :: B, _⟩ (setO ⟨ρ, (cvar gb_9 (rP (rW (HDR go_11 0 (List.length x_10) gc_12)) (rP (rI .i64) (rP (rI .i64) r0))) ((), (Ends_7, (Lost_8, ())))) :: B, _⟩ _ _) (op_loadW (j := 0) lb tS30 (.tmp (hl hd 3 68 rfl)) rfl (Comp.trans (Comp.self (rP (rW (HDR go_11 0 (List.length x_10) gc_12)) (rP (rI .i64) (rP (rI .i64) r0))) ((), (Ends_7, (Lost_8, ())))) (Comp.at' (Comp.inF (Comp.self (rW (HDR go_11 0 (List.length x_10) gc_12)) ()) (Nat.le_of_ble_eq_true rfl)) (by rfl : _ = 0)) (Nat.le_of_ble_eq_true rfl)))⟩)) ?_
      refine dS 6 (fun γ ρ B hb hd => op_lenH lb tu30 (.tmp (hl hd 4 69 rfl))) ?_
      refine dS 7 (fun γ ρ B hb hd => op_cmpI lb (.tmp (hl hd 0 65 rfl)) (.tmp (hl hd 5 70 rfl)) (congrArg some hv_v_55)) ?_
      refine DSteps.cons (j := 8) rfl (fun _ => rfl) (.run (fun γ ρ B hb hd => ⟨.none, OpStep.at ⟨ρ, (cvar gb_15 rB false) :: B, _⟩ (setO ⟨ρ, (cvar gb_15 rB v_55) :: B, _⟩ _ _) (op_storeS (j := 0) tS4 (.tmp (hb 6 _ rfl)) (.tmp (hl hd 6 71 rfl)) rfl rfl (UpdR.self (by rfl)) rfl)⟩)) ?_
      exact DSteps.nil)
       (by decide +kernel) (fun _ => rfl) rfl (fun _ => rfl) (fun _ => rfl) rfl (by decide) (by decide) (by decide +kernel) (fun _ d h => by cases h)
       (ρ' := fun γ => [(6, ov (PTR gb_15 0))])
       (X' := fun γ => [cvar gb_13 (rW (PTR gb_9 0)) (), cvar gb_9 (rP (rW (HDR go_11 0 (List.length x_10) gc_12)) (rP (rI .i64) (rP (rI .i64) r0))) ((), (Ends_7, (Lost_8, ()))), cown go_11 r_api_Flight x_10 0 gc_12, cvar gb_16 (rI .i64) x_53, cvar gb_4 (rP (rW (MPV go_6)) (rP (rI .i64) (rP (rI .i64) r0))) ((), (ends_2, (lost_3, ()))), cmap go_6 (A r_net_pair) (S (rL (rL (rU UInt8)))) (some x_5), cdef gK_54, cvar gb_15 rB v_55])
       (fun γ ρ hb hd => (.cons (hb 6 _ rfl (by decide)) .nil)) (fun _ => rfl) (fun γ => ?_)
   refine JQ.at ⟨[(6, ov (PTR gb_15 0))], [cvar gb_13 (rW (PTR gb_9 0)) (), cvar gb_9 (rP (rW (HDR go_11 0 (List.length x_10) gc_12)) (rP (rI .i64) (rP (rI .i64) r0))) ((), (Ends_7, (Lost_8, ()))), cown go_11 r_api_Flight x_10 0 gc_12, cvar gb_16 (rI .i64) x_53, cvar gb_4 (rP (rW (MPV go_6)) (rP (rI .i64) (rP (rI .i64) r0))) ((), (ends_2, (lost_3, ()))), cmap go_6 (A r_net_pair) (S (rL (rL (rU UInt8)))) (some x_5), cdef gK_54, cvar gb_15 rB v_55], [gK_54]⟩ ?_
   refine JQ.then ?_
   refine JC.ret ?_
   replace hq1 := Option.some.inj hq1
   subst hq1
   exact JQ.done (js := [4, 4, 1, 1]) (ss := [.val (S rB v_55)]) () (.inl rfl) (.cons (j := 6) rfl rfl (.nil rfl)) rfl (.cons (.cellS (j := 6) tS4 rfl rfl rfl) .nil) rfl rfl rfl
 · refine JC.seq ?_
   refine JC.region ?_
   refine jc (op_move lb (.tmp rfl)) ?_
   refine JL.nil ?_
   refine JQ.then ?_
   refine JC.block ?_
   replace hx1 := bnd_inv hx1
   obtain ⟨tv2, hL2, hq2⟩ := hx1
   refine JC.pre (Imp.var (j := 4) (q := (rP (rW (HDR go_11 0 (List.length x_10) gc_12)) (rP (rI .i64) (rP (rI .i64) r0)))) (y := ((), (Ends_7, (Lost_8, ())))) rfl Wk.refl) ?_
   refine JC.pre (st' := ⟨[(4, ov (PTR gb_13 0)), (5, ov (PTR gb_14 0)), (6, ov (PTR gb_15 0)), (7, ov (PTR gb_16 0)), (16, ov (CLO 41 [PTR gb_18 0]))], [cvar gb_18 (rW (HDR go_19 0 (List.length v_17) gc_20)) (), cown go_19 r_api_Flight v_17 0 gc_20, cvar gb_13 (rW (PTR gb_9 0)) (), cvar gb_9 (rP (rW (HDR go_11 0 (List.length x_10) gc_12)) (rP (rI .i64) (rP (rI .i64) r0))) ((), (Ends_7, (Lost_8, ()))), cown go_11 r_api_Flight x_10 0 gc_12, cvar gb_14 (rI .i64) a_1, cvar gb_15 rB false, cvar gb_16 (rI .i64) (0 : Int), cvar gb_4 (rP (rW (MPV go_6)) (rP (rI .i64) (rP (rI .i64) r0))) ((), (ends_2, (lost_3, ()))), cmap go_6 (A r_net_pair) (S (rL (rL (rU UInt8)))) (some x_5)], []⟩) (Imp.norm (js := [0, 0, 4, 2, 2, 2, 2, 2, 0, 0]) rfl (.cons rfl (.cons rfl (.cons rfl (.cons rfl (.cons rfl .nil)))))) ?_
   replace hx1 := hq2
   refine JC.rangeFunc (γ := Unit) (γ' := (Unit)) (r := tv2) (js := [0, 0]) (qf := fun g => g) (X' := fun g => [cvar gb_18 (rW (HDR go_19 0 (List.length v_17) gc_20)) (), cown go_19 r_api_Flight v_17 0 gc_20]) (sv := fun _ => .tup [])
       (fun (u : Int × Int × Int × (List UInt8) × Nat × Nat) (z : Option Nat × Nat) => [S (rI .i64) u.1, A (rP (rI .i64) (rP (rI .i64) (rP (rW (HDX z.1 (u.2.2.2.2.1 * 1) u.2.2.2.2.2)) r0))) (u.2.1, (u.2.2.1, ((), ())))]) (fun (u : Int × Int × Int × (List UInt8) × Nat × Nat) (z : Option Nat × Nat) => [cown z.1 (rU UInt8) u.2.2.2.1 0 z.2]) (fun (s : Int) (u : Int × Int × Int × (List UInt8) × Nat × Nat) => law12_once.y1 k x_10 a_1 s u.1 u.2.1 u.2.2.1 u.2.2.2.1 u.2.2.2.2.1 u.2.2.2.2.2) (fun (s : Int) q => [cvar gb_13 (rW (PTR gb_9 0)) (), cvar gb_9 (rP (rW (HDR go_11 0 (List.length x_10) gc_12)) (rP (rI .i64) (rP (rI .i64) r0))) ((), (Ends_7, (Lost_8, ()))), cown go_11 r_api_Flight x_10 0 gc_12, cvar gb_14 (rI .i64) a_1, cvar gb_15 rB false, cvar gb_16 (rI .i64) s, cvar gb_4 (rP (rW (MPV go_6)) (rP (rI .i64) (rP (rI .i64) r0))) ((), (ends_2, (lost_3, ()))), cmap go_6 (A r_net_pair) (S (rL (rL (rU UInt8)))) (some x_5)]) (fun (t : (Bool × Int)) q => [cvar gb_15 rB t.1, cvar gb_4 (rP (rW (MPV go_6)) (rP (rI .i64) (rP (rI .i64) r0))) ((), (ends_2, (lost_3, ()))), cmap go_6 (A r_net_pair) (S (rL (rL (rU UInt8)))) (some x_5), cvar gb_9 (rP (rW (HDR go_11 0 (List.length x_10) gc_12)) (rP (rI .i64) (rP (rI .i64) r0))) ((), (Ends_7, (Lost_8, ()))), cown go_11 r_api_Flight x_10 0 gc_12, cvar gb_13 (rW (PTR gb_9 0)) (), cvar gb_14 (rI .i64) a_1, cvar gb_16 (rI .i64) t.2]) (fun (t : (Bool × Int)) => .ret) [(4, ov (PTR gb_13 0)), (5, ov (PTR gb_14 0)), (6, ov (PTR gb_15 0)), (7, ov (PTR gb_16 0))] (0 : Int) () rfl (.tmp rfl) cl41 rfl (.cons rfl (.cons rfl (.cons rfl (.cons rfl .nil)))) (fun _ _ => rfl) (by decide) rfl ?_ (fun L C hY => sim_net_Net_All_1'2 k (fun (s : Int) (u : Int × Int × Int × (List UInt8) × Nat × Nat) => law12_once.y1 k x_10 a_1 s u.1 u.2.1 u.2.2.1 u.2.2.2.1 u.2.2.2.2.1 u.2.2.2.2.2) (Sum.inl (0 : Int)) v_17 () gb_18 go_19 gc_20 L C hY tv2 hL2) ?_ ?_
   · intro e1 w1 F1 L K lp s q u z y hx hlp
     obtain ⟨x_21, hvv⟩ : ∃ z, z = s := ⟨_, rfl⟩
     subst hvv
     obtain ⟨a_22, a_23, a_24, a_25, a_26, a_27⟩ := u
     obtain ⟨go_28, gn_29⟩ := z
     change law12_once.y1 k x_10 a_1 x_21 a_22 a_23 a_24 a_25 a_26 a_27 = some y at hx
     unfold law12_once.y1 at hx
     refine JC.at ⟨[(17, ov (S (rI .i64) a_22)), (18, ov (A (rP (rI .i64) (rP (rI .i64) (rP (rW (HDX go_28 (a_26 * 1) a_27)) r0))) (a_23, (a_24, ((), ()))))), (4, ov (PTR gb_13 0)), (5, ov (PTR gb_14 0)), (6, ov (PTR gb_15 0)), (7, ov (PTR gb_16 0))], [cLK L K (.loop lp), cvar gb_13 (rW (PTR gb_9 0)) (), cvar gb_9 (rP (rW (HDR go_11 0 (List.length x_10) gc_12)) (rP (rI .i64) (rP (rI .i64) r0))) ((), (Ends_7, (Lost_8, ()))), cown go_11 r_api_Flight x_10 0 gc_12, cvar gb_14 (rI .i64) a_1, cvar gb_15 rB false, cvar gb_16 (rI .i64) x_21, cvar gb_4 (rP (rW (MPV go_6)) (rP (rI .i64) (rP (rI .i64) r0))) ((), (ends_2, (lost_3, ()))), cmap go_6 (A r_net_pair) (S (rL (rL (rU UInt8)))) (some x_5), cown go_28 (rU UInt8) a_25 0 gn_29], []⟩ ?_
     refine JC.seq ?_
     refine JC.region ?_
     refine jc (op_assign lb (.tmp rfl)) ?_
     refine JL.nil ?_
     refine JQ.then ?_
     refine JC.region ?_
     refine jx (op_alloc lb tZ36 zr36) (fun q => ?_)
     obtain ⟨gb_30, hqq⟩ : ∃ z, z = q := ⟨_, rfl⟩
     subst hqq
     refine jc (op_storeA (j := 10) tA36 (.tmp rfl) (.tmp rfl) rfl (UpdR.self (by rfl)) rfl) ?_
     refine JL.nil ?_
     refine JQ.begin (j := 0) hlp rfl ?_
     refine JC.block ?_
     refine JC.seq ?_
     replace hx := bnd_inv hx
     obtain ⟨x_37, hx3, hq3⟩ := hx
     refine JC.seqJ (γ := Unit) (stj := fun q => ⟨[(5, ov (PTR gb_14 0)), (6, ov (PTR gb_15 0)), (7, ov (PTR gb_16 0)), (10, ov (PTR gb_30 0)), (42, ov (S rB x_37))], [cvar gb_14 (rI .i64) a_1, cvar gb_15 rB false, cvar gb_16 (rI .i64) x_21, cvar gb_30 (rP (rI .i64) (rP (rI .i64) (rP (rW (HDX go_28 (a_26 * 1) a_27)) r0))) (a_23, (a_24, ((), ()))), cown go_28 (rU UInt8) a_25 0 gn_29, cvar gb_4 (rP (rW (MPV go_6)) (rP (rI .i64) (rP (rI .i64) r0))) ((), (ends_2, (lost_3, ()))), cmap go_6 (A r_net_pair) (S (rL (rL (rU UInt8)))) (some x_5), cvar gb_9 (rP (rW (HDR go_11 0 (List.length x_10) gc_12)) (rP (rI .i64) (rP (rI .i64) r0))) ((), (Ends_7, (Lost_8, ()))), cown go_11 r_api_Flight x_10 0 gc_12, cvar gb_13 (rW (PTR gb_9 0)) (), cLK L K (.loop { lp with state := .busy })], []⟩) (fun q => ?_) ?_
     · obtain _ := q
       refine JC.at ⟨[(5, ov (PTR gb_14 0)), (6, ov (PTR gb_15 0)), (7, ov (PTR gb_16 0)), (10, ov (PTR gb_30 0)), (42, ov (S rB x_37))], [cvar gb_14 (rI .i64) a_1, cvar gb_15 rB false, cvar gb_16 (rI .i64) x_21, cvar gb_30 (rP (rI .i64) (rP (rI .i64) (rP (rW (HDX go_28 (a_26 * 1) a_27)) r0))) (a_23, (a_24, ((), ()))), cown go_28 (rU UInt8) a_25 0 gn_29, cvar gb_4 (rP (rW (MPV go_6)) (rP (rI .i64) (rP (rI .i64) r0))) ((), (ends_2, (lost_3, ()))), cmap go_6 (A r_net_pair) (S (rL (rL (rU UInt8)))) (some x_5), cvar gb_9 (rP (rW (HDR go_11 0 (List.length x_10) gc_12)) (rP (rI .i64) (rP (rI .i64) r0))) ((), (Ends_7, (Lost_8, ()))), cown go_11 r_api_Flight x_10 0 gc_12, cvar gb_13 (rW (PTR gb_9 0)) (), cLK L K (.loop { lp with state := .busy })], []⟩ ?_
       replace hq3 := iteB_inv hq3
       rcases hq3 with ⟨hc9, hq3⟩ | ⟨hc9, hq3⟩
       · refine JC.condT (.tmp rfl) hc9 ?_
         refine JC.seq ?_
         refine JC.region ?_
         refine jc (op_storeS (j := 1) tS4 (.tmp rfl) .cB rfl rfl (UpdR.self (by rfl)) rfl) ?_
         refine JL.nil ?_
         refine JQ.then ?_
         refine JC.ret ?_
         refine JQ.outR ?_
         refine JQ.outRB ?_
         exact JQ.rret () (Option.some.inj hq3).symm rfl (Imp.norm (js := [10, 1, 4, 4, 4, 4, 4, 0, 0]) rfl .nil)
       · refine JC.condF (.tmp rfl) hc9 ?_
         refine JC.skip ?_
         refine JQ.then ?_
         replace hq3 := bnd_inv hq3
         obtain ⟨_, hx10, hq10⟩ := hq3
         refine JC.seqJ (γ := Unit) (stj := fun q => ⟨[(5, ov (PTR gb_14 0)), (6, ov (PTR gb_15 0)), (7, ov (PTR gb_16 0))], [cvar gb_14 (rI .i64) a_1, cvar gb_15 rB false, cvar gb_16 (rI .i64) x_21, cvar gb_4 (rP (rW (MPV go_6)) (rP (rI .i64) (rP (rI .i64) r0))) ((), (ends_2, (lost_3, ()))), cmap go_6 (A r_net_pair) (S (rL (rL (rU UInt8)))) (some x_5), cvar gb_9 (rP (rW (HDR go_11 0 (List.length x_10) gc_12)) (rP (rI .i64) (rP (rI .i64) r0))) ((), (Ends_7, (Lost_8, ()))), cown go_11 r_api_Flight x_10 0 gc_12, cvar gb_13 (rW (PTR gb_9 0)) (), cLK L K (.loop { lp with state := .busy })], []⟩) (fun q => ?_) ?_
         · obtain _ := q
           refine JC.at ⟨[(5, ov (PTR gb_14 0)), (6, ov (PTR gb_15 0)), (7, ov (PTR gb_16 0))], [cvar gb_14 (rI .i64) a_1, cvar gb_15 rB false, cvar gb_16 (rI .i64) x_21, cvar gb_4 (rP (rW (MPV go_6)) (rP (rI .i64) (rP (rI .i64) r0))) ((), (ends_2, (lost_3, ()))), cmap go_6 (A r_net_pair) (S (rL (rL (rU UInt8)))) (some x_5), cvar gb_9 (rP (rW (HDR go_11 0 (List.length x_10) gc_12)) (rP (rI .i64) (rP (rI .i64) r0))) ((), (Ends_7, (Lost_8, ()))), cown go_11 r_api_Flight x_10 0 gc_12, cvar gb_13 (rW (PTR gb_9 0)) (), cLK L K (.loop { lp with state := .busy })], []⟩ ?_
           refine JC.seq ?_
           refine JC.region ?_
           refine jc (op_loadS (j := 2) lb tS3 (.tmp rfl) rfl (Comp.self (rI .i64) x_21) rfl rfl) ?_
           replace hq10 := lt1_inv hq10
           obtain ⟨v_47, hv_v_47, hq10⟩ := hq10
           refine jc (op_arI lb (.tmp rfl) .cI (congrArg some hv_v_47)) ?_
           refine jc (op_storeS (j := 2) tS3 (.tmp rfl) (.tmp rfl) rfl rfl (UpdR.self (by rfl)) rfl) ?_
           refine JL.nil ?_
           refine JQ.then ?_
           refine JC.seq ?_
           refine JC.region ?_
           refine jc (op_loadS (j := 2) lb tS3 (.tmp rfl) rfl (Comp.self (rI .i64) v_47) rfl rfl) ?_
           refine jc (op_loadS (j := 0) lb tS3 (.tmp rfl) rfl (Comp.self (rI .i64) a_1) rfl rfl) ?_
           replace hq10 := lt1_inv hq10
           obtain ⟨v_48, hv_v_48, hq10⟩ := hq10
           refine jc (op_cmpI lb (.tmp rfl) (.tmp rfl) (congrArg some hv_v_48)) ?_
           refine JL.nil ?_
           refine JQ.then ?_
           replace hq10 := iteB_inv hq10
           rcases hq10 with ⟨hc13, hq10⟩ | ⟨hc13, hq10⟩
           · refine JC.condT (.tmp rfl) hc13 ?_
             refine JC.seq ?_
             refine JC.region ?_
             refine jc (op_storeS (j := 1) tS4 (.tmp rfl) .cB rfl rfl (UpdR.self (by rfl)) rfl) ?_
             refine JL.nil ?_
             refine JQ.then ?_
             refine JC.ret ?_
             refine JQ.outRB ?_
             exact JQ.rret () (Option.some.inj hq10).symm rfl (Imp.norm (js := [8, 1, 2, 2, 2, 2, 2, 0, 0]) rfl .nil)
           · refine JC.condF (.tmp rfl) hc13 ?_
             refine JC.skip ?_
             refine JQ.outNB ?_
             exact JQ.rnext () (Option.some.inj hq10).symm (Imp.norm (js := [8, 7, 5, 5, 0, 0, 0, 0, 0]) rfl .nil)
         · refine JC.seq ?_
           refine JC.region ?_
           refine jc (op_assign lb .cI) ?_
           refine JL.nil ?_
           refine JQ.then ?_
           refine JC.block ?_
           refine JC.pre ?_ (JC.loop (γ := Unit) (stf := fun s q => ⟨[(5, ov (PTR gb_14 0)), (6, ov (PTR gb_15 0)), (7, ov (PTR gb_16 0)), (10, ov (PTR gb_30 0)), (11, ov (S (rI .i64) s.2))], [cvar gb_14 (rI .i64) a_1, cvar gb_15 rB false, cvar gb_16 (rI .i64) x_21, cvar gb_30 (rP (rI .i64) (rP (rI .i64) (rP (rW (HDX go_28 (a_26 * 1) a_27)) r0))) (a_23, (a_24, ((), ()))), cown go_28 (rU UInt8) s.1 0 gn_29, cvar gb_4 (rP (rW (MPV go_6)) (rP (rI .i64) (rP (rI .i64) r0))) ((), (ends_2, (lost_3, ()))), cmap go_6 (A r_net_pair) (S (rL (rL (rU UInt8)))) (some x_5), cvar gb_9 (rP (rW (HDR go_11 0 (List.length x_10) gc_12)) (rP (rI .i64) (rP (rI .i64) r0))) ((), (Ends_7, (Lost_8, ()))), cown go_11 r_api_Flight x_10 0 gc_12, cvar gb_13 (rW (PTR gb_9 0)) (), cLK L K (.loop { lp with state := .busy })], []⟩) (q := ()) hx10 ?_)
           · exact (Imp.norm (js := [0, 0, 0, 0, 0, 0, 0, 0, 0, 0, 0]) rfl (.cons rfl (.cons rfl (.cons rfl (.cons rfl (.cons rfl .nil))))))
           · intro s q x hx hr
             obtain ⟨x_38, x_39⟩ := s
             obtain _ := q
             change law12_once.b2 k a_27 a_26 x_38 x_39 = some x at hx
             unfold law12_once.b2 at hx
             refine JC.at ⟨[(5, ov (PTR gb_14 0)), (6, ov (PTR gb_15 0)), (7, ov (PTR gb_16 0)), (10, ov (PTR gb_30 0)), (11, ov (S (rI .i64) x_39))], [cvar gb_14 (rI .i64) a_1, cvar gb_15 rB false, cvar gb_16 (rI .i64) x_21, cvar gb_30 (rP (rI .i64) (rP (rI .i64) (rP (rW (HDX go_28 (a_26 * 1) a_27)) r0))) (a_23, (a_24, ((), ()))), cown go_28 (rU UInt8) x_38 0 gn_29, cvar gb_4 (rP (rW (MPV go_6)) (rP (rI .i64) (rP (rI .i64) r0))) ((), (ends_2, (lost_3, ()))), cmap go_6 (A r_net_pair) (S (rL (rL (rU UInt8)))) (some x_5), cvar gb_9 (rP (rW (HDR go_11 0 (List.length x_10) gc_12)) (rP (rI .i64) (rP (rI .i64) r0))) ((), (Ends_7, (Lost_8, ()))), cown go_11 r_api_Flight x_10 0 gc_12, cvar gb_13 (rW (PTR gb_9 0)) (), cLK L K (.loop { lp with state := .busy })], []⟩ ?_
             refine JC.seq ?_
             refine JC.seq ?_
             refine JC.region ?_
             refine jc (op_move lb (.tmp rfl)) ?_
             refine jc (op_fieldAddr (off := 2) lb tf36_2 (.tmp rfl)) ?_
             refine jc (op_loadW (j := 3) lb tS31 (.tmp rfl) rfl (Comp.trans (Comp.self (rP (rI .i64) (rP (rI .i64) (rP (rW (HDX go_28 (a_26 * 1) a_27)) r0))) (a_23, (a_24, ((), ())))) (Comp.at' (Comp.inS (Comp.inS (Comp.inF (Comp.self (rW (HDX go_28 (a_26 * 1) a_27)) ()) (Nat.le_of_ble_eq_true rfl)))) (by rfl : _ = 2)) (Nat.le_of_ble_eq_true rfl))) ?_
             refine jc (op_lenX lb tu31 (.tmp rfl)) ?_
             replace hx := lt1_inv hx
             obtain ⟨v_40, hv_v_40, hx⟩ := hx
             refine jc (op_cmpI lb (.tmp rfl) (.tmp rfl) (congrArg some hv_v_40)) ?_
             refine JL.nil ?_
             refine JQ.then ?_
             replace hx := iteB_inv hx
             rcases hx with ⟨hc12, hx⟩ | ⟨hc12, hx⟩
             · refine JC.condT (.tmp rfl) hc12 ?_
               refine JC.skip ?_
               refine JQ.then ?_
               refine JC.seq ?_
               refine JC.block ?_
               replace hx := bnd_inv hx
               obtain ⟨i_41, hv_i_41, hx⟩ := hx
               replace hx := bnd_inv hx
               obtain ⟨v_42, hv_v_42, hx⟩ := hx
               replace hx := lt1_inv hx
               obtain ⟨v_43, hv_v_43, hx⟩ := hx
               replace hx := bnd_inv hx
               obtain ⟨i_44, hv_i_44, hx⟩ := hx
               replace hx := bnd_inv hx
               obtain ⟨x_45, hv_x_45, hx⟩ := hx
               refine JC.anyE (kl := []) (kk := 0) (base := [(5, ov (PTR gb_14 0)), (6, ov (PTR gb_15 0)), (7, ov (PTR gb_16 0)), (10, ov (PTR gb_30 0)), (11, ov (S (rI .i64) x_39))])
                   (fs := fun γ => [⟨some 50, ov (PTR gb_30 (0 + 2))⟩, ⟨some 51, ov (HDX go_28 (a_26 * 1) a_27)⟩, ⟨some 52, ov (S (rI .i64) x_39)⟩, ⟨some 53, ov (PTR gb_30 (0 + 2))⟩, ⟨some 54, ov (HDX go_28 (a_26 * 1) a_27)⟩, ⟨some 55, ov (S (rI .i64) x_39)⟩, ⟨some 56, ov (EPT go_28 (i_41 * 1))⟩, ⟨some 57, ov (S (rU UInt8) v_42)⟩, ⟨some 58, ov (S (rU UInt8) v_43)⟩, ⟨some 59, ov (EPT go_28 (i_44 * 1))⟩, ⟨none, .one .any⟩])
                   (rs := fun γ => [⟨cvar gb_14 (rI .i64) a_1, none, none, []⟩, ⟨cvar gb_15 rB false, none, none, []⟩, ⟨cvar gb_16 (rI .i64) x_21, none, none, []⟩, ⟨cvar gb_30 (rP (rI .i64) (rP (rI .i64) (rP (rW (HDX go_28 (a_26 * 1) a_27)) r0))) (a_23, (a_24, ((), ()))), none, none, [1, 4]⟩, ⟨cown go_28 (rU UInt8) x_38 0 gn_29, none, (some 10), [7]⟩, ⟨cvar gb_4 (rP (rW (MPV go_6)) (rP (rI .i64) (rP (rI .i64) r0))) ((), (ends_2, (lost_3, ()))), none, none, []⟩, ⟨cmap go_6 (A r_net_pair) (S (rL (rL (rU UInt8)))) (some x_5), none, none, []⟩, ⟨cvar gb_9 (rP (rW (HDR go_11 0 (List.length x_10) gc_12)) (rP (rI .i64) (rP (rI .i64) r0))) ((), (Ends_7, (Lost_8, ()))), none, none, []⟩, ⟨cown go_11 r_api_Flight x_10 0 gc_12, none, none, []⟩, ⟨cvar gb_13 (rW (PTR gb_9 0)) (), none, none, []⟩, ⟨cLK L K (.loop { lp with state := .busy }), none, none, []⟩, ⟨cown go_28 (rU UInt8) x_45 0 gn_29, (some 10), none, []⟩])
                   (ds := [50, 51, 52, 53, 54, 55, 56, 57, 58, 59]) (bs := [5, 6, 7, 10, 11]) (afts := [[], [], [], [], [], [], [], [], [], [], []]) (js := [0, 0, 0, 0, 0, 0, 0, 0, 0, 0, 0]) mixed (.cons rfl (.cons rfl (.cons rfl (.cons rfl (.cons rfl .nil))))) (fun _ => rfl)
                   (by
      refine dS 1 (fun γ ρ B hb hd => op_fieldAddr (off := 2) lb tf36_2 (.tmp (hb 10 _ rfl))) ?_
      refine DSteps.cons (j := 2) rfl (fun _ => rfl) (.run (fun γ ρ B hb hd => ⟨.none, OpStep.at ⟨ρ, (cvar gb_30 (rP (rI .i64) (rP (rI .i64) (rP (rW (HDX go_28 (a_26 * 1) a_27)) r0))) (a_23, (a_24, ((), ())))) :: B, _⟩ (setO ⟨ρ, (cvar gb_30 (rP (rI .i64) (rP (rI .i64) (rP (rW (HDX go_28 (a_26 * 1) a_27)) r0))) (a_23, (a_24, ((), ())))) :: B, _⟩ _ _) (op_loadW (j := 0) lb tS31 (.tmp (hl hd 0 50 rfl)) rfl (Comp.trans (Comp.self (rP (rI .i64) (rP (rI .i64) (rP (rW (HDX go_28 (a_26 * 1) a_27)) r0))) (a_23, (a_24, ((), ())))) (Comp.at' (Comp.inS (Comp.inS (Comp.inF (Comp.self (rW (HDX go_28 (a_26 * 1) a_27)) ()) (Nat.le_of_ble_eq_true rfl)))) (by rfl : _ = 2)) (Nat.le_of_ble_eq_true rfl)))⟩)) ?_
      refine dS 3 (fun γ ρ B hb hd => op_move lb (.tmp (hb 11 _ rfl))) ?_
      refine dS 4 (fun γ ρ B hb hd => op_fieldAddr (off := 2) lb tf36_2 (.tmp (hb 10 _ rfl))) ?_
      refine DSteps.cons (j := 5) rfl (fun _ => rfl) (.run (fun γ ρ B hb hd => ⟨.none, OpStep.at ⟨ρ, (cvar gb_30 (rP (rI .i64) (rP (rI .i64) (rP (rW (HDX go_28 (a_26 * 1) a_27)) r0))) (a_23, (a_24, ((), ())))) :: B, _⟩ (setO ⟨ρ, (cvar gb_30 (rP (rI .i64) (rP (rI .i64) (rP (rW (HDX go_28 (a_26 * 1) a_27)) r0))) (a_23, (a_24, ((), ())))) :: B, _⟩ _ _) (op_loadW (j := 0) lb tS31 (.tmp (hl hd 3 53 rfl)) rfl (Comp.trans (Comp.self (rP (rI .i64) (rP (rI .i64) (rP (rW (HDX go_28 (a_26 * 1) a_27)) r0))) (a_23, (a_24, ((), ())))) (Comp.at' (Comp.inS (Comp.inS (Comp.inF (Comp.self (rW (HDX go_28 (a_26 * 1) a_27)) ()) (Nat.le_of_ble_eq_true rfl)))) (by rfl : _ = 2)) (Nat.le_of_ble_eq_true rfl)))⟩)) ?_
      refine dS 6 (fun γ ρ B hb hd => op_move lb (.tmp (hb 11 _ rfl))) ?_
      refine dS 7 (fun γ ρ B hb hd => op_indexAddrXF (r := (rU UInt8)) (o := a_26) lb tu31 tz5 (.tmp (hl hd 4 54 rfl)) (.tmp (hl hd 5 55 rfl)) hv_i_41) ?_
      refine DSteps.cons (j := 8) rfl (fun _ => rfl) (.run (fun γ ρ B hb hd => ⟨.none, OpStep.at ⟨ρ, (cown go_28 (rU UInt8) x_38 0 gn_29) :: B, _⟩ (setO ⟨ρ, (cown go_28 (rU UInt8) x_38 0 gn_29) :: B, _⟩ _ _) (op_loadOS (r := (rU UInt8)) (i := i_41) (off := 0) (j := 0) lb tS5 rfl rfl (.tmp (hl hd 6 56 rfl)) hv_v_42 (Comp.self (rU UInt8) v_42) (by decide))⟩)) ?_
      refine dS 9 (fun γ ρ B hb hd => op_arU lb (.tmp (hl hd 7 57 rfl)) (HasO.cU (x := (1 : UInt8)) rfl (by decide)) (congrArg some hv_v_43)) ?_
      refine dS 10 (fun γ ρ B hb hd => op_indexAddrXF (r := (rU UInt8)) (o := a_26) lb tu31 tz5 (.tmp (hl hd 1 51 rfl)) (.tmp (hl hd 2 52 rfl)) hv_i_44) ?_
      refine DSteps.cons (j := 11) rfl (fun _ => rfl) (.run (fun γ ρ B hb hd => ⟨.none, OpStep.at ⟨ρ, (cown go_28 (rU UInt8) x_38 0 gn_29) :: B, _⟩ (setO ⟨ρ, (cown go_28 (rU UInt8) x_45 0 gn_29) :: B, _⟩ _ _) (op_storeOSg (r := (rU UInt8)) (j := 0) tS5 rfl rfl (.tmp (hl hd 9 59 rfl)) (.tmp (hl hd 8 58 rfl)) hv_x_45)⟩)) ?_
      exact DSteps.nil)
                   (by decide +kernel) (fun _ => rfl) rfl (fun _ => rfl) (fun _ => rfl) rfl (by decide) (by decide) (by decide +kernel) (fun _ d h => by cases h)
                   (ρ' := fun γ => [(5, ov (PTR gb_14 0)), (6, ov (PTR gb_15 0)), (7, ov (PTR gb_16 0)), (10, ov (PTR gb_30 0)), (11, ov (S (rI .i64) x_39))])
                   (X' := fun γ => [cvar gb_14 (rI .i64) a_1, cvar gb_15 rB false, cvar gb_16 (rI .i64) x_21, cvar gb_30 (rP (rI .i64) (rP (rI .i64) (rP (rW (HDX go_28 (a_26 * 1) a_27)) r0))) (a_23, (a_24, ((), ()))), cvar gb_4 (rP (rW (MPV go_6)) (rP (rI .i64) (rP (rI .i64) r0))) ((), (ends_2, (lost_3, ()))), cmap go_6 (A r_net_pair) (S (rL (rL (rU UInt8)))) (some x_5), cvar gb_9 (rP (rW (HDR go_11 0 (List.length x_10) gc_12)) (rP (rI .i64) (rP (rI .i64) r0))) ((), (Ends_7, (Lost_8, ()))), cown go_11 r_api_Flight x_10 0 gc_12, cvar gb_13 (rW (PTR gb_9 0)) (), cLK L K (.loop { lp with state := .busy }), cown go_28 (rU UInt8) x_45 0 gn_29])
                   (fun γ ρ hb hd => (.cons (hb 5 _ rfl (by decide)) (.cons (hb 6 _ rfl (by decide)) (.cons (hb 7 _ rfl (by decide)) (.cons (hb 10 _ rfl (by decide)) (.cons (hb 11 _ rfl (by decide)) .nil)))))) (fun _ => rfl) (fun γ => ?_)
               refine JQ.at ⟨[(5, ov (PTR gb_14 0)), (6, ov (PTR gb_15 0)), (7, ov (PTR gb_16 0)), (10, ov (PTR gb_30 0)), (11, ov (S (rI .i64) x_39))], [cvar gb_14 (rI .i64) a_1, cvar gb_15 rB false, cvar gb_16 (rI .i64) x_21, cvar gb_30 (rP (rI .i64) (rP (rI .i64) (rP (rW (HDX go_28 (a_26 * 1) a_27)) r0))) (a_23, (a_24, ((), ()))), cvar gb_4 (rP (rW (MPV go_6)) (rP (rI .i64) (rP (rI .i64) r0))) ((), (ends_2, (lost_3, ()))), cmap go_6 (A r_net_pair) (S (rL (rL (rU UInt8)))) (some x_5), cvar gb_9 (rP (rW (HDR go_11 0 (List.length x_10) gc_12)) (rP (rI .i64) (rP (rI .i64) r0))) ((), (Ends_7, (Lost_8, ()))), cown go_11 r_api_Flight x_10 0 gc_12, cvar gb_13 (rW (PTR gb_9 0)) (), cLK L K (.loop { lp with state := .busy }), cown go_28 (rU UInt8) x_45 0 gn_29], []⟩ ?_
               refine JQ.outNB ?_
               refine JQ.then ?_
               refine JC.region ?_
               refine jc (op_move lb (.tmp rfl)) ?_
               replace hx := lt1_inv hx
               obtain ⟨v_46, hv_v_46, hx⟩ := hx
               refine jc (op_arI lb (.tmp rfl) .cI (congrArg some hv_v_46)) ?_
               refine jc (op_assign lb (.tmp rfl)) ?_
               refine JL.nil ?_
               replace hx := Option.some.inj hx
               first | subst hx | clear hx
               exact JQ.next () rfl (Imp.norm (js := [0, 0, 0, 0, 6, 0, 0, 0, 0, 0, 0]) rfl (.cons rfl (.cons rfl (.cons rfl (.cons rfl (.cons rfl .nil))))))
             · refine JC.condF (.tmp rfl) hc12 ?_
               refine JC.exit ?_
               refine JQ.outX ?_
               replace hx := Option.some.inj hx
               first | subst hx | clear hx
               have ht := hr _ rfl
               have hq11 := congrArg some ht
               clear hr ht
               refine JQ.outX ?_
               refine JQ.here ?_
               exact JQ.join () (Imp.norm (js := [0, 0, 0, 2, 2, 2, 2, 2, 2]) rfl (.cons rfl (.cons rfl (.cons rfl .nil))))
     · replace hx3 := lt1_inv hx3
       obtain ⟨v_31, hv_v_31, hx3⟩ := hx3
       replace hx3 := iteB_inv hx3
       rcases hx3 with ⟨hc6, hx3⟩ | ⟨hc6, hx3⟩
       · refine JC.anyE (kl := []) (kk := 0) (base := [(5, ov (PTR gb_14 0)), (6, ov (PTR gb_15 0)), (7, ov (PTR gb_16 0)), (9, ov (S (rI .i64) a_22)), (10, ov (PTR gb_30 0))])
             (fs := fun γ => [⟨some 19, ov (S (rI .i64) a_22)⟩, ⟨some 20, ov (S (rI .i64) x_21)⟩, ⟨some 21, ov (S rB v_31)⟩, ⟨some 22, ov (S rB v_31)⟩, ⟨some 23, bif (!v_31) then ov (S (rI .i64) x_21) else .one .und⟩, ⟨some 24, .one .und⟩, ⟨some 25, .one .und⟩, ⟨some 26, .one .und⟩, ⟨some 27, .one .und⟩, ⟨some 28, .one .und⟩, ⟨some 29, .one .und⟩, ⟨some 30, ov (S rB true)⟩, ⟨some 31, ov (S rB true)⟩, ⟨some 32, .one .und⟩, ⟨some 33, .one .und⟩, ⟨some 34, .one .und⟩, ⟨some 35, .one .und⟩, ⟨some 36, .one .und⟩, ⟨some 37, .one .und⟩, ⟨some 38, .one .und⟩, ⟨some 39, .one .und⟩, ⟨some 40, .one .und⟩, ⟨some 41, .one .und⟩, ⟨some 42, ov (S rB true)⟩])
             (rs := fun γ => [⟨cLK L K (.loop { lp with state := .busy }), none, none, []⟩, ⟨cvar gb_13 (rW (PTR gb_9 0)) (), none, none, []⟩, ⟨cvar gb_9 (rP (rW (HDR go_11 0 (List.length x_10) gc_12)) (rP (rI .i64) (rP (rI .i64) r0))) ((), (Ends_7, (Lost_8, ()))), none, none, []⟩, ⟨cown go_11 r_api_Flight x_10 0 gc_12, none, none, []⟩, ⟨cvar gb_14 (rI .i64) a_1, none, none, []⟩, ⟨cvar gb_15 rB false, none, none, []⟩, ⟨cvar gb_16 (rI .i64) x_21, none, none, [1, 4]⟩, ⟨cvar gb_4 (rP (rW (MPV go_6)) (rP (rI .i64) (rP (rI .i64) r0))) ((), (ends_2, (lost_3, ()))), none, none, []⟩, ⟨cmap go_6 (A r_net_pair) (S (rL (rL (rU UInt8)))) (some x_5), none, none, []⟩, ⟨cown go_28 (rU UInt8) a_25 0 gn_29, none, none, []⟩, ⟨cvar gb_30 (rP (rI .i64) (rP (rI .i64) (rP (rW (HDX go_28 (a_26 * 1) a_27)) r0))) (a_23, (a_24, ((), ()))), none, none, []⟩])
             (ds := [19, 20, 21, 22, 23, 24, 25, 26, 27, 28, 29, 30, 31, 32, 33, 34, 35, 36, 37, 38, 39, 40, 41, 42]) (bs := [5, 6, 7, 9, 10]) (afts := [[], [], [], [], [], [], [], [], [], [], [], [], [], [], [], [], [], [], [], [], [], [], [], []]) (js := [0, 0, 0, 0, 0, 0, 0, 0, 0, 0, 0]) mixed (.cons rfl (.cons rfl (.cons rfl (.cons rfl (.cons rfl .nil))))) (fun _ => rfl)
             (by
      refine dS 1 (fun γ ρ B hb hd => op_move lb (.tmp (hb 9 _ rfl))) ?_
      refine DSteps.cons (j := 2) rfl (fun _ => rfl) (.run (fun γ ρ B hb hd => ⟨.none, OpStep.at ⟨ρ, (cvar gb_16 (rI .i64) x_21) :: B, _⟩ (setO ⟨ρ, (cvar gb_16 (rI .i64) x_21) :: B, _⟩ _ _) (op_loadS (j := 0) lb tS3 (.tmp (hb 7 _ rfl)) rfl (Comp.self (rI .i64) x_21) rfl rfl)⟩)) ?_
      refine dS 3 (fun γ ρ B hb hd => op_cmpI lb (.tmp (hl hd 0 19 rfl)) (.tmp (hl hd 1 20 rfl)) (congrArg some hv_v_31)) ?_
      refine dS 4 (fun γ ρ B hb hd => op_move lb (.tmp (hl hd 2 21 rfl))) ?_
      refine DSteps.cons (j := 5) rfl (fun _ => rfl) (.cnd (q := (!v_31)) (sv := fun γ => ov (S (rI .i64) x_21)) (fun _ => rfl) (fun _ => rfl) (fun d h => by cases h; exact ltB rfl) (fun _ => rfl) (fun γ ρ B hb hd => ⟨(Guard.isF (ltB rfl) rfl (hl hd 3 22 rfl)), fun hq_4 => OpStep.at ⟨ρ, (cvar gb_16 (rI .i64) x_21) :: B, _⟩ (setO ⟨ρ, (cvar gb_16 (rI .i64) x_21) :: B, _⟩ _ _) (op_loadS (j := 0) lb tS3 (.tmp (hb 7 _ rfl)) rfl (Comp.self (rI .i64) x_21) rfl rfl)⟩)) ?_
      refine DSteps.cons (j := 6) rfl (fun _ => rfl) (.skip (fun γ ρ B hb hd => ⟨.no rfl (ltB rfl) (hl hd 3 22 rfl) hc6, rfl, rfl, rfl, fun d h => by cases h; exact ltB rfl⟩)) ?_
      refine DSteps.cons (j := 7) rfl (fun _ => rfl) (.skip (fun γ ρ B hb hd => ⟨.no rfl (ltB rfl) (hl hd 3 22 rfl) hc6, rfl, rfl, rfl, fun d h => by cases h; exact ltB rfl⟩)) ?_
      refine DSteps.cons (j := 8) rfl (fun _ => rfl) (.skip (fun γ ρ B hb hd => ⟨.no rfl (ltB rfl) (hl hd 3 22 rfl) hc6, rfl, rfl, rfl, fun d h => by cases h; exact ltB rfl⟩)) ?_
      refine DSteps.cons (j := 9) rfl (fun _ => rfl) (.skip (fun γ ρ B hb hd => ⟨.no rfl (ltB rfl) (hl hd 3 22 rfl) hc6, rfl, rfl, rfl, fun d h => by cases h; exact ltB rfl⟩)) ?_
      refine DSteps.cons (j := 10) rfl (fun _ => rfl) (.skip (fun γ ρ B hb hd => ⟨.no rfl (ltB rfl) (hl hd 3 22 rfl) hc6, rfl, rfl, rfl, fun d h => by cases h; exact ltB rfl⟩)) ?_
      refine DSteps.cons (j := 11) rfl (fun _ => rfl) (.skip (fun γ ρ B hb hd => ⟨.no rfl (ltB rfl) (hl hd 3 22 rfl) hc6, rfl, rfl, rfl, fun d h => by cases h; exact ltB rfl⟩)) ?_
      refine dS 12 (fun γ ρ B hb hd => op_pickT lb (.tmp (hl hd 3 22 rfl)) hc6 .cB) ?_
      refine dS 13 (fun γ ρ B hb hd => op_move lb (.tmp (hl hd 11 30 rfl))) ?_
      refine DSteps.cons (j := 14) rfl (fun _ => rfl) (.skip (fun γ ρ B hb hd => ⟨.no rfl (ltB rfl) (hl hd 12 31 rfl) rfl, rfl, rfl, rfl, fun d h => by cases h; exact ltB rfl⟩)) ?_
      refine DSteps.cons (j := 15) rfl (fun _ => rfl) (.skip (fun γ ρ B hb hd => ⟨.no rfl (ltB rfl) (hl hd 12 31 rfl) rfl, rfl, rfl, rfl, fun d h => by cases h; exact ltB rfl⟩)) ?_
      refine DSteps.cons (j := 16) rfl (fun _ => rfl) (.skip (fun γ ρ B hb hd => ⟨.no rfl (ltB rfl) (hl hd 12 31 rfl) rfl, rfl, rfl, rfl, fun d h => by cases h; exact ltB rfl⟩)) ?_
      refine DSteps.cons (j := 17) rfl (fun _ => rfl) (.skip (fun γ ρ B hb hd => ⟨.no rfl (ltB rfl) (hl hd 12 31 rfl) rfl, rfl, rfl, rfl, fun d h => by cases h; exact ltB rfl⟩)) ?_
      refine DSteps.cons (j := 18) rfl (fun _ => rfl) (.skip (fun γ ρ B hb hd => ⟨.no rfl (ltB rfl) (hl hd 12 31 rfl) rfl, rfl, rfl, rfl, fun d h => by cases h; exact ltB rfl⟩)) ?_
      refine DSteps.cons (j := 19) rfl (fun _ => rfl) (.skip (fun γ ρ B hb hd => ⟨.no rfl (ltB rfl) (hl hd 12 31 rfl) rfl, rfl, rfl, rfl, fun d h => by cases h; exact ltB rfl⟩)) ?_
      refine DSteps.cons (j := 20) rfl (fun _ => rfl) (.skip (fun γ ρ B hb hd => ⟨.no rfl (ltB rfl) (hl hd 12 31 rfl) rfl, rfl, rfl, rfl, fun d h => by cases h; exact ltB rfl⟩)) ?_
      refine DSteps.cons (j := 21) rfl (fun _ => rfl) (.skip (fun γ ρ B hb hd => ⟨.no rfl (ltB rfl) (hl hd 12 31 rfl) rfl, rfl, rfl, rfl, fun d h => by cases h; exact ltB rfl⟩)) ?_
      refine DSteps.cons (j := 22) rfl (fun _ => rfl) (.skip (fun γ ρ B hb hd => ⟨.no rfl (ltB rfl) (hl hd 12 31 rfl) rfl, rfl, rfl, rfl, fun d h => by cases h; exact ltB rfl⟩)) ?_
      refine DSteps.cons (j := 23) rfl (fun _ => rfl) (.skip (fun γ ρ B hb hd => ⟨.no rfl (ltB rfl) (hl hd 12 31 rfl) rfl, rfl, rfl, rfl, fun d h => by cases h; exact ltB rfl⟩)) ?_
      refine dS 24 (fun γ ρ B hb hd => op_pickT lb (.tmp (hl hd 12 31 rfl)) rfl .cB) ?_
      exact DSteps.nil)
             (by decide +kernel) (fun _ => rfl) rfl (fun _ => rfl) (fun _ => rfl) rfl (by decide) (by decide) (by decide +kernel) (fun _ d h => by cases h)
             (ρ' := fun γ => [(5, ov (PTR gb_14 0)), (6, ov (PTR gb_15 0)), (7, ov (PTR gb_16 0)), (10, ov (PTR gb_30 0)), (42, ov (S rB true))])
             (X' := fun γ => [cLK L K (.loop { lp with state := .busy }), cvar gb_13 (rW (PTR gb_9 0)) (), cvar gb_9 (rP (rW (HDR go_11 0 (List.length x_10) gc_12)) (rP (rI .i64) (rP (rI .i64) r0))) ((), (Ends_7, (Lost_8, ()))), cown go_11 r_api_Flight x_10 0 gc_12, cvar gb_14 (rI .i64) a_1, cvar gb_15 rB false, cvar gb_16 (rI .i64) x_21, cvar gb_4 (rP (rW (MPV go_6)) (rP (rI .i64) (rP (rI .i64) r0))) ((), (ends_2, (lost_3, ()))), cmap go_6 (A r_net_pair) (S (rL (rL (rU UInt8)))) (some x_5), cown go_28 (rU UInt8) a_25 0 gn_29, cvar gb_30 (rP (rI .i64) (rP (rI .i64) (rP (rW (HDX go_28 (a_26 * 1) a_27)) r0))) (a_23, (a_24, ((), ())))])
             (fun γ ρ hb hd => (.cons (hb 5 _ rfl (by decide)) (.cons (hb 6 _ rfl (by decide)) (.cons (hb 7 _ rfl (by decide)) (.cons (hb 10 _ rfl (by decide)) (.cons (hdq hd 23 42 rfl) .nil)))))) (fun _ => rfl) (fun γ => ?_)
         refine JQ.at ⟨[(5, ov (PTR gb_14 0)), (6, ov (PTR gb_15 0)), (7, ov (PTR gb_16 0)), (10, ov (PTR gb_30 0)), (42, ov (S rB true))], [cLK L K (.loop { lp with state := .busy }), cvar gb_13 (rW (PTR gb_9 0)) (), cvar gb_9 (rP (rW (HDR go_11 0 (List.length x_10) gc_12)) (rP (rI .i64) (rP (rI .i64) r0))) ((), (Ends_7, (Lost_8, ()))), cown go_11 r_api_Flight x_10 0 gc_12, cvar gb_14 (rI .i64) a_1, cvar gb_15 rB false, cvar gb_16 (rI .i64) x_21, cvar gb_4 (rP (rW (MPV go_6)) (rP (rI .i64) (rP (rI .i64) r0))) ((), (ends_2, (lost_3, ()))), cmap go_6 (A r_net_pair) (S (rL (rL (rU UInt8)))) (some x_5), cown go_28 (rU UInt8) a_25 0 gn_29, cvar gb_30 (rP (rI .i64) (rP (rI .i64) (rP (rW (HDX go_28 (a_26 * 1) a_27)) r0))) (a_23, (a_24, ((), ())))], []⟩ ?_
         replace hx3 := Option.some.inj hx3
         first | subst hx3 | clear hx3
         exact JQ.join () (Imp.norm (js := [4, 4, 4, 7, 6, 4, 4, 2, 2, 1, 0]) rfl (.cons rfl (.cons rfl (.cons rfl (.cons rfl (.cons rfl .nil))))))
       · replace hx3 := lt1_inv hx3
         obtain ⟨v_32, hv_v_32, hx3⟩ := hx3
         replace hx3 := iteB_inv hx3
         rcases hx3 with ⟨hc8, hx3⟩ | ⟨hc8, hx3⟩
         · refine JC.anyE (kl := []) (kk := 0) (base := [(4, ov (PTR gb_13 0)), (5, ov (PTR gb_14 0)), (6, ov (PTR gb_15 0)), (7, ov (PTR gb_16 0)), (9, ov (S (rI .i64) a_22)), (10, ov (PTR gb_30 0))])
               (fs := fun γ => [⟨some 19, ov (S (rI .i64) a_22)⟩, ⟨some 20, ov (S (rI .i64) x_21)⟩, ⟨some 21, ov (S rB v_31)⟩, ⟨some 22, ov (S rB v_31)⟩, ⟨some 23, bif (!v_31) then ov (S (rI .i64) x_21) else .one .und⟩, ⟨some 24, ov (PTR gb_9 0)⟩, ⟨some 25, ov (PTR gb_9 0)⟩, ⟨some 26, ov (PTR gb_9 (0 + 0))⟩, ⟨some 27, ov (HDR go_11 0 (List.length x_10) gc_12)⟩, ⟨some 28, ov (S (rI .i64) (List.length x_10 : Int))⟩, ⟨some 29, ov (S rB v_32)⟩, ⟨some 30, ov (S rB v_32)⟩, ⟨some 31, ov (S rB v_32)⟩, ⟨some 32, .one .und⟩, ⟨some 33, .one .und⟩, ⟨some 34, .one .und⟩, ⟨some 35, .one .und⟩, ⟨some 36, .one .und⟩, ⟨some 37, .one .und⟩, ⟨some 38, .one .und⟩, ⟨some 39, .one .und⟩, ⟨some 40, .one .und⟩, ⟨some 41, .one .und⟩, ⟨some 42, ov (S rB true)⟩])
               (rs := fun γ => [⟨cLK L K (.loop { lp with state := .busy }), none, none, []⟩, ⟨cvar gb_13 (rW (PTR gb_9 0)) (), none, none, [5]⟩, ⟨cvar gb_9 (rP (rW (HDR go_11 0 (List.length x_10) gc_12)) (rP (rI .i64) (rP (rI .i64) r0))) ((), (Ends_7, (Lost_8, ()))), none, none, [8]⟩, ⟨cown go_11 r_api_Flight x_10 0 gc_12, none, none, []⟩, ⟨cvar gb_14 (rI .i64) a_1, none, none, []⟩, ⟨cvar gb_15 rB false, none, none, []⟩, ⟨cvar gb_16 (rI .i64) x_21, none, none, [1, 4]⟩, ⟨cvar gb_4 (rP (rW (MPV go_6)) (rP (rI .i64) (rP (rI .i64) r0))) ((), (ends_2, (lost_3, ()))), none, none, []⟩, ⟨cmap go_6 (A r_net_pair) (S (rL (rL (rU UInt8)))) (some x_5), none, none, []⟩, ⟨cown go_28 (rU UInt8) a_25 0 gn_29, none, none, []⟩, ⟨cvar gb_30 (rP (rI .i64) (rP (rI .i64) (rP (rW (HDX go_28 (a_26 * 1) a_27)) r0))) (a_23, (a_24, ((), ()))), none, none, []⟩])
               (ds := [19, 20, 21, 22, 23, 24, 25, 26, 27, 28, 29, 30, 31, 32, 33, 34, 35, 36, 37, 38, 39, 40, 41, 42]) (bs := [4, 5, 6, 7, 9, 10]) (afts := [[], [], [], [], [], [], [], [], [], [], [], [], [], [], [], [], [], [], [], [], [], [], [], []]) (js := [0, 0, 0, 0, 0, 0, 0, 0, 0, 0, 0]) mixed (.cons rfl (.cons rfl (.cons rfl (.cons rfl (.cons rfl (.cons rfl .nil)))))) (fun _ => rfl)
               (by
      refine dS 1 (fun γ ρ B hb hd => op_move lb (.tmp (hb 9 _ rfl))) ?_
      refine DSteps.cons (j := 2) rfl (fun _ => rfl) (.run (fun γ ρ B hb hd => ⟨.none, OpStep.at ⟨ρ, (cvar gb_16 (rI .i64) x_21) :: B, _⟩ (setO ⟨ρ, (cvar gb_16 (rI .i64) x_21) :: B, _⟩ _ _) (op_loadS (j := 0) lb tS3 (.tmp (hb 7 _ rfl)) rfl (Comp.self (rI .i64) x_21) rfl rfl)⟩)) ?_
      refine dS 3 (fun γ ρ B hb hd => op_cmpI lb (.tmp (hl hd 0 19 rfl)) (.tmp (hl hd 1 20 rfl)) (congrArg some hv_v_31)) ?_
      refine dS 4 (fun γ ρ B hb hd => op_move lb (.tmp (hl hd 2 21 rfl))) ?_
      refine DSteps.cons (j := 5) rfl (fun _ => rfl) (.cnd (q := (!v_31)) (sv := fun γ => ov (S (rI .i64) x_21)) (fun _ => rfl) (fun _ => rfl) (fun d h => by cases h; exact ltB rfl) (fun _ => rfl) (fun γ ρ B hb hd => ⟨(Guard.isF (ltB rfl) rfl (hl hd 3 22 rfl)), fun hq_4 => OpStep.at ⟨ρ, (cvar gb_16 (rI .i64) x_21) :: B, _⟩ (setO ⟨ρ, (cvar gb_16 (rI .i64) x_21) :: B, _⟩ _ _) (op_loadS (j := 0) lb tS3 (.tmp (hb 7 _ rfl)) rfl (Comp.self (rI .i64) x_21) rfl rfl)⟩)) ?_
      refine DSteps.cons (j := 6) rfl (fun _ => rfl) (.run (fun γ ρ B hb hd => ⟨.yes rfl (ltB rfl) (hl hd 3 22 rfl) hc6, OpStep.at ⟨ρ, (cvar gb_13 (rW (PTR gb_9 0)) ()) :: B, _⟩ (setO ⟨ρ, (cvar gb_13 (rW (PTR gb_9 0)) ()) :: B, _⟩ _ _) (op_loadW (j := 0) lb tS41 (.tmp (hb 4 _ rfl)) rfl (Comp.self (rW (PTR gb_9 0)) ()))⟩)) ?_
      refine DSteps.cons (j := 7) rfl (fun _ => rfl) (.run (fun γ ρ B hb hd => ⟨.yes rfl (ltB rfl) (hl hd 3 22 rfl) hc6, OpStep.at ⟨ρ, B, _⟩ (setO ⟨ρ, B, _⟩ _ _) (op_nilCheck lb (.tmp (hl hd 5 24 rfl)) (fun e v h => by subst h; rfl))⟩)) ?_
      refine DSteps.cons (j := 8) rfl (fun _ => rfl) (.run (fun γ ρ B hb hd => ⟨.yes rfl (ltB rfl) (hl hd 3 22 rfl) hc6, OpStep.at ⟨ρ, B, _⟩ (setO ⟨ρ, B, _⟩ _ _) (op_fieldAddr (off := 0) lb tf43_0 (.tmp (hl hd 6 25 rfl)))⟩)) ?_
      refine DSteps.cons (j := 9) rfl (fun _ => rfl) (.run (fun γ ρ B hb hd => ⟨.yes rfl (ltB rfl) (hl hd 3 22 rfl) hc6, OpStep.at ⟨ρ, (cvar gb_9 (rP (rW (HDR go_11 0 (List.length x_10) gc_12)) (rP (rI .i64) (rP (rI .i64) r0))) ((), (Ends_7, (Lost_8, ())))) :: B, _⟩ (setO ⟨ρ, (cvar gb_9 (rP (rW (HDR go_11 0 (List.length x_10) gc_12)) (rP (rI .i64) (rP (rI .i64) r0))) ((), (Ends_7, (Lost_8, ())))) :: B, _⟩ _ _) (op_loadW (j := 0) lb tS30 (.tmp (hl hd 7 26 rfl)) rfl (Comp.trans (Comp.self (rP (rW (HDR go_11 0 (List.length x_10) gc_12)) (rP (rI .i64) (rP (rI .i64) r0))) ((), (Ends_7, (Lost_8, ())))) (Comp.at' (Comp.inF (Comp.self (rW (HDR go_11 0 (List.length x_10) gc_12)) ()) (Nat.le_of_ble_eq_true rfl)) (by rfl : _ = 0)) (Nat.le_of_ble_eq_true rfl)))⟩)) ?_
      refine DSteps.cons (j := 10) rfl (fun _ => rfl) (.run (fun γ ρ B hb hd => ⟨.yes rfl (ltB rfl) (hl hd 3 22 rfl) hc6, OpStep.at ⟨ρ, B, _⟩ (setO ⟨ρ, B, _⟩ _ _) (op_lenH lb tu30 (.tmp (hl hd 8 27 rfl)))⟩)) ?_
      refine DSteps.cons (j := 11) rfl (fun _ => rfl) (.run (fun γ ρ B hb hd => ⟨.yes rfl (ltB rfl) (hl hd 3 22 rfl) hc6, OpStep.at ⟨ρ, B, _⟩ (setO ⟨ρ, B, _⟩ _ _) (op_cmpI lb (HasO.cnd (.tmp (hl hd 4 23 rfl)) (notT hc6)) (.tmp (hl hd 9 28 rfl)) (congrArg some hv_v_32))⟩)) ?_
      refine dS 12 (fun γ ρ B hb hd => op_pickF lb (.tmp (hl hd 3 22 rfl)) hc6 (.tmp (hl hd 10 29 rfl))) ?_
      refine dS 13 (fun γ ρ B hb hd => op_move lb (.tmp (hl hd 11 30 rfl))) ?_
      refine DSteps.cons (j := 14) rfl (fun _ => rfl) (.skip (fun γ ρ B hb hd => ⟨.no rfl (ltB rfl) (hl hd 12 31 rfl) hc8, rfl, rfl, rfl, fun d h => by cases h; exact ltB rfl⟩)) ?_
      refine DSteps.cons (j := 15) rfl (fun _ => rfl) (.skip (fun γ ρ B hb hd => ⟨.no rfl (ltB rfl) (hl hd 12 31 rfl) hc8, rfl, rfl, rfl, fun d h => by cases h; exact ltB rfl⟩)) ?_
      refine DSteps.cons (j := 16) rfl (fun _ => rfl) (.skip (fun γ ρ B hb hd => ⟨.no rfl (ltB rfl) (hl hd 12 31 rfl) hc8, rfl, rfl, rfl, fun d h => by cases h; exact ltB rfl⟩)) ?_
      refine DSteps.cons (j := 17) rfl (fun _ => rfl) (.skip (fun γ ρ B hb hd => ⟨.no rfl (ltB rfl) (hl hd 12 31 rfl) hc8, rfl, rfl, rfl, fun d h => by cases h; exact ltB rfl⟩)) ?_
      refine DSteps.cons (j := 18) rfl (fun _ => rfl) (.skip (fun γ ρ B hb hd => ⟨.no rfl (ltB rfl) (hl hd 12 31 rfl) hc8, rfl, rfl, rfl, fun d h => by cases h; exact ltB rfl⟩)) ?_
      refine DSteps.cons (j := 19) rfl (fun _ => rfl) (.skip (fun γ ρ B hb hd => ⟨.no rfl (ltB rfl) (hl hd 12 31 rfl) hc8, rfl, rfl, rfl, fun d h => by cases h; exact ltB rfl⟩)) ?_
      refine DSteps.cons (j := 20) rfl (fun _ => rfl) (.skip (fun γ ρ B hb hd => ⟨.no rfl (ltB rfl) (hl hd 12 31 rfl) hc8, rfl, rfl, rfl, fun d h => by cases h; exact ltB rfl⟩)) ?_
      refine DSteps.cons (j := 21) rfl (fun _ => rfl) (.skip (fun γ ρ B hb hd => ⟨.no rfl (ltB rfl) (hl hd 12 31 rfl) hc8, rfl, rfl, rfl, fun d h => by cases h; exact ltB rfl⟩)) ?_
      refine DSteps.cons (j := 22) rfl (fun _ => rfl) (.skip (fun γ ρ B hb hd => ⟨.no rfl (ltB rfl) (hl hd 12 31 rfl) hc8, rfl, rfl, rfl, fun d h => by cases h; exact ltB rfl⟩)) ?_
      refine DSteps.cons (j := 23) rfl (fun _ => rfl) (.skip (fun γ ρ B hb hd => ⟨.no rfl (ltB rfl) (hl hd 12 31 rfl) hc8, rfl, rfl, rfl, fun d h => by cases h; exact ltB rfl⟩)) ?_
      refine dS 24 (fun γ ρ B hb hd => op_pickT lb (.tmp (hl hd 12 31 rfl)) hc8 .cB) ?_
      exact DSteps.nil)
               (by decide +kernel) (fun _ => rfl) rfl (fun _ => rfl) (fun _ => rfl) rfl (by decide) (by decide) (by decide +kernel) (fun _ d h => by cases h)
               (ρ' := fun γ => [(5, ov (PTR gb_14 0)), (6, ov (PTR gb_15 0)), (7, ov (PTR gb_16 0)), (10, ov (PTR gb_30 0)), (42, ov (S rB true))])
               (X' := fun γ => [cLK L K (.loop { lp with state := .busy }), cvar gb_13 (rW (PTR gb_9 0)) (), cvar gb_9 (rP (rW (HDR go_11 0 (List.length x_10) gc_12)) (rP (rI .i64) (rP (rI .i64) r0))) ((), (Ends_7, (Lost_8, ()))), cown go_11 r_api_Flight x_10 0 gc_12, cvar gb_14 (rI .i64) a_1, cvar gb_15 rB false, cvar gb_16 (rI .i64) x_21, cvar gb_4 (rP (rW (MPV go_6)) (rP (rI .i64) (rP (rI .i64) r0))) ((), (ends_2, (lost_3, ()))), cmap go_6 (A r_net_pair) (S (rL (rL (rU UInt8)))) (some x_5), cown go_28 (rU UInt8) a_25 0 gn_29, cvar gb_30 (rP (rI .i64) (rP (rI .i64) (rP (rW (HDX go_28 (a_26 * 1) a_27)) r0))) (a_23, (a_24, ((), ())))])
               (fun γ ρ hb hd => (.cons (hb 5 _ rfl (by decide)) (.cons (hb 6 _ rfl (by decide)) (.cons (hb 7 _ rfl (by decide)) (.cons (hb 10 _ rfl (by decide)) (.cons (hdq hd 23 42 rfl) .nil)))))) (fun _ => rfl) (fun γ => ?_)
           refine JQ.at ⟨[(5, ov (PTR gb_14 0)), (6, ov (PTR gb_15 0)), (7, ov (PTR gb_16 0)), (10, ov (PTR gb_30 0)), (42, ov (S rB true))], [cLK L K (.loop { lp with state := .busy }), cvar gb_13 (rW (PTR gb_9 0)) (), cvar gb_9 (rP (rW (HDR go_11 0 (List.length x_10) gc_12)) (rP (rI .i64) (rP (rI .i64) r0))) ((), (Ends_7, (Lost_8, ()))), cown go_11 r_api_Flight x_10 0 gc_12, cvar gb_14 (rI .i64) a_1, cvar gb_15 rB false, cvar gb_16 (rI .i64) x_21, cvar gb_4 (rP (rW (MPV go_6)) (rP (rI .i64) (rP (rI .i64) r0))) ((), (ends_2, (lost_3, ()))), cmap go_6 (A r_net_pair) (S (rL (rL (rU UInt8)))) (some x_5), cown go_28 (rU UInt8) a_25 0 gn_29, cvar gb_30 (rP (rI .i64) (rP (rI .i64) (rP (rW (HDX go_28 (a_26 * 1) a_27)) r0))) (a_23, (a_24, ((), ())))], []⟩ ?_
           replace hx3 := Option.some.inj hx3
           first | subst hx3 | clear hx3
           exact JQ.join () (Imp.norm (js := [4, 4, 4, 7, 6, 4, 4, 2, 2, 1, 0]) rfl (.cons rfl (.cons rfl (.cons rfl (.cons rfl (.cons rfl .nil))))))
         · replace hx3 := bnd_inv hx3
           obtain ⟨i_33, hv_i_33, hx3⟩ := hx3
           replace hx3 := bnd_inv hx3
           obtain ⟨v_34, hv_v_34, hx3⟩ := hx3
           replace hx3 := bnd_inv hx3
           obtain ⟨v_35, hv_v_35, hx3⟩ := hx3
           replace hx3 := lt1_inv hx3
           obtain ⟨v_36, hv_v_36, hx3⟩ := hx3
           refine JC.anyE (kl := []) (kk := 0) (base := [(4, ov (PTR gb_13 0)), (5, ov (PTR gb_14 0)), (6, ov (PTR gb_15 0)), (7, ov (PTR gb_16 0)), (9, ov (S (rI .i64) a_22)), (10, ov (PTR gb_30 0))])
               (fs := fun γ => [⟨some 19, ov (S (rI .i64) a_22)⟩, ⟨some 20, ov (S (rI .i64) x_21)⟩, ⟨some 21, ov (S rB v_31)⟩, ⟨some 22, ov (S rB v_31)⟩, ⟨some 23, bif (!v_31) then ov (S (rI .i64) x_21) else .one .und⟩, ⟨some 24, ov (PTR gb_9 0)⟩, ⟨some 25, ov (PTR gb_9 0)⟩, ⟨some 26, ov (PTR gb_9 (0 + 0))⟩, ⟨some 27, ov (HDR go_11 0 (List.length x_10) gc_12)⟩, ⟨some 28, ov (S (rI .i64) (List.length x_10 : Int))⟩, ⟨some 29, ov (S rB v_32)⟩, ⟨some 30, ov (S rB v_32)⟩, ⟨some 31, ov (S rB v_32)⟩, ⟨some 32, ov (A (rP (rI .i64) (rP (rI .i64) (rP (rW (HDX go_28 (a_26 * 1) a_27)) r0))) (a_23, (a_24, ((), ()))))⟩, ⟨some 33, ov (PTR gb_9 0)⟩, ⟨some 34, ov (PTR gb_9 0)⟩, ⟨some 35, ov (PTR gb_9 (0 + 0))⟩, ⟨some 36, ov (HDR go_11 0 (List.length x_10) gc_12)⟩, ⟨some 37, ov (S (rI .i64) x_21)⟩, ⟨some 38, ov (EPT go_11 (i_33 * 3))⟩, ⟨some 39, ov (A r_api_Flight v_34)⟩, ⟨some 40, ov (S rB v_35)⟩, ⟨some 41, ov (S rB v_36)⟩, ⟨some 42, ov (S rB v_36)⟩])
               (rs := fun γ => [⟨cLK L K (.loop { lp with state := .busy }), none, none, []⟩, ⟨cvar gb_13 (rW (PTR gb_9 0)) (), none, none, [5, 14]⟩, ⟨cvar gb_9 (rP (rW (HDR go_11 0 (List.length x_10) gc_12)) (rP (rI .i64) (rP (rI .i64) r0))) ((), (Ends_7, (Lost_8, ()))), none, none, [8, 17]⟩, ⟨cown go_11 r_api_Flight x_10 0 gc_12, none, none, [19, 20]⟩, ⟨cvar gb_14 (rI .i64) a_1, none, none, []⟩, ⟨cvar gb_15 rB false, none, none, []⟩, ⟨cvar gb_16 (rI .i64) x_21, none, none, [1, 4, 18]⟩, ⟨cvar gb_4 (rP (rW (MPV go_6)) (rP (rI .i64) (rP (rI .i64) r0))) ((), (ends_2, (lost_3, ()))), none, none, []⟩, ⟨cmap go_6 (A r_net_pair) (S (rL (rL (rU UInt8)))) (some x_5), none, none, []⟩, ⟨cown go_28 (rU UInt8) a_25 0 gn_29, none, none, [21]⟩, ⟨cvar gb_30 (rP (rI .i64) (rP (rI .i64) (rP (rW (HDX go_28 (a_26 * 1) a_27)) r0))) (a_23, (a_24, ((), ()))), none, none, [13]⟩])
               (ds := [19, 20, 21, 22, 23, 24, 25, 26, 27, 28, 29, 30, 31, 32, 33, 34, 35, 36, 37, 38, 39, 40, 41, 42]) (bs := [4, 5, 6, 7, 9, 10]) (afts := [[], [], [], [], [], [], [], [], [], [], [], [], [], [], [], [], [], [], [], [], [], [], [], []]) (js := [0, 0, 0, 0, 0, 0, 0, 0, 0, 0, 0]) mixed (.cons rfl (.cons rfl (.cons rfl (.cons rfl (.cons rfl (.cons rfl .nil)))))) (fun _ => rfl)
               (by
      refine dS 1 (fun γ ρ B hb hd => op_move lb (.tmp (hb 9 _ rfl))) ?_
      refine DSteps.cons (j := 2) rfl (fun _ => rfl) (.run (fun γ ρ B hb hd => ⟨.none, OpStep.at ⟨ρ, (cvar gb_16 (rI .i64) x_21) :: B, _⟩ (setO ⟨ρ, (cvar gb_16 (rI .i64) x_21) :: B, _⟩ _ _) (op_loadS (j := 0) lb tS3 (.tmp (hb 7 _ rfl)) rfl (Comp.self (rI .i64) x_21) rfl rfl)⟩)) ?_
      refine dS 3 (fun γ ρ B hb hd => op_cmpI lb (.tmp (hl hd 0 19 rfl)) (.tmp (hl hd 1 20 rfl)) (congrArg some hv_v_31)) ?_
      refine dS 4 (fun γ ρ B hb hd => op_move lb (.tmp (hl hd 2 21 rfl))) ?_
      refine DSteps.cons (j := 5) rfl (fun _ => rfl) (.cnd (q := (!v_31)) (sv := fun γ => ov (S (rI .i64) x_21)) (fun _ => rfl) (fun _ => rfl) (fun d h => by cases h; exact ltB rfl) (fun _ => rfl) (fun γ ρ B hb hd => ⟨(Guard.isF (ltB rfl) rfl (hl hd 3 22 rfl)), fun hq_4 => OpStep.at ⟨ρ, (cvar gb_16 (rI .i64) x_21) :: B, _⟩ (setO ⟨ρ, (cvar gb_16 (rI .i64) x_21) :: B, _⟩ _ _) (op_loadS (j := 0) lb tS3 (.tmp (hb 7 _ rfl)) rfl (Comp.self (rI .i64) x_21) rfl rfl)⟩)) ?_
      refine DSteps.cons (j := 6) rfl (fun _ => rfl) (.run (fun γ ρ B hb hd => ⟨.yes rfl (ltB rfl) (hl hd 3 22 rfl) hc6, OpStep.at ⟨ρ, (cvar gb_13 (rW (PTR gb_9 0)) ()) :: B, _⟩ (setO ⟨ρ, (cvar gb_13 (rW (PTR gb_9 0)) ()) :: B, _⟩ _ _) (op_loadW (j := 0) lb tS41 (.tmp (hb 4 _ rfl)) rfl (Comp.self (rW (PTR gb_9 0)) ()))⟩)) ?_
      refine DSteps.cons (j := 7) rfl (fun _ => rfl) (.run (fun γ ρ B hb hd => ⟨.yes rfl (ltB rfl) (hl hd 3 22 rfl) hc6, OpStep.at ⟨ρ, B, _⟩ (setO ⟨ρ, B, _⟩ _ _) (op_nilCheck lb (.tmp (hl hd 5 24 rfl)) (fun e v h => by subst h; rfl))⟩)) ?_
      refine DSteps.cons (j := 8) rfl (fun _ => rfl) (.run (fun γ ρ B hb hd => ⟨.yes rfl (ltB rfl) (hl hd 3 22 rfl) hc6, OpStep.at ⟨ρ, B, _⟩ (setO ⟨ρ, B, _⟩ _ _) (op_fieldAddr (off := 0) lb tf43_0 (.tmp (hl hd 6 25 rfl)))⟩)) ?_
      refine DSteps.cons (j := 9) rfl (fun _ => rfl) (.run (fun γ ρ B hb hd => ⟨.yes rfl (ltB rfl) (hl hd 3 22 rfl) hc6, OpStep.at ⟨ρ, (cvar gb_9 (rP (rW (HDR go_11 0 (List.length x_10) gc_12)) (rP (rI .i64) (rP (rI .i64) r0))) ((), (Ends_7, (Lost_8, ())))) :: B, _⟩ (setO ⟨ρ, (cvar gb_9 (rP (rW (HDR go_11 0 (List.length x_10) gc_12)) (rP (rI .i64) (rP (rI .i64) r0))) ((), (Ends_7, (Lost_8, ())))) :: B, _⟩ _ _) (op_loadW (j := 0) lb tS30 (.tmp (hl hd 7 26 rfl)) rfl (Comp.trans (Comp.self (rP (rW (HDR go_11 0 (List.length x_10) gc_12)) (rP (rI .i64) (rP (rI .i64) r0))) ((), (Ends_7, (Lost_8, ())))) (Comp.at' (Comp.inF (Comp.self (rW (HDR go_11 0 (List.length x_10) gc_12)) ()) (Nat.le_of_ble_eq_true rfl)) (by rfl : _ = 0)) (Nat.le_of_ble_eq_true rfl)))⟩)) ?_
      refine DSteps.cons (j := 10) rfl (fun _ => rfl) (.run (fun γ ρ B hb hd => ⟨.yes rfl (ltB rfl) (hl hd 3 22 rfl) hc6, OpStep.at ⟨ρ, B, _⟩ (setO ⟨ρ, B, _⟩ _ _) (op_lenH lb tu30 (.tmp (hl hd 8 27 rfl)))⟩)) ?_
      refine DSteps.cons (j := 11) rfl (fun _ => rfl) (.run (fun γ ρ B hb hd => ⟨.yes rfl (ltB rfl) (hl hd 3 22 rfl) hc6, OpStep.at ⟨ρ, B, _⟩ (setO ⟨ρ, B, _⟩ _ _) (op_cmpI lb (HasO.cnd (.tmp (hl hd 4 23 rfl)) (notT hc6)) (.tmp (hl hd 9 28 rfl)) (congrArg some hv_v_32))⟩)) ?_
      refine dS 12 (fun γ ρ B hb hd => op_pickF lb (.tmp (hl hd 3 22 rfl)) hc6 (.tmp (hl hd 10 29 rfl))) ?_
      refine dS 13 (fun γ ρ B hb hd => op_move lb (.tmp (hl hd 11 30 rfl))) ?_
      refine DSteps.cons (j := 14) rfl (fun _ => rfl) (.run (fun γ ρ B hb hd => ⟨.yes rfl (ltB rfl) (hl hd 12 31 rfl) hc8, OpStep.at ⟨ρ, (cvar gb_30 (rP (rI .i64) (rP (rI .i64) (rP (rW (HDX go_28 (a_26 * 1) a_27)) r0))) (a_23, (a_24, ((), ())))) :: B, _⟩ (setO ⟨ρ, (cvar gb_30 (rP (rI .i64) (rP (rI .i64) (rP (rW (HDX go_28 (a_26 * 1) a_27)) r0))) (a_23, (a_24, ((), ())))) :: B, _⟩ _ _) (op_loadA (j := 0) lb tA36 (.tmp (hb 10 _ rfl)) rfl (Comp.self (rP (rI .i64) (rP (rI .i64) (rP (rW (HDX go_28 (a_26 * 1) a_27)) r0))) (a_23, (a_24, ((), ())))) rfl)⟩)) ?_
      refine DSteps.cons (j := 15) rfl (fun _ => rfl) (.run (fun γ ρ B hb hd => ⟨.yes rfl (ltB rfl) (hl hd 12 31 rfl) hc8, OpStep.at ⟨ρ, (cvar gb_13 (rW (PTR gb_9 0)) ()) :: B, _⟩ (setO ⟨ρ, (cvar gb_13 (rW (PTR gb_9 0)) ()) :: B, _⟩ _ _) (op_loadW (j := 0) lb tS41 (.tmp (hb 4 _ rfl)) rfl (Comp.self (rW (PTR gb_9 0)) ()))⟩)) ?_
      refine DSteps.cons (j := 16) rfl (fun _ => rfl) (.run (fun γ ρ B hb hd => ⟨.yes rfl (ltB rfl) (hl hd 12 31 rfl) hc8, OpStep.at ⟨ρ, B, _⟩ (setO ⟨ρ, B, _⟩ _ _) (op_nilCheck lb (.tmp (hl hd 14 33 rfl)) (fun e v h => by subst h; rfl))⟩)) ?_
      refine DSteps.cons (j := 17) rfl (fun _ => rfl) (.run (fun γ ρ B hb hd => ⟨.yes rfl (ltB rfl) (hl hd 12 31 rfl) hc8, OpStep.at ⟨ρ, B, _⟩ (setO ⟨ρ, B, _⟩ _ _) (op_fieldAddr (off := 0) lb tf43_0 (.tmp (hl hd 15 34 rfl)))⟩)) ?_
      refine DSteps.cons (j := 18) rfl (fun _ => rfl) (.run (fun γ ρ B hb hd => ⟨.yes rfl (ltB rfl) (hl hd 12 31 rfl) hc8, OpStep.at ⟨ρ, (cvar gb_9 (rP (rW (HDR go_11 0 (List.length x_10) gc_12)) (rP (rI .i64) (rP (rI .i64) r0))) ((), (Ends_7, (Lost_8, ())))) :: B, _⟩ (setO ⟨ρ, (cvar gb_9 (rP (rW (HDR go_11 0 (List.length x_10) gc_12)) (rP (rI .i64) (rP (rI .i64) r0))) ((), (Ends_7, (Lost_8, ())))) :: B, _⟩ _ _) (op_loadW (j := 0) lb tS30 (.tmp (hl hd 16 35 rfl)) rfl (Comp.trans (Comp.self (rP (rW (HDR go_11 0 (List.length x_10) gc_12)) (rP (rI .i64) (rP (rI .i64) r0))) ((), (Ends_7, (Lost_8, ())))) (Comp.at' (Comp.inF (Comp.self (rW (HDR go_11 0 (List.length x_10) gc_12)) ()) (Nat.le_of_ble_eq_true rfl)) (by rfl : _ = 0)) (Nat.le_of_ble_eq_true rfl)))⟩)) ?_
      refine DSteps.cons (j := 19) rfl (fun _ => rfl) (.run (fun γ ρ B hb hd => ⟨.yes rfl (ltB rfl) (hl hd 12 31 rfl) hc8, OpStep.at ⟨ρ, (cvar gb_16 (rI .i64) x_21) :: B, _⟩ (setO ⟨ρ, (cvar gb_16 (rI .i64) x_21) :: B, _⟩ _ _) (op_loadS (j := 0) lb tS3 (.tmp (hb 7 _ rfl)) rfl (Comp.self (rI .i64) x_21) rfl rfl)⟩)) ?_
      refine DSteps.cons (j := 20) rfl (fun _ => rfl) (.run (fun γ ρ B hb hd => ⟨.yes rfl (ltB rfl) (hl hd 12 31 rfl) hc8, OpStep.at ⟨ρ, (cown go_11 r_api_Flight x_10 0 gc_12) :: B, _⟩ (setO ⟨ρ, (cown go_11 r_api_Flight x_10 0 gc_12) :: B, _⟩ _ _) (op_indexAddrOF (r := r_api_Flight) (j := 0) lb tu30 tz36 rfl (.tmp (hl hd 17 36 rfl)) (.tmp (hl hd 18 37 rfl)) hv_i_33)⟩)) ?_
      refine DSteps.cons (j := 21) rfl (fun _ => rfl) (.run (fun γ ρ B hb hd => ⟨.yes rfl (ltB rfl) (hl hd 12 31 rfl) hc8, OpStep.at ⟨ρ, (cown go_11 r_api_Flight x_10 0 gc_12) :: B, _⟩ (setO ⟨ρ, (cown go_11 r_api_Flight x_10 0 gc_12) :: B, _⟩ _ _) (op_loadOA (r := r_api_Flight) (i := i_33) (off := 0) (j := 0) lb tA36 rfl (.tmp (hl hd 19 38 rfl)) hv_v_34 (Comp.self r_api_Flight v_34) (by decide))⟩)) ?_
      refine DSteps.cons (j := 22) rfl (fun _ => rfl) (.run (fun γ ρ B hb hd => ⟨.yes rfl (ltB rfl) (hl hd 12 31 rfl) hc8, OpStep.at ⟨ρ, (cown go_28 (rU UInt8) a_25 0 gn_29) :: B, _⟩ (setO ⟨ρ, (cown go_28 (rU UInt8) a_25 0 gn_29) :: B, _⟩ _ _) ((op_call (js := [0]) ld cl17 (sim_ref12_Same'2 k a_23 a_24 a_26 a_27 v_34 a_25 go_28 gn_29 v_35 hv_v_35) .func (.cons (.tmp (hl hd 13 32 rfl)) (.cons (.tmp (hl hd 20 39 rfl)) .nil)) rfl).post (fun _ => Imp.pick (js := [0]) rfl rfl))⟩)) ?_
      refine DSteps.cons (j := 23) rfl (fun _ => rfl) (.run (fun γ ρ B hb hd => ⟨.yes rfl (ltB rfl) (hl hd 12 31 rfl) hc8, OpStep.at ⟨ρ, B, _⟩ (setO ⟨ρ, B, _⟩ _ _) (op_not lb (.tmp (hl hd 21 40 rfl)) hv_v_36)⟩)) ?_
      refine dS 24 (fun γ ρ B hb hd => op_pickF lb (.tmp (hl hd 12 31 rfl)) hc8 (.tmp (hl hd 22 41 rfl))) ?_
      exact DSteps.nil)
               (by decide +kernel) (fun _ => rfl) rfl (fun _ => rfl) (fun _ => rfl) rfl (by decide) (by decide) (by decide +kernel) (fun _ d h => by cases h)
               (ρ' := fun γ => [(5, ov (PTR gb_14 0)), (6, ov (PTR gb_15 0)), (7, ov (PTR gb_16 0)), (10, ov (PTR gb_30 0)), (42, ov (S rB v_36))])
               (X' := fun γ => [cLK L K (.loop { lp with state := .busy }), cvar gb_13 (rW (PTR gb_9 0)) (), cvar gb_9 (rP (rW (HDR go_11 0 (List.length x_10) gc_12)) (rP (rI .i64) (rP (rI .i64) r0))) ((), (Ends_7, (Lost_8, ()))), cown go_11 r_api_Flight x_10 0 gc_12, cvar gb_14 (rI .i64) a_1, cvar gb_15 rB false, cvar gb_16 (rI .i64) x_21, cvar gb_4 (rP (rW (MPV go_6)) (rP (rI .i64) (rP (rI .i64) r0))) ((), (ends_2, (lost_3, ()))), cmap go_6 (A r_net_pair) (S (rL (rL (rU UInt8)))) (some x_5), cown go_28 (rU UInt8) a_25 0 gn_29, cvar gb_30 (rP (rI .i64) (rP (rI .i64) (rP (rW (HDX go_28 (a_26 * 1) a_27)) r0))) (a_23, (a_24, ((), ())))])
               (fun γ ρ hb hd => (.cons (hb 5 _ rfl (by decide)) (.cons (hb 6 _ rfl (by decide)) (.cons (hb 7 _ rfl (by decide)) (.cons (hb 10 _ rfl (by decide)) (.cons (hdq hd 23 42 rfl) .nil)))))) (fun _ => rfl) (fun γ => ?_)
           refine JQ.at ⟨[(5, ov (PTR gb_14 0)), (6, ov (PTR gb_15 0)), (7, ov (PTR gb_16 0)), (10, ov (PTR gb_30 0)), (42, ov (S rB v_36))], [cLK L K (.loop { lp with state := .busy }), cvar gb_13 (rW (PTR gb_9 0)) (), cvar gb_9 (rP (rW (HDR go_11 0 (List.length x_10) gc_12)) (rP (rI .i64) (rP (rI .i64) r0))) ((), (Ends_7, (Lost_8, ()))), cown go_11 r_api_Flight x_10 0 gc_12, cvar gb_14 (rI .i64) a_1, cvar gb_15 rB false, cvar gb_16 (rI .i64) x_21, cvar gb_4 (rP (rW (MPV go_6)) (rP (rI .i64) (rP (rI .i64) r0))) ((), (ends_2, (lost_3, ()))), cmap go_6 (A r_net_pair) (S (rL (rL (rU UInt8)))) (some x_5), cown go_28 (rU UInt8) a_25 0 gn_29, cvar gb_30 (rP (rI .i64) (rP (rI .i64) (rP (rW (HDX go_28 (a_26 * 1) a_27)) r0))) (a_23, (a_24, ((), ())))], []⟩ ?_
           replace hx3 := Option.some.inj hx3
           first | subst hx3 | clear hx3
           exact JQ.join () (Imp.norm (js := [4, 4, 4, 7, 6, 4, 4, 2, 2, 1, 0]) rfl (.cons rfl (.cons rfl (.cons rfl (.cons rfl (.cons rfl .nil))))))
   · intro s gK_49 gq0 hr
     obtain ⟨gq2, hgq⟩ : ∃ z, z = gq0 := ⟨_, rfl⟩
     obtain ⟨x_50, hvv⟩ : ∃ z, z = s := ⟨_, rfl⟩
     subst hvv
     subst hr
     dsimp only at hx1
     simp only [← hgq]
     refine JQ.pre (st' := ⟨[(4, ov (PTR gb_13 0)), (5, ov (PTR gb_14 0)), (6, ov (PTR gb_15 0)), (7, ov (PTR gb_16 0))], [cdef gK_49, cvar gb_13 (rW (PTR gb_9 0)) (), cvar gb_9 (rP (rW (HDR go_11 0 (List.length x_10) gc_12)) (rP (rI .i64) (rP (rI .i64) r0))) ((), (Ends_7, (Lost_8, ()))), cown go_11 r_api_Flight x_10 0 gc_12, cvar gb_14 (rI .i64) a_1, cvar gb_15 rB false, cvar gb_16 (rI .i64) x_50, cvar gb_4 (rP (rW (MPV go_6)) (rP (rI .i64) (rP (rI .i64) r0))) ((), (ends_2, (lost_3, ()))), cmap go_6 (A r_net_pair) (S (rL (rL (rU UInt8)))) (some x_5)], [gK_49]⟩) (Imp.norm (js := [0, 0, 0, 0, 0, 0, 0, 0, 0]) rfl (.cons rfl (.cons rfl (.cons rfl (.cons rfl .nil))))) ?_
     refine JQ.outNB ?_
     replace hx1 := Option.some.inj hx1
     first | subst hx1 | clear hx1
     exact JQ.joinK x_50 gK_49 rfl (Imp.norm (js := [1, 1, 1, 2, 2, 2, 2, 0]) rfl (.cons rfl (.cons rfl (.cons rfl .nil))))
   · intro u gK_49 gq0 hr
     obtain ⟨gq2, hgq⟩ : ∃ z, z = gq0 := ⟨_, rfl⟩
     obtain ⟨x_51, x_52⟩ := u
     subst hr
     dsimp only at hx1
     simp only [← hgq]
     refine JC.pre (st' := ⟨[(6, ov (PTR gb_15 0))], [cdef gK_49, cvar gb_15 rB x_51, cvar gb_4 (rP (rW (MPV go_6)) (rP (rI .i64) (rP (rI .i64) r0))) ((), (ends_2, (lost_3, ()))), cmap go_6 (A r_net_pair) (S (rL (rL (rU UInt8)))) (some x_5), cvar gb_9 (rP (rW (HDR go_11 0 (List.length x_10) gc_12)) (rP (rI .i64) (rP (rI .i64) r0))) ((), (Ends_7, (Lost_8, ()))), cown go_11 r_api_Flight x_10 0 gc_12, cvar gb_13 (rW (PTR gb_9 0)) (), cvar gb_14 (rI .i64) a_1, cvar gb_16 (rI .i64) x_52], [gK_49]⟩) (Imp.norm (js := [0, 0, 0, 0, 0, 0, 0, 0, 0]) rfl (.cons rfl .nil)) ?_
     refine JC.ret ?_
     refine JQ.outRB ?_
     replace hx1 := Option.some.inj hx1
     first | subst hx1 | clear hx1
     dsimp only at hq1
     refine JQ.outR ?_
     replace hq1 := Option.some.inj hq1
     subst hq1
     exact JQ.done (js := [1, 1, 1, 1]) (ss := [.val (S rB x_51)]) () (.inl rfl) (.cons (j := 0) rfl rfl (.nil rfl)) rfl (.cons (.cellS (j := 0) tS4 rfl rfl rfl) .nil) rfl rfl rfl

end Go.Proofs.Ytnadeehdnmgebaa
