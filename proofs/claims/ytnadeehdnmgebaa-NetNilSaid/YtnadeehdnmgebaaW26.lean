/- Walks. -/
import Derived.Test.YtnadeehdnmgebaaT
import Derived.Test.YtnadeehdnmgebaaW23
import Derived.Test.YtnadeehdnmgebaaW25
namespace Go.Proofs.Ytnadeehdnmgebaa
open Go Fw
set_option linter.unusedVariables false
set_option maxRecDepth 100000
set_option maxHeartbeats 4000000

theorem sim_law12_once'3 (k : Nat) (a_1 : Int) (ends_2 : Int) (lost_3 : Int) (Ends_5 : Int) (Lost_6 : Int) (gb_4 : Nat) (gb_7 : Nat) (r : Bool) (hm : law12_once'3 k a_1 ends_2 lost_3 Ends_5 Lost_6 = some r) : Sim Try.prog 22 [PTR gb_4 0, PTR gb_7 0, S (rI .i64) a_1] [cvar gb_4 (rP (rW (MPV none)) (rP (rI .i64) (rP (rI .i64) r0))) ((), (ends_2, (lost_3, ()))), cvar gb_7 (rP (rW (HDR none 0 0 0)) (rP (rI .i64) (rP (rI .i64) r0))) ((), (Ends_5, (Lost_6, ())))] (γ := Unit) (fun q => [cvar gb_4 (rP (rW (MPV none)) (rP (rI .i64) (rP (rI .i64) r0))) ((), (ends_2, (lost_3, ()))), cvar gb_7 (rP (rW (HDR none 0 0 0)) (rP (rI .i64) (rP (rI .i64) r0))) ((), (Ends_5, (Lost_6, ())))]) (fun q => .one (.val (S rB r))) := by
 unfold law12_once'3 at hm
 refine Sim.of Try.func22 rfl rfl (Nat.le_of_ble_eq_true rfl) (fun e0 w0 => ?_)
 refine JC.at ⟨[(0, ov (PTR gb_4 0)), (1, ov (PTR gb_7 0)), (2, ov (S (rI .i64) a_1))], [cvar gb_4 (rP (rW (MPV none)) (rP (rI .i64) (rP (rI .i64) r0))) ((), (ends_2, (lost_3, ()))), cvar gb_7 (rP (rW (HDR none 0 0 0)) (rP (rI .i64) (rP (rI .i64) r0))) ((), (Ends_5, (Lost_6, ())))], []⟩ ?_
 refine JC.seq ?_
 refine JC.region ?_
 refine jx (op_boxW lb (.tmp rfl)) (fun q => ?_)
 obtain ⟨gb_8, hqq⟩ : ∃ z, z = q := ⟨_, rfl⟩
 subst hqq
 refine jx (op_boxS lb (.tmp rfl)) (fun q => ?_)
 obtain ⟨gb_9, hqq⟩ : ∃ z, z = q := ⟨_, rfl⟩
 subst hqq
 refine jx (op_alloc lb tZ4 zr4) (fun q => ?_)
 obtain ⟨gb_10, hqq⟩ : ∃ z, z = q := ⟨_, rfl⟩
 subst hqq
 refine JL.nil ?_
 refine JQ.then ?_
 refine JC.seq ?_
 refine JC.region ?_
 refine jx (op_alloc lb tZ3 zr3) (fun q => ?_)
 obtain ⟨gb_11, hqq⟩ : ∃ z, z = q := ⟨_, rfl⟩
 subst hqq
 refine JL.sub ⟨[(0, ov (PTR gb_4 0)), (4, ov (PTR gb_8 0)), (5, ov (PTR gb_9 0)), (6, ov (PTR gb_10 0)), (7, ov (PTR gb_11 0))], [cvar gb_4 (rP (rW (MPV none)) (rP (rI .i64) (rP (rI .i64) r0))) ((), (ends_2, (lost_3, ()))), cvar gb_7 (rP (rW (HDR none 0 0 0)) (rP (rI .i64) (rP (rI .i64) r0))) ((), (Ends_5, (Lost_6, ()))), cvar gb_8 (rW (PTR gb_7 0)) (), cvar gb_9 (rI .i64) a_1, cvar gb_10 rB false, cvar gb_11 (rI .i64) (0 : Int)], []⟩ (.cons rfl (.cons rfl (.cons rfl (.cons rfl (.cons rfl .nil))))) rfl rfl ?_
 refine jc (op_storeS (j := 5) tS3 (.tmp rfl) .cI rfl rfl (UpdR.self (by rfl)) rfl) ?_
 refine JL.nil ?_
 refine JQ.then ?_
 refine JC.seq ?_
 refine JC.region ?_
 refine jc (op_move lb (.tmp rfl)) ?_
 replace hm := bnd_inv hm
 obtain ⟨_, hv_u_13, hm⟩ := hm
 refine jx (op_call (js := [0]) ld cl31 (sim_net_Net_All'3 k ends_2 lost_3 gb_4 () hv_u_13) .func (.cons (.tmp rfl) .nil) rfl) (fun q => ?_)
 obtain ⟨gb_12, hqq⟩ : ∃ z, z = q := ⟨_, rfl⟩
 subst hqq
 refine jc (op_assign lb (.tmp rfl)) ?_
 refine JL.nil ?_
 refine JQ.then ?_
 refine JC.seq ?_
 refine JC.seq ?_
 refine JC.region ?_
 refine jc (op_move lb (.tmp rfl)) ?_
 refine jc (op_nilFn (neg := false) lb un63 (.tmp rfl) (HasO.const (p := NILF) fun _ => rfl)) ?_
 refine JL.nil ?_
 refine JQ.then ?_
 refine JC.condF (.tmp rfl) rfl ?_
 refine JC.skip ?_
 refine JQ.then ?_
 replace hm := bnd_inv hm
 obtain ⟨tv1, hx1, hq1⟩ := hm
 refine JC.seqK (α := Unit) (γ := Nat) (stj := fun v q => ⟨[(4, ov (PTR gb_8 0)), (6, ov (PTR gb_10 0)), (7, ov (PTR gb_11 0))], [cvar gb_8 (rW (PTR gb_7 0)) (), cvar gb_7 (rP (rW (HDR none 0 0 0)) (rP (rI .i64) (rP (rI .i64) r0))) ((), (Ends_5, (Lost_6, ()))), cvar gb_10 rB false, cvar gb_11 (rI .i64) (0 : Int), cvar gb_4 (rP (rW (MPV none)) (rP (rI .i64) (rP (rI .i64) r0))) ((), (ends_2, (lost_3, ()))), cdef q], [q]⟩) (p := fun v => tv1 = (.inl v)) (fun v q hv => ?_) ?_
 · subst hv
   skip
   obtain ⟨gK_19, hqq⟩ : ∃ z, z = q := ⟨_, rfl⟩
   subst hqq
   dsimp only at hq1
   refine JC.at ⟨[(4, ov (PTR gb_8 0)), (6, ov (PTR gb_10 0)), (7, ov (PTR gb_11 0))], [cvar gb_8 (rW (PTR gb_7 0)) (), cvar gb_7 (rP (rW (HDR none 0 0 0)) (rP (rI .i64) (rP (rI .i64) r0))) ((), (Ends_5, (Lost_6, ()))), cvar gb_10 rB false, cvar gb_11 (rI .i64) (0 : Int), cvar gb_4 (rP (rW (MPV none)) (rP (rI .i64) (rP (rI .i64) r0))) ((), (ends_2, (lost_3, ()))), cdef gK_19], [gK_19]⟩ ?_
   refine JC.seq ?_
   refine JC.anyE (kl := []) (kk := 0) (base := [(4, ov (PTR gb_8 0)), (6, ov (PTR gb_10 0)), (7, ov (PTR gb_11 0))])
       (fs := fun γ => [⟨some 65, ov (S (rI .i64) (0 : Int))⟩, ⟨some 66, ov (PTR gb_7 0)⟩, ⟨some 67, ov (PTR gb_7 0)⟩, ⟨some 68, ov (PTR gb_7 (0 + 0))⟩, ⟨some 69, ov (HDR none 0 0 0)⟩, ⟨some 70, ov (S (rI .i64) (0 : Int))⟩, ⟨some 71, ov (S rB true)⟩, ⟨none, .one .any⟩])
       (rs := fun γ => [⟨cvar gb_8 (rW (PTR gb_7 0)) (), none, none, [1]⟩, ⟨cvar gb_7 (rP (rW (HDR none 0 0 0)) (rP (rI .i64) (rP (rI .i64) r0))) ((), (Ends_5, (Lost_6, ()))), none, none, [4]⟩, ⟨cvar gb_10 rB false, none, (some 7), []⟩, ⟨cvar gb_11 (rI .i64) (0 : Int), none, none, [0]⟩, ⟨cvar gb_4 (rP (rW (MPV none)) (rP (rI .i64) (rP (rI .i64) r0))) ((), (ends_2, (lost_3, ()))), none, none, []⟩, ⟨cdef gK_19, none, none, []⟩, ⟨cvar gb_10 rB true, (some 7), none, []⟩])
       (ds := [65, 66, 67, 68, 69, 70, 71]) (bs := [4, 6, 7]) (afts := [[], [], [], [], [], [], [], []]) (js := [0, 0, 0, 0, 0, 0]) mixed (.cons rfl (.cons rfl (.cons rfl .nil))) (fun _ => rfl)
       (by
      refine DSteps.cons (j := 1) rfl (fun _ => rfl) (.run (fun γ ρ B hb hd => ⟨.none, OpStep.at ⟨ρ, (cvar gb_11 (rI .i64) (0 : Int)) :: B, _⟩ (setO ⟨ρ, (cvar gb_11 (rI .i64) (0 : Int)) :: B, _⟩ _ _) (op_loadS (j := 0) lb tS3 (.tmp (hb 7 _ rfl)) rfl (Comp.self (rI .i64) (0 : Int)) rfl rfl)⟩)) ?_
      refine DSteps.cons (j := 2) rfl (fun _ => rfl) (.run (fun γ ρ B hb hd => ⟨.none, OpStep.at ⟨ρ, (cvar gb_8 (rW (PTR gb_7 0)) ()) :: B, _⟩ (setO ⟨ρ, (cvar gb_8 (rW (PTR gb_7 0)) ()) :: B, _⟩ _ _) (op_loadW (j := 0) lb tS41 (.tmp (hb 4 _ rfl)) rfl (Comp.self (rW (PTR gb_7 0)) ()))⟩)) ?_
      refine dS 3 (fun γ ρ B hb hd => op_nilCheck lb (.tmp (hl hd 1 66 rfl)) (fun e v h => by subst h; rfl)) ?_
      refine dS 4 (fun γ ρ B hb hd => op_fieldAddr (off := 0) lb tf43_0 (.tmp (hl hd 2 67 rfl))) ?_
      refine DSteps.cons (j := 5) rfl (fun _ => rfl) (.run (fun γ ρ B hb hd => ⟨.none, OpStep.at ⟨ρ, (cvar gb_7 (rP (rW (HDR none 0 0 0)) (rP (rI .i64) (rP (rI .i64) r0))) ((), (Ends_5, (Lost_6, ())))) :: B, _⟩ (setO ⟨ρ, (cvar gb_7 (rP (rW (HDR none 0 0 0)) (rP (rI .i64) (rP (rI .i64) r0))) ((), (Ends_5, (Lost_6, ())))) :: B, _⟩ _ _) (op_loadW (j := 0) lb tS30 (.tmp (hl hd 3 68 rfl)) rfl (Comp.trans (Comp.self (rP (rW (HDR none 0 0 0)) (rP (rI .i64) (rP (rI .i64) r0))) ((), (Ends_5, (Lost_6, ())))) (Comp.at' (Comp.inF (Comp.self (rW (HDR none 0 0 0)) ()) (Nat.le_of_ble_eq_true rfl)) (by rfl : _ = 0)) (Nat.le_of_ble_eq_true rfl)))⟩)) ?_
      refine dS 6 (fun γ ρ B hb hd => op_lenH lb tu30 (.tmp (hl hd 4 69 rfl))) ?_
      refine dS 7 (fun γ ρ B hb hd => op_cmpI lb (.tmp (hl hd 0 65 rfl)) (.tmp (hl hd 5 70 rfl)) (congrArg some (by decide : ((0 : Int) == (0 : Int)) = true))) ?_
      refine DSteps.cons (j := 8) rfl (fun _ => rfl) (.run (fun γ ρ B hb hd => ⟨.none, OpStep.at ⟨ρ, (cvar gb_10 rB false) :: B, _⟩ (setO ⟨ρ, (cvar gb_10 rB true) :: B, _⟩ _ _) (op_storeS (j := 0) tS4 (.tmp (hb 6 _ rfl)) (.tmp (hl hd 6 71 rfl)) rfl rfl (UpdR.self (by rfl)) rfl)⟩)) ?_
      exact DSteps.nil)
       (by decide +kernel) (fun _ => rfl) rfl (fun _ => rfl) (fun _ => rfl) rfl (by decide) (by decide) (by decide +kernel) (fun _ d h => by cases h)
       (ρ' := fun γ => [(6, ov (PTR gb_10 0))])
       (X' := fun γ => [cvar gb_8 (rW (PTR gb_7 0)) (), cvar gb_7 (rP (rW (HDR none 0 0 0)) (rP (rI .i64) (rP (rI .i64) r0))) ((), (Ends_5, (Lost_6, ()))), cvar gb_11 (rI .i64) (0 : Int), cvar gb_4 (rP (rW (MPV none)) (rP (rI .i64) (rP (rI .i64) r0))) ((), (ends_2, (lost_3, ()))), cdef gK_19, cvar gb_10 rB true])
       (fun γ ρ hb hd => (.cons (hb 6 _ rfl (by decide)) .nil)) (fun _ => rfl) (fun γ => ?_)
   refine JQ.at ⟨[(6, ov (PTR gb_10 0))], [cvar gb_8 (rW (PTR gb_7 0)) (), cvar gb_7 (rP (rW (HDR none 0 0 0)) (rP (rI .i64) (rP (rI .i64) r0))) ((), (Ends_5, (Lost_6, ()))), cvar gb_11 (rI .i64) (0 : Int), cvar gb_4 (rP (rW (MPV none)) (rP (rI .i64) (rP (rI .i64) r0))) ((), (ends_2, (lost_3, ()))), cdef gK_19, cvar gb_10 rB true], [gK_19]⟩ ?_
   refine JQ.then ?_
   refine JC.ret ?_
   replace hq1 := Option.some.inj hq1
   subst hq1
   exact JQ.done (js := [3, 1]) (ss := [.val (S rB true)]) () (.inl rfl) (.cons (j := 4) rfl rfl (.nil rfl)) rfl (.cons (.cellS (j := 4) tS4 rfl rfl rfl) .nil) rfl rfl rfl
 · refine JC.seq ?_
   refine JC.region ?_
   refine jc (op_move lb (.tmp rfl)) ?_
   refine JL.nil ?_
   refine JQ.then ?_
   refine JC.block ?_
   replace hx1 := bnd_inv hx1
   obtain ⟨tv2, hL2, hq2⟩ := hx1
   refine JC.pre (Imp.var (j := 0) (q := (rL r_api_Flight)) (y := ([] : (List api_Flight))) rfl Wk.nil) ?_
   refine JC.pre (st' := ⟨[(4, ov (PTR gb_8 0)), (5, ov (PTR gb_9 0)), (6, ov (PTR gb_10 0)), (7, ov (PTR gb_11 0)), (16, ov (CLO 41 [PTR gb_12 0]))], [cvar gb_12 (rL r_api_Flight) ([] : (List api_Flight)), cvar gb_8 (rW (PTR gb_7 0)) (), cvar gb_7 (rP (rW (HDR none 0 0 0)) (rP (rI .i64) (rP (rI .i64) r0))) ((), (Ends_5, (Lost_6, ()))), cvar gb_9 (rI .i64) a_1, cvar gb_10 rB false, cvar gb_11 (rI .i64) (0 : Int), cvar gb_4 (rP (rW (MPV none)) (rP (rI .i64) (rP (rI .i64) r0))) ((), (ends_2, (lost_3, ())))], []⟩) (Imp.norm (js := [0, 2, 1, 1, 1, 1, 0]) rfl (.cons rfl (.cons rfl (.cons rfl (.cons rfl (.cons rfl .nil)))))) ?_
   replace hx1 := hq2
   refine JC.rangeFunc (γ := Unit) (γ' := (Unit)) (r := tv2) (js := [0]) (qf := fun g => g) (X' := fun g => [cvar gb_12 (rL r_api_Flight) ([] : (List api_Flight))]) (sv := fun _ => .tup [])
       (fun (u : Int × api_Flight) (z : Unit) => [S (rI .i64) u.1, A r_api_Flight u.2]) (fun (u : Int × api_Flight) (z : Unit) => []) (fun (s : Unit) (u : Int × api_Flight) => law12_once'3.y1 k u.1 u.2) (fun (s : Unit) q => [cvar gb_8 (rW (PTR gb_7 0)) (), cvar gb_7 (rP (rW (HDR none 0 0 0)) (rP (rI .i64) (rP (rI .i64) r0))) ((), (Ends_5, (Lost_6, ()))), cvar gb_9 (rI .i64) a_1, cvar gb_10 rB false, cvar gb_11 (rI .i64) (0 : Int), cvar gb_4 (rP (rW (MPV none)) (rP (rI .i64) (rP (rI .i64) r0))) ((), (ends_2, (lost_3, ())))]) (fun (t : (Unit)) q => [cvar gb_10 rB false, cvar gb_4 (rP (rW (MPV none)) (rP (rI .i64) (rP (rI .i64) r0))) ((), (ends_2, (lost_3, ()))), cvar gb_7 (rP (rW (HDR none 0 0 0)) (rP (rI .i64) (rP (rI .i64) r0))) ((), (Ends_5, (Lost_6, ()))), cvar gb_8 (rW (PTR gb_7 0)) (), cvar gb_9 (rI .i64) a_1, cvar gb_11 (rI .i64) (0 : Int)]) (fun (t : (Unit)) => .ret) [(4, ov (PTR gb_8 0)), (5, ov (PTR gb_9 0)), (6, ov (PTR gb_10 0)), (7, ov (PTR gb_11 0))] () () rfl (.tmp rfl) cl41 rfl (.cons rfl (.cons rfl (.cons rfl (.cons rfl .nil)))) (fun _ _ => rfl) (by decide) rfl ?_ (fun L C hY => sim_net_Net_All_1'3 k (fun (s : Unit) (u : Int × api_Flight) => law12_once'3.y1 k u.1 u.2) (Sum.inl ()) ([] : (List api_Flight)) () gb_12 L C hY tv2 hL2) ?_ ?_
   · intro e1 w1 F1 L K lp s q u z y hx hlp
     obtain ⟨a_14, a_15⟩ := u
     change law12_once'3.y1 k a_14 a_15 = some y at hx
     unfold law12_once'3.y1 at hx
     refine JC.at ⟨[(17, ov (S (rI .i64) a_14)), (18, ov (A r_api_Flight a_15)), (4, ov (PTR gb_8 0)), (5, ov (PTR gb_9 0)), (6, ov (PTR gb_10 0)), (7, ov (PTR gb_11 0))], [cLK L K (.loop lp), cvar gb_8 (rW (PTR gb_7 0)) (), cvar gb_7 (rP (rW (HDR none 0 0 0)) (rP (rI .i64) (rP (rI .i64) r0))) ((), (Ends_5, (Lost_6, ()))), cvar gb_9 (rI .i64) a_1, cvar gb_10 rB false, cvar gb_11 (rI .i64) (0 : Int), cvar gb_4 (rP (rW (MPV none)) (rP (rI .i64) (rP (rI .i64) r0))) ((), (ends_2, (lost_3, ())))], []⟩ ?_
     refine JC.seq ?_
     refine JC.region ?_
     refine jc (op_assign lb (.tmp rfl)) ?_
     refine JL.nil ?_
     refine JQ.then ?_
     refine JC.region ?_
     refine jx (op_alloc lb tZ36 zr36) (fun q => ?_)
     obtain ⟨gb_16, hqq⟩ : ∃ z, z = q := ⟨_, rfl⟩
     subst hqq
     refine jc (op_storeA (j := 7) tA36 (.tmp rfl) (.tmp rfl) rfl (UpdR.self (by rfl)) rfl) ?_
     refine JL.nil ?_
     refine JQ.begin (j := 0) hlp rfl ?_
     refine JC.block ?_
     refine JC.seq ?_
     replace hx := bnd_inv hx
     obtain ⟨_, hx3, hq3⟩ := hx
     refine JC.seqJ (γ := Unit) (stj := fun q => ⟨[(5, ov (PTR gb_9 0)), (6, ov (PTR gb_10 0)), (7, ov (PTR gb_11 0)), (10, ov (PTR gb_16 0)), (42, ov (S rB true))], [cvar gb_9 (rI .i64) a_1, cvar gb_10 rB false, cvar gb_11 (rI .i64) (0 : Int), cvar gb_16 r_api_Flight a_15, cvar gb_4 (rP (rW (MPV none)) (rP (rI .i64) (rP (rI .i64) r0))) ((), (ends_2, (lost_3, ()))), cvar gb_7 (rP (rW (HDR none 0 0 0)) (rP (rI .i64) (rP (rI .i64) r0))) ((), (Ends_5, (Lost_6, ()))), cvar gb_8 (rW (PTR gb_7 0)) (), cLK L K (.loop { lp with state := .busy })], []⟩) (fun q => ?_) ?_
     · obtain _ := q
       refine JC.at ⟨[(5, ov (PTR gb_9 0)), (6, ov (PTR gb_10 0)), (7, ov (PTR gb_11 0)), (10, ov (PTR gb_16 0)), (42, ov (S rB true))], [cvar gb_9 (rI .i64) a_1, cvar gb_10 rB false, cvar gb_11 (rI .i64) (0 : Int), cvar gb_16 r_api_Flight a_15, cvar gb_4 (rP (rW (MPV none)) (rP (rI .i64) (rP (rI .i64) r0))) ((), (ends_2, (lost_3, ()))), cvar gb_7 (rP (rW (HDR none 0 0 0)) (rP (rI .i64) (rP (rI .i64) r0))) ((), (Ends_5, (Lost_6, ()))), cvar gb_8 (rW (PTR gb_7 0)) (), cLK L K (.loop { lp with state := .busy })], []⟩ ?_
       refine JC.condT (.tmp rfl) rfl ?_
       refine JC.seq ?_
       refine JC.region ?_
       refine jc (op_storeS (j := 1) tS4 (.tmp rfl) .cB rfl rfl (UpdR.self (by rfl)) rfl) ?_
       refine JL.nil ?_
       refine JQ.then ?_
       refine JC.ret ?_
       refine JQ.outR ?_
       refine JQ.outRB ?_
       exact JQ.rret () (Option.some.inj hq3).symm rfl (Imp.norm (js := [7, 1, 3, 3, 3, 0, 0]) rfl .nil)
     · replace hx3 := lt1_inv hx3
       obtain ⟨v_17, hv_v_17, hx3⟩ := hx3
       replace hx3 := iteB_inv hx3
       rcases hx3 with ⟨hc6, hx3⟩ | ⟨hc6, hx3⟩
       · refine JC.anyE (kl := []) (kk := 0) (base := [(5, ov (PTR gb_9 0)), (6, ov (PTR gb_10 0)), (7, ov (PTR gb_11 0)), (9, ov (S (rI .i64) a_14)), (10, ov (PTR gb_16 0))])
             (fs := fun γ => [⟨some 19, ov (S (rI .i64) a_14)⟩, ⟨some 20, ov (S (rI .i64) (0 : Int))⟩, ⟨some 21, ov (S rB v_17)⟩, ⟨some 22, ov (S rB v_17)⟩, ⟨some 23, bif (!v_17) then ov (S (rI .i64) (0 : Int)) else .one .und⟩, ⟨some 24, .one .und⟩, ⟨some 25, .one .und⟩, ⟨some 26, .one .und⟩, ⟨some 27, .one .und⟩, ⟨some 28, .one .und⟩, ⟨some 29, .one .und⟩, ⟨some 30, ov (S rB true)⟩, ⟨some 31, ov (S rB true)⟩, ⟨some 32, .one .und⟩, ⟨some 33, .one .und⟩, ⟨some 34, .one .und⟩, ⟨some 35, .one .und⟩, ⟨some 36, .one .und⟩, ⟨some 37, .one .und⟩, ⟨some 38, .one .und⟩, ⟨some 39, .one .und⟩, ⟨some 40, .one .und⟩, ⟨some 41, .one .und⟩, ⟨some 42, ov (S rB true)⟩])
             (rs := fun γ => [⟨cLK L K (.loop { lp with state := .busy }), none, none, []⟩, ⟨cvar gb_8 (rW (PTR gb_7 0)) (), none, none, []⟩, ⟨cvar gb_7 (rP (rW (HDR none 0 0 0)) (rP (rI .i64) (rP (rI .i64) r0))) ((), (Ends_5, (Lost_6, ()))), none, none, []⟩, ⟨cvar gb_9 (rI .i64) a_1, none, none, []⟩, ⟨cvar gb_10 rB false, none, none, []⟩, ⟨cvar gb_11 (rI .i64) (0 : Int), none, none, [1, 4]⟩, ⟨cvar gb_4 (rP (rW (MPV none)) (rP (rI .i64) (rP (rI .i64) r0))) ((), (ends_2, (lost_3, ()))), none, none, []⟩, ⟨cvar gb_16 r_api_Flight a_15, none, none, []⟩])
             (ds := [19, 20, 21, 22, 23, 24, 25, 26, 27, 28, 29, 30, 31, 32, 33, 34, 35, 36, 37, 38, 39, 40, 41, 42]) (bs := [5, 6, 7, 9, 10]) (afts := [[], [], [], [], [], [], [], [], [], [], [], [], [], [], [], [], [], [], [], [], [], [], [], []]) (js := [0, 0, 0, 0, 0, 0, 0, 0]) mixed (.cons rfl (.cons rfl (.cons rfl (.cons rfl (.cons rfl .nil))))) (fun _ => rfl)
             (by
      refine dS 1 (fun γ ρ B hb hd => op_move lb (.tmp (hb 9 _ rfl))) ?_
      refine DSteps.cons (j := 2) rfl (fun _ => rfl) (.run (fun γ ρ B hb hd => ⟨.none, OpStep.at ⟨ρ, (cvar gb_11 (rI .i64) (0 : Int)) :: B, _⟩ (setO ⟨ρ, (cvar gb_11 (rI .i64) (0 : Int)) :: B, _⟩ _ _) (op_loadS (j := 0) lb tS3 (.tmp (hb 7 _ rfl)) rfl (Comp.self (rI .i64) (0 : Int)) rfl rfl)⟩)) ?_
      refine dS 3 (fun γ ρ B hb hd => op_cmpI lb (.tmp (hl hd 0 19 rfl)) (.tmp (hl hd 1 20 rfl)) (congrArg some hv_v_17)) ?_
      refine dS 4 (fun γ ρ B hb hd => op_move lb (.tmp (hl hd 2 21 rfl))) ?_
      refine DSteps.cons (j := 5) rfl (fun _ => rfl) (.cnd (q := (!v_17)) (sv := fun γ => ov (S (rI .i64) (0 : Int))) (fun _ => rfl) (fun _ => rfl) (fun d h => by cases h; exact ltB rfl) (fun _ => rfl) (fun γ ρ B hb hd => ⟨(Guard.isF (ltB rfl) rfl (hl hd 3 22 rfl)), fun hq_4 => OpStep.at ⟨ρ, (cvar gb_11 (rI .i64) (0 : Int)) :: B, _⟩ (setO ⟨ρ, (cvar gb_11 (rI .i64) (0 : Int)) :: B, _⟩ _ _) (op_loadS (j := 0) lb tS3 (.tmp (hb 7 _ rfl)) rfl (Comp.self (rI .i64) (0 : Int)) rfl rfl)⟩)) ?_
      refine DSteps.cons (j := 6) rfl (fun _ => rfl) (.skip (fun γ ρ B hb hd => ⟨.no rfl (ltB rfl) (hl hd 3 22 rfl) hc6, rfl, rfl, rfl, fun d h => by cases h; exact ltB rfl⟩)) ?_
      refine DSteps.cons (j := 7) rfl (fun _ => rfl) (.skip (fun γ ρ B hb hd => ⟨.no rfl (ltB rfl) (hl hd 3 22 rfl) hc6, rfl, rfl, rfl, fun d h => by cases h; exact ltB rfl⟩)) ?_
      refine DSteps.cons (j := 8) rfl (fun _ => rfl) (.skip (fun γ ρ B hb hd => ⟨.no rfl (ltB rfl) (hl hd 3 22 rfl) hc6, rfl, rfl, rfl, fun d h => by cases h; exact ltB rfl⟩)) ?_
      refine DSteps.cons (j := 9) rfl (fun _ => rfl) (.skip (fun γ ρ B hb hd => ⟨.no rfl (ltB rfl) (hl hd 3 22 rfl) hc6, rfl, rfl, rfl, fun d h => by cases h; exact ltB rfl⟩)) ?_
      refine DSteps.cons (j := 10) rfl (fun _ => rfl) (.skip (fun γ ρ B hb hd => ⟨.no rfl (ltB rfl) (hl hd 3 22 rfl) hc6, rfl, rfl, rfl, fun d h => by cases h; exact ltB rfl⟩)) ?_
      refine DSteps.cons (j := 11) rfl (fun _ => rfl) (.skip (fun γ ρ B hb hd => ⟨.no rfl (ltB rfl) (hl hd 3 22 rfl) hc6, rfl, rfl, rfl, fun d h => by cases h; exact ltB rfl⟩)) ?_
      refine dS 12 (fun γ ρ B hb hd => op_pickT lb (.tmp (hl hd 3 22 rfl)) hc6 .cB) ?_
      refine dS 13 (fun γ ρ B hb hd => op_move lb (.tmp (hl hd 11 30 rfl))) ?_
      refine DSteps.cons (j := 14) rfl (fun _ => rfl) (.skip (fun γ ρ B hb hd => ⟨.no rfl (ltB rfl) (hl hd 12 31 rfl) rfl, rfl, rfl, rfl, fun d h => by cases h; exact ltB rfl⟩)) ?_
      refine DSteps.cons (j := 15) rfl (fun _ => rfl) (.skip (fun γ ρ B hb hd => ⟨.no rfl (ltB rfl) (hl hd 12 31 rfl) rfl, rfl, rfl, rfl, fun d h => by cases h; exact ltB rfl⟩)) ?_
      refine DSteps.cons (j := 16) rfl (fun _ => rfl) (.skip (fun γ ρ B hb hd => ⟨.no rfl (ltB rfl) (hl hd 12 31 rfl) rfl, rfl, rfl, rfl, fun d h => by cases h; exact ltB rfl⟩)) ?_
      refine DSteps.cons (j := 17) rfl (fun _ => rfl) (.skip (fun γ ρ B hb hd => ⟨.no rfl (ltB rfl) (hl hd 12 31 rfl) rfl, rfl, rfl, rfl, fun d h => by cases h; exact ltB rfl⟩)) ?_
      refine DSteps.cons (j := 18) rfl (fun _ => rfl) (.skip (fun γ ρ B hb hd => ⟨.no rfl (ltB rfl) (hl hd 12 31 rfl) rfl, rfl, rfl, rfl, fun d h => by cases h; exact ltB rfl⟩)) ?_
      refine DSteps.cons (j := 19) rfl (fun _ => rfl) (.skip (fun γ ρ B hb hd => ⟨.no rfl (ltB rfl) (hl hd 12 31 rfl) rfl, rfl, rfl, rfl, fun d h => by cases h; exact ltB rfl⟩)) ?_
      refine DSteps.cons (j := 20) rfl (fun _ => rfl) (.skip (fun γ ρ B hb hd => ⟨.no rfl (ltB rfl) (hl hd 12 31 rfl) rfl, rfl, rfl, rfl, fun d h => by cases h; exact ltB rfl⟩)) ?_
      refine DSteps.cons (j := 21) rfl (fun _ => rfl) (.skip (fun γ ρ B hb hd => ⟨.no rfl (ltB rfl) (hl hd 12 31 rfl) rfl, rfl, rfl, rfl, fun d h => by cases h; exact ltB rfl⟩)) ?_
      refine DSteps.cons (j := 22) rfl (fun _ => rfl) (.skip (fun γ ρ B hb hd => ⟨.no rfl (ltB rfl) (hl hd 12 31 rfl) rfl, rfl, rfl, rfl, fun d h => by cases h; exact ltB rfl⟩)) ?_
      refine DSteps.cons (j := 23) rfl (fun _ => rfl) (.skip (fun γ ρ B hb hd => ⟨.no rfl (ltB rfl) (hl hd 12 31 rfl) rfl, rfl, rfl, rfl, fun d h => by cases h; exact ltB rfl⟩)) ?_
      refine dS 24 (fun γ ρ B hb hd => op_pickT lb (.tmp (hl hd 12 31 rfl)) rfl .cB) ?_
      exact DSteps.nil)
             (by decide +kernel) (fun _ => rfl) rfl (fun _ => rfl) (fun _ => rfl) rfl (by decide) (by decide) (by decide +kernel) (fun _ d h => by cases h)
             (ρ' := fun γ => [(5, ov (PTR gb_9 0)), (6, ov (PTR gb_10 0)), (7, ov (PTR gb_11 0)), (10, ov (PTR gb_16 0)), (42, ov (S rB true))])
             (X' := fun γ => [cLK L K (.loop { lp with state := .busy }), cvar gb_8 (rW (PTR gb_7 0)) (), cvar gb_7 (rP (rW (HDR none 0 0 0)) (rP (rI .i64) (rP (rI .i64) r0))) ((), (Ends_5, (Lost_6, ()))), cvar gb_9 (rI .i64) a_1, cvar gb_10 rB false, cvar gb_11 (rI .i64) (0 : Int), cvar gb_4 (rP (rW (MPV none)) (rP (rI .i64) (rP (rI .i64) r0))) ((), (ends_2, (lost_3, ()))), cvar gb_16 r_api_Flight a_15])
             (fun γ ρ hb hd => (.cons (hb 5 _ rfl (by decide)) (.cons (hb 6 _ rfl (by decide)) (.cons (hb 7 _ rfl (by decide)) (.cons (hb 10 _ rfl (by decide)) (.cons (hdq hd 23 42 rfl) .nil)))))) (fun _ => rfl) (fun γ => ?_)
         refine JQ.at ⟨[(5, ov (PTR gb_9 0)), (6, ov (PTR gb_10 0)), (7, ov (PTR gb_11 0)), (10, ov (PTR gb_16 0)), (42, ov (S rB true))], [cLK L K (.loop { lp with state := .busy }), cvar gb_8 (rW (PTR gb_7 0)) (), cvar gb_7 (rP (rW (HDR none 0 0 0)) (rP (rI .i64) (rP (rI .i64) r0))) ((), (Ends_5, (Lost_6, ()))), cvar gb_9 (rI .i64) a_1, cvar gb_10 rB false, cvar gb_11 (rI .i64) (0 : Int), cvar gb_4 (rP (rW (MPV none)) (rP (rI .i64) (rP (rI .i64) r0))) ((), (ends_2, (lost_3, ()))), cvar gb_16 r_api_Flight a_15], []⟩ ?_
         exact JQ.join () (Imp.norm (js := [3, 3, 3, 4, 3, 2, 1, 0]) rfl (.cons rfl (.cons rfl (.cons rfl (.cons rfl (.cons rfl .nil))))))
       · refine JC.anyE (kl := []) (kk := 0) (base := [(4, ov (PTR gb_8 0)), (5, ov (PTR gb_9 0)), (6, ov (PTR gb_10 0)), (7, ov (PTR gb_11 0)), (9, ov (S (rI .i64) a_14)), (10, ov (PTR gb_16 0))])
             (fs := fun γ => [⟨some 19, ov (S (rI .i64) a_14)⟩, ⟨some 20, ov (S (rI .i64) (0 : Int))⟩, ⟨some 21, ov (S rB v_17)⟩, ⟨some 22, ov (S rB v_17)⟩, ⟨some 23, bif (!v_17) then ov (S (rI .i64) (0 : Int)) else .one .und⟩, ⟨some 24, ov (PTR gb_7 0)⟩, ⟨some 25, ov (PTR gb_7 0)⟩, ⟨some 26, ov (PTR gb_7 (0 + 0))⟩, ⟨some 27, ov (HDR none 0 0 0)⟩, ⟨some 28, ov (S (rI .i64) (0 : Int))⟩, ⟨some 29, ov (S rB true)⟩, ⟨some 30, ov (S rB true)⟩, ⟨some 31, ov (S rB true)⟩, ⟨some 32, .one .und⟩, ⟨some 33, .one .und⟩, ⟨some 34, .one .und⟩, ⟨some 35, .one .und⟩, ⟨some 36, .one .und⟩, ⟨some 37, .one .und⟩, ⟨some 38, .one .und⟩, ⟨some 39, .one .und⟩, ⟨some 40, .one .und⟩, ⟨some 41, .one .und⟩, ⟨some 42, ov (S rB true)⟩])
             (rs := fun γ => [⟨cLK L K (.loop { lp with state := .busy }), none, none, []⟩, ⟨cvar gb_8 (rW (PTR gb_7 0)) (), none, none, [5]⟩, ⟨cvar gb_7 (rP (rW (HDR none 0 0 0)) (rP (rI .i64) (rP (rI .i64) r0))) ((), (Ends_5, (Lost_6, ()))), none, none, [8]⟩, ⟨cvar gb_9 (rI .i64) a_1, none, none, []⟩, ⟨cvar gb_10 rB false, none, none, []⟩, ⟨cvar gb_11 (rI .i64) (0 : Int), none, none, [1, 4]⟩, ⟨cvar gb_4 (rP (rW (MPV none)) (rP (rI .i64) (rP (rI .i64) r0))) ((), (ends_2, (lost_3, ()))), none, none, []⟩, ⟨cvar gb_16 r_api_Flight a_15, none, none, []⟩])
             (ds := [19, 20, 21, 22, 23, 24, 25, 26, 27, 28, 29, 30, 31, 32, 33, 34, 35, 36, 37, 38, 39, 40, 41, 42]) (bs := [4, 5, 6, 7, 9, 10]) (afts := [[], [], [], [], [], [], [], [], [], [], [], [], [], [], [], [], [], [], [], [], [], [], [], []]) (js := [0, 0, 0, 0, 0, 0, 0, 0]) mixed (.cons rfl (.cons rfl (.cons rfl (.cons rfl (.cons rfl (.cons rfl .nil)))))) (fun _ => rfl)
             (by
      refine dS 1 (fun γ ρ B hb hd => op_move lb (.tmp (hb 9 _ rfl))) ?_
      refine DSteps.cons (j := 2) rfl (fun _ => rfl) (.run (fun γ ρ B hb hd => ⟨.none, OpStep.at ⟨ρ, (cvar gb_11 (rI .i64) (0 : Int)) :: B, _⟩ (setO ⟨ρ, (cvar gb_11 (rI .i64) (0 : Int)) :: B, _⟩ _ _) (op_loadS (j := 0) lb tS3 (.tmp (hb 7 _ rfl)) rfl (Comp.self (rI .i64) (0 : Int)) rfl rfl)⟩)) ?_
      refine dS 3 (fun γ ρ B hb hd => op_cmpI lb (.tmp (hl hd 0 19 rfl)) (.tmp (hl hd 1 20 rfl)) (congrArg some hv_v_17)) ?_
      refine dS 4 (fun γ ρ B hb hd => op_move lb (.tmp (hl hd 2 21 rfl))) ?_
      refine DSteps.cons (j := 5) rfl (fun _ => rfl) (.cnd (q := (!v_17)) (sv := fun γ => ov (S (rI .i64) (0 : Int))) (fun _ => rfl) (fun _ => rfl) (fun d h => by cases h; exact ltB rfl) (fun _ => rfl) (fun γ ρ B hb hd => ⟨(Guard.isF (ltB rfl) rfl (hl hd 3 22 rfl)), fun hq_4 => OpStep.at ⟨ρ, (cvar gb_11 (rI .i64) (0 : Int)) :: B, _⟩ (setO ⟨ρ, (cvar gb_11 (rI .i64) (0 : Int)) :: B, _⟩ _ _) (op_loadS (j := 0) lb tS3 (.tmp (hb 7 _ rfl)) rfl (Comp.self (rI .i64) (0 : Int)) rfl rfl)⟩)) ?_
      refine DSteps.cons (j := 6) rfl (fun _ => rfl) (.run (fun γ ρ B hb hd => ⟨.yes rfl (ltB rfl) (hl hd 3 22 rfl) hc6, OpStep.at ⟨ρ, (cvar gb_8 (rW (PTR gb_7 0)) ()) :: B, _⟩ (setO ⟨ρ, (cvar gb_8 (rW (PTR gb_7 0)) ()) :: B, _⟩ _ _) (op_loadW (j := 0) lb tS41 (.tmp (hb 4 _ rfl)) rfl (Comp.self (rW (PTR gb_7 0)) ()))⟩)) ?_
      refine DSteps.cons (j := 7) rfl (fun _ => rfl) (.run (fun γ ρ B hb hd => ⟨.yes rfl (ltB rfl) (hl hd 3 22 rfl) hc6, OpStep.at ⟨ρ, B, _⟩ (setO ⟨ρ, B, _⟩ _ _) (op_nilCheck lb (.tmp (hl hd 5 24 rfl)) (fun e v h => by subst h; rfl))⟩)) ?_
      refine DSteps.cons (j := 8) rfl (fun _ => rfl) (.run (fun γ ρ B hb hd => ⟨.yes rfl (ltB rfl) (hl hd 3 22 rfl) hc6, OpStep.at ⟨ρ, B, _⟩ (setO ⟨ρ, B, _⟩ _ _) (op_fieldAddr (off := 0) lb tf43_0 (.tmp (hl hd 6 25 rfl)))⟩)) ?_
      refine DSteps.cons (j := 9) rfl (fun _ => rfl) (.run (fun γ ρ B hb hd => ⟨.yes rfl (ltB rfl) (hl hd 3 22 rfl) hc6, OpStep.at ⟨ρ, (cvar gb_7 (rP (rW (HDR none 0 0 0)) (rP (rI .i64) (rP (rI .i64) r0))) ((), (Ends_5, (Lost_6, ())))) :: B, _⟩ (setO ⟨ρ, (cvar gb_7 (rP (rW (HDR none 0 0 0)) (rP (rI .i64) (rP (rI .i64) r0))) ((), (Ends_5, (Lost_6, ())))) :: B, _⟩ _ _) (op_loadW (j := 0) lb tS30 (.tmp (hl hd 7 26 rfl)) rfl (Comp.trans (Comp.self (rP (rW (HDR none 0 0 0)) (rP (rI .i64) (rP (rI .i64) r0))) ((), (Ends_5, (Lost_6, ())))) (Comp.at' (Comp.inF (Comp.self (rW (HDR none 0 0 0)) ()) (Nat.le_of_ble_eq_true rfl)) (by rfl : _ = 0)) (Nat.le_of_ble_eq_true rfl)))⟩)) ?_
      refine DSteps.cons (j := 10) rfl (fun _ => rfl) (.run (fun γ ρ B hb hd => ⟨.yes rfl (ltB rfl) (hl hd 3 22 rfl) hc6, OpStep.at ⟨ρ, B, _⟩ (setO ⟨ρ, B, _⟩ _ _) (op_lenH lb tu30 (.tmp (hl hd 8 27 rfl)))⟩)) ?_
      refine DSteps.cons (j := 11) rfl (fun _ => rfl) (.run (fun γ ρ B hb hd => ⟨.yes rfl (ltB rfl) (hl hd 3 22 rfl) hc6, OpStep.at ⟨ρ, B, _⟩ (setO ⟨ρ, B, _⟩ _ _) (op_cmpI lb (HasO.cnd (.tmp (hl hd 4 23 rfl)) (notT hc6)) (.tmp (hl hd 9 28 rfl)) (congrArg some (by decide : decide ((0 : Int) ≥ (0 : Int)) = true)))⟩)) ?_
      refine dS 12 (fun γ ρ B hb hd => op_pickF lb (.tmp (hl hd 3 22 rfl)) hc6 (.tmp (hl hd 10 29 rfl))) ?_
      refine dS 13 (fun γ ρ B hb hd => op_move lb (.tmp (hl hd 11 30 rfl))) ?_
      refine DSteps.cons (j := 14) rfl (fun _ => rfl) (.skip (fun γ ρ B hb hd => ⟨.no rfl (ltB rfl) (hl hd 12 31 rfl) rfl, rfl, rfl, rfl, fun d h => by cases h; exact ltB rfl⟩)) ?_
      refine DSteps.cons (j := 15) rfl (fun _ => rfl) (.skip (fun γ ρ B hb hd => ⟨.no rfl (ltB rfl) (hl hd 12 31 rfl) rfl, rfl, rfl, rfl, fun d h => by cases h; exact ltB rfl⟩)) ?_
      refine DSteps.cons (j := 16) rfl (fun _ => rfl) (.skip (fun γ ρ B hb hd => ⟨.no rfl (ltB rfl) (hl hd 12 31 rfl) rfl, rfl, rfl, rfl, fun d h => by cases h; exact ltB rfl⟩)) ?_
      refine DSteps.cons (j := 17) rfl (fun _ => rfl) (.skip (fun γ ρ B hb hd => ⟨.no rfl (ltB rfl) (hl hd 12 31 rfl) rfl, rfl, rfl, rfl, fun d h => by cases h; exact ltB rfl⟩)) ?_
      refine DSteps.cons (j := 18) rfl (fun _ => rfl) (.skip (fun γ ρ B hb hd => ⟨.no rfl (ltB rfl) (hl hd 12 31 rfl) rfl, rfl, rfl, rfl, fun d h => by cases h; exact ltB rfl⟩)) ?_
      refine DSteps.cons (j := 19) rfl (fun _ => rfl) (.skip (fun γ ρ B hb hd => ⟨.no rfl (ltB rfl) (hl hd 12 31 rfl) rfl, rfl, rfl, rfl, fun d h => by cases h; exact ltB rfl⟩)) ?_
      refine DSteps.cons (j := 20) rfl (fun _ => rfl) (.skip (fun γ ρ B hb hd => ⟨.no rfl (ltB rfl) (hl hd 12 31 rfl) rfl, rfl, rfl, rfl, fun d h => by cases h; exact ltB rfl⟩)) ?_
      refine DSteps.cons (j := 21) rfl (fun _ => rfl) (.skip (fun γ ρ B hb hd => ⟨.no rfl (ltB rfl) (hl hd 12 31 rfl) rfl, rfl, rfl, rfl, fun d h => by cases h; exact ltB rfl⟩)) ?_
      refine DSteps.cons (j := 22) rfl (fun _ => rfl) (.skip (fun γ ρ B hb hd => ⟨.no rfl (ltB rfl) (hl hd 12 31 rfl) rfl, rfl, rfl, rfl, fun d h => by cases h; exact ltB rfl⟩)) ?_
      refine DSteps.cons (j := 23) rfl (fun _ => rfl) (.skip (fun γ ρ B hb hd => ⟨.no rfl (ltB rfl) (hl hd 12 31 rfl) rfl, rfl, rfl, rfl, fun d h => by cases h; exact ltB rfl⟩)) ?_
      refine dS 24 (fun γ ρ B hb hd => op_pickT lb (.tmp (hl hd 12 31 rfl)) rfl .cB) ?_
      exact DSteps.nil)
             (by decide +kernel) (fun _ => rfl) rfl (fun _ => rfl) (fun _ => rfl) rfl (by decide) (by decide) (by decide +kernel) (fun _ d h => by cases h)
             (ρ' := fun γ => [(5, ov (PTR gb_9 0)), (6, ov (PTR gb_10 0)), (7, ov (PTR gb_11 0)), (10, ov (PTR gb_16 0)), (42, ov (S rB true))])
             (X' := fun γ => [cLK L K (.loop { lp with state := .busy }), cvar gb_8 (rW (PTR gb_7 0)) (), cvar gb_7 (rP (rW (HDR none 0 0 0)) (rP (rI .i64) (rP (rI .i64) r0))) ((), (Ends_5, (Lost_6, ()))), cvar gb_9 (rI .i64) a_1, cvar gb_10 rB false, cvar gb_11 (rI .i64) (0 : Int), cvar gb_4 (rP (rW (MPV none)) (rP (rI .i64) (rP (rI .i64) r0))) ((), (ends_2, (lost_3, ()))), cvar gb_16 r_api_Flight a_15])
             (fun γ ρ hb hd => (.cons (hb 5 _ rfl (by decide)) (.cons (hb 6 _ rfl (by decide)) (.cons (hb 7 _ rfl (by decide)) (.cons (hb 10 _ rfl (by decide)) (.cons (hdq hd 23 42 rfl) .nil)))))) (fun _ => rfl) (fun γ => ?_)
         refine JQ.at ⟨[(5, ov (PTR gb_9 0)), (6, ov (PTR gb_10 0)), (7, ov (PTR gb_11 0)), (10, ov (PTR gb_16 0)), (42, ov (S rB true))], [cLK L K (.loop { lp with state := .busy }), cvar gb_8 (rW (PTR gb_7 0)) (), cvar gb_7 (rP (rW (HDR none 0 0 0)) (rP (rI .i64) (rP (rI .i64) r0))) ((), (Ends_5, (Lost_6, ()))), cvar gb_9 (rI .i64) a_1, cvar gb_10 rB false, cvar gb_11 (rI .i64) (0 : Int), cvar gb_4 (rP (rW (MPV none)) (rP (rI .i64) (rP (rI .i64) r0))) ((), (ends_2, (lost_3, ()))), cvar gb_16 r_api_Flight a_15], []⟩ ?_
         exact JQ.join () (Imp.norm (js := [3, 3, 3, 4, 3, 2, 1, 0]) rfl (.cons rfl (.cons rfl (.cons rfl (.cons rfl (.cons rfl .nil))))))
   · intro s gK_18 gq0 hr
     obtain ⟨gq2, hgq⟩ : ∃ z, z = gq0 := ⟨_, rfl⟩
     subst hr
     dsimp only at hx1
     simp only [← hgq]
     refine JQ.pre (st' := ⟨[(4, ov (PTR gb_8 0)), (5, ov (PTR gb_9 0)), (6, ov (PTR gb_10 0)), (7, ov (PTR gb_11 0))], [cdef gK_18, cvar gb_8 (rW (PTR gb_7 0)) (), cvar gb_7 (rP (rW (HDR none 0 0 0)) (rP (rI .i64) (rP (rI .i64) r0))) ((), (Ends_5, (Lost_6, ()))), cvar gb_9 (rI .i64) a_1, cvar gb_10 rB false, cvar gb_11 (rI .i64) (0 : Int), cvar gb_4 (rP (rW (MPV none)) (rP (rI .i64) (rP (rI .i64) r0))) ((), (ends_2, (lost_3, ())))], [gK_18]⟩) (Imp.norm (js := [0, 0, 0, 0, 0, 0, 0]) rfl (.cons rfl (.cons rfl (.cons rfl (.cons rfl .nil))))) ?_
     refine JQ.outNB ?_
     replace hx1 := Option.some.inj hx1
     first | subst hx1 | clear hx1
     exact JQ.joinK () gK_18 rfl (Imp.norm (js := [1, 1, 2, 2, 2, 0]) rfl (.cons rfl (.cons rfl (.cons rfl .nil))))
   · intro u gK_18 gq0 hr
     obtain ⟨gq2, hgq⟩ : ∃ z, z = gq0 := ⟨_, rfl⟩
     subst hr
     dsimp only at hx1
     simp only [← hgq]
     refine JC.pre (st' := ⟨[(6, ov (PTR gb_10 0))], [cdef gK_18, cvar gb_10 rB false, cvar gb_4 (rP (rW (MPV none)) (rP (rI .i64) (rP (rI .i64) r0))) ((), (ends_2, (lost_3, ()))), cvar gb_7 (rP (rW (HDR none 0 0 0)) (rP (rI .i64) (rP (rI .i64) r0))) ((), (Ends_5, (Lost_6, ()))), cvar gb_8 (rW (PTR gb_7 0)) (), cvar gb_9 (rI .i64) a_1, cvar gb_11 (rI .i64) (0 : Int)], [gK_18]⟩) (Imp.norm (js := [0, 0, 0, 0, 0, 0, 0]) rfl (.cons rfl .nil)) ?_
     refine JC.ret ?_
     refine JQ.outRB ?_
     replace hx1 := Option.some.inj hx1
     first | subst hx1 | clear hx1
     dsimp only at hq1
     refine JQ.outR ?_
     replace hq1 := Option.some.inj hq1
     subst hq1
     exact JQ.done (js := [1, 1]) (ss := [.val (S rB false)]) () (.inl rfl) (.cons (j := 0) rfl rfl (.nil rfl)) rfl (.cons (.cellS (j := 0) tS4 rfl rfl rfl) .nil) rfl rfl rfl

theorem sim_net_Net_Len'3 (k : Nat) (ends_1 : Int) (lost_2 : Int) (gb_3 : Nat) (r : Unit) (hm : net_Net_Len'3 k ends_1 lost_2 = some r) : Sim Try.prog 16 [PTR gb_3 0] [cvar gb_3 (rP (rW (MPV none)) (rP (rI .i64) (rP (rI .i64) r0))) ((), (ends_1, (lost_2, ())))] (γ := Unit) (fun q => [cvar gb_3 (rP (rW (MPV none)) (rP (rI .i64) (rP (rI .i64) r0))) ((), (ends_1, (lost_2, ())))]) (fun q => .one (.val (S (rI .i64) (0 : Int)))) := by
 unfold net_Net_Len'3 at hm
 refine Sim.of Try.func16 rfl rfl (Nat.le_of_ble_eq_true rfl) (fun e0 w0 => ?_)
 refine JC.at ⟨[(0, ov (PTR gb_3 0))], [cvar gb_3 (rP (rW (MPV none)) (rP (rI .i64) (rP (rI .i64) r0))) ((), (ends_1, (lost_2, ())))], []⟩ ?_
 refine JC.seq ?_
 refine JC.region ?_
 refine jc (op_assign lb .cI) ?_
 refine JL.nil ?_
 refine JQ.then ?_
 refine JC.seq ?_
 refine JC.region ?_
 refine jc (op_assign lb .cI) ?_
 refine JL.nil ?_
 refine JQ.then ?_
 replace hm := bnd_inv hm
 obtain ⟨_, hx1, hq1⟩ := hm
 refine JC.seqJ (γ := Unit) (stj := fun q => ⟨[(3, ov (S (rI .i64) (0 : Int)))], [cvar gb_3 (rP (rW (MPV none)) (rP (rI .i64) (rP (rI .i64) r0))) ((), (ends_1, (lost_2, ())))], []⟩) (fun q => ?_) ?_
 · obtain _ := q
   refine JC.at ⟨[(3, ov (S (rI .i64) (0 : Int)))], [cvar gb_3 (rP (rW (MPV none)) (rP (rI .i64) (rP (rI .i64) r0))) ((), (ends_1, (lost_2, ())))], []⟩ ?_
   refine JC.seq ?_
   refine JC.region ?_
   refine jc (op_move lb (.tmp rfl)) ?_
   refine jc (op_assign lb (.tmp rfl)) ?_
   refine JL.nil ?_
   refine JQ.then ?_
   refine JC.ret ?_
   exact JQ.done (js := [0]) (ss := [.val (S (rI .i64) (0 : Int))]) () (.inl rfl) (.nil rfl) rfl (.cons (.tmp rfl) .nil) rfl rfl rfl
 · refine JC.seq ?_
   refine JC.region ?_
   refine jc (op_move lb (.tmp rfl)) ?_
   replace hx1 := bnd_inv hx1
   obtain ⟨_, hv_u_4, hx1⟩ := hx1
   refine jx (op_call (js := [0]) ld cl29 (sim_net_Net_there'3 k ends_1 lost_2 gb_3 () hv_u_4) .func (.cons (.tmp rfl) .nil) rfl) (fun _ => ?_)
   refine JL.nil ?_
   refine JQ.then ?_
   refine JC.condF (.tmp rfl) rfl ?_
   refine JC.skip ?_
   exact JQ.join () (Imp.norm (js := [0]) rfl (.cons rfl .nil))

theorem sim_net_Net_Line'3 (k : Nat) (from_1 : Int) (to_2 : Int) (ends_3 : Int) (lost_4 : Int) (gb_5 : Nat) (r : Unit) (hm : net_Net_Line'3 k from_1 to_2 ends_3 lost_4 = some r) : Sim Try.prog 19 [PTR gb_5 0, S (rI .i64) from_1, S (rI .i64) to_2] [cvar gb_5 (rP (rW (MPV none)) (rP (rI .i64) (rP (rI .i64) r0))) ((), (ends_3, (lost_4, ())))] (γ := Unit) (fun q => [cvar gb_5 (rP (rW (MPV none)) (rP (rI .i64) (rP (rI .i64) r0))) ((), (ends_3, (lost_4, ())))]) (fun q => .one (.val (S (rI .i64) (0 : Int)))) := by
 unfold net_Net_Line'3 at hm
 refine Sim.of Try.func19 rfl rfl (Nat.le_of_ble_eq_true rfl) (fun e0 w0 => ?_)
 refine JC.at ⟨[(0, ov (PTR gb_5 0)), (1, ov (S (rI .i64) from_1)), (2, ov (S (rI .i64) to_2))], [cvar gb_5 (rP (rW (MPV none)) (rP (rI .i64) (rP (rI .i64) r0))) ((), (ends_3, (lost_4, ())))], []⟩ ?_
 refine JC.seq ?_
 refine JC.region ?_
 refine jc (op_assign lb .cI) ?_
 refine JL.nil ?_
 refine JQ.then ?_
 refine JC.seq ?_
 refine JC.seq ?_
 refine JC.region ?_
 refine jc (op_move lb (.tmp rfl)) ?_
 replace hm := bnd_inv hm
 obtain ⟨_, hv_u_6, hm⟩ := hm
 refine jx (op_call (js := [0]) ld cl29 (sim_net_Net_there'3 k ends_3 lost_4 gb_5 () hv_u_6) .func (.cons (.tmp rfl) .nil) rfl) (fun _ => ?_)
 refine jc (op_not lb (.tmp rfl) rfl) ?_
 refine JL.nil ?_
 refine JQ.then ?_
 refine JC.condT (.tmp rfl) rfl ?_
 refine JC.seq ?_
 refine JC.region ?_
 refine jc (op_assign lb .cI) ?_
 refine JL.nil ?_
 refine JQ.then ?_
 refine JC.ret ?_
 refine JQ.outR ?_
 exact JQ.done (js := [0]) (ss := [.val (S (rI .i64) (0 : Int))]) () (.inl rfl) (.nil rfl) rfl (.cons (.tmp rfl) .nil) rfl rfl rfl

theorem sim_net_Net_Lost'3 (k : Nat) (ends_1 : Int) (lost_2 : Int) (gb_3 : Nat) (r : Unit) (hm : net_Net_Lost'3 k ends_1 lost_2 = some r) : Sim Try.prog 26 [PTR gb_3 0] [cvar gb_3 (rP (rW (MPV none)) (rP (rI .i64) (rP (rI .i64) r0))) ((), (ends_1, (lost_2, ())))] (γ := Unit) (fun q => [cvar gb_3 (rP (rW (MPV none)) (rP (rI .i64) (rP (rI .i64) r0))) ((), (ends_1, (lost_2, ())))]) (fun q => .one (.val (S (rI .i64) (0 : Int)))) := by
 unfold net_Net_Lost'3 at hm
 refine Sim.of Try.func26 rfl rfl (Nat.le_of_ble_eq_true rfl) (fun e0 w0 => ?_)
 refine JC.at ⟨[(0, ov (PTR gb_3 0))], [cvar gb_3 (rP (rW (MPV none)) (rP (rI .i64) (rP (rI .i64) r0))) ((), (ends_1, (lost_2, ())))], []⟩ ?_
 refine JC.seq ?_
 refine JC.region ?_
 refine jc (op_assign lb .cI) ?_
 refine JL.nil ?_
 refine JQ.then ?_
 refine JC.seq ?_
 refine JC.seq ?_
 refine JC.region ?_
 refine jc (op_move lb (.tmp rfl)) ?_
 replace hm := bnd_inv hm
 obtain ⟨_, hv_u_4, hm⟩ := hm
 refine jx (op_call (js := [0]) ld cl29 (sim_net_Net_there'3 k ends_1 lost_2 gb_3 () hv_u_4) .func (.cons (.tmp rfl) .nil) rfl) (fun _ => ?_)
 refine jc (op_not lb (.tmp rfl) rfl) ?_
 refine JL.nil ?_
 refine JQ.then ?_
 refine JC.condT (.tmp rfl) rfl ?_
 refine JC.seq ?_
 refine JC.region ?_
 refine jc (op_assign lb .cI) ?_
 refine JL.nil ?_
 refine JQ.then ?_
 refine JC.ret ?_
 refine JQ.outR ?_
 exact JQ.done (js := [0]) (ss := [.val (S (rI .i64) (0 : Int))]) () (.inl rfl) (.nil rfl) rfl (.cons (.tmp rfl) .nil) rfl rfl rfl

theorem sim_net_Net_Clear'3 (k : Nat) (end_1 : Int) (ends_2 : Int) (lost_3 : Int) (gb_4 : Nat) (r : Unit) (hm : net_Net_Clear'3 k end_1 ends_2 lost_3 = some r) : Sim Try.prog 20 [PTR gb_4 0, S (rI .i64) end_1] [cvar gb_4 (rP (rW (MPV none)) (rP (rI .i64) (rP (rI .i64) r0))) ((), (ends_2, (lost_3, ())))] (γ := Unit) (fun q => [cvar gb_4 (rP (rW (MPV none)) (rP (rI .i64) (rP (rI .i64) r0))) ((), (ends_2, (lost_3, ())))]) (fun q => .one (.val (S (rI .i64) (0 : Int)))) := by
 unfold net_Net_Clear'3 at hm
 refine Sim.of Try.func20 rfl rfl (Nat.le_of_ble_eq_true rfl) (fun e0 w0 => ?_)
 refine JC.at ⟨[(0, ov (PTR gb_4 0)), (1, ov (S (rI .i64) end_1))], [cvar gb_4 (rP (rW (MPV none)) (rP (rI .i64) (rP (rI .i64) r0))) ((), (ends_2, (lost_3, ())))], []⟩ ?_
 refine JC.seq ?_
 refine JC.region ?_
 refine jc (op_assign lb .cI) ?_
 refine JL.nil ?_
 refine JQ.then ?_
 refine JC.seq ?_
 refine JC.region ?_
 refine jc (op_assign lb .cI) ?_
 refine JL.nil ?_
 refine JQ.then ?_
 replace hm := bnd_inv hm
 obtain ⟨_, hx1, hq1⟩ := hm
 refine JC.seqJ (γ := Unit) (stj := fun q => ⟨[(5, ov (S (rI .i64) (0 : Int)))], [cvar gb_4 (rP (rW (MPV none)) (rP (rI .i64) (rP (rI .i64) r0))) ((), (ends_2, (lost_3, ())))], []⟩) (fun q => ?_) ?_
 · obtain _ := q
   refine JC.at ⟨[(5, ov (S (rI .i64) (0 : Int)))], [cvar gb_4 (rP (rW (MPV none)) (rP (rI .i64) (rP (rI .i64) r0))) ((), (ends_2, (lost_3, ())))], []⟩ ?_
   refine JC.seq ?_
   refine JC.region ?_
   refine jc (op_move lb (.tmp rfl)) ?_
   refine jc (op_assign lb (.tmp rfl)) ?_
   refine JL.nil ?_
   refine JQ.then ?_
   refine JC.ret ?_
   exact JQ.done (js := [0]) (ss := [.val (S (rI .i64) (0 : Int))]) () (.inl rfl) (.nil rfl) rfl (.cons (.tmp rfl) .nil) rfl rfl rfl
 · refine JC.seq ?_
   refine JC.region ?_
   refine jc (op_move lb (.tmp rfl)) ?_
   replace hx1 := bnd_inv hx1
   obtain ⟨_, hv_u_5, hx1⟩ := hx1
   refine jx (op_call (js := [0]) ld cl29 (sim_net_Net_there'3 k ends_2 lost_3 gb_4 () hv_u_5) .func (.cons (.tmp rfl) .nil) rfl) (fun _ => ?_)
   refine JL.nil ?_
   refine JQ.then ?_
   refine JC.condF (.tmp rfl) rfl ?_
   refine JC.skip ?_
   exact JQ.join () (Imp.norm (js := [0]) rfl (.cons rfl .nil))

end Go.Proofs.Ytnadeehdnmgebaa
