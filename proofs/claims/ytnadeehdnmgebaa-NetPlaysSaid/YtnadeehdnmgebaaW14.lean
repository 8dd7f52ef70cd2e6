/- Walks. -/
import Derived.Test.YtnadeehdnmgebaaT
import Derived.Test.YtnadeehdnmgebaaW10
import Derived.Test.YtnadeehdnmgebaaW8
import Derived.Test.YtnadeehdnmgebaaW9
namespace Go.Proofs.Ytnadeehdnmgebaa
open Go Fw
set_option linter.unusedVariables false
set_option maxRecDepth 100000
set_option maxHeartbeats 4000000

theorem sim_ref12_Net_Copy'2 (k : Nat) (Ends_1 : Int) (Lost_2 : Int) (x_4 : (List api_Flight)) (gb_3 : Nat) (go_5 : Option Nat) (gc_6 : Nat) (r : (List api_Flight)) (hm : ref12_Net_Copy'2 k Ends_1 Lost_2 x_4 = some r) : Sim Try.prog 24 [PTR gb_3 0] [cvar gb_3 (rP (rW (HDR go_5 0 (List.length x_4) gc_6)) (rP (rI .i64) (rP (rI .i64) r0))) ((), (Ends_1, (Lost_2, ()))), cown go_5 r_api_Flight x_4 0 gc_6] (γ := Nat × Option Nat × Nat) (fun q => [cvar q.1 (rP (rW (HDR q.2.1 0 (List.length r) q.2.2)) (rP (rI .i64) (rP (rI .i64) r0))) ((), (Ends_1, (Lost_2, ()))), cown q.2.1 r_api_Flight r 0 q.2.2, cvar gb_3 (rP (rW (HDR go_5 0 (List.length x_4) gc_6)) (rP (rI .i64) (rP (rI .i64) r0))) ((), (Ends_1, (Lost_2, ()))), cown go_5 r_api_Flight x_4 0 gc_6]) (fun q => .one (.val (PTR q.1 0))) := by
 unfold ref12_Net_Copy'2 at hm
 refine Sim.of Try.func24 rfl rfl (Nat.le_of_ble_eq_true rfl) (fun e0 w0 => ?_)
 refine JC.at ⟨[(0, ov (PTR gb_3 0))], [cvar gb_3 (rP (rW (HDR go_5 0 (List.length x_4) gc_6)) (rP (rI .i64) (rP (rI .i64) r0))) ((), (Ends_1, (Lost_2, ()))), cown go_5 r_api_Flight x_4 0 gc_6], []⟩ ?_
 refine JC.seq ?_
 refine JC.region ?_
 refine jc (op_assign lb (HasO.const (p := PTO none) fun _ => rfl)) ?_
 refine JL.nil ?_
 refine JQ.then ?_
 refine JC.seq ?_
 replace hm := bnd_inv hm
 obtain ⟨v_7, hv_v_7, hm⟩ := hm
 refine JC.anyE (kl := []) (kk := 0) (base := [(0, ov (PTR gb_3 0))])
     (fs := fun γ => [⟨some 3, ov (PTR gb_3 0)⟩, ⟨some 4, ov (PTR gb_3 0)⟩, ⟨some 5, ov (PTR gb_3 (0 + 0))⟩, ⟨some 6, ov (HDR go_5 0 (List.length x_4) gc_6)⟩, ⟨some 7, ov (HDR (deo (γ 4 0)) 0 (List.length v_7) (γ 4 1))⟩, ⟨some 8, ov (PTR gb_3 0)⟩, ⟨some 9, ov (PTR gb_3 0)⟩, ⟨some 10, ov (PTR gb_3 (0 + 1))⟩, ⟨some 11, ov (S (rI .i64) Ends_1)⟩, ⟨some 12, ov (PTR gb_3 0)⟩, ⟨some 13, ov (PTR gb_3 0)⟩, ⟨some 14, ov (PTR gb_3 (0 + 2))⟩, ⟨some 15, ov (S (rI .i64) Lost_2)⟩, ⟨some 16, ov (A (rP (rW (HDR (deo (γ 4 0)) 0 (List.length v_7) (γ 4 1))) (rP (rI .i64) (rP (rI .i64) r0))) ((), (Ends_1, (Lost_2, ()))))⟩, ⟨some 17, ov (PTR (γ 14 0) 0)⟩, ⟨some 2, ov (PTR (γ 14 0) 0)⟩])
     (rs := fun γ => [⟨cvar gb_3 (rP (rW (HDR go_5 0 (List.length x_4) gc_6)) (rP (rI .i64) (rP (rI .i64) r0))) ((), (Ends_1, (Lost_2, ()))), none, none, [3, 8, 12]⟩, ⟨cown go_5 r_api_Flight x_4 0 gc_6, none, none, [4]⟩, ⟨cown (deo (γ 4 0)) r_api_Flight v_7 0 (γ 4 1), (some 4), none, []⟩, ⟨cvar (γ 14 0) (rP (rW (HDR (deo (γ 4 0)) 0 (List.length v_7) (γ 4 1))) (rP (rI .i64) (rP (rI .i64) r0))) ((), (Ends_1, (Lost_2, ()))), (some 14), none, []⟩])
     (ds := [3, 4, 5, 6, 7, 8, 9, 10, 11, 12, 13, 14, 15, 16, 17, 2]) (bs := [0]) (afts := [[], [], [], [], [4, 13, 14, 15], [], [], [], [], [], [], [], [], [], [14, 15], []]) (js := [0, 0]) mixed (.cons rfl .nil) (fun _ => rfl)
     (by
      refine dS 1 (fun γ ρ B hb hd => op_move lb (.tmp (hb 0 _ rfl))) ?_
      refine dS 2 (fun γ ρ B hb hd => op_nilCheck lb (.tmp (hl hd 0 3 rfl)) (fun e v h => by subst h; rfl)) ?_
      refine dS 3 (fun γ ρ B hb hd => op_fieldAddr (off := 0) lb tf43_0 (.tmp (hl hd 1 4 rfl))) ?_
      refine DSteps.cons (j := 4) rfl (fun _ => rfl) (.run (fun γ ρ B hb hd => ⟨.none, OpStep.at ⟨ρ, (cvar gb_3 (rP (rW (HDR go_5 0 (List.length x_4) gc_6)) (rP (rI .i64) (rP (rI .i64) r0))) ((), (Ends_1, (Lost_2, ())))) :: B, _⟩ (setO ⟨ρ, (cvar gb_3 (rP (rW (HDR go_5 0 (List.length x_4) gc_6)) (rP (rI .i64) (rP (rI .i64) r0))) ((), (Ends_1, (Lost_2, ())))) :: B, _⟩ _ _) (op_loadW (j := 0) lb tS30 (.tmp (hl hd 2 5 rfl)) rfl (Comp.trans (Comp.self (rP (rW (HDR go_5 0 (List.length x_4) gc_6)) (rP (rI .i64) (rP (rI .i64) r0))) ((), (Ends_1, (Lost_2, ())))) (Comp.at' (Comp.inF (Comp.self (rW (HDR go_5 0 (List.length x_4) gc_6)) ()) (Nat.le_of_ble_eq_true rfl)) (by rfl : _ = 0)) (Nat.le_of_ble_eq_true rfl)))⟩)) ?_
      refine DSteps.cons (j := 5) rfl (fun _ => rfl) (.runX (fun _ _ => rfl) (fun γ ρ B hb hd => ⟨.none, OpX.ghost (γ := Option Nat × Nat) (st' := fun q => setO ⟨ρ, (cown q.1 r_api_Flight v_7 0 q.2) :: (cown go_5 r_api_Flight x_4 0 gc_6) :: B, _⟩ (some 7) (ov (HDR q.1 0 (List.length v_7) q.2))) (fun q c => bif Nat.beq c 0 then eno q.1 else q.2) (OpX.front (op_appendN (r := r_api_Flight) lb tu30 tu30 rfl tB36 rfl (Nat.lt_of_lt_of_le Nat.zero_lt_one (Nat.le_of_ble_eq_true rfl)) (Nat.lt_of_lt_of_le Nat.zero_lt_one (Nat.le_of_ble_eq_true rfl)) HasO.nilH (fun _ _ _ h => Src.own (j := 0) rfl h (.tmp (hl hd 3 6 rfl))) (apL_some hv_v_7))) (fun q => by obtain ⟨q0, q1⟩ := q; cases q0 <;> exact Imp.refl)⟩) (fun _ _ => rfl) (fun _ _ => rfl)) ?_
      refine dS 6 (fun γ ρ B hb hd => op_move lb (.tmp (hb 0 _ rfl))) ?_
      refine dS 7 (fun γ ρ B hb hd => op_nilCheck lb (.tmp (hl hd 5 8 rfl)) (fun e v h => by subst h; rfl)) ?_
      refine dS 8 (fun γ ρ B hb hd => op_fieldAddr (off := 1) lb tf43_1 (.tmp (hl hd 6 9 rfl))) ?_
      refine DSteps.cons (j := 9) rfl (fun _ => rfl) (.run (fun γ ρ B hb hd => ⟨.none, OpStep.at ⟨ρ, (cvar gb_3 (rP (rW (HDR go_5 0 (List.length x_4) gc_6)) (rP (rI .i64) (rP (rI .i64) r0))) ((), (Ends_1, (Lost_2, ())))) :: B, _⟩ (setO ⟨ρ, (cvar gb_3 (rP (rW (HDR go_5 0 (List.length x_4) gc_6)) (rP (rI .i64) (rP (rI .i64) r0))) ((), (Ends_1, (Lost_2, ())))) :: B, _⟩ _ _) (op_loadS (j := 0) lb tS3 (.tmp (hl hd 7 10 rfl)) rfl (Comp.trans (Comp.self (rP (rW (HDR go_5 0 (List.length x_4) gc_6)) (rP (rI .i64) (rP (rI .i64) r0))) ((), (Ends_1, (Lost_2, ())))) (Comp.at' (Comp.inS (Comp.inF (Comp.self (rI .i64) Ends_1) (Nat.le_of_ble_eq_true rfl))) (by rfl : _ = 1)) (Nat.le_of_ble_eq_true rfl)) rfl rfl)⟩)) ?_
      refine dS 10 (fun γ ρ B hb hd => op_move lb (.tmp (hb 0 _ rfl))) ?_
      refine dS 11 (fun γ ρ B hb hd => op_nilCheck lb (.tmp (hl hd 9 12 rfl)) (fun e v h => by subst h; rfl)) ?_
      refine dS 12 (fun γ ρ B hb hd => op_fieldAddr (off := 2) lb tf43_2 (.tmp (hl hd 10 13 rfl))) ?_
      refine DSteps.cons (j := 13) rfl (fun _ => rfl) (.run (fun γ ρ B hb hd => ⟨.none, OpStep.at ⟨ρ, (cvar gb_3 (rP (rW (HDR go_5 0 (List.length x_4) gc_6)) (rP (rI .i64) (rP (rI .i64) r0))) ((), (Ends_1, (Lost_2, ())))) :: B, _⟩ (setO ⟨ρ, (cvar gb_3 (rP (rW (HDR go_5 0 (List.length x_4) gc_6)) (rP (rI .i64) (rP (rI .i64) r0))) ((), (Ends_1, (Lost_2, ())))) :: B, _⟩ _ _) (op_loadS (j := 0) lb tS3 (.tmp (hl hd 11 14 rfl)) rfl (Comp.trans (Comp.self (rP (rW (HDR go_5 0 (List.length x_4) gc_6)) (rP (rI .i64) (rP (rI .i64) r0))) ((), (Ends_1, (Lost_2, ())))) (Comp.at' (Comp.inS (Comp.inS (Comp.inF (Comp.self (rI .i64) Lost_2) (Nat.le_of_ble_eq_true rfl)))) (by rfl : _ = 2)) (Nat.le_of_ble_eq_true rfl)) rfl rfl)⟩)) ?_
      refine dS 14 (fun γ ρ B hb hd => op_build lb tZ43 zr43 tp43 (.S (off := 0) (s := rW (HDR (deo (γ 4 0)) 0 (List.length v_7) (γ 4 1))) (u := ()) rfl (HasO.wk (q := S (rW (HDR (deo (γ 4 0)) 0 (List.length v_7) (γ 4 1))) ()) (.tmp (hl hd 4 7 rfl)) wkV) rfl ((UpdR.fst (UpdR.self (by rfl))).at (by rfl)) (.S (off := 1) rfl (.tmp (hl hd 8 11 rfl)) rfl ((UpdR.snd (UpdR.fst (UpdR.self (by rfl)))).at (by rfl)) (.S (off := 2) rfl (.tmp (hl hd 12 15 rfl)) rfl ((UpdR.snd (UpdR.snd (UpdR.fst (UpdR.self (by rfl))))).at (by rfl)) .nil))) rfl) ?_
      refine DSteps.cons (j := 15) rfl (fun _ => rfl) (.runX (fun _ _ => rfl) (fun γ ρ B hb hd => ⟨.none, OpX.ghost (γ := Nat) (st' := fun q => setO ⟨ρ, (cvar q (rP (rW (HDR (deo (γ 4 0)) 0 (List.length v_7) (γ 4 1))) (rP (rI .i64) (rP (rI .i64) r0))) ((), (Ends_1, (Lost_2, ())))) :: B, _⟩ (some 17) (ov (PTR q 0))) (fun q c => q) (OpX.front (op_boxA lb (.tmp (hl hd 13 16 rfl)))) (fun q => Imp.refl)⟩) (fun _ _ => rfl) (fun _ _ => rfl)) ?_
      refine dS 16 (fun γ ρ B hb hd => op_assign lb (.tmp (hl hd 14 17 rfl))) ?_
      exact DSteps.nil)
     (by decide +kernel) (fun _ => rfl) rfl (fun _ => rfl) (fun _ => rfl) rfl (by decide) (by decide) (by decide +kernel) (fun _ d h => by cases h)
     (ρ' := fun γ => [(2, ov (PTR (γ 14 0) 0))])
     (X' := fun γ => [cvar gb_3 (rP (rW (HDR go_5 0 (List.length x_4) gc_6)) (rP (rI .i64) (rP (rI .i64) r0))) ((), (Ends_1, (Lost_2, ()))), cown go_5 r_api_Flight x_4 0 gc_6, cown (deo (γ 4 0)) r_api_Flight v_7 0 (γ 4 1), cvar (γ 14 0) (rP (rW (HDR (deo (γ 4 0)) 0 (List.length v_7) (γ 4 1))) (rP (rI .i64) (rP (rI .i64) r0))) ((), (Ends_1, (Lost_2, ())))])
     (fun γ ρ hb hd => (.cons (hdq hd 15 2 rfl) .nil)) (fun _ => rfl) (fun γ => ?_)
 generalize (deo (γ 4 0)) = go_8
 generalize (γ 4 1) = gc_9
 generalize (γ 14 0) = gb_10
 clear γ
 refine JQ.at ⟨[(2, ov (PTR gb_10 0))], [cvar gb_3 (rP (rW (HDR go_5 0 (List.length x_4) gc_6)) (rP (rI .i64) (rP (rI .i64) r0))) ((), (Ends_1, (Lost_2, ()))), cown go_5 r_api_Flight x_4 0 gc_6, cown go_8 r_api_Flight v_7 0 gc_9, cvar gb_10 (rP (rW (HDR go_8 0 (List.length v_7) gc_9)) (rP (rI .i64) (rP (rI .i64) r0))) ((), (Ends_1, (Lost_2, ())))], []⟩ ?_
 refine JQ.then ?_
 refine JC.ret ?_
 replace hm := Option.some.inj hm
 subst hm
 refine JQ.pre (Imp.var (j := 3) (q := (rP (rW (HDR go_8 0 (List.length v_7) gc_9)) (rP (rI .i64) (rP (rI .i64) r0)))) (y := ((), (Ends_1, (Lost_2, ())))) rfl Wk.refl) ?_
 refine JQ.pre (Imp.var (j := 0) (q := (rP (rW (HDR go_5 0 (List.length x_4) gc_6)) (rP (rI .i64) (rP (rI .i64) r0)))) (y := ((), (Ends_1, (Lost_2, ())))) rfl Wk.refl) ?_
 exact JQ.done (js := [3, 2, 0, 0]) (ss := [.val (PTR gb_10 0)]) (gb_10, go_8, gc_9) (.inl rfl) (.nil rfl) rfl (.cons (.tmp rfl) .nil) rfl rfl rfl

theorem sim_ref12_Net_Take'2 (k : Nat) (place_1 : Int) (Ends_2 : Int) (Lost_3 : Int) (x_5 : (List api_Flight)) (gb_4 : Nat) (go_6 : Option Nat) (gc_7 : Nat) (r : api_Flight × Int × (List api_Flight)) (hm : ref12_Net_Take'2 k place_1 Ends_2 Lost_3 x_5 = some r) : Sim Try.prog 35 [PTR gb_4 0, S (rI .i64) place_1] [cvar gb_4 (rP (rW (HDR go_6 0 (List.length x_5) gc_7)) (rP (rI .i64) (rP (rI .i64) r0))) ((), (Ends_2, (Lost_3, ()))), cown go_6 r_api_Flight x_5 0 gc_7] (γ := Option Nat × Nat) (fun q => [cvar gb_4 (rP (rW (HDR q.1 0 (List.length r.2.2) q.2)) (rP (rI .i64) (rP (rI .i64) r0))) ((), (Ends_2, (Lost_3, ()))), cown q.1 r_api_Flight r.2.2 0 q.2]) (fun q => .tup [.val (A r_api_Flight r.1), .val (S (rI .i64) r.2.1)]) := by
 unfold ref12_Net_Take'2 at hm
 refine Sim.of Try.func35 rfl rfl (Nat.le_of_ble_eq_true rfl) (fun e0 w0 => ?_)
 refine JC.at ⟨[(0, ov (PTR gb_4 0)), (1, ov (S (rI .i64) place_1))], [cvar gb_4 (rP (rW (HDR go_6 0 (List.length x_5) gc_7)) (rP (rI .i64) (rP (rI .i64) r0))) ((), (Ends_2, (Lost_3, ()))), cown go_6 r_api_Flight x_5 0 gc_7], []⟩ ?_
 refine JC.seq ?_
 refine JC.region ?_
 refine jx (op_alloc lb tZ36 zr36) (fun q => ?_)
 obtain ⟨gb_8, hqq⟩ : ∃ z, z = q := ⟨_, rfl⟩
 subst hqq
 refine jc (op_assign lb .cI) ?_
 refine JL.nil ?_
 refine JQ.then ?_
 refine JC.seq ?_
 refine JC.region ?_
 refine jc (op_move lb (.tmp rfl)) ?_
 refine jc (op_move lb (.tmp rfl)) ?_
 replace hm := bnd_inv hm
 obtain ⟨⟨v_9, v_10⟩, hv_v_9, hm⟩ := hm
 refine jx (op_call (js := [0, 0]) ld cl38 (sim_ref12_Net_At'2 k place_1 Ends_2 Lost_3 x_5 gb_4 go_6 gc_7 (v_9, v_10) hv_v_9) .func (.cons (.tmp rfl) (.cons (.tmp rfl) .nil)) rfl) (fun _ => ?_)
 refine jc (op_move lb (.tmp rfl)) ?_
 refine jc (op_extract (i := 0) lb (.tmp rfl) rfl) ?_
 refine jc (op_extract (i := 1) lb (.tmp rfl) rfl) ?_
 refine JL.sub ⟨[(0, ov (PTR gb_4 0)), (1, ov (S (rI .i64) place_1)), (4, ov (PTR gb_8 0)), (12, ov (A r_api_Flight v_9)), (13, ov (S (rI .i64) v_10))], [cvar gb_4 (rP (rW (HDR go_6 0 (List.length x_5) gc_7)) (rP (rI .i64) (rP (rI .i64) r0))) ((), (Ends_2, (Lost_3, ()))), cown go_6 r_api_Flight x_5 0 gc_7, cvar gb_8 (rP (rI .i64) (rP (rI .i64) (rP (rW (HDR none 0 0 0)) r0))) ((0 : Int), ((0 : Int), ((), ())))], []⟩ (.cons rfl (.cons rfl (.cons rfl (.cons rfl (.cons rfl .nil))))) rfl rfl ?_
 refine jx (op_alloc lb tZ36 zr36) (fun q => ?_)
 obtain ⟨gb_11, hqq⟩ : ∃ z, z = q := ⟨_, rfl⟩
 subst hqq
 refine jc (op_storeA (j := 3) tA36 (.tmp rfl) (.tmp rfl) rfl (UpdR.self (by rfl)) rfl) ?_
 refine jc (op_assign lb (.tmp rfl)) ?_
 refine JL.nil ?_
 refine JQ.then ?_
 replace hm := bnd_inv hm
 obtain ⟨x_22, hx1, hq1⟩ := hm
 refine JC.seqJ (γ := Option Nat × Nat) (stj := fun q => ⟨[(4, ov (PTR gb_8 0)), (6, ov (PTR gb_11 0)), (7, ov (S (rI .i64) v_10))], [cvar gb_8 (rP (rI .i64) (rP (rI .i64) (rP (rW (HDR none 0 0 0)) r0))) ((0 : Int), ((0 : Int), ((), ()))), cvar gb_11 r_api_Flight v_9, cvar gb_4 (rP (rW (HDR q.1 0 (List.length x_22) q.2)) (rP (rI .i64) (rP (rI .i64) r0))) ((), (Ends_2, (Lost_3, ()))), cown q.1 r_api_Flight x_22 0 q.2], []⟩) (fun q => ?_) ?_
 · obtain ⟨go_23, gc_24⟩ := q
   refine JC.at ⟨[(4, ov (PTR gb_8 0)), (6, ov (PTR gb_11 0)), (7, ov (S (rI .i64) v_10))], [cvar gb_8 (rP (rI .i64) (rP (rI .i64) (rP (rW (HDR none 0 0 0)) r0))) ((0 : Int), ((0 : Int), ((), ()))), cvar gb_11 r_api_Flight v_9, cvar gb_4 (rP (rW (HDR go_23 0 (List.length x_22) gc_24)) (rP (rI .i64) (rP (rI .i64) r0))) ((), (Ends_2, (Lost_3, ()))), cown go_23 r_api_Flight x_22 0 gc_24], []⟩ ?_
   refine JC.seq ?_
   refine JC.region ?_
   refine jc (op_loadA (j := 1) lb tA36 (.tmp rfl) rfl (Comp.self r_api_Flight v_9) rfl) ?_
   refine jc (op_move lb (.tmp rfl)) ?_
   refine jc (op_storeA (j := 0) tA36 (.tmp rfl) (.tmp rfl) rfl (UpdR.self (by rfl)) rfl) ?_
   refine jc (op_assign lb (.tmp rfl)) ?_
   refine JL.nil ?_
   refine JQ.then ?_
   refine JC.ret ?_
   replace hq1 := Option.some.inj hq1
   subst hq1
   exact JQ.done (js := [2, 2]) (ss := [.val (A r_api_Flight v_9), .val (S (rI .i64) v_10)]) (go_23, gc_24) (.inl rfl) (.nil rfl) rfl (.cons (.cellA (j := 0) tA36 rfl rfl) (.cons (.tmp rfl) .nil)) rfl rfl rfl
 · refine JC.seq ?_
   refine JC.region ?_
   refine jc (op_move lb (.tmp rfl)) ?_
   replace hx1 := lt1_inv hx1
   obtain ⟨v_12, hv_v_12, hx1⟩ := hx1
   refine jc (op_cmpI lb (.tmp rfl) .cI (congrArg some hv_v_12)) ?_
   refine JL.nil ?_
   refine JQ.then ?_
   replace hx1 := iteB_inv hx1
   rcases hx1 with ⟨hc2, hx1⟩ | ⟨hc2, hx1⟩
   · refine JC.condT (.tmp rfl) hc2 ?_
     refine JC.pre (Imp.frz (j := 1) rfl (ImpK.var (j := 0) (q := (rP (rW (HL go_6 r_api_Flight x_5 gc_7)) (rP (rI .i64) (rP (rI .i64) r0)))) (y := ((), (Ends_2, (Lost_3, ())))) rfl (Wk.pair Wk.own (Wk.pair Wk.refl (Wk.pair Wk.refl Wk.refl))) ImpK.refl)) ?_
     replace hx1 := bnd_inv hx1
     obtain ⟨v_13, hv_v_13, hx1⟩ := hx1
     replace hx1 := bnd_inv hx1
     obtain ⟨v_14, hv_v_14, hx1⟩ := hx1
     replace hx1 := lt1_inv hx1
     obtain ⟨v_17, hv_v_17, hx1⟩ := hx1
     replace hx1 := bnd_inv hx1
     obtain ⟨v_18, hv_v_18, hx1⟩ := hx1
     replace hx1 := bnd_inv hx1
     obtain ⟨x_19, hv_x_19, hx1⟩ := hx1
     refine JC.anyE (kl := []) (kk := 0) (base := [(0, ov (PTR gb_4 0)), (1, ov (S (rI .i64) place_1)), (4, ov (PTR gb_8 0)), (6, ov (PTR gb_11 0)), (7, ov (S (rI .i64) v_10))])
         (fs := fun γ => [⟨some 16, ov (PTR gb_4 0)⟩, ⟨some 17, ov (PTR gb_4 0)⟩, ⟨some 18, ov (PTR gb_4 0)⟩, ⟨some 19, ov (PTR gb_4 (0 + 0))⟩, ⟨some 20, ov (HL go_6 r_api_Flight x_5 gc_7)⟩, ⟨some 21, ov (S (rI .i64) place_1)⟩, ⟨some 22, ov (S (rL r_api_Flight) v_13)⟩, ⟨some 23, ov (HDR (deo (γ 7 0)) 0 (List.length v_14) (γ 7 1))⟩, ⟨some 24, ov (PTR gb_4 0)⟩, ⟨some 25, ov (PTR gb_4 0)⟩, ⟨some 26, ov (PTR gb_4 (0 + 0))⟩, ⟨some 27, ov (HL go_6 r_api_Flight x_5 gc_7)⟩, ⟨some 28, ov (S (rI .i64) place_1)⟩, ⟨some 29, ov (S (rI .i64) v_17)⟩, ⟨some 30, ov (S (rL r_api_Flight) v_18)⟩, ⟨some 31, ov (HDR (deo (γ 15 0)) 0 (List.length x_19) (γ 15 1))⟩, ⟨some 32, ov (PTR gb_4 0)⟩, ⟨some 33, ov (PTR gb_4 (0 + 0))⟩, ⟨none, .one .any⟩])
         (rs := fun γ => [⟨cvar gb_4 (rP (rW (HL go_6 r_api_Flight x_5 gc_7)) (rP (rI .i64) (rP (rI .i64) r0))) ((), (Ends_2, (Lost_3, ()))), none, (some 18), [4, 11]⟩, ⟨cown go_6 r_api_Flight x_5 (List.length x_5) gc_7, none, none, []⟩, ⟨cvar gb_8 (rP (rI .i64) (rP (rI .i64) (rP (rW (HDR none 0 0 0)) r0))) ((0 : Int), ((0 : Int), ((), ()))), none, none, []⟩, ⟨cvar gb_11 r_api_Flight v_9, none, none, []⟩, ⟨cown (deo (γ 7 0)) r_api_Flight v_14 0 (γ 7 1), (some 7), (some 15), []⟩, ⟨cown (deo (γ 15 0)) r_api_Flight x_19 0 (γ 15 1), (some 15), none, []⟩, ⟨cvar gb_4 (rP (rW (HDR (deo (γ 15 0)) 0 (List.length x_19) (γ 15 1))) (rP (rI .i64) (rP (rI .i64) r0))) ((), (Ends_2, (Lost_3, ()))), (some 18), none, []⟩])
         (ds := [16, 17, 18, 19, 20, 21, 22, 23, 24, 25, 26, 27, 28, 29, 30, 31, 32, 33]) (bs := [0, 1, 4, 6, 7]) (afts := [[], [], [], [], [], [], [], [7, 15, 16, 17, 18], [], [], [], [], [], [], [], [15, 16, 17, 18], [], [], []]) (js := [0, 0, 0, 0]) mixed (.cons rfl (.cons rfl (.cons rfl (.cons rfl (.cons rfl .nil))))) (fun _ => rfl)
         (by
      refine dS 1 (fun γ ρ B hb hd => op_move lb (.tmp (hb 0 _ rfl))) ?_
      refine dS 2 (fun γ ρ B hb hd => op_move lb (.tmp (hb 0 _ rfl))) ?_
      refine dS 3 (fun γ ρ B hb hd => op_nilCheck lb (.tmp (hl hd 1 17 rfl)) (fun e v h => by subst h; rfl)) ?_
      refine dS 4 (fun γ ρ B hb hd => op_fieldAddr (off := 0) lb tf43_0 (.tmp (hl hd 2 18 rfl))) ?_
      refine DSteps.cons (j := 5) rfl (fun _ => rfl) (.run (fun γ ρ B hb hd => ⟨.none, OpStep.at ⟨ρ, (cvar gb_4 (rP (rW (HL go_6 r_api_Flight x_5 gc_7)) (rP (rI .i64) (rP (rI .i64) r0))) ((), (Ends_2, (Lost_3, ())))) :: B, _⟩ (setO ⟨ρ, (cvar gb_4 (rP (rW (HL go_6 r_api_Flight x_5 gc_7)) (rP (rI .i64) (rP (rI .i64) r0))) ((), (Ends_2, (Lost_3, ())))) :: B, _⟩ _ _) (op_loadW (j := 0) lb tS30 (.tmp (hl hd 3 19 rfl)) rfl (Comp.trans (Comp.self (rP (rW (HL go_6 r_api_Flight x_5 gc_7)) (rP (rI .i64) (rP (rI .i64) r0))) ((), (Ends_2, (Lost_3, ())))) (Comp.at' (Comp.inF (Comp.self (rW (HL go_6 r_api_Flight x_5 gc_7)) ()) (Nat.le_of_ble_eq_true rfl)) (by rfl : _ = 0)) (Nat.le_of_ble_eq_true rfl)))⟩)) ?_
      refine dS 6 (fun γ ρ B hb hd => op_move lb (.tmp (hb 1 _ rfl))) ?_
      refine dS 7 (fun γ ρ B hb hd => op_sliceLg lb tu30 tz36 (HasO.wk (.tmp (hl hd 4 20 rfl)) wkHL) .none (.some (.tmp (hl hd 5 21 rfl))) hv_v_13) ?_
      refine DSteps.cons (j := 8) rfl (fun _ => rfl) (.runX (fun _ _ => rfl) (fun γ ρ B hb hd => ⟨.none, OpX.ghost (γ := Option Nat × Nat) (st' := fun q => setO ⟨ρ, (cown q.1 r_api_Flight v_14 0 q.2) :: B, _⟩ (some 23) (ov (HDR q.1 0 (List.length v_14) q.2))) (fun q c => bif Nat.beq c 0 then eno q.1 else q.2) (OpX.front (op_appendN (r := r_api_Flight) lb tu30 tu30 rfl tB36 rfl (Nat.lt_of_lt_of_le Nat.zero_lt_one (Nat.le_of_ble_eq_true rfl)) (Nat.lt_of_lt_of_le Nat.zero_lt_one (Nat.le_of_ble_eq_true rfl)) HasO.nilH (fun _ _ _ h => Src.list h (.tmp (hl hd 6 22 rfl))) (apL_some hv_v_14))) (fun q => by obtain ⟨q0, q1⟩ := q; cases q0 <;> exact Imp.refl)⟩) (fun _ _ => rfl) (fun _ _ => rfl)) ?_
      refine dS 9 (fun γ ρ B hb hd => op_move lb (.tmp (hb 0 _ rfl))) ?_
      refine dS 10 (fun γ ρ B hb hd => op_nilCheck lb (.tmp (hl hd 8 24 rfl)) (fun e v h => by subst h; rfl)) ?_
      refine dS 11 (fun γ ρ B hb hd => op_fieldAddr (off := 0) lb tf43_0 (.tmp (hl hd 9 25 rfl))) ?_
      refine DSteps.cons (j := 12) rfl (fun _ => rfl) (.run (fun γ ρ B hb hd => ⟨.none, OpStep.at ⟨ρ, (cvar gb_4 (rP (rW (HL go_6 r_api_Flight x_5 gc_7)) (rP (rI .i64) (rP (rI .i64) r0))) ((), (Ends_2, (Lost_3, ())))) :: B, _⟩ (setO ⟨ρ, (cvar gb_4 (rP (rW (HL go_6 r_api_Flight x_5 gc_7)) (rP (rI .i64) (rP (rI .i64) r0))) ((), (Ends_2, (Lost_3, ())))) :: B, _⟩ _ _) (op_loadW (j := 0) lb tS30 (.tmp (hl hd 10 26 rfl)) rfl (Comp.trans (Comp.self (rP (rW (HL go_6 r_api_Flight x_5 gc_7)) (rP (rI .i64) (rP (rI .i64) r0))) ((), (Ends_2, (Lost_3, ())))) (Comp.at' (Comp.inF (Comp.self (rW (HL go_6 r_api_Flight x_5 gc_7)) ()) (Nat.le_of_ble_eq_true rfl)) (by rfl : _ = 0)) (Nat.le_of_ble_eq_true rfl)))⟩)) ?_
      refine dS 13 (fun γ ρ B hb hd => op_move lb (.tmp (hb 1 _ rfl))) ?_
      refine dS 14 (fun γ ρ B hb hd => op_arI lb (.tmp (hl hd 12 28 rfl)) .cI (congrArg some hv_v_17)) ?_
      refine dS 15 (fun γ ρ B hb hd => op_sliceLg lb tu30 tz36 (HasO.wk (.tmp (hl hd 11 27 rfl)) wkHL) (.some (.tmp (hl hd 13 29 rfl))) .none hv_v_18) ?_
      refine DSteps.cons (j := 16) rfl (fun _ => rfl) (.runX (fun _ _ => rfl) (fun γ ρ B hb hd => ⟨.none, OpX.ghost (γ := Option Nat × Nat) (st' := fun q => setO ⟨ρ, (cown q.1 r_api_Flight x_19 0 q.2) :: B, _⟩ (some 31) (ov (HDR q.1 0 (List.length x_19) q.2))) (fun q c => bif Nat.beq c 0 then eno q.1 else q.2) (op_appendL (j := 0) lb tu30 tu30 rfl tB36 rfl (Nat.lt_of_lt_of_le Nat.zero_lt_one (Nat.le_of_ble_eq_true rfl)) (Nat.lt_of_lt_of_le Nat.zero_lt_one (Nat.le_of_ble_eq_true rfl))  rfl (.tmp (hl hd 7 23 rfl)) (.tmp (hl hd 14 30 rfl)) hv_x_19) (fun q => by obtain ⟨q0, q1⟩ := q; cases q0 <;> exact Imp.refl)⟩) (fun _ _ => rfl) (fun _ _ => rfl)) ?_
      refine dS 17 (fun γ ρ B hb hd => op_nilCheck lb (.tmp (hl hd 0 16 rfl)) (fun e v h => by subst h; rfl)) ?_
      refine dS 18 (fun γ ρ B hb hd => op_fieldAddr (off := 0) lb tf43_0 (.tmp (hl hd 16 32 rfl))) ?_
      refine DSteps.cons (j := 19) rfl (fun _ => rfl) (.run (fun γ ρ B hb hd => ⟨.none, OpStep.at ⟨ρ, (cvar gb_4 (rP (rW (HL go_6 r_api_Flight x_5 gc_7)) (rP (rI .i64) (rP (rI .i64) r0))) ((), (Ends_2, (Lost_3, ())))) :: B, _⟩ (setO ⟨ρ, (cvar gb_4 (rP (rW (HDR (deo (γ 15 0)) 0 (List.length x_19) (γ 15 1))) (rP (rI .i64) (rP (rI .i64) r0))) ((), (Ends_2, (Lost_3, ())))) :: B, _⟩ _ _) (op_storeW (j := 0) tS30 (.tmp (hl hd 17 33 rfl)) (.tmp (hl hd 15 31 rfl)) rfl ((UpdR.fst (UpdR.self (by rfl))).at (by change 0 = (0 + 0); omega)) rfl)⟩)) ?_
      exact DSteps.nil)
         (by decide +kernel) (fun _ => rfl) rfl (fun _ => rfl) (fun _ => rfl) rfl (by decide) (by decide) (by decide +kernel) (fun _ d h => by cases h)
         (ρ' := fun γ => [(4, ov (PTR gb_8 0)), (6, ov (PTR gb_11 0)), (7, ov (S (rI .i64) v_10))])
         (X' := fun γ => [cown go_6 r_api_Flight x_5 (List.length x_5) gc_7, cvar gb_8 (rP (rI .i64) (rP (rI .i64) (rP (rW (HDR none 0 0 0)) r0))) ((0 : Int), ((0 : Int), ((), ()))), cvar gb_11 r_api_Flight v_9, cown (deo (γ 15 0)) r_api_Flight x_19 0 (γ 15 1), cvar gb_4 (rP (rW (HDR (deo (γ 15 0)) 0 (List.length x_19) (γ 15 1))) (rP (rI .i64) (rP (rI .i64) r0))) ((), (Ends_2, (Lost_3, ())))])
         (fun γ ρ hb hd => (.cons (hb 4 _ rfl (by decide)) (.cons (hb 6 _ rfl (by decide)) (.cons (hb 7 _ rfl (by decide)) .nil)))) (fun _ => rfl) (fun γ => ?_)
     generalize (deo (γ 7 0)) = go_15
     generalize (γ 7 1) = gc_16
     generalize (deo (γ 15 0)) = go_20
     generalize (γ 15 1) = gc_21
     clear γ
     refine JQ.at ⟨[(4, ov (PTR gb_8 0)), (6, ov (PTR gb_11 0)), (7, ov (S (rI .i64) v_10))], [cown go_6 r_api_Flight x_5 (List.length x_5) gc_7, cvar gb_8 (rP (rI .i64) (rP (rI .i64) (rP (rW (HDR none 0 0 0)) r0))) ((0 : Int), ((0 : Int), ((), ()))), cvar gb_11 r_api_Flight v_9, cown go_20 r_api_Flight x_19 0 gc_21, cvar gb_4 (rP (rW (HDR go_20 0 (List.length x_19) gc_21)) (rP (rI .i64) (rP (rI .i64) r0))) ((), (Ends_2, (Lost_3, ())))], []⟩ ?_
     replace hx1 := Option.some.inj hx1
     first | subst hx1 | clear hx1
     exact JQ.join (go_20, gc_21) (Imp.norm (js := [1, 1, 2, 1]) rfl (.cons rfl (.cons rfl (.cons rfl .nil))))
   · refine JC.condF (.tmp rfl) hc2 ?_
     refine JC.skip ?_
     replace hx1 := Option.some.inj hx1
     first | subst hx1 | clear hx1
     exact JQ.join (go_6, gc_7) (Imp.norm (js := [2, 2, 0, 0]) rfl (.cons rfl (.cons rfl (.cons rfl .nil))))

theorem sim_ref12_Net_Double'2 (k : Nat) (place_1 : Int) (Ends_2 : Int) (Lost_3 : Int) (x_5 : (List api_Flight)) (gb_4 : Nat) (go_6 : Option Nat) (gc_7 : Nat) (r : Int × (List api_Flight)) (hm : ref12_Net_Double'2 k place_1 Ends_2 Lost_3 x_5 = some r) : Sim Try.prog 36 [PTR gb_4 0, S (rI .i64) place_1] [cvar gb_4 (rP (rW (HDR go_6 0 (List.length x_5) gc_7)) (rP (rI .i64) (rP (rI .i64) r0))) ((), (Ends_2, (Lost_3, ()))), cown go_6 r_api_Flight x_5 0 gc_7] (γ := Option Nat × Nat) (fun q => [cvar gb_4 (rP (rW (HDR q.1 0 (List.length r.2) q.2)) (rP (rI .i64) (rP (rI .i64) r0))) ((), (Ends_2, (Lost_3, ()))), cown q.1 r_api_Flight r.2 0 q.2]) (fun q => .one (.val (S (rI .i64) r.1))) := by
 unfold ref12_Net_Double'2 at hm
 refine Sim.of Try.func36 rfl rfl (Nat.le_of_ble_eq_true rfl) (fun e0 w0 => ?_)
 refine JC.at ⟨[(0, ov (PTR gb_4 0)), (1, ov (S (rI .i64) place_1))], [cvar gb_4 (rP (rW (HDR go_6 0 (List.length x_5) gc_7)) (rP (rI .i64) (rP (rI .i64) r0))) ((), (Ends_2, (Lost_3, ()))), cown go_6 r_api_Flight x_5 0 gc_7], []⟩ ?_
 refine JC.seq ?_
 refine JC.region ?_
 refine jc (op_assign lb .cI) ?_
 refine JL.nil ?_
 refine JQ.then ?_
 refine JC.seq ?_
 refine JC.region ?_
 refine jc (op_move lb (.tmp rfl)) ?_
 refine jc (op_move lb (.tmp rfl)) ?_
 replace hm := bnd_inv hm
 obtain ⟨⟨v_8, v_9⟩, hv_v_8, hm⟩ := hm
 refine jx (op_call (js := [0, 0]) ld cl38 (sim_ref12_Net_At'2 k place_1 Ends_2 Lost_3 x_5 gb_4 go_6 gc_7 (v_8, v_9) hv_v_8) .func (.cons (.tmp rfl) (.cons (.tmp rfl) .nil)) rfl) (fun _ => ?_)
 refine jc (op_move lb (.tmp rfl)) ?_
 refine jc (op_extract (i := 0) lb (.tmp rfl) rfl) ?_
 refine jc (op_extract (i := 1) lb (.tmp rfl) rfl) ?_
 refine jx (op_alloc lb tZ36 zr36) (fun q => ?_)
 obtain ⟨gb_10, hqq⟩ : ∃ z, z = q := ⟨_, rfl⟩
 subst hqq
 refine JL.sub ⟨[(0, ov (PTR gb_4 0)), (5, ov (PTR gb_10 0)), (11, ov (A r_api_Flight v_8)), (12, ov (S (rI .i64) v_9))], [cvar gb_4 (rP (rW (HDR go_6 0 (List.length x_5) gc_7)) (rP (rI .i64) (rP (rI .i64) r0))) ((), (Ends_2, (Lost_3, ()))), cown go_6 r_api_Flight x_5 0 gc_7, cvar gb_10 (rP (rI .i64) (rP (rI .i64) (rP (rW (HDR none 0 0 0)) r0))) ((0 : Int), ((0 : Int), ((), ())))], []⟩ (.cons rfl (.cons rfl (.cons rfl (.cons rfl .nil)))) rfl rfl ?_
 refine jc (op_storeA (j := 2) tA36 (.tmp rfl) (.tmp rfl) rfl (UpdR.self (by rfl)) rfl) ?_
 refine jc (op_assign lb (.tmp rfl)) ?_
 refine JL.nil ?_
 refine JQ.then ?_
 refine JC.seq ?_
 refine JC.seq ?_
 refine JC.region ?_
 refine jc (op_move lb (.tmp rfl)) ?_
 replace hm := lt1_inv hm
 obtain ⟨v_11, hv_v_11, hm⟩ := hm
 refine jc (op_cmpI lb (.tmp rfl) .cI (congrArg some hv_v_11)) ?_
 refine JL.nil ?_
 refine JQ.then ?_
 replace hm := iteB_inv hm
 rcases hm with ⟨hc1, hm⟩ | ⟨hc1, hm⟩
 · refine JC.condT (.tmp rfl) hc1 ?_
   refine JC.seq ?_
   refine JC.region ?_
   refine jc (op_move lb (.tmp rfl)) ?_
   refine jc (op_assign lb (.tmp rfl)) ?_
   refine JL.nil ?_
   refine JQ.then ?_
   refine JC.ret ?_
   refine JQ.outR ?_
   replace hm := Option.some.inj hm
   subst hm
   exact JQ.done (js := [0, 0]) (ss := [.val (S (rI .i64) v_9)]) (go_6, gc_7) (.inl rfl) (.nil rfl) rfl (.cons (.tmp rfl) .nil) rfl rfl rfl
 · refine JC.condF (.tmp rfl) hc1 ?_
   refine JC.skip ?_
   refine JQ.then ?_
   refine JC.seq ?_
   refine JC.seq ?_
   refine JC.region ?_
   refine jc (op_move lb (.tmp rfl)) ?_
   refine jc (op_fieldAddr (off := 0) lb tf36_0 (.tmp rfl)) ?_
   refine jc (op_loadS (j := 2) lb tS3 (.tmp rfl) rfl (Comp.trans (Comp.self r_api_Flight v_8) (comp_api_Flight_From v_8) (Nat.le_of_ble_eq_true rfl)) rfl rfl) ?_
   refine jc (op_fieldAddr (off := 1) lb tf36_1 (.tmp rfl)) ?_
   refine jc (op_loadS (j := 2) lb tS3 (.tmp rfl) rfl (Comp.trans (Comp.self r_api_Flight v_8) (comp_api_Flight_To v_8) (Nat.le_of_ble_eq_true rfl)) rfl rfl) ?_
   replace hm := bnd_inv hm
   obtain ⟨v_12, hv_v_12, hm⟩ := hm
   refine jx (op_call (js := [0, 0]) ld cl39 (sim_ref12_Net_Line'2 k v_8.From v_8.To Ends_2 Lost_3 x_5 gb_4 go_6 gc_7 v_12 hv_v_12) .func (.cons (.tmp rfl) (.cons (.tmp rfl) (.cons (.tmp rfl) .nil))) rfl) (fun _ => ?_)
   refine JL.sub ⟨[(0, ov (PTR gb_4 0)), (5, ov (PTR gb_10 0)), (21, ov (S (rI .i64) v_12))], [cvar gb_4 (rP (rW (HDR go_6 0 (List.length x_5) gc_7)) (rP (rI .i64) (rP (rI .i64) r0))) ((), (Ends_2, (Lost_3, ()))), cown go_6 r_api_Flight x_5 0 gc_7, cvar gb_10 r_api_Flight v_8], []⟩ (.cons rfl (.cons rfl (.cons rfl .nil))) rfl rfl ?_
   replace hm := lt1_inv hm
   obtain ⟨v_13, hv_v_13, hm⟩ := hm
   refine jc (op_cmpI lb (.tmp rfl) .cI (congrArg some hv_v_13)) ?_
   refine JL.nil ?_
   refine JQ.then ?_
   replace hm := iteB_inv hm
   rcases hm with ⟨hc2, hm⟩ | ⟨hc2, hm⟩
   · refine JC.condT (.tmp rfl) hc2 ?_
     refine JC.seq ?_
     refine JC.region ?_
     refine jc (op_assign lb .cI) ?_
     refine JL.nil ?_
     refine JQ.then ?_
     refine JC.ret ?_
     refine JQ.outR ?_
     replace hm := Option.some.inj hm
     subst hm
     exact JQ.done (js := [0, 0]) (ss := [.val (S (rI .i64) (5 : Int))]) (go_6, gc_7) (.inl rfl) (.nil rfl) rfl (.cons (.tmp rfl) .nil) rfl rfl rfl
   · refine JC.condF (.tmp rfl) hc2 ?_
     refine JC.skip ?_
     refine JQ.then ?_
     refine JC.seq ?_
     refine JC.region ?_
     refine jc (op_move lb (.tmp rfl)) ?_
     refine jc (op_loadA (j := 2) lb tA36 (.tmp rfl) rfl (Comp.self r_api_Flight v_8) rfl) ?_
     replace hm := bnd_inv hm
     obtain ⟨x_14, hv_x_14, hm⟩ := hm
     refine jx (op_call (js := [0, 0]) ld cl42 (sim_ref12_Net_lay'2 k v_8 Ends_2 Lost_3 x_5 gb_4 go_6 gc_7 x_14 hv_x_14) .func (.cons (.tmp rfl) (.cons (.tmp rfl) .nil)) rfl) (fun q => ?_)
     obtain ⟨go_15, gc_16⟩ := q
     refine JL.nil ?_
     refine JQ.then ?_
     refine JC.seq ?_
     refine JC.region ?_
     refine jc (op_assign lb .cI) ?_
     refine JL.nil ?_
     refine JQ.then ?_
     refine JC.ret ?_
     replace hm := Option.some.inj hm
     subst hm
     exact JQ.done (js := [0, 0]) (ss := [.val (S (rI .i64) (0 : Int))]) (go_15, gc_16) (.inl rfl) (.nil rfl) rfl (.cons (.tmp rfl) .nil) rfl rfl rfl

end Go.Proofs.Ytnadeehdnmgebaa
