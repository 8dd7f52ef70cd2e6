/- Walks. -/
import Derived.Test.YtkbkdfcakpbojaaT
namespace Go.Proofs.Ytkbkdfcakpbojaa
open Go Fw
set_option linter.unusedVariables false
set_option maxRecDepth 100000
set_option maxHeartbeats 4000000

theorem sim_ref01_Reader_Bytes'2 (k : Nat) (n_1 : Int) (B_2 : (List UInt8)) (At_3 : Int) (Failed_4 : Bool) (gb_5 : Nat) (r : (List UInt8) × ref01_Reader) (hm : ref01_Reader_Bytes'2 k n_1 B_2 At_3 Failed_4 = some r) : Sim Try.prog 46 [PTR gb_5 0, S (rI .i64) n_1] [cvar gb_5 (rP (rL (rU UInt8)) (rP (rI .i64) (rP rB r0))) (B_2, (At_3, (Failed_4, ())))] (γ := Unit) (fun q => [cvar gb_5 r_ref01_Reader r.2]) (fun q => .one (.val (S (rL (rU UInt8)) r.1))) := by
 unfold ref01_Reader_Bytes'2 at hm
 refine Sim.of Try.func46 rfl rfl (Nat.le_of_ble_eq_true rfl) (fun e0 w0 => ?_)
 refine JC.at ⟨[(0, ov (PTR gb_5 0)), (1, ov (S (rI .i64) n_1))], [cvar gb_5 (rP (rL (rU UInt8)) (rP (rI .i64) (rP rB r0))) (B_2, (At_3, (Failed_4, ())))], []⟩ ?_
 refine JC.seq ?_
 refine JC.region ?_
 refine jc (op_assign lb HasO.nilH) ?_
 refine JL.nil ?_
 refine JQ.then ?_
 refine JC.seq ?_
 replace hm := bnd_inv hm
 obtain ⟨x_10, hx1, hq1⟩ := hm
 refine JC.seqJ (γ := Unit) (stj := fun q => ⟨[(0, ov (PTR gb_5 0)), (1, ov (S (rI .i64) n_1)), (26, ov (S rB x_10))], [cvar gb_5 (rP (rL (rU UInt8)) (rP (rI .i64) (rP rB r0))) (B_2, (At_3, (Failed_4, ())))], []⟩) (fun q => ?_) ?_
 · obtain _ := q
   refine JC.at ⟨[(0, ov (PTR gb_5 0)), (1, ov (S (rI .i64) n_1)), (26, ov (S rB x_10))], [cvar gb_5 (rP (rL (rU UInt8)) (rP (rI .i64) (rP rB r0))) (B_2, (At_3, (Failed_4, ())))], []⟩ ?_
   replace hq1 := iteB_inv hq1
   rcases hq1 with ⟨hc8, hq1⟩ | ⟨hc8, hq1⟩
   · refine JC.condT (.tmp rfl) hc8 ?_
     refine JC.seq ?_
     refine JC.region ?_
     refine jc (op_move lb (.tmp rfl)) ?_
     refine jc (op_nilCheck lb (.tmp rfl) (fun e v h => by subst h; rfl)) ?_
     refine jc (op_fieldAddr (off := 2) lb tf40_2 (.tmp rfl)) ?_
     refine jc (op_storeS (j := 0) tS4 (.tmp rfl) .cB rfl rfl ((UpdR.snd (UpdR.snd (UpdR.fst (UpdR.self (by rfl))))).at (by change (1 + (1 + 0)) = (0 + 2); omega)) rfl) ?_
     refine JL.nil ?_
     refine JQ.then ?_
     refine JC.seq ?_
     refine JC.region ?_
     refine jc (op_assign lb HasO.nilH) ?_
     refine JL.nil ?_
     refine JQ.then ?_
     refine JC.ret ?_
     refine JQ.outR ?_
     replace hq1 := Option.some.inj hq1
     subst hq1
     refine JQ.pre (Imp.slot (s := 4) (q := S (rL (rU UInt8)) ([] : (List UInt8))) rfl wkNil) ?_
     refine JQ.pre (Imp.var (j := 0) (q := r_ref01_Reader) (y := (ref01_Reader.mk B_2 At_3 true)) rfl (Wk.st Wk.refl)) ?_
     exact JQ.done (js := [0]) (ss := [.val (S (rL (rU UInt8)) ([] : (List UInt8)))]) () (.inl rfl) (.nil rfl) rfl (.cons (.tmp rfl) .nil) rfl rfl rfl
   · refine JC.condF (.tmp rfl) hc8 ?_
     refine JC.skip ?_
     refine JQ.then ?_
     refine JC.seq ?_
     refine JC.region ?_
     refine jc (op_move lb (.tmp rfl)) ?_
     refine jc (op_move lb (.tmp rfl)) ?_
     refine jc (op_nilCheck lb (.tmp rfl) (fun e v h => by subst h; rfl)) ?_
     refine jc (op_fieldAddr (off := 1) lb tf40_1 (.tmp rfl)) ?_
     refine jc (op_loadS (j := 0) lb tS3 (.tmp rfl) rfl (Comp.trans (Comp.self (rP (rL (rU UInt8)) (rP (rI .i64) (rP rB r0))) (B_2, (At_3, (Failed_4, ())))) (Comp.at' (Comp.inS (Comp.inF (Comp.self (rI .i64) At_3) (Nat.le_of_ble_eq_true rfl))) (by rfl : _ = 1)) (Nat.le_of_ble_eq_true rfl)) rfl rfl) ?_
     refine jc (op_move lb (.tmp rfl)) ?_
     replace hq1 := lt1_inv hq1
     obtain ⟨v_11, hv_v_11, hq1⟩ := hq1
     refine jc (op_arI lb (.tmp rfl) (.tmp rfl) (congrArg some hv_v_11)) ?_
     refine jc (op_nilCheck lb (.tmp rfl) (fun e v h => by subst h; rfl)) ?_
     refine jc (op_fieldAddr (off := 1) lb tf40_1 (.tmp rfl)) ?_
     refine jc (op_storeS (j := 0) tS3 (.tmp rfl) (.tmp rfl) rfl rfl ((UpdR.snd (UpdR.fst (UpdR.self (by rfl)))).at (by change (1 + 0) = (0 + 1); omega)) rfl) ?_
     refine JL.sub ⟨[(0, ov (PTR gb_5 0)), (1, ov (S (rI .i64) n_1))], [cvar gb_5 (rP (rL (rU UInt8)) (rP (rI .i64) (rP rB r0))) (B_2, (v_11, (Failed_4, ())))], []⟩ (.cons rfl (.cons rfl .nil)) rfl rfl ?_
     refine JL.nil ?_
     refine JQ.then ?_
     refine JC.seq ?_
     replace hq1 := lt1_inv hq1
     obtain ⟨v_12, hv_v_12, hq1⟩ := hq1
     replace hq1 := bnd_inv hq1
     obtain ⟨v_13, hv_v_13, hq1⟩ := hq1
     refine JC.anyE (kl := []) (kk := 0) (base := [(0, ov (PTR gb_5 0)), (1, ov (S (rI .i64) n_1))])
         (fs := fun γ => [⟨some 39, ov (PTR gb_5 0)⟩, ⟨some 40, ov (PTR gb_5 0)⟩, ⟨some 41, ov (PTR gb_5 (0 + 0))⟩, ⟨some 42, ov (S (rL (rU UInt8)) B_2)⟩, ⟨some 43, ov (PTR gb_5 0)⟩, ⟨some 44, ov (PTR gb_5 0)⟩, ⟨some 45, ov (PTR gb_5 (0 + 1))⟩, ⟨some 46, ov (S (rI .i64) v_11)⟩, ⟨some 47, ov (S (rI .i64) n_1)⟩, ⟨some 48, ov (S (rI .i64) v_12)⟩, ⟨some 49, ov (PTR gb_5 0)⟩, ⟨some 50, ov (PTR gb_5 0)⟩, ⟨some 51, ov (PTR gb_5 (0 + 1))⟩, ⟨some 52, ov (S (rI .i64) v_11)⟩, ⟨some 53, ov (S (rL (rU UInt8)) v_13)⟩, ⟨some 4, ov (S (rL (rU UInt8)) v_13)⟩])
         (rs := fun γ => [⟨cvar gb_5 (rP (rL (rU UInt8)) (rP (rI .i64) (rP rB r0))) (B_2, (v_11, (Failed_4, ()))), none, none, [3, 7, 13]⟩])
         (ds := [39, 40, 41, 42, 43, 44, 45, 46, 47, 48, 49, 50, 51, 52, 53, 4]) (bs := [0, 1]) (afts := [[], [], [], [], [], [], [], [], [], [], [], [], [], [], [], []]) (js := [0]) mixed (.cons rfl (.cons rfl .nil)) (fun _ => rfl)
         (by
      refine dS 1 (fun γ ρ B hb hd => op_move lb (.tmp (hb 0 _ rfl))) ?_
      refine dS 2 (fun γ ρ B hb hd => op_nilCheck lb (.tmp (hl hd 0 39 rfl)) (fun e v h => by subst h; rfl)) ?_
      refine dS 3 (fun γ ρ B hb hd => op_fieldAddr (off := 0) lb tf40_0 (.tmp (hl hd 1 40 rfl))) ?_
      refine DSteps.cons (j := 4) rfl (fun _ => rfl) (.run (fun γ ρ B hb hd => ⟨.none, OpStep.at ⟨ρ, (cvar gb_5 (rP (rL (rU UInt8)) (rP (rI .i64) (rP rB r0))) (B_2, (v_11, (Failed_4, ())))) :: B, _⟩ (setO ⟨ρ, (cvar gb_5 (rP (rL (rU UInt8)) (rP (rI .i64) (rP rB r0))) (B_2, (v_11, (Failed_4, ())))) :: B, _⟩ _ _) (op_loadS (j := 0) lb tS23 (.tmp (hl hd 2 41 rfl)) rfl (Comp.trans (Comp.self (rP (rL (rU UInt8)) (rP (rI .i64) (rP rB r0))) (B_2, (v_11, (Failed_4, ())))) (Comp.at' (Comp.inF (Comp.self (rL (rU UInt8)) B_2) (Nat.le_of_ble_eq_true rfl)) (by rfl : _ = 0)) (Nat.le_of_ble_eq_true rfl)) rfl rfl)⟩)) ?_
      refine dS 5 (fun γ ρ B hb hd => op_move lb (.tmp (hb 0 _ rfl))) ?_
      refine dS 6 (fun γ ρ B hb hd => op_nilCheck lb (.tmp (hl hd 4 43 rfl)) (fun e v h => by subst h; rfl)) ?_
      refine dS 7 (fun γ ρ B hb hd => op_fieldAddr (off := 1) lb tf40_1 (.tmp (hl hd 5 44 rfl))) ?_
      refine DSteps.cons (j := 8) rfl (fun _ => rfl) (.run (fun γ ρ B hb hd => ⟨.none, OpStep.at ⟨ρ, (cvar gb_5 (rP (rL (rU UInt8)) (rP (rI .i64) (rP rB r0))) (B_2, (v_11, (Failed_4, ())))) :: B, _⟩ (setO ⟨ρ, (cvar gb_5 (rP (rL (rU UInt8)) (rP (rI .i64) (rP rB r0))) (B_2, (v_11, (Failed_4, ())))) :: B, _⟩ _ _) (op_loadS (j := 0) lb tS3 (.tmp (hl hd 6 45 rfl)) rfl (Comp.trans (Comp.self (rP (rL (rU UInt8)) (rP (rI .i64) (rP rB r0))) (B_2, (v_11, (Failed_4, ())))) (Comp.at' (Comp.inS (Comp.inF (Comp.self (rI .i64) v_11) (Nat.le_of_ble_eq_true rfl))) (by rfl : _ = 1)) (Nat.le_of_ble_eq_true rfl)) rfl rfl)⟩)) ?_
      refine dS 9 (fun γ ρ B hb hd => op_move lb (.tmp (hb 1 _ rfl))) ?_
      refine dS 10 (fun γ ρ B hb hd => op_arI lb (.tmp (hl hd 7 46 rfl)) (.tmp (hl hd 8 47 rfl)) (congrArg some hv_v_12)) ?_
      refine dS 11 (fun γ ρ B hb hd => op_move lb (.tmp (hb 0 _ rfl))) ?_
      refine dS 12 (fun γ ρ B hb hd => op_nilCheck lb (.tmp (hl hd 10 49 rfl)) (fun e v h => by subst h; rfl)) ?_
      refine dS 13 (fun γ ρ B hb hd => op_fieldAddr (off := 1) lb tf40_1 (.tmp (hl hd 11 50 rfl))) ?_
      refine DSteps.cons (j := 14) rfl (fun _ => rfl) (.run (fun γ ρ B hb hd => ⟨.none, OpStep.at ⟨ρ, (cvar gb_5 (rP (rL (rU UInt8)) (rP (rI .i64) (rP rB r0))) (B_2, (v_11, (Failed_4, ())))) :: B, _⟩ (setO ⟨ρ, (cvar gb_5 (rP (rL (rU UInt8)) (rP (rI .i64) (rP rB r0))) (B_2, (v_11, (Failed_4, ())))) :: B, _⟩ _ _) (op_loadS (j := 0) lb tS3 (.tmp (hl hd 12 51 rfl)) rfl (Comp.trans (Comp.self (rP (rL (rU UInt8)) (rP (rI .i64) (rP rB r0))) (B_2, (v_11, (Failed_4, ())))) (Comp.at' (Comp.inS (Comp.inF (Comp.self (rI .i64) v_11) (Nat.le_of_ble_eq_true rfl))) (by rfl : _ = 1)) (Nat.le_of_ble_eq_true rfl)) rfl rfl)⟩)) ?_
      refine dS 15 (fun γ ρ B hb hd => op_sliceLg lb tu23 tz5 (.tmp (hl hd 3 42 rfl)) (.some (.tmp (hl hd 9 48 rfl))) (.some (.tmp (hl hd 13 52 rfl))) hv_v_13) ?_
      refine dS 16 (fun γ ρ B hb hd => op_assign lb (.tmp (hl hd 14 53 rfl))) ?_
      exact DSteps.nil)
         (by decide +kernel) (fun _ => rfl) rfl (fun _ => rfl) (fun _ => rfl) rfl (by decide) (by decide) (by decide +kernel) (fun _ d h => by cases h)
         (ρ' := fun γ => [(4, ov (S (rL (rU UInt8)) v_13))])
         (X' := fun γ => [cvar gb_5 (rP (rL (rU UInt8)) (rP (rI .i64) (rP rB r0))) (B_2, (v_11, (Failed_4, ())))])
         (fun γ ρ hb hd => (.cons (hdq hd 15 4 rfl) .nil)) (fun _ => rfl) (fun γ => ?_)
     refine JQ.at ⟨[(4, ov (S (rL (rU UInt8)) v_13))], [cvar gb_5 (rP (rL (rU UInt8)) (rP (rI .i64) (rP rB r0))) (B_2, (v_11, (Failed_4, ())))], []⟩ ?_
     refine JQ.then ?_
     refine JC.ret ?_
     replace hq1 := Option.some.inj hq1
     subst hq1
     refine JQ.pre (Imp.var (j := 0) (q := r_ref01_Reader) (y := (ref01_Reader.mk B_2 v_11 Failed_4)) rfl (Wk.st Wk.refl)) ?_
     exact JQ.done (js := [0]) (ss := [.val (S (rL (rU UInt8)) v_13)]) () (.inl rfl) (.nil rfl) rfl (.cons (.tmp rfl) .nil) rfl rfl rfl
 · replace hx1 := lt1_inv hx1
   obtain ⟨v_6, hv_v_6, hx1⟩ := hx1
   replace hx1 := lt1_inv hx1
   obtain ⟨v_7, hv_v_7, hx1⟩ := hx1
   replace hx1 := iteB_inv hx1
   rcases hx1 with ⟨hc7, hx1⟩ | ⟨hc7, hx1⟩
   · refine JC.anyE (kl := []) (kk := 0) (base := [(0, ov (PTR gb_5 0)), (1, ov (S (rI .i64) n_1))])
         (fs := fun γ => [⟨some 5, ov (PTR gb_5 0)⟩, ⟨some 6, ov (PTR gb_5 0)⟩, ⟨some 7, ov (PTR gb_5 (0 + 2))⟩, ⟨some 8, ov (S rB Failed_4)⟩, ⟨some 9, ov (S rB Failed_4)⟩, ⟨some 10, bif (!Failed_4) then ov (S (rI .i64) n_1) else .one .und⟩, ⟨some 11, bif (!Failed_4) then ov (S rB v_6) else .one .und⟩, ⟨some 12, ov (S rB v_7)⟩, ⟨some 13, ov (S rB v_7)⟩, ⟨some 14, bif (!v_7) then ov (S (rI .i64) n_1) else .one .und⟩, ⟨some 15, .one .und⟩, ⟨some 16, .one .und⟩, ⟨some 17, .one .und⟩, ⟨some 18, .one .und⟩, ⟨some 19, .one .und⟩, ⟨some 20, .one .und⟩, ⟨some 21, .one .und⟩, ⟨some 22, .one .und⟩, ⟨some 23, .one .und⟩, ⟨some 24, .one .und⟩, ⟨some 25, .one .und⟩, ⟨some 26, ov (S rB true)⟩])
         (rs := fun γ => [⟨cvar gb_5 (rP (rL (rU UInt8)) (rP (rI .i64) (rP rB r0))) (B_2, (At_3, (Failed_4, ()))), none, none, [3]⟩])
         (ds := [5, 6, 7, 8, 9, 10, 11, 12, 13, 14, 15, 16, 17, 18, 19, 20, 21, 22, 23, 24, 25, 26]) (bs := [0, 1]) (afts := [[], [], [], [], [], [], [], [], [], [], [], [], [], [], [], [], [], [], [], [], [], []]) (js := [0]) mixed (.cons rfl (.cons rfl .nil)) (fun _ => rfl)
         (by
      refine dS 1 (fun γ ρ B hb hd => op_move lb (.tmp (hb 0 _ rfl))) ?_
      refine dS 2 (fun γ ρ B hb hd => op_nilCheck lb (.tmp (hl hd 0 5 rfl)) (fun e v h => by subst h; rfl)) ?_
      refine dS 3 (fun γ ρ B hb hd => op_fieldAddr (off := 2) lb tf40_2 (.tmp (hl hd 1 6 rfl))) ?_
      refine DSteps.cons (j := 4) rfl (fun _ => rfl) (.run (fun γ ρ B hb hd => ⟨.none, OpStep.at ⟨ρ, (cvar gb_5 (rP (rL (rU UInt8)) (rP (rI .i64) (rP rB r0))) (B_2, (At_3, (Failed_4, ())))) :: B, _⟩ (setO ⟨ρ, (cvar gb_5 (rP (rL (rU UInt8)) (rP (rI .i64) (rP rB r0))) (B_2, (At_3, (Failed_4, ())))) :: B, _⟩ _ _) (op_loadS (j := 0) lb tS4 (.tmp (hl hd 2 7 rfl)) rfl (Comp.trans (Comp.self (rP (rL (rU UInt8)) (rP (rI .i64) (rP rB r0))) (B_2, (At_3, (Failed_4, ())))) (Comp.at' (Comp.inS (Comp.inS (Comp.inF (Comp.self rB Failed_4) (Nat.le_of_ble_eq_true rfl)))) (by rfl : _ = 2)) (Nat.le_of_ble_eq_true rfl)) rfl rfl)⟩)) ?_
      refine dS 5 (fun γ ρ B hb hd => op_move lb (.tmp (hl hd 3 8 rfl))) ?_
      refine dC 6 (!Failed_4) (fun γ => ov (S (rI .i64) n_1)) (fun γ ρ B hb hd => ⟨(Guard.isF (ltB rfl) rfl (hl hd 4 9 rfl)), fun hq_2 => op_move lb (.tmp (hb 1 _ rfl))⟩) ?_
      refine dC 7 (!Failed_4) (fun γ => ov (S rB v_6)) (fun γ ρ B hb hd => ⟨(Guard.isF (ltB rfl) rfl (hl hd 4 9 rfl)), fun hq_3 => op_cmpI lb (HasO.cnd (.tmp (hl hd 5 10 rfl)) (notT (notF hq_3))) .cI (congrArg some hv_v_6)⟩) ?_
      refine dS 8 (fun γ ρ B hb hd => op_pickCS lb (.tmp (hl hd 4 9 rfl)) (fun hb4 => .cB) (fun hb4 => (HasO.cnd (.tmp (hl hd 6 11 rfl)) (notT hb4))) hv_v_7) ?_
      refine dS 9 (fun γ ρ B hb hd => op_move lb (.tmp (hl hd 7 12 rfl))) ?_
      refine dC 10 (!v_7) (fun γ => ov (S (rI .i64) n_1)) (fun γ ρ B hb hd => ⟨(Guard.isF (ltB rfl) rfl (hl hd 8 13 rfl)), fun hq_5 => op_move lb (.tmp (hb 1 _ rfl))⟩) ?_
      refine DSteps.cons (j := 11) rfl (fun _ => rfl) (.skip (fun γ ρ B hb hd => ⟨.no rfl (ltB rfl) (hl hd 8 13 rfl) hc7, rfl, rfl, rfl, fun d h => by cases h; exact ltB rfl⟩)) ?_
      refine DSteps.cons (j := 12) rfl (fun _ => rfl) (.skip (fun γ ρ B hb hd => ⟨.no rfl (ltB rfl) (hl hd 8 13 rfl) hc7, rfl, rfl, rfl, fun d h => by cases h; exact ltB rfl⟩)) ?_
      refine DSteps.cons (j := 13) rfl (fun _ => rfl) (.skip (fun γ ρ B hb hd => ⟨.no rfl (ltB rfl) (hl hd 8 13 rfl) hc7, rfl, rfl, rfl, fun d h => by cases h; exact ltB rfl⟩)) ?_
      refine DSteps.cons (j := 14) rfl (fun _ => rfl) (.skip (fun γ ρ B hb hd => ⟨.no rfl (ltB rfl) (hl hd 8 13 rfl) hc7, rfl, rfl, rfl, fun d h => by cases h; exact ltB rfl⟩)) ?_
      refine DSteps.cons (j := 15) rfl (fun _ => rfl) (.skip (fun γ ρ B hb hd => ⟨.no rfl (ltB rfl) (hl hd 8 13 rfl) hc7, rfl, rfl, rfl, fun d h => by cases h; exact ltB rfl⟩)) ?_
      refine DSteps.cons (j := 16) rfl (fun _ => rfl) (.skip (fun γ ρ B hb hd => ⟨.no rfl (ltB rfl) (hl hd 8 13 rfl) hc7, rfl, rfl, rfl, fun d h => by cases h; exact ltB rfl⟩)) ?_
      refine DSteps.cons (j := 17) rfl (fun _ => rfl) (.skip (fun γ ρ B hb hd => ⟨.no rfl (ltB rfl) (hl hd 8 13 rfl) hc7, rfl, rfl, rfl, fun d h => by cases h; exact ltB rfl⟩)) ?_
      refine DSteps.cons (j := 18) rfl (fun _ => rfl) (.skip (fun γ ρ B hb hd => ⟨.no rfl (ltB rfl) (hl hd 8 13 rfl) hc7, rfl, rfl, rfl, fun d h => by cases h; exact ltB rfl⟩)) ?_
      refine DSteps.cons (j := 19) rfl (fun _ => rfl) (.skip (fun γ ρ B hb hd => ⟨.no rfl (ltB rfl) (hl hd 8 13 rfl) hc7, rfl, rfl, rfl, fun d h => by cases h; exact ltB rfl⟩)) ?_
      refine DSteps.cons (j := 20) rfl (fun _ => rfl) (.skip (fun γ ρ B hb hd => ⟨.no rfl (ltB rfl) (hl hd 8 13 rfl) hc7, rfl, rfl, rfl, fun d h => by cases h; exact ltB rfl⟩)) ?_
      refine DSteps.cons (j := 21) rfl (fun _ => rfl) (.skip (fun γ ρ B hb hd => ⟨.no rfl (ltB rfl) (hl hd 8 13 rfl) hc7, rfl, rfl, rfl, fun d h => by cases h; exact ltB rfl⟩)) ?_
      refine dS 22 (fun γ ρ B hb hd => op_pickT lb (.tmp (hl hd 8 13 rfl)) hc7 .cB) ?_
      exact DSteps.nil)
         (by decide +kernel) (fun _ => rfl) rfl (fun _ => rfl) (fun _ => rfl) rfl (by decide) (by decide) (by decide +kernel) (fun _ d h => by cases h)
         (ρ' := fun γ => [(0, ov (PTR gb_5 0)), (1, ov (S (rI .i64) n_1)), (26, ov (S rB true))])
         (X' := fun γ => [cvar gb_5 (rP (rL (rU UInt8)) (rP (rI .i64) (rP rB r0))) (B_2, (At_3, (Failed_4, ())))])
         (fun γ ρ hb hd => (.cons (hb 0 _ rfl (by decide)) (.cons (hb 1 _ rfl (by decide)) (.cons (hdq hd 21 26 rfl) .nil)))) (fun _ => rfl) (fun γ => ?_)
     refine JQ.at ⟨[(0, ov (PTR gb_5 0)), (1, ov (S (rI .i64) n_1)), (26, ov (S rB true))], [cvar gb_5 (rP (rL (rU UInt8)) (rP (rI .i64) (rP rB r0))) (B_2, (At_3, (Failed_4, ())))], []⟩ ?_
     replace hx1 := Option.some.inj hx1
     first | subst hx1 | clear hx1
     exact JQ.join () (Imp.norm (js := [0]) rfl (.cons rfl (.cons rfl (.cons rfl .nil))))
   · replace hx1 := lt1_inv hx1
     obtain ⟨v_8, hv_v_8, hx1⟩ := hx1
     replace hx1 := lt1_inv hx1
     obtain ⟨v_9, hv_v_9, hx1⟩ := hx1
     refine JC.anyE (kl := []) (kk := 0) (base := [(0, ov (PTR gb_5 0)), (1, ov (S (rI .i64) n_1))])
         (fs := fun γ => [⟨some 5, ov (PTR gb_5 0)⟩, ⟨some 6, ov (PTR gb_5 0)⟩, ⟨some 7, ov (PTR gb_5 (0 + 2))⟩, ⟨some 8, ov (S rB Failed_4)⟩, ⟨some 9, ov (S rB Failed_4)⟩, ⟨some 10, bif (!Failed_4) then ov (S (rI .i64) n_1) else .one .und⟩, ⟨some 11, bif (!Failed_4) then ov (S rB v_6) else .one .und⟩, ⟨some 12, ov (S rB v_7)⟩, ⟨some 13, ov (S rB v_7)⟩, ⟨some 14, bif (!v_7) then ov (S (rI .i64) n_1) else .one .und⟩, ⟨some 15, ov (PTR gb_5 0)⟩, ⟨some 16, ov (PTR gb_5 0)⟩, ⟨some 17, ov (PTR gb_5 (0 + 0))⟩, ⟨some 18, ov (S (rL (rU UInt8)) B_2)⟩, ⟨some 19, ov (S (rI .i64) (List.length B_2 : Int))⟩, ⟨some 20, ov (PTR gb_5 0)⟩, ⟨some 21, ov (PTR gb_5 0)⟩, ⟨some 22, ov (PTR gb_5 (0 + 1))⟩, ⟨some 23, ov (S (rI .i64) At_3)⟩, ⟨some 24, ov (S (rI .i64) v_8)⟩, ⟨some 25, ov (S rB v_9)⟩, ⟨some 26, ov (S rB v_9)⟩])
         (rs := fun γ => [⟨cvar gb_5 (rP (rL (rU UInt8)) (rP (rI .i64) (rP rB r0))) (B_2, (At_3, (Failed_4, ()))), none, none, [3, 13, 18]⟩])
         (ds := [5, 6, 7, 8, 9, 10, 11, 12, 13, 14, 15, 16, 17, 18, 19, 20, 21, 22, 23, 24, 25, 26]) (bs := [0, 1]) (afts := [[], [], [], [], [], [], [], [], [], [], [], [], [], [], [], [], [], [], [], [], [], []]) (js := [0]) mixed (.cons rfl (.cons rfl .nil)) (fun _ => rfl)
         (by
      refine dS 1 (fun γ ρ B hb hd => op_move lb (.tmp (hb 0 _ rfl))) ?_
      refine dS 2 (fun γ ρ B hb hd => op_nilCheck lb (.tmp (hl hd 0 5 rfl)) (fun e v h => by subst h; rfl)) ?_
      refine dS 3 (fun γ ρ B hb hd => op_fieldAddr (off := 2) lb tf40_2 (.tmp (hl hd 1 6 rfl))) ?_
      refine DSteps.cons (j := 4) rfl (fun _ => rfl) (.run (fun γ ρ B hb hd => ⟨.none, OpStep.at ⟨ρ, (cvar gb_5 (rP (rL (rU UInt8)) (rP (rI .i64) (rP rB r0))) (B_2, (At_3, (Failed_4, ())))) :: B, _⟩ (setO ⟨ρ, (cvar gb_5 (rP (rL (rU UInt8)) (rP (rI .i64) (rP rB r0))) (B_2, (At_3, (Failed_4, ())))) :: B, _⟩ _ _) (op_loadS (j := 0) lb tS4 (.tmp (hl hd 2 7 rfl)) rfl (Comp.trans (Comp.self (rP (rL (rU UInt8)) (rP (rI .i64) (rP rB r0))) (B_2, (At_3, (Failed_4, ())))) (Comp.at' (Comp.inS (Comp.inS (Comp.inF (Comp.self rB Failed_4) (Nat.le_of_ble_eq_true rfl)))) (by rfl : _ = 2)) (Nat.le_of_ble_eq_true rfl)) rfl rfl)⟩)) ?_
      refine dS 5 (fun γ ρ B hb hd => op_move lb (.tmp (hl hd 3 8 rfl))) ?_
      refine dC 6 (!Failed_4) (fun γ => ov (S (rI .i64) n_1)) (fun γ ρ B hb hd => ⟨(Guard.isF (ltB rfl) rfl (hl hd 4 9 rfl)), fun hq_2 => op_move lb (.tmp (hb 1 _ rfl))⟩) ?_
      refine dC 7 (!Failed_4) (fun γ => ov (S rB v_6)) (fun γ ρ B hb hd => ⟨(Guard.isF (ltB rfl) rfl (hl hd 4 9 rfl)), fun hq_3 => op_cmpI lb (HasO.cnd (.tmp (hl hd 5 10 rfl)) (notT (notF hq_3))) .cI (congrArg some hv_v_6)⟩) ?_
      refine dS 8 (fun γ ρ B hb hd => op_pickCS lb (.tmp (hl hd 4 9 rfl)) (fun hb4 => .cB) (fun hb4 => (HasO.cnd (.tmp (hl hd 6 11 rfl)) (notT hb4))) hv_v_7) ?_
      refine dS 9 (fun γ ρ B hb hd => op_move lb (.tmp (hl hd 7 12 rfl))) ?_
      refine dC 10 (!v_7) (fun γ => ov (S (rI .i64) n_1)) (fun γ ρ B hb hd => ⟨(Guard.isF (ltB rfl) rfl (hl hd 8 13 rfl)), fun hq_5 => op_move lb (.tmp (hb 1 _ rfl))⟩) ?_
      refine DSteps.cons (j := 11) rfl (fun _ => rfl) (.run (fun γ ρ B hb hd => ⟨.yes rfl (ltB rfl) (hl hd 8 13 rfl) hc7, OpStep.at ⟨ρ, B, _⟩ (setO ⟨ρ, B, _⟩ _ _) (op_move lb (.tmp (hb 0 _ rfl)))⟩)) ?_
      refine DSteps.cons (j := 12) rfl (fun _ => rfl) (.run (fun γ ρ B hb hd => ⟨.yes rfl (ltB rfl) (hl hd 8 13 rfl) hc7, OpStep.at ⟨ρ, B, _⟩ (setO ⟨ρ, B, _⟩ _ _) (op_nilCheck lb (.tmp (hl hd 10 15 rfl)) (fun e v h => by subst h; rfl))⟩)) ?_
      refine DSteps.cons (j := 13) rfl (fun _ => rfl) (.run (fun γ ρ B hb hd => ⟨.yes rfl (ltB rfl) (hl hd 8 13 rfl) hc7, OpStep.at ⟨ρ, B, _⟩ (setO ⟨ρ, B, _⟩ _ _) (op_fieldAddr (off := 0) lb tf40_0 (.tmp (hl hd 11 16 rfl)))⟩)) ?_
      refine DSteps.cons (j := 14) rfl (fun _ => rfl) (.run (fun γ ρ B hb hd => ⟨.yes rfl (ltB rfl) (hl hd 8 13 rfl) hc7, OpStep.at ⟨ρ, (cvar gb_5 (rP (rL (rU UInt8)) (rP (rI .i64) (rP rB r0))) (B_2, (At_3, (Failed_4, ())))) :: B, _⟩ (setO ⟨ρ, (cvar gb_5 (rP (rL (rU UInt8)) (rP (rI .i64) (rP rB r0))) (B_2, (At_3, (Failed_4, ())))) :: B, _⟩ _ _) (op_loadS (j := 0) lb tS23 (.tmp (hl hd 12 17 rfl)) rfl (Comp.trans (Comp.self (rP (rL (rU UInt8)) (rP (rI .i64) (rP rB r0))) (B_2, (At_3, (Failed_4, ())))) (Comp.at' (Comp.inF (Comp.self (rL (rU UInt8)) B_2) (Nat.le_of_ble_eq_true rfl)) (by rfl : _ = 0)) (Nat.le_of_ble_eq_true rfl)) rfl rfl)⟩)) ?_
      refine DSteps.cons (j := 15) rfl (fun _ => rfl) (.run (fun γ ρ B hb hd => ⟨.yes rfl (ltB rfl) (hl hd 8 13 rfl) hc7, OpStep.at ⟨ρ, B, _⟩ (setO ⟨ρ, B, _⟩ _ _) (op_lenL lb tu23 (.tmp (hl hd 13 18 rfl)))⟩)) ?_
      refine DSteps.cons (j := 16) rfl (fun _ => rfl) (.run (fun γ ρ B hb hd => ⟨.yes rfl (ltB rfl) (hl hd 8 13 rfl) hc7, OpStep.at ⟨ρ, B, _⟩ (setO ⟨ρ, B, _⟩ _ _) (op_move lb (.tmp (hb 0 _ rfl)))⟩)) ?_
      refine DSteps.cons (j := 17) rfl (fun _ => rfl) (.run (fun γ ρ B hb hd => ⟨.yes rfl (ltB rfl) (hl hd 8 13 rfl) hc7, OpStep.at ⟨ρ, B, _⟩ (setO ⟨ρ, B, _⟩ _ _) (op_nilCheck lb (.tmp (hl hd 15 20 rfl)) (fun e v h => by subst h; rfl))⟩)) ?_
      refine DSteps.cons (j := 18) rfl (fun _ => rfl) (.run (fun γ ρ B hb hd => ⟨.yes rfl (ltB rfl) (hl hd 8 13 rfl) hc7, OpStep.at ⟨ρ, B, _⟩ (setO ⟨ρ, B, _⟩ _ _) (op_fieldAddr (off := 1) lb tf40_1 (.tmp (hl hd 16 21 rfl)))⟩)) ?_
      refine DSteps.cons (j := 19) rfl (fun _ => rfl) (.run (fun γ ρ B hb hd => ⟨.yes rfl (ltB rfl) (hl hd 8 13 rfl) hc7, OpStep.at ⟨ρ, (cvar gb_5 (rP (rL (rU UInt8)) (rP (rI .i64) (rP rB r0))) (B_2, (At_3, (Failed_4, ())))) :: B, _⟩ (setO ⟨ρ, (cvar gb_5 (rP (rL (rU UInt8)) (rP (rI .i64) (rP rB r0))) (B_2, (At_3, (Failed_4, ())))) :: B, _⟩ _ _) (op_loadS (j := 0) lb tS3 (.tmp (hl hd 17 22 rfl)) rfl (Comp.trans (Comp.self (rP (rL (rU UInt8)) (rP (rI .i64) (rP rB r0))) (B_2, (At_3, (Failed_4, ())))) (Comp.at' (Comp.inS (Comp.inF (Comp.self (rI .i64) At_3) (Nat.le_of_ble_eq_true rfl))) (by rfl : _ = 1)) (Nat.le_of_ble_eq_true rfl)) rfl rfl)⟩)) ?_
      refine DSteps.cons (j := 20) rfl (fun _ => rfl) (.run (fun γ ρ B hb hd => ⟨.yes rfl (ltB rfl) (hl hd 8 13 rfl) hc7, OpStep.at ⟨ρ, B, _⟩ (setO ⟨ρ, B, _⟩ _ _) (op_arI lb (.tmp (hl hd 14 19 rfl)) (.tmp (hl hd 18 23 rfl)) (congrArg some hv_v_8))⟩)) ?_
      refine DSteps.cons (j := 21) rfl (fun _ => rfl) (.run (fun γ ρ B hb hd => ⟨.yes rfl (ltB rfl) (hl hd 8 13 rfl) hc7, OpStep.at ⟨ρ, B, _⟩ (setO ⟨ρ, B, _⟩ _ _) (op_cmpI lb (HasO.cnd (.tmp (hl hd 9 14 rfl)) (notT hc7)) (.tmp (hl hd 19 24 rfl)) (congrArg some hv_v_9))⟩)) ?_
      refine dS 22 (fun γ ρ B hb hd => op_pickF lb (.tmp (hl hd 8 13 rfl)) hc7 (.tmp (hl hd 20 25 rfl))) ?_
      exact DSteps.nil)
         (by decide +kernel) (fun _ => rfl) rfl (fun _ => rfl) (fun _ => rfl) rfl (by decide) (by decide) (by decide +kernel) (fun _ d h => by cases h)
         (ρ' := fun γ => [(0, ov (PTR gb_5 0)), (1, ov (S (rI .i64) n_1)), (26, ov (S rB v_9))])
         (X' := fun γ => [cvar gb_5 (rP (rL (rU UInt8)) (rP (rI .i64) (rP rB r0))) (B_2, (At_3, (Failed_4, ())))])
         (fun γ ρ hb hd => (.cons (hb 0 _ rfl (by decide)) (.cons (hb 1 _ rfl (by decide)) (.cons (hdq hd 21 26 rfl) .nil)))) (fun _ => rfl) (fun γ => ?_)
     refine JQ.at ⟨[(0, ov (PTR gb_5 0)), (1, ov (S (rI .i64) n_1)), (26, ov (S rB v_9))], [cvar gb_5 (rP (rL (rU UInt8)) (rP (rI .i64) (rP rB r0))) (B_2, (At_3, (Failed_4, ())))], []⟩ ?_
     replace hx1 := Option.some.inj hx1
     first | subst hx1 | clear hx1
     exact JQ.join () (Imp.norm (js := [0]) rfl (.cons rfl (.cons rfl (.cons rfl .nil))))

end Go.Proofs.Ytkbkdfcakpbojaa
