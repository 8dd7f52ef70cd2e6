/- Walks. -/
import Derived.Test.YthoggbomakolkaaT
namespace Go.Proofs.Ythoggbomakolkaa
open Go Fw
set_option linter.unusedVariables false
set_option maxRecDepth 100000
set_option maxHeartbeats 4000000

theorem sim_ref01_Reader_Bytes (k : Nat) (n_1 : Int) (r_2 : ref01_Reader) (gb_3 : Nat) (r : (List UInt8) × ref01_Reader) (hm : ref01_Reader_Bytes k n_1 r_2 = some r) : Sim Try.prog 66 [PTR gb_3 0, S (rI .i64) n_1] [cvar gb_3 r_ref01_Reader r_2] (γ := Unit) (fun q => [cvar gb_3 r_ref01_Reader r.2]) (fun q => .one (.val (S (rL (rU UInt8)) r.1))) := by
 unfold ref01_Reader_Bytes at hm
 refine Sim.of Try.func66 rfl rfl (Nat.le_of_ble_eq_true rfl) (fun e0 w0 => ?_)
 refine JC.at ⟨[(0, ov (PTR gb_3 0)), (1, ov (S (rI .i64) n_1))], [cvar gb_3 r_ref01_Reader r_2], []⟩ ?_
 refine JC.seq ?_
 refine JC.region ?_
 refine jc (op_assign lb HasO.nilH) ?_
 refine JL.nil ?_
 refine JQ.then ?_
 refine JC.seq ?_
 replace hm := bnd_inv hm
 obtain ⟨x_8, hx1, hq1⟩ := hm
 refine JC.seqJ (γ := Unit) (stj := fun q => ⟨[(0, ov (PTR gb_3 0)), (1, ov (S (rI .i64) n_1)), (26, ov (S rB x_8))], [cvar gb_3 r_ref01_Reader r_2], []⟩) (fun q => ?_) ?_
 · obtain _ := q
   refine JC.at ⟨[(0, ov (PTR gb_3 0)), (1, ov (S (rI .i64) n_1)), (26, ov (S rB x_8))], [cvar gb_3 r_ref01_Reader r_2], []⟩ ?_
   replace hq1 := iteB_inv hq1
   rcases hq1 with ⟨hc8, hq1⟩ | ⟨hc8, hq1⟩
   · refine JC.condT (.tmp rfl) hc8 ?_
     refine JC.seq ?_
     refine JC.region ?_
     refine jc (op_move lb (.tmp rfl)) ?_
     refine jc (op_nilCheck lb (.tmp rfl) (fun e v h => by subst h; rfl)) ?_
     refine jc (op_fieldAddr (off := 2) lb tf77_2 (.tmp rfl)) ?_
     replace hq1 := lt1_inv hq1
     obtain ⟨r_9, hv_r_9, hq1⟩ := hq1
     refine jc (op_storeS (j := 0) tS4 (.tmp rfl) .cB rfl rfl (Upd.trans (Comp.self r_ref01_Reader r_2) (Upd.self r_ref01_Reader r_2 _) (upd_ref01_Reader_Failed r_2 true)).R hv_r_9) ?_
     refine JL.nil ?_
     refine JQ.then ?_
     refine JC.seq ?_
     refine JC.region ?_
     refine jc (op_assign lb HasO.nilH) ?_
     refine JL.nil ?_
     refine JQ.then ?_
     refine JC.ret ?_
     refine JQ.outR ?_
     replace hq1 := Option.some.inj hq1
     subst hq1
     refine JQ.pre (Imp.slot (s := 4) (q := S (rL (rU UInt8)) ([] : (List UInt8))) rfl wkNil) ?_
     exact JQ.done (js := [0]) (ss := [.val (S (rL (rU UInt8)) ([] : (List UInt8)))]) () (.inl rfl) (.nil rfl) rfl (.cons (.tmp rfl) .nil) rfl rfl rfl
   · refine JC.condF (.tmp rfl) hc8 ?_
     refine JC.skip ?_
     refine JQ.then ?_
     refine JC.seq ?_
     refine JC.region ?_
     refine jc (op_move lb (.tmp rfl)) ?_
     refine jc (op_move lb (.tmp rfl)) ?_
     refine jc (op_nilCheck lb (.tmp rfl) (fun e v h => by subst h; rfl)) ?_
     refine jc (op_fieldAddr (off := 1) lb tf77_1 (.tmp rfl)) ?_
     refine jc (op_loadS (j := 0) lb tS3 (.tmp rfl) rfl (Comp.trans (Comp.self r_ref01_Reader r_2) (comp_ref01_Reader_At r_2) (Nat.le_of_ble_eq_true rfl)) rfl rfl) ?_
     refine jc (op_move lb (.tmp rfl)) ?_
     replace hq1 := lt1_inv hq1
     obtain ⟨v_10, hv_v_10, hq1⟩ := hq1
     refine jc (op_arI lb (.tmp rfl) (.tmp rfl) (congrArg some hv_v_10)) ?_
     refine jc (op_nilCheck lb (.tmp rfl) (fun e v h => by subst h; rfl)) ?_
     refine jc (op_fieldAddr (off := 1) lb tf77_1 (.tmp rfl)) ?_
     replace hq1 := lt1_inv hq1
     obtain ⟨r_11, hv_r_11, hq1⟩ := hq1
     refine jc (op_storeS (j := 0) tS3 (.tmp rfl) (.tmp rfl) rfl rfl (Upd.trans (Comp.self r_ref01_Reader r_2) (Upd.self r_ref01_Reader r_2 _) (upd_ref01_Reader_At r_2 v_10)).R hv_r_11) ?_
     refine JL.sub ⟨[(0, ov (PTR gb_3 0)), (1, ov (S (rI .i64) n_1))], [cvar gb_3 r_ref01_Reader r_11], []⟩ (.cons rfl (.cons rfl .nil)) rfl rfl ?_
     refine JL.nil ?_
     refine JQ.then ?_
     refine JC.seq ?_
     replace hq1 := lt1_inv hq1
     obtain ⟨v_12, hv_v_12, hq1⟩ := hq1
     replace hq1 := bnd_inv hq1
     obtain ⟨v_13, hv_v_13, hq1⟩ := hq1
     refine JC.anyE (kl := []) (kk := 0) (base := [(0, ov (PTR gb_3 0)), (1, ov (S (rI .i64) n_1))])
         (fs := fun γ => [⟨some 39, ov (PTR gb_3 0)⟩, ⟨some 40, ov (PTR gb_3 0)⟩, ⟨some 41, ov (PTR gb_3 (0 + 0))⟩, ⟨some 42, ov (S (rL (rU UInt8)) r_11.B)⟩, ⟨some 43, ov (PTR gb_3 0)⟩, ⟨some 44, ov (PTR gb_3 0)⟩, ⟨some 45, ov (PTR gb_3 (0 + 1))⟩, ⟨some 46, ov (S (rI .i64) r_11.At)⟩, ⟨some 47, ov (S (rI .i64) n_1)⟩, ⟨some 48, ov (S (rI .i64) v_12)⟩, ⟨some 49, ov (PTR gb_3 0)⟩, ⟨some 50, ov (PTR gb_3 0)⟩, ⟨some 51, ov (PTR gb_3 (0 + 1))⟩, ⟨some 52, ov (S (rI .i64) r_11.At)⟩, ⟨some 53, ov (S (rL (rU UInt8)) v_13)⟩, ⟨some 4, ov (S (rL (rU UInt8)) v_13)⟩])
         (rs := fun γ => [⟨cvar gb_3 r_ref01_Reader r_11, none, none, [3, 7, 13]⟩])
         (ds := [39, 40, 41, 42, 43, 44, 45, 46, 47, 48, 49, 50, 51, 52, 53, 4]) (bs := [0, 1]) (afts := [[], [], [], [], [], [], [], [], [], [], [], [], [], [], [], []]) (js := [0]) mixed (.cons rfl (.cons rfl .nil)) (fun _ => rfl)
         (by
      refine dS 1 (fun γ ρ B hb hd => op_move lb (.tmp (hb 0 _ rfl))) ?_
      refine dS 2 (fun γ ρ B hb hd => op_nilCheck lb (.tmp (hl hd 0 39 rfl)) (fun e v h => by subst h; rfl)) ?_
      refine dS 3 (fun γ ρ B hb hd => op_fieldAddr (off := 0) lb tf77_0 (.tmp (hl hd 1 40 rfl))) ?_
      refine DSteps.cons (j := 4) rfl (fun _ => rfl) (.run (fun γ ρ B hb hd => ⟨.none, OpStep.at ⟨ρ, (cvar gb_3 r_ref01_Reader r_11) :: B, _⟩ (setO ⟨ρ, (cvar gb_3 r_ref01_Reader r_11) :: B, _⟩ _ _) (op_loadS (j := 0) lb tS35 (.tmp (hl hd 2 41 rfl)) rfl (Comp.trans (Comp.self r_ref01_Reader r_11) (comp_ref01_Reader_B r_11) (Nat.le_of_ble_eq_true rfl)) rfl rfl)⟩)) ?_
      refine dS 5 (fun γ ρ B hb hd => op_move lb (.tmp (hb 0 _ rfl))) ?_
      refine dS 6 (fun γ ρ B hb hd => op_nilCheck lb (.tmp (hl hd 4 43 rfl)) (fun e v h => by subst h; rfl)) ?_
      refine dS 7 (fun γ ρ B hb hd => op_fieldAddr (off := 1) lb tf77_1 (.tmp (hl hd 5 44 rfl))) ?_
      refine DSteps.cons (j := 8) rfl (fun _ => rfl) (.run (fun γ ρ B hb hd => ⟨.none, OpStep.at ⟨ρ, (cvar gb_3 r_ref01_Reader r_11) :: B, _⟩ (setO ⟨ρ, (cvar gb_3 r_ref01_Reader r_11) :: B, _⟩ _ _) (op_loadS (j := 0) lb tS3 (.tmp (hl hd 6 45 rfl)) rfl (Comp.trans (Comp.self r_ref01_Reader r_11) (comp_ref01_Reader_At r_11) (Nat.le_of_ble_eq_true rfl)) rfl rfl)⟩)) ?_
      refine dS 9 (fun γ ρ B hb hd => op_move lb (.tmp (hb 1 _ rfl))) ?_
      refine dS 10 (fun γ ρ B hb hd => op_arI lb (.tmp (hl hd 7 46 rfl)) (.tmp (hl hd 8 47 rfl)) (congrArg some hv_v_12)) ?_
      refine dS 11 (fun γ ρ B hb hd => op_move lb (.tmp (hb 0 _ rfl))) ?_
      refine dS 12 (fun γ ρ B hb hd => op_nilCheck lb (.tmp (hl hd 10 49 rfl)) (fun e v h => by subst h; rfl)) ?_
      refine dS 13 (fun γ ρ B hb hd => op_fieldAddr (off := 1) lb tf77_1 (.tmp (hl hd 11 50 rfl))) ?_
      refine DSteps.cons (j := 14) rfl (fun _ => rfl) (.run (fun γ ρ B hb hd => ⟨.none, OpStep.at ⟨ρ, (cvar gb_3 r_ref01_Reader r_11) :: B, _⟩ (setO ⟨ρ, (cvar gb_3 r_ref01_Reader r_11) :: B, _⟩ _ _) (op_loadS (j := 0) lb tS3 (.tmp (hl hd 12 51 rfl)) rfl (Comp.trans (Comp.self r_ref01_Reader r_11) (comp_ref01_Reader_At r_11) (Nat.le_of_ble_eq_true rfl)) rfl rfl)⟩)) ?_
      refine dS 15 (fun γ ρ B hb hd => op_sliceLg lb tu35 tz5 (.tmp (hl hd 3 42 rfl)) (.some (.tmp (hl hd 9 48 rfl))) (.some (.tmp (hl hd 13 52 rfl))) hv_v_13) ?_
      refine dS 16 (fun γ ρ B hb hd => op_assign lb (.tmp (hl hd 14 53 rfl))) ?_
      exact DSteps.nil)
         (by decide +kernel) (fun _ => rfl) rfl (fun _ => rfl) (fun _ => rfl) rfl (by decide) (by decide) (by decide +kernel) (fun _ d h => by cases h)
         (ρ' := fun γ => [(4, ov (S (rL (rU UInt8)) v_13))])
         (X' := fun γ => [cvar gb_3 r_ref01_Reader r_11])
         (fun γ ρ hb hd => (.cons (hdq hd 15 4 rfl) .nil)) (fun _ => rfl) (fun γ => ?_)
     refine JQ.at ⟨[(4, ov (S (rL (rU UInt8)) v_13))], [cvar gb_3 r_ref01_Reader r_11], []⟩ ?_
     refine JQ.then ?_
     refine JC.ret ?_
     replace hq1 := Option.some.inj hq1
     subst hq1
     exact JQ.done (js := [0]) (ss := [.val (S (rL (rU UInt8)) v_13)]) () (.inl rfl) (.nil rfl) rfl (.cons (.tmp rfl) .nil) rfl rfl rfl
 · replace hx1 := lt1_inv hx1
   obtain ⟨v_4, hv_v_4, hx1⟩ := hx1
   replace hx1 := lt1_inv hx1
   obtain ⟨v_5, hv_v_5, hx1⟩ := hx1
   replace hx1 := iteB_inv hx1
   rcases hx1 with ⟨hc7, hx1⟩ | ⟨hc7, hx1⟩
   · refine JC.anyE (kl := []) (kk := 0) (base := [(0, ov (PTR gb_3 0)), (1, ov (S (rI .i64) n_1))])
         (fs := fun γ => [⟨some 5, ov (PTR gb_3 0)⟩, ⟨some 6, ov (PTR gb_3 0)⟩, ⟨some 7, ov (PTR gb_3 (0 + 2))⟩, ⟨some 8, ov (S rB r_2.Failed)⟩, ⟨some 9, ov (S rB r_2.Failed)⟩, ⟨some 10, bif (!r_2.Failed) then ov (S (rI .i64) n_1) else .one .und⟩, ⟨some 11, bif (!r_2.Failed) then ov (S rB v_4) else .one .und⟩, ⟨some 12, ov (S rB v_5)⟩, ⟨some 13, ov (S rB v_5)⟩, ⟨some 14, bif (!v_5) then ov (S (rI .i64) n_1) else .one .und⟩, ⟨some 15, .one .und⟩, ⟨some 16, .one .und⟩, ⟨some 17, .one .und⟩, ⟨some 18, .one .und⟩, ⟨some 19, .one .und⟩, ⟨some 20, .one .und⟩, ⟨some 21, .one .und⟩, ⟨some 22, .one .und⟩, ⟨some 23, .one .und⟩, ⟨some 24, .one .und⟩, ⟨some 25, .one .und⟩, ⟨some 26, ov (S rB true)⟩])
         (rs := fun γ => [⟨cvar gb_3 r_ref01_Reader r_2, none, none, [3]⟩])
         (ds := [5, 6, 7, 8, 9, 10, 11, 12, 13, 14, 15, 16, 17, 18, 19, 20, 21, 22, 23, 24, 25, 26]) (bs := [0, 1]) (afts := [[], [], [], [], [], [], [], [], [], [], [], [], [], [], [], [], [], [], [], [], [], []]) (js := [0]) mixed (.cons rfl (.cons rfl .nil)) (fun _ => rfl)
         (by
      refine dS 1 (fun γ ρ B hb hd => op_move lb (.tmp (hb 0 _ rfl))) ?_
      refine dS 2 (fun γ ρ B hb hd => op_nilCheck lb (.tmp (hl hd 0 5 rfl)) (fun e v h => by subst h; rfl)) ?_
      refine dS 3 (fun γ ρ B hb hd => op_fieldAddr (off := 2) lb tf77_2 (.tmp (hl hd 1 6 rfl))) ?_
      refine DSteps.cons (j := 4) rfl (fun _ => rfl) (.run (fun γ ρ B hb hd => ⟨.none, OpStep.at ⟨ρ, (cvar gb_3 r_ref01_Reader r_2) :: B, _⟩ (setO ⟨ρ, (cvar gb_3 r_ref01_Reader r_2) :: B, _⟩ _ _) (op_loadS (j := 0) lb tS4 (.tmp (hl hd 2 7 rfl)) rfl (Comp.trans (Comp.self r_ref01_Reader r_2) (comp_ref01_Reader_Failed r_2) (Nat.le_of_ble_eq_true rfl)) rfl rfl)⟩)) ?_
      refine dS 5 (fun γ ρ B hb hd => op_move lb (.tmp (hl hd 3 8 rfl))) ?_
      refine dC 6 (!r_2.Failed) (fun γ => ov (S (rI .i64) n_1)) (fun γ ρ B hb hd => ⟨(Guard.isF (ltB rfl) rfl (hl hd 4 9 rfl)), fun hq_2 => op_move lb (.tmp (hb 1 _ rfl))⟩) ?_
      refine dC 7 (!r_2.Failed) (fun γ => ov (S rB v_4)) (fun γ ρ B hb hd => ⟨(Guard.isF (ltB rfl) rfl (hl hd 4 9 rfl)), fun hq_3 => op_cmpI lb (HasO.cnd (.tmp (hl hd 5 10 rfl)) (notT (notF hq_3))) .cI (congrArg some hv_v_4)⟩) ?_
      refine dS 8 (fun γ ρ B hb hd => op_pickCS lb (.tmp (hl hd 4 9 rfl)) (fun hb4 => .cB) (fun hb4 => (HasO.cnd (.tmp (hl hd 6 11 rfl)) (notT hb4))) hv_v_5) ?_
      refine dS 9 (fun γ ρ B hb hd => op_move lb (.tmp (hl hd 7 12 rfl))) ?_
      refine dC 10 (!v_5) (fun γ => ov (S (rI .i64) n_1)) (fun γ ρ B hb hd => ⟨(Guard.isF (ltB rfl) rfl (hl hd 8 13 rfl)), fun hq_5 => op_move lb (.tmp (hb 1 _ rfl))⟩) ?_
      refine DSteps.cons (j := 11) rfl (fun _ => rfl) (.skip (fun γ ρ B hb hd => ⟨.no rfl (ltB rfl) (hl hd 8 13 rfl) hc7, rfl, rfl, rfl, fun d h => by cases h; exact ltB rfl⟩)) ?_
      refine DSteps.cons (j := 12) rfl (fun _ => rfl) (.skip (fun γ ρ B hb hd => ⟨.no rfl (ltB rfl) (hl hd 8 13 rfl) hc7, rfl, rfl, rfl, fun d h => by cases h; exact ltB rfl⟩)) ?_
      refine DSteps.cons (j := 13) rfl (fun _ => rfl) (.skip (fun γ ρ B hb hd => ⟨.no rfl (ltB rfl) (hl hd 8 13 rfl) hc7, rfl, rfl, rfl, fun d h => by cases h; exact ltB rfl⟩)) ?_
      refine DSteps.cons (j := 14) rfl (fun _ => rfl) (.skip (fun γ ρ B hb hd => ⟨.no rfl (ltB rfl) (hl hd 8 13 rfl) hc7, rfl, rfl, rfl, fun d h => by cases h; exact ltB rfl⟩)) ?_
      refine DSteps.cons (j := 15) rfl (fun _ => rfl) (.skip (fun γ ρ B hb hd => ⟨.no rfl (ltB rfl) (hl hd 8 13 rfl) hc7, rfl, rfl, rfl, fun d h => by cases h; exact ltB rfl⟩)) ?_
      refine DSteps.cons (j := 16) rfl (fun _ => rfl) (.skip (fun γ ρ B hb hd => ⟨.no rfl (ltB rfl) (hl hd 8 13 rfl) hc7, rfl, rfl, rfl, fun d h => by cases h; exact ltB rfl⟩)) ?_
      refine DSteps.cons (j := 17) rfl (fun _ => rfl) (.skip (fun γ ρ B hb hd => ⟨.no rfl (ltB rfl) (hl hd 8 13 rfl) hc7, rfl, rfl, rfl, fun d h => by cases h; exact ltB rfl⟩)) ?_
      refine DSteps.cons (j := 18) rfl (fun _ => rfl) (.skip (fun γ ρ B hb hd => ⟨.no rfl (ltB rfl) (hl hd 8 13 rfl) hc7, rfl, rfl, rfl, fun d h => by cases h; exact ltB rfl⟩)) ?_
      refine DSteps.cons (j := 19) rfl (fun _ => rfl) (.skip (fun γ ρ B hb hd => ⟨.no rfl (ltB rfl) (hl hd 8 13 rfl) hc7, rfl, rfl, rfl, fun d h => by cases h; exact ltB rfl⟩)) ?_
      refine DSteps.cons (j := 20) rfl (fun _ => rfl) (.skip (fun γ ρ B hb hd => ⟨.no rfl (ltB rfl) (hl hd 8 13 rfl) hc7, rfl, rfl, rfl, fun d h => by cases h; exact ltB rfl⟩)) ?_
      refine DSteps.cons (j := 21) rfl (fun _ => rfl) (.skip (fun γ ρ B hb hd => ⟨.no rfl (ltB rfl) (hl hd 8 13 rfl) hc7, rfl, rfl, rfl, fun d h => by cases h; exact ltB rfl⟩)) ?_
      refine dS 22 (fun γ ρ B hb hd => op_pickT lb (.tmp (hl hd 8 13 rfl)) hc7 .cB) ?_
      exact DSteps.nil)
         (by decide +kernel) (fun _ => rfl) rfl (fun _ => rfl) (fun _ => rfl) rfl (by decide) (by decide) (by decide +kernel) (fun _ d h => by cases h)
         (ρ' := fun γ => [(0, ov (PTR gb_3 0)), (1, ov (S (rI .i64) n_1)), (26, ov (S rB true))])
         (X' := fun γ => [cvar gb_3 r_ref01_Reader r_2])
         (fun γ ρ hb hd => (.cons (hb 0 _ rfl (by decide)) (.cons (hb 1 _ rfl (by decide)) (.cons (hdq hd 21 26 rfl) .nil)))) (fun _ => rfl) (fun γ => ?_)
     refine JQ.at ⟨[(0, ov (PTR gb_3 0)), (1, ov (S (rI .i64) n_1)), (26, ov (S rB true))], [cvar gb_3 r_ref01_Reader r_2], []⟩ ?_
     replace hx1 := Option.some.inj hx1
     first | subst hx1 | clear hx1
     exact JQ.join () (Imp.norm (js := [0]) rfl (.cons rfl (.cons rfl (.cons rfl .nil))))
   · replace hx1 := lt1_inv hx1
     obtain ⟨v_6, hv_v_6, hx1⟩ := hx1
     replace hx1 := lt1_inv hx1
     obtain ⟨v_7, hv_v_7, hx1⟩ := hx1
     refine JC.anyE (kl := []) (kk := 0) (base := [(0, ov (PTR gb_3 0)), (1, ov (S (rI .i64) n_1))])
         (fs := fun γ => [⟨some 5, ov (PTR gb_3 0)⟩, ⟨some 6, ov (PTR gb_3 0)⟩, ⟨some 7, ov (PTR gb_3 (0 + 2))⟩, ⟨some 8, ov (S rB r_2.Failed)⟩, ⟨some 9, ov (S rB r_2.Failed)⟩, ⟨some 10, bif (!r_2.Failed) then ov (S (rI .i64) n_1) else .one .und⟩, ⟨some 11, bif (!r_2.Failed) then ov (S rB v_4) else .one .und⟩, ⟨some 12, ov (S rB v_5)⟩, ⟨some 13, ov (S rB v_5)⟩, ⟨some 14, bif (!v_5) then ov (S (rI .i64) n_1) else .one .und⟩, ⟨some 15, ov (PTR gb_3 0)⟩, ⟨some 16, ov (PTR gb_3 0)⟩, ⟨some 17, ov (PTR gb_3 (0 + 0))⟩, ⟨some 18, ov (S (rL (rU UInt8)) r_2.B)⟩, ⟨some 19, ov (S (rI .i64) (List.length r_2.B : Int))⟩, ⟨some 20, ov (PTR gb_3 0)⟩, ⟨some 21, ov (PTR gb_3 0)⟩, ⟨some 22, ov (PTR gb_3 (0 + 1))⟩, ⟨some 23, ov (S (rI .i64) r_2.At)⟩, ⟨some 24, ov (S (rI .i64) v_6)⟩, ⟨some 25, ov (S rB v_7)⟩, ⟨some 26, ov (S rB v_7)⟩])
         (rs := fun γ => [⟨cvar gb_3 r_ref01_Reader r_2, none, none, [3, 13, 18]⟩])
         (ds := [5, 6, 7, 8, 9, 10, 11, 12, 13, 14, 15, 16, 17, 18, 19, 20, 21, 22, 23, 24, 25, 26]) (bs := [0, 1]) (afts := [[], [], [], [], [], [], [], [], [], [], [], [], [], [], [], [], [], [], [], [], [], []]) (js := [0]) mixed (.cons rfl (.cons rfl .nil)) (fun _ => rfl)
         (by
      refine dS 1 (fun γ ρ B hb hd => op_move lb (.tmp (hb 0 _ rfl))) ?_
      refine dS 2 (fun γ ρ B hb hd => op_nilCheck lb (.tmp (hl hd 0 5 rfl)) (fun e v h => by subst h; rfl)) ?_
      refine dS 3 (fun γ ρ B hb hd => op_fieldAddr (off := 2) lb tf77_2 (.tmp (hl hd 1 6 rfl))) ?_
      refine DSteps.cons (j := 4) rfl (fun _ => rfl) (.run (fun γ ρ B hb hd => ⟨.none, OpStep.at ⟨ρ, (cvar gb_3 r_ref01_Reader r_2) :: B, _⟩ (setO ⟨ρ, (cvar gb_3 r_ref01_Reader r_2) :: B, _⟩ _ _) (op_loadS (j := 0) lb tS4 (.tmp (hl hd 2 7 rfl)) rfl (Comp.trans (Comp.self r_ref01_Reader r_2) (comp_ref01_Reader_Failed r_2) (Nat.le_of_ble_eq_true rfl)) rfl rfl)⟩)) ?_
      refine dS 5 (fun γ ρ B hb hd => op_move lb (.tmp (hl hd 3 8 rfl))) ?_
      refine dC 6 (!r_2.Failed) (fun γ => ov (S (rI .i64) n_1)) (fun γ ρ B hb hd => ⟨(Guard.isF (ltB rfl) rfl (hl hd 4 9 rfl)), fun hq_2 => op_move lb (.tmp (hb 1 _ rfl))⟩) ?_
      refine dC 7 (!r_2.Failed) (fun γ => ov (S rB v_4)) (fun γ ρ B hb hd => ⟨(Guard.isF (ltB rfl) rfl (hl hd 4 9 rfl)), fun hq_3 => op_cmpI lb (HasO.cnd (.tmp (hl hd 5 10 rfl)) (notT (notF hq_3))) .cI (congrArg some hv_v_4)⟩) ?_
      refine dS 8 (fun γ ρ B hb hd => op_pickCS lb (.tmp (hl hd 4 9 rfl)) (fun hb4 => .cB) (fun hb4 => (HasO.cnd (.tmp (hl hd 6 11 rfl)) (notT hb4))) hv_v_5) ?_
      refine dS 9 (fun γ ρ B hb hd => op_move lb (.tmp (hl hd 7 12 rfl))) ?_
      refine dC 10 (!v_5) (fun γ => ov (S (rI .i64) n_1)) (fun γ ρ B hb hd => ⟨(Guard.isF (ltB rfl) rfl (hl hd 8 13 rfl)), fun hq_5 => op_move lb (.tmp (hb 1 _ rfl))⟩) ?_
      refine DSteps.cons (j := 11) rfl (fun _ => rfl) (.run (fun γ ρ B hb hd => ⟨.yes rfl (ltB rfl) (hl hd 8 13 rfl) hc7, OpStep.at ⟨ρ, B, _⟩ (setO ⟨ρ, B, _⟩ _ _) (op_move lb (.tmp (hb 0 _ rfl)))⟩)) ?_
      refine DSteps.cons (j := 12) rfl (fun _ => rfl) (.run (fun γ ρ B hb hd => ⟨.yes rfl (ltB rfl) (hl hd 8 13 rfl) hc7, OpStep.at ⟨ρ, B, _⟩ (setO ⟨ρ, B, _⟩ _ _) (op_nilCheck lb (.tmp (hl hd 10 15 rfl)) (fun e v h => by subst h; rfl))⟩)) ?_
      refine DSteps.cons (j := 13) rfl (fun _ => rfl) (.run (fun γ ρ B hb hd => ⟨.yes rfl (ltB rfl) (hl hd 8 13 rfl) hc7, OpStep.at ⟨ρ, B, _⟩ (setO ⟨ρ, B, _⟩ _ _) (op_fieldAddr (off := 0) lb tf77_0 (.tmp (hl hd 11 16 rfl)))⟩)) ?_
      refine DSteps.cons (j := 14) rfl (fun _ => rfl) (.run (fun γ ρ B hb hd => ⟨.yes rfl (ltB rfl) (hl hd 8 13 rfl) hc7, OpStep.at ⟨ρ, (cvar gb_3 r_ref01_Reader r_2) :: B, _⟩ (setO ⟨ρ, (cvar gb_3 r_ref01_Reader r_2) :: B, _⟩ _ _) (op_loadS (j := 0) lb tS35 (.tmp (hl hd 12 17 rfl)) rfl (Comp.trans (Comp.self r_ref01_Reader r_2) (comp_ref01_Reader_B r_2) (Nat.le_of_ble_eq_true rfl)) rfl rfl)⟩)) ?_
      refine DSteps.cons (j := 15) rfl (fun _ => rfl) (.run (fun γ ρ B hb hd => ⟨.yes rfl (ltB rfl) (hl hd 8 13 rfl) hc7, OpStep.at ⟨ρ, B, _⟩ (setO ⟨ρ, B, _⟩ _ _) (op_lenL lb tu35 (.tmp (hl hd 13 18 rfl)))⟩)) ?_
      refine DSteps.cons (j := 16) rfl (fun _ => rfl) (.run (fun γ ρ B hb hd => ⟨.yes rfl (ltB rfl) (hl hd 8 13 rfl) hc7, OpStep.at ⟨ρ, B, _⟩ (setO ⟨ρ, B, _⟩ _ _) (op_move lb (.tmp (hb 0 _ rfl)))⟩)) ?_
      refine DSteps.cons (j := 17) rfl (fun _ => rfl) (.run (fun γ ρ B hb hd => ⟨.yes rfl (ltB rfl) (hl hd 8 13 rfl) hc7, OpStep.at ⟨ρ, B, _⟩ (setO ⟨ρ, B, _⟩ _ _) (op_nilCheck lb (.tmp (hl hd 15 20 rfl)) (fun e v h => by subst h; rfl))⟩)) ?_
      refine DSteps.cons (j := 18) rfl (fun _ => rfl) (.run (fun γ ρ B hb hd => ⟨.yes rfl (ltB rfl) (hl hd 8 13 rfl) hc7, OpStep.at ⟨ρ, B, _⟩ (setO ⟨ρ, B, _⟩ _ _) (op_fieldAddr (off := 1) lb tf77_1 (.tmp (hl hd 16 21 rfl)))⟩)) ?_
      refine DSteps.cons (j := 19) rfl (fun _ => rfl) (.run (fun γ ρ B hb hd => ⟨.yes rfl (ltB rfl) (hl hd 8 13 rfl) hc7, OpStep.at ⟨ρ, (cvar gb_3 r_ref01_Reader r_2) :: B, _⟩ (setO ⟨ρ, (cvar gb_3 r_ref01_Reader r_2) :: B, _⟩ _ _) (op_loadS (j := 0) lb tS3 (.tmp (hl hd 17 22 rfl)) rfl (Comp.trans (Comp.self r_ref01_Reader r_2) (comp_ref01_Reader_At r_2) (Nat.le_of_ble_eq_true rfl)) rfl rfl)⟩)) ?_
      refine DSteps.cons (j := 20) rfl (fun _ => rfl) (.run (fun γ ρ B hb hd => ⟨.yes rfl (ltB rfl) (hl hd 8 13 rfl) hc7, OpStep.at ⟨ρ, B, _⟩ (setO ⟨ρ, B, _⟩ _ _) (op_arI lb (.tmp (hl hd 14 19 rfl)) (.tmp (hl hd 18 23 rfl)) (congrArg some hv_v_6))⟩)) ?_
      refine DSteps.cons (j := 21) rfl (fun _ => rfl) (.run (fun γ ρ B hb hd => ⟨.yes rfl (ltB rfl) (hl hd 8 13 rfl) hc7, OpStep.at ⟨ρ, B, _⟩ (setO ⟨ρ, B, _⟩ _ _) (op_cmpI lb (HasO.cnd (.tmp (hl hd 9 14 rfl)) (notT hc7)) (.tmp (hl hd 19 24 rfl)) (congrArg some hv_v_7))⟩)) ?_
      refine dS 22 (fun γ ρ B hb hd => op_pickF lb (.tmp (hl hd 8 13 rfl)) hc7 (.tmp (hl hd 20 25 rfl))) ?_
      exact DSteps.nil)
         (by decide +kernel) (fun _ => rfl) rfl (fun _ => rfl) (fun _ => rfl) rfl (by decide) (by decide) (by decide +kernel) (fun _ d h => by cases h)
         (ρ' := fun γ => [(0, ov (PTR gb_3 0)), (1, ov (S (rI .i64) n_1)), (26, ov (S rB v_7))])
         (X' := fun γ => [cvar gb_3 r_ref01_Reader r_2])
         (fun γ ρ hb hd => (.cons (hb 0 _ rfl (by decide)) (.cons (hb 1 _ rfl (by decide)) (.cons (hdq hd 21 26 rfl) .nil)))) (fun _ => rfl) (fun γ => ?_)
     refine JQ.at ⟨[(0, ov (PTR gb_3 0)), (1, ov (S (rI .i64) n_1)), (26, ov (S rB v_7))], [cvar gb_3 r_ref01_Reader r_2], []⟩ ?_
     replace hx1 := Option.some.inj hx1
     first | subst hx1 | clear hx1
     exact JQ.join () (Imp.norm (js := [0]) rfl (.cons rfl (.cons rfl (.cons rfl .nil))))

theorem sim_ref01_Get (k : Nat) (b_1 : (List UInt8)) (r : UInt64) (hm : ref01_Get k b_1 = some r) : Sim Try.prog 67 [S (rL (rU UInt8)) b_1] [] (γ := Unit) (fun q => []) (fun q => .one (.val (S (rU UInt64) r))) := by
 unfold ref01_Get at hm
 refine Sim.of Try.func67 rfl rfl (Nat.le_of_ble_eq_true rfl) (fun e0 w0 => ?_)
 refine JC.at ⟨[(0, ov (S (rL (rU UInt8)) b_1))], [], []⟩ ?_
 refine JC.seq ?_
 refine JC.region ?_
 refine jc (op_assign lb (HasO.cU (x := (0 : UInt64)) rfl (by decide))) ?_
 refine JL.nil ?_
 refine JQ.then ?_
 refine JC.seq ?_
 refine JC.region ?_
 refine jc (op_assign lb (HasO.cU (x := (0 : UInt64)) rfl (by decide))) ?_
 refine JL.nil ?_
 refine JQ.then ?_
 replace hm := bnd_inv hm
 obtain ⟨n_10, hx1, hq1⟩ := hm
 refine JC.seqJ (γ := Unit) (stj := fun q => ⟨[(3, ov (S (rU UInt64) n_10))], [], []⟩) (fun q => ?_) ?_
 · obtain _ := q
   refine JC.at ⟨[(3, ov (S (rU UInt64) n_10))], [], []⟩ ?_
   refine JC.seq ?_
   refine JC.region ?_
   refine jc (op_move lb (.tmp rfl)) ?_
   refine jc (op_assign lb (.tmp rfl)) ?_
   refine JL.nil ?_
   refine JQ.then ?_
   refine JC.ret ?_
   replace hq1 := Option.some.inj hq1
   subst hq1
   exact JQ.done (js := []) (ss := [.val (S (rU UInt64) n_10)]) () (.inl rfl) (.nil rfl) rfl (.cons (.tmp rfl) .nil) rfl rfl rfl
 · refine JC.seq ?_
   refine JC.region ?_
   refine jc (op_assign lb .cI) ?_
   refine JL.nil ?_
   refine JQ.then ?_
   refine JC.block ?_
   refine JC.pre ?_ (JC.loop (γ := Unit) (stf := fun s q => ⟨[(0, ov (S (rL (rU UInt8)) b_1)), (3, ov (S (rU UInt64) s.1)), (4, ov (S (rI .i64) s.2))], [], []⟩) (q := ()) hx1 ?_)
   · exact (Imp.norm (js := []) rfl (.cons rfl (.cons rfl (.cons rfl .nil))))
   · intro s q x hx hr
     obtain ⟨n_2, i_3⟩ := s
     obtain _ := q
     change ref01_Get.b1 k b_1 n_2 i_3 = some x at hx
     unfold ref01_Get.b1 at hx
     refine JC.at ⟨[(0, ov (S (rL (rU UInt8)) b_1)), (3, ov (S (rU UInt64) n_2)), (4, ov (S (rI .i64) i_3))], [], []⟩ ?_
     refine JC.seq ?_
     refine JC.seq ?_
     refine JC.region ?_
     refine jc (op_move lb (.tmp rfl)) ?_
     refine jc (op_move lb (.tmp rfl)) ?_
     refine jc (op_lenL lb tu35 (.tmp rfl)) ?_
     replace hx := lt1_inv hx
     obtain ⟨v_4, hv_v_4, hx⟩ := hx
     refine jc (op_cmpI lb (.tmp rfl) (.tmp rfl) (congrArg some hv_v_4)) ?_
     refine JL.nil ?_
     refine JQ.then ?_
     replace hx := iteB_inv hx
     rcases hx with ⟨hc3, hx⟩ | ⟨hc3, hx⟩
     · refine JC.condT (.tmp rfl) hc3 ?_
       refine JC.skip ?_
       refine JQ.then ?_
       refine JC.seq ?_
       refine JC.block ?_
       refine JC.region ?_
       refine jc (op_move lb (.tmp rfl)) ?_
       replace hx := lt1_inv hx
       obtain ⟨v_5, hv_v_5, hx⟩ := hx
       refine jc (op_arU lb (.tmp rfl) (HasO.cU (x := (256 : UInt64)) rfl (by decide)) (congrArg some hv_v_5)) ?_
       refine jc (op_move lb (.tmp rfl)) ?_
       refine jc (op_move lb (.tmp rfl)) ?_
       replace hx := bnd_inv hx
       obtain ⟨v_6, hv_v_6, hx⟩ := hx
       refine jc (op_indexAddrLg lb tu35 tz5 (.tmp rfl) (.tmp rfl) hv_v_6) ?_
       refine jc (op_loadPSg lb tS5 rfl (.tmp rfl) rfl) ?_
       replace hx := lt1_inv hx
       obtain ⟨v_7, hv_v_7, hx⟩ := hx
       refine jc (op_convUU lb tu5 tu22 (.tmp rfl) hv_v_7) ?_
       replace hx := lt1_inv hx
       obtain ⟨v_8, hv_v_8, hx⟩ := hx
       refine jc (op_arU lb (.tmp rfl) (.tmp rfl) (congrArg some hv_v_8)) ?_
       refine JL.sub ⟨[(0, ov (S (rL (rU UInt8)) b_1)), (3, ov (S (rU UInt64) n_2)), (4, ov (S (rI .i64) i_3)), (18, ov (S (rU UInt64) v_8))], [], []⟩ (.cons rfl (.cons rfl (.cons rfl (.cons rfl .nil)))) rfl rfl ?_
       refine jc (op_assign lb (.tmp rfl)) ?_
       refine JL.nil ?_
       refine JQ.outNB ?_
       refine JQ.then ?_
       refine JC.region ?_
       refine jc (op_move lb (.tmp rfl)) ?_
       replace hx := lt1_inv hx
       obtain ⟨v_9, hv_v_9, hx⟩ := hx
       refine jc (op_arI lb (.tmp rfl) .cI (congrArg some hv_v_9)) ?_
       refine jc (op_assign lb (.tmp rfl)) ?_
       refine JL.nil ?_
       replace hx := Option.some.inj hx
       first | subst hx | clear hx
       exact JQ.next () rfl (Imp.norm (js := []) rfl (.cons rfl (.cons rfl (.cons rfl .nil))))
     · refine JC.condF (.tmp rfl) hc3 ?_
       refine JC.exit ?_
       refine JQ.outX ?_
       replace hx := Option.some.inj hx
       first | subst hx | clear hx
       have ht := hr _ rfl
       have hq2 := congrArg some ht
       clear hr ht
       refine JQ.outX ?_
       refine JQ.here ?_
       replace hq2 := Option.some.inj hq2
       first | subst hq2 | clear hq2
       exact JQ.join () (Imp.norm (js := []) rfl (.cons rfl .nil))

theorem sim_ref01_Reader_Dot (k : Nat) (r_1 : ref01_Reader) (gb_2 : Nat) (r : api_Dot × ref01_Reader) (hm : ref01_Reader_Dot k r_1 = some r) : Sim Try.prog 46 [PTR gb_2 0] [cvar gb_2 r_ref01_Reader r_1] (γ := Unit) (fun q => [cvar gb_2 r_ref01_Reader r.2]) (fun q => .one (.val (A r_api_Dot r.1))) := by
 unfold ref01_Reader_Dot at hm
 refine Sim.of Try.func46 rfl rfl (Nat.le_of_ble_eq_true rfl) (fun e0 w0 => ?_)
 refine JC.at ⟨[(0, ov (PTR gb_2 0))], [cvar gb_2 r_ref01_Reader r_1], []⟩ ?_
 refine JC.seq ?_
 refine JC.region ?_
 refine jx (op_alloc lb tZ24 zr24) (fun q => ?_)
 obtain ⟨gb_3, hqq⟩ : ∃ z, z = q := ⟨_, rfl⟩
 subst hqq
 refine JL.nil ?_
 refine JQ.then ?_
 refine JC.seq ?_
 refine JC.region ?_
 refine jc (op_move lb (.tmp rfl)) ?_
 replace hm := bnd_inv hm
 obtain ⟨⟨v_4, x_5⟩, hv_v_4, hm⟩ := hm
 refine jx (op_call (js := [0]) ld cl66 (sim_ref01_Reader_Bytes k (9 : Int) r_1 gb_2 (v_4, x_5) hv_v_4) .func (.cons (.tmp rfl) (.cons .cI .nil)) rfl) (fun _ => ?_)
 refine jc (op_assign lb (.tmp rfl)) ?_
 refine JL.nil ?_
 refine JQ.then ?_
 refine JC.seq ?_
 refine JC.seq ?_
 refine JC.region ?_
 refine jc (op_move lb (.tmp rfl)) ?_
 refine jc (op_lenL lb tu35 (.tmp rfl)) ?_
 replace hm := lt1_inv hm
 obtain ⟨v_6, hv_v_6, hm⟩ := hm
 refine jc (op_cmpI lb (.tmp rfl) .cI (congrArg some hv_v_6)) ?_
 refine JL.nil ?_
 refine JQ.then ?_
 replace hm := iteB_inv hm
 rcases hm with ⟨hc1, hm⟩ | ⟨hc1, hm⟩
 · refine JC.condT (.tmp rfl) hc1 ?_
   refine JC.seq ?_
   refine JC.region ?_
   refine jc (op_build lb tZ24 zv24 tp24 .nil rfl) ?_
   refine JL.sub ⟨[(2, ov (PTR gb_3 0)), (9, ov (A r_api_Dot (api_Dot.mk (0 : Int) (0 : UInt64))))], [cvar gb_2 r_ref01_Reader x_5, cvar gb_3 r_api_Dot (api_Dot.mk (0 : Int) (0 : UInt64))], []⟩ (.cons rfl (.cons rfl .nil)) rfl rfl ?_
   refine jc (op_storeA (j := 1) tA24 (.tmp rfl) (.tmp rfl) rfl (UpdR.self (by rfl)) rfl) ?_
   refine JL.nil ?_
   refine JQ.then ?_
   refine JC.ret ?_
   refine JQ.outR ?_
   replace hm := Option.some.inj hm
   subst hm
   exact JQ.done (js := [0]) (ss := [.val (A r_api_Dot (api_Dot.mk (0 : Int) (0 : UInt64)))]) () (.inl rfl) (.nil rfl) rfl (.cons (.cellA (j := 1) tA24 rfl rfl) .nil) rfl rfl rfl
 · refine JC.condF (.tmp rfl) hc1 ?_
   refine JC.skip ?_
   refine JQ.then ?_
   refine JC.seq ?_
   replace hm := bnd_inv hm
   obtain ⟨v_7, hv_v_7, hm⟩ := hm
   replace hm := lt1_inv hm
   obtain ⟨v_8, hv_v_8, hm⟩ := hm
   replace hm := bnd_inv hm
   obtain ⟨v_9, hv_v_9, hm⟩ := hm
   replace hm := bnd_inv hm
   obtain ⟨v_10, hv_v_10, hm⟩ := hm
   refine JC.anyE (kl := []) (kk := 0) (base := [(2, ov (PTR gb_3 0)), (3, ov (S (rL (rU UInt8)) v_4))])
       (fs := fun γ => [⟨some 10, ov (S (rL (rU UInt8)) v_4)⟩, ⟨some 11, ov (PT (rU UInt8) v_7)⟩, ⟨some 12, ov (S (rU UInt8) v_7)⟩, ⟨some 13, ov (S (rI .i64) v_8)⟩, ⟨some 14, ov (S (rL (rU UInt8)) v_4)⟩, ⟨some 15, ov (S (rL (rU UInt8)) v_9)⟩, ⟨some 16, ov (S (rU UInt64) v_10)⟩, ⟨some 17, ov (A (rP (rI .i64) (rP (rU UInt64) r0)) (v_8, (v_10, ())))⟩, ⟨none, .one .any⟩])
       (rs := fun γ => [⟨cvar gb_2 r_ref01_Reader x_5, none, none, []⟩, ⟨cvar gb_3 r_api_Dot (api_Dot.mk (0 : Int) (0 : UInt64)), none, (some 8), []⟩, ⟨cvar gb_3 (rP (rI .i64) (rP (rU UInt64) r0)) (v_8, (v_10, ())), (some 8), none, []⟩])
       (ds := [10, 11, 12, 13, 14, 15, 16, 17]) (bs := [2, 3]) (afts := [[], [], [], [], [], [], [], [], []]) (js := [0, 0]) mixed (.cons rfl (.cons rfl .nil)) (fun _ => rfl)
       (by
      refine dS 1 (fun γ ρ B hb hd => op_move lb (.tmp (hb 3 _ rfl))) ?_
      refine dS 2 (fun γ ρ B hb hd => op_indexAddrLg lb tu35 tz5 (.tmp (hl hd 0 10 rfl)) .cI hv_v_7) ?_
      refine dS 3 (fun γ ρ B hb hd => op_loadPSg lb tS5 rfl (.tmp (hl hd 1 11 rfl)) rfl) ?_
      refine dS 4 (fun γ ρ B hb hd => op_convUI lb tu5 tu3 (.tmp (hl hd 2 12 rfl)) hv_v_8) ?_
      refine dS 5 (fun γ ρ B hb hd => op_move lb (.tmp (hb 3 _ rfl))) ?_
      refine dS 6 (fun γ ρ B hb hd => op_sliceLg lb tu35 tz5 (.tmp (hl hd 4 14 rfl)) (.some .cI) .none hv_v_9) ?_
      refine dS 7 (fun γ ρ B hb hd => (op_call (js := []) ld cl67 (sim_ref01_Get k v_9 v_10 hv_v_10) .func (.cons (.tmp (hl hd 5 15 rfl)) .nil) rfl).post (fun _ => Imp.refl)) ?_
      refine dS 8 (fun γ ρ B hb hd => op_build lb tZ24 zs24 tp24 (.S (off := 0) rfl (.tmp (hl hd 3 13 rfl)) rfl ((UpdR.fst (UpdR.self (by rfl))).at (by rfl)) (.S (off := 1) rfl (.tmp (hl hd 6 16 rfl)) rfl ((UpdR.snd (UpdR.fst (UpdR.self (by rfl)))).at (by rfl)) .nil)) rfl) ?_
      refine DSteps.cons (j := 9) rfl (fun _ => rfl) (.run (fun γ ρ B hb hd => ⟨.none, OpStep.at ⟨ρ, (cvar gb_3 r_api_Dot (api_Dot.mk (0 : Int) (0 : UInt64))) :: B, _⟩ (setO ⟨ρ, (cvar gb_3 (rP (rI .i64) (rP (rU UInt64) r0)) (v_8, (v_10, ()))) :: B, _⟩ _ _) (op_storeA (j := 0) tA24 (.tmp (hb 2 _ rfl)) (.tmp (hl hd 7 17 rfl)) rfl (UpdR.self (by rfl)) rfl)⟩)) ?_
      exact DSteps.nil)
       (by decide +kernel) (fun _ => rfl) rfl (fun _ => rfl) (fun _ => rfl) rfl (by decide) (by decide) (by decide +kernel) (fun _ d h => by cases h)
       (ρ' := fun γ => [(2, ov (PTR gb_3 0))])
       (X' := fun γ => [cvar gb_2 r_ref01_Reader x_5, cvar gb_3 (rP (rI .i64) (rP (rU UInt64) r0)) (v_8, (v_10, ()))])
       (fun γ ρ hb hd => (.cons (hb 2 _ rfl (by decide)) .nil)) (fun _ => rfl) (fun γ => ?_)
   refine JQ.at ⟨[(2, ov (PTR gb_3 0))], [cvar gb_2 r_ref01_Reader x_5, cvar gb_3 (rP (rI .i64) (rP (rU UInt64) r0)) (v_8, (v_10, ()))], []⟩ ?_
   refine JQ.then ?_
   refine JC.ret ?_
   replace hm := Option.some.inj hm
   subst hm
   refine JQ.pre (Imp.var (j := 1) (q := r_api_Dot) (y := (api_Dot.mk v_8 v_10)) rfl (Wk.st Wk.refl)) ?_
   exact JQ.done (js := [0]) (ss := [.val (A r_api_Dot (api_Dot.mk v_8 v_10))]) () (.inl rfl) (.nil rfl) rfl (.cons (.cellA (j := 1) tA24 rfl rfl) .nil) rfl rfl rfl

theorem sim_ref01_Reader_Number (k : Nat) (size_1 : Int) (r_2 : ref01_Reader) (gb_3 : Nat) (r : UInt64 × ref01_Reader) (hm : ref01_Reader_Number k size_1 r_2 = some r) : Sim Try.prog 49 [PTR gb_3 0, S (rI .i64) size_1] [cvar gb_3 r_ref01_Reader r_2] (γ := Unit) (fun q => [cvar gb_3 r_ref01_Reader r.2]) (fun q => .one (.val (S (rU UInt64) r.1))) := by
 unfold ref01_Reader_Number at hm
 refine Sim.of Try.func49 rfl rfl (Nat.le_of_ble_eq_true rfl) (fun e0 w0 => ?_)
 refine JC.at ⟨[(0, ov (PTR gb_3 0)), (1, ov (S (rI .i64) size_1))], [cvar gb_3 r_ref01_Reader r_2], []⟩ ?_
 refine JC.seq ?_
 refine JC.region ?_
 refine jc (op_assign lb (HasO.cU (x := (0 : UInt64)) rfl (by decide))) ?_
 refine JL.nil ?_
 refine JQ.then ?_
 replace hm := bnd_inv hm
 obtain ⟨r_9, hx1, hq1⟩ := hm
 refine JC.seqJ (γ := Unit) (stj := fun q => ⟨[(0, ov (PTR gb_3 0)), (1, ov (S (rI .i64) size_1))], [cvar gb_3 r_ref01_Reader r_9], []⟩) (fun q => ?_) ?_
 · obtain _ := q
   refine JC.at ⟨[(0, ov (PTR gb_3 0)), (1, ov (S (rI .i64) size_1))], [cvar gb_3 r_ref01_Reader r_9], []⟩ ?_
   refine JC.seq ?_
   refine JC.region ?_
   refine jc (op_move lb (.tmp rfl)) ?_
   refine jc (op_move lb (.tmp rfl)) ?_
   replace hq1 := bnd_inv hq1
   obtain ⟨⟨v_10, x_11⟩, hv_v_10, hq1⟩ := hq1
   refine jx (op_call (js := [0]) ld cl66 (sim_ref01_Reader_Bytes k size_1 r_9 gb_3 (v_10, x_11) hv_v_10) .func (.cons (.tmp rfl) (.cons (.tmp rfl) .nil)) rfl) (fun _ => ?_)
   replace hq1 := bnd_inv hq1
   obtain ⟨v_12, hv_v_12, hq1⟩ := hq1
   refine jx (op_call (js := []) ld cl67 (sim_ref01_Get k v_10 v_12 hv_v_12) .func (.cons (.tmp rfl) .nil) rfl) (fun _ => ?_)
   refine jc (op_assign lb (.tmp rfl)) ?_
   refine JL.nil ?_
   refine JQ.then ?_
   refine JC.ret ?_
   replace hq1 := Option.some.inj hq1
   subst hq1
   exact JQ.done (js := [0]) (ss := [.val (S (rU UInt64) v_12)]) () (.inl rfl) (.nil rfl) rfl (.cons (.tmp rfl) .nil) rfl rfl rfl
 · replace hx1 := bnd_inv hx1
   obtain ⟨x_7, hx2, hq2⟩ := hx1
   refine JC.seqJ (γ := Unit) (stj := fun q => ⟨[(0, ov (PTR gb_3 0)), (1, ov (S (rI .i64) size_1)), (10, ov (S rB x_7))], [cvar gb_3 r_ref01_Reader r_2], []⟩) (fun q => ?_) ?_
   · obtain _ := q
     refine JC.at ⟨[(0, ov (PTR gb_3 0)), (1, ov (S (rI .i64) size_1)), (10, ov (S rB x_7))], [cvar gb_3 r_ref01_Reader r_2], []⟩ ?_
     replace hq2 := iteB_inv hq2
     rcases hq2 with ⟨hc6, hq2⟩ | ⟨hc6, hq2⟩
     · refine JC.condT (.tmp rfl) hc6 ?_
       refine JC.region ?_
       refine jc (op_move lb (.tmp rfl)) ?_
       refine jc (op_nilCheck lb (.tmp rfl) (fun e v h => by subst h; rfl)) ?_
       refine jc (op_fieldAddr (off := 2) lb tf77_2 (.tmp rfl)) ?_
       replace hq2 := lt1_inv hq2
       obtain ⟨r_8, hv_r_8, hq2⟩ := hq2
       refine jc (op_storeS (j := 0) tS4 (.tmp rfl) .cB rfl rfl (Upd.trans (Comp.self r_ref01_Reader r_2) (Upd.self r_ref01_Reader r_2 _) (upd_ref01_Reader_Failed r_2 true)).R hv_r_8) ?_
       refine JL.nil ?_
       replace hq2 := Option.some.inj hq2
       first | subst hq2 | clear hq2
       exact JQ.join () (Imp.norm (js := [0]) rfl (.cons rfl (.cons rfl .nil)))
     · refine JC.condF (.tmp rfl) hc6 ?_
       refine JC.skip ?_
       replace hq2 := Option.some.inj hq2
       first | subst hq2 | clear hq2
       exact JQ.join () (Imp.norm (js := [0]) rfl (.cons rfl (.cons rfl .nil)))
   · refine JC.region ?_
     refine jc (op_move lb (.tmp rfl)) ?_
     replace hx2 := lt1_inv hx2
     obtain ⟨v_4, hv_v_4, hx2⟩ := hx2
     refine jc (op_cmpI lb (.tmp rfl) .cI (congrArg some hv_v_4)) ?_
     refine jc (op_move lb (.tmp rfl)) ?_
     refine JL.cnd (sv := ov (S (rI .i64) size_1)) (Guard.isF (ltB rfl) rfl rfl) rfl (ltB rfl) (fun hq_3 => op_move lb (.tmp rfl)) ?_
     replace hx2 := lt1_inv hx2
     obtain ⟨v_5, hv_v_5, hx2⟩ := hx2
     refine JL.cnd (sv := ov (S rB v_5)) (Guard.isF (ltB rfl) rfl rfl) rfl (ltB rfl) (fun hq_4 => op_cmpI lb (HasO.cnd (.tmp rfl) (notT (notF hq_4))) .cI (congrArg some hv_v_5)) ?_
     replace hx2 := lt1_inv hx2
     obtain ⟨v_6, hv_v_6, hx2⟩ := hx2
     refine jc (op_pickCS lb (.tmp rfl) (fun hb5 => .cB) (fun hb5 => (HasO.cnd (.tmp rfl) (notT hb5))) hv_v_6) ?_
     refine JL.nil ?_
     replace hx2 := Option.some.inj hx2
     first | subst hx2 | clear hx2
     exact JQ.join () (Imp.norm (js := [0]) rfl (.cons rfl (.cons rfl (.cons rfl .nil))))

theorem sim_ref01_Reader_Blob (k : Nat) (r_1 : ref01_Reader) (gb_2 : Nat) (r : (List UInt8) × ref01_Reader) (hm : ref01_Reader_Blob k r_1 = some r) : Sim Try.prog 47 [PTR gb_2 0] [cvar gb_2 r_ref01_Reader r_1] (γ := Unit) (fun q => [cvar gb_2 r_ref01_Reader r.2]) (fun q => .one (.val (S (rL (rU UInt8)) r.1))) := by
 unfold ref01_Reader_Blob at hm
 refine Sim.of Try.func47 rfl rfl (Nat.le_of_ble_eq_true rfl) (fun e0 w0 => ?_)
 refine JC.at ⟨[(0, ov (PTR gb_2 0))], [cvar gb_2 r_ref01_Reader r_1], []⟩ ?_
 refine JC.seq ?_
 refine JC.region ?_
 refine jc (op_assign lb HasO.nilH) ?_
 refine JL.nil ?_
 refine JQ.then ?_
 refine JC.seq ?_
 refine JC.region ?_
 refine jc (op_move lb (.tmp rfl)) ?_
 refine jc (op_move lb (.tmp rfl)) ?_
 replace hm := bnd_inv hm
 obtain ⟨⟨v_3, x_4⟩, hv_v_3, hm⟩ := hm
 refine jx (op_call (js := [0]) ld cl49 (sim_ref01_Reader_Number k (2 : Int) r_1 gb_2 (v_3, x_4) hv_v_3) .func (.cons (.tmp rfl) (.cons .cI .nil)) rfl) (fun _ => ?_)
 replace hm := lt1_inv hm
 obtain ⟨v_5, hv_v_5, hm⟩ := hm
 refine jc (op_convUI lb tu22 tu3 (.tmp rfl) hv_v_5) ?_
 replace hm := bnd_inv hm
 obtain ⟨⟨v_6, x_7⟩, hv_v_6, hm⟩ := hm
 refine jx (op_call (js := [0]) ld cl66 (sim_ref01_Reader_Bytes k v_5 x_4 gb_2 (v_6, x_7) hv_v_6) .func (.cons (.tmp rfl) (.cons (.tmp rfl) .nil)) rfl) (fun _ => ?_)
 refine jc (op_assign lb (.tmp rfl)) ?_
 refine JL.nil ?_
 refine JQ.then ?_
 refine JC.ret ?_
 replace hm := Option.some.inj hm
 subst hm
 exact JQ.done (js := [0]) (ss := [.val (S (rL (rU UInt8)) v_6)]) () (.inl rfl) (.nil rfl) rfl (.cons (.tmp rfl) .nil) rfl rfl rfl

end Go.Proofs.Ythoggbomakolkaa
