/- Walks. -/
import Derived.Test.YthoggbomakolkaaT
import Derived.Test.YthoggbomakolkaaW8
namespace Go.Proofs.Ythoggbomakolkaa
open Go Fw
set_option linter.unusedVariables false
set_option maxRecDepth 100000
set_option maxHeartbeats 4000000

theorem sim_ref09_Bytes (k : Nat) (e_1 : api_Event) (r : (List UInt8)) (hm : ref09_Bytes k e_1 = some r) : Sim Try.prog 19 [A r_api_Event e_1] [] (γ := Option Nat × Nat) (fun q => [cown q.1 (rU UInt8) r 0 q.2]) (fun q => .one (.val (HDR q.1 0 (List.length r) q.2))) := by
 unfold ref09_Bytes at hm
 refine Sim.of Try.func19 rfl rfl (Nat.le_of_ble_eq_true rfl) (fun e0 w0 => ?_)
 refine JC.at ⟨[(0, ov (A r_api_Event e_1))], [], []⟩ ?_
 refine JC.seq ?_
 refine JC.region ?_
 refine jx (op_boxA lb (.tmp rfl)) (fun q => ?_)
 obtain ⟨gb_2, hqq⟩ : ∃ z, z = q := ⟨_, rfl⟩
 subst hqq
 refine jc (op_assign lb HasO.nilH) ?_
 refine JL.nil ?_
 refine JQ.then ?_
 refine JC.seq ?_
 replace hm := bnd_inv hm
 obtain ⟨v_3, hv_v_3, hm⟩ := hm
 replace hm := bnd_inv hm
 obtain ⟨v_6, hv_v_6, hm⟩ := hm
 replace hm := bnd_inv hm
 obtain ⟨v_9, hv_v_9, hm⟩ := hm
 replace hm := bnd_inv hm
 obtain ⟨v_12, hv_v_12, hm⟩ := hm
 replace hm := lt1_inv hm
 obtain ⟨v_15, hv_v_15, hm⟩ := hm
 replace hm := bnd_inv hm
 obtain ⟨v_16, hv_v_16, hm⟩ := hm
 refine JC.anyE (kl := []) (kk := 0) (base := [(1, ov (PTR gb_2 0))])
     (fs := fun γ => [⟨some 5, ov (PTR gb_2 (0 + 0))⟩, ⟨some 6, ov (A r_api_Dot e_1.ID)⟩, ⟨some 7, ov (S (rL (rU UInt8)) v_3)⟩, ⟨some 8, ov (PTR gb_2 (0 + 2))⟩, ⟨some 9, ov (S rS e_1.Topic)⟩, ⟨some 10, ov (S (rL (rU UInt8)) e_1.Topic)⟩, ⟨some 11, ov (S (rL (rU UInt8)) v_6)⟩, ⟨some 12, ov (PTR gb_2 (0 + 3))⟩, ⟨some 13, ov (S (rL (rU UInt8)) e_1.Payload)⟩, ⟨some 14, ov (S (rL (rU UInt8)) v_9)⟩, ⟨some 15, ov (PTR gb_2 (0 + 4))⟩, ⟨some 16, ov (A (rV 16 (rU UInt64)) e_1.Past)⟩, ⟨some 17, ov (S (rL (rU UInt8)) v_12)⟩, ⟨some 18, ov (PTR gb_2 (0 + 20))⟩, ⟨some 19, ov (S (rL r_api_Dest) e_1.To)⟩, ⟨some 20, ov (S (rI .i64) (List.length e_1.To : Int))⟩, ⟨some 21, ov (S (rU UInt64) v_15)⟩, ⟨some 22, ov (S (rL (rU UInt8)) v_16)⟩, ⟨some 23, ov (HDR (some (γ 18 0)) 0 (List.length ([v_3, v_6, v_9, v_12, v_16] : (List (List UInt8)))) (5))⟩, ⟨some 3, ov (HDR (some (γ 18 0)) 0 (List.length ([v_3, v_6, v_9, v_12, v_16] : (List (List UInt8)))) (5))⟩])
     (rs := fun γ => [⟨cvar gb_2 r_api_Event e_1, none, none, [1, 4, 8, 11, 14]⟩, ⟨cown (some (γ 18 0)) (rL (rU UInt8)) ([v_3, v_6, v_9, v_12, v_16] : (List (List UInt8))) 0 (5), (some 18), none, []⟩])
     (ds := [5, 6, 7, 8, 9, 10, 11, 12, 13, 14, 15, 16, 17, 18, 19, 20, 21, 22, 23, 3]) (bs := [1]) (afts := [[], [], [], [], [], [], [], [], [], [], [], [], [], [], [], [], [], [], [18, 19], []]) (js := [0]) mixed (.cons rfl .nil) (fun _ => rfl)
     (by
      refine dS 1 (fun γ ρ B hb hd => op_fieldAddr (off := 0) lb tf38_0 (.tmp (hb 1 _ rfl))) ?_
      refine DSteps.cons (j := 2) rfl (fun _ => rfl) (.run (fun γ ρ B hb hd => ⟨.none, OpStep.at ⟨ρ, (cvar gb_2 r_api_Event e_1) :: B, _⟩ (setO ⟨ρ, (cvar gb_2 r_api_Event e_1) :: B, _⟩ _ _) (op_loadA (j := 0) lb tA24 (.tmp (hl hd 0 5 rfl)) rfl (Comp.trans (Comp.self r_api_Event e_1) (comp_api_Event_ID e_1) (Nat.le_of_ble_eq_true rfl)) rfl)⟩)) ?_
      refine dS 3 (fun γ ρ B hb hd => (op_call (js := []) ld cl33 (sim_ref01_Dot k e_1.ID v_3 hv_v_3) .func (.cons (.tmp (hl hd 1 6 rfl)) .nil) rfl).post (fun q => Imp.dropF (j := 0) rfl)) ?_
      refine dS 4 (fun γ ρ B hb hd => op_fieldAddr (off := 2) lb tf38_1 (.tmp (hb 1 _ rfl))) ?_
      refine DSteps.cons (j := 5) rfl (fun _ => rfl) (.run (fun γ ρ B hb hd => ⟨.none, OpStep.at ⟨ρ, (cvar gb_2 r_api_Event e_1) :: B, _⟩ (setO ⟨ρ, (cvar gb_2 r_api_Event e_1) :: B, _⟩ _ _) (op_loadS (j := 0) lb tS9 (.tmp (hl hd 3 8 rfl)) rfl (Comp.trans (Comp.self r_api_Event e_1) (comp_api_Event_Topic e_1) (Nat.le_of_ble_eq_true rfl)) rfl rfl)⟩)) ?_
      refine dS 6 (fun γ ρ B hb hd => op_convSB lb tu9 tu35 tu5 (.tmp (hl hd 4 9 rfl))) ?_
      refine dS 7 (fun γ ρ B hb hd => (op_call (js := []) ld cl34 (sim_ref01_Blob k e_1.Topic v_6 hv_v_6) .func (.cons (.tmp (hl hd 5 10 rfl)) .nil) rfl).post (fun q => Imp.dropF (j := 0) rfl)) ?_
      refine dS 8 (fun γ ρ B hb hd => op_fieldAddr (off := 3) lb tf38_2 (.tmp (hb 1 _ rfl))) ?_
      refine DSteps.cons (j := 9) rfl (fun _ => rfl) (.run (fun γ ρ B hb hd => ⟨.none, OpStep.at ⟨ρ, (cvar gb_2 r_api_Event e_1) :: B, _⟩ (setO ⟨ρ, (cvar gb_2 r_api_Event e_1) :: B, _⟩ _ _) (op_loadS (j := 0) lb tS35 (.tmp (hl hd 7 12 rfl)) rfl (Comp.trans (Comp.self r_api_Event e_1) (comp_api_Event_Payload e_1) (Nat.le_of_ble_eq_true rfl)) rfl rfl)⟩)) ?_
      refine dS 10 (fun γ ρ B hb hd => (op_call (js := []) ld cl34 (sim_ref01_Blob k e_1.Payload v_9 hv_v_9) .func (.cons (.tmp (hl hd 8 13 rfl)) .nil) rfl).post (fun q => Imp.dropF (j := 0) rfl)) ?_
      refine dS 11 (fun γ ρ B hb hd => op_fieldAddr (off := 4) lb tf38_3 (.tmp (hb 1 _ rfl))) ?_
      refine DSteps.cons (j := 12) rfl (fun _ => rfl) (.run (fun γ ρ B hb hd => ⟨.none, OpStep.at ⟨ρ, (cvar gb_2 r_api_Event e_1) :: B, _⟩ (setO ⟨ρ, (cvar gb_2 r_api_Event e_1) :: B, _⟩ _ _) (op_loadA (j := 0) lb tA26 (.tmp (hl hd 10 15 rfl)) rfl (Comp.trans (Comp.self r_api_Event e_1) (comp_api_Event_Past e_1) (Nat.le_of_ble_eq_true rfl)) rfl)⟩)) ?_
      refine dS 13 (fun γ ρ B hb hd => (op_call (js := []) ld cl35 (sim_ref01_Vector k e_1.Past v_12 hv_v_12) .func (.cons (.tmp (hl hd 11 16 rfl)) .nil) rfl).post (fun q => Imp.dropF (j := 0) rfl)) ?_
      refine dS 14 (fun γ ρ B hb hd => op_fieldAddr (off := 20) lb tf38_4 (.tmp (hb 1 _ rfl))) ?_
      refine DSteps.cons (j := 15) rfl (fun _ => rfl) (.run (fun γ ρ B hb hd => ⟨.none, OpStep.at ⟨ρ, (cvar gb_2 r_api_Event e_1) :: B, _⟩ (setO ⟨ρ, (cvar gb_2 r_api_Event e_1) :: B, _⟩ _ _) (op_loadS (j := 0) lb tS36 (.tmp (hl hd 13 18 rfl)) rfl (Comp.trans (Comp.self r_api_Event e_1) (comp_api_Event_To e_1) (Nat.le_of_ble_eq_true rfl)) rfl rfl)⟩)) ?_
      refine dS 16 (fun γ ρ B hb hd => op_lenL lb tu36 (.tmp (hl hd 14 19 rfl))) ?_
      refine dS 17 (fun γ ρ B hb hd => op_convIU lb tu3 tu22 (.tmp (hl hd 15 20 rfl)) hv_v_15) ?_
      refine dS 18 (fun γ ρ B hb hd => (op_call (js := []) ld cl36 (sim_ref01_Put k v_15 (2 : Int) v_16 hv_v_16) .func (.cons (.tmp (hl hd 16 21 rfl)) (.cons .cI .nil)) rfl).post (fun q => Imp.dropF (j := 0) rfl)) ?_
      refine DSteps.cons (j := 19) rfl (fun _ => rfl) (.runX (fun _ _ => rfl) (fun γ ρ B hb hd => ⟨.none, OpX.ghost (γ := Nat) (st' := fun q => setO ⟨ρ, (cown (some q) (rL (rU UInt8)) ([v_3, v_6, v_9, v_12, v_16] : (List (List UInt8))) 0 (5)) :: B, _⟩ (some 23) (ov (HDR (some q) 0 (List.length ([v_3, v_6, v_9, v_12, v_16] : (List (List UInt8)))) (5)))) (fun q c => q) (OpX.front (op_buildO (r := (rL (rU UInt8))) lb tu64 tz35 tZ35 rfl (Nat.le_of_ble_eq_true rfl) (.S rfl (.tmp (hl hd 2 7 rfl)) (.S rfl (.tmp (hl hd 6 11 rfl)) (.S rfl (.tmp (hl hd 9 14 rfl)) (.S rfl (.tmp (hl hd 12 17 rfl)) (.S rfl (.tmp (hl hd 17 22 rfl)) .nil))))) rfl)) (fun q => Imp.refl)⟩) (fun _ _ => rfl) (fun _ _ => rfl)) ?_
      refine dS 20 (fun γ ρ B hb hd => op_assign lb (.tmp (hl hd 18 23 rfl))) ?_
      exact DSteps.nil)
     (by decide +kernel) (fun _ => rfl) rfl (fun _ => rfl) (fun _ => rfl) rfl (by decide) (by decide) (by decide +kernel) (fun _ d h => by cases h)
     (ρ' := fun γ => [(1, ov (PTR gb_2 0)), (3, ov (HDR (some (γ 18 0)) 0 (List.length ([v_3, v_6, v_9, v_12, v_16] : (List (List UInt8)))) (5)))])
     (X' := fun γ => [cvar gb_2 r_api_Event e_1, cown (some (γ 18 0)) (rL (rU UInt8)) ([v_3, v_6, v_9, v_12, v_16] : (List (List UInt8))) 0 (5)])
     (fun γ ρ hb hd => (.cons (hb 1 _ rfl (by decide)) (.cons (hdq hd 19 3 rfl) .nil))) (fun _ => rfl) (fun γ => ?_)
 generalize (γ 18 0) = gb_18
 clear γ
 refine JQ.at ⟨[(1, ov (PTR gb_2 0)), (3, ov (HDR (some gb_18) 0 (List.length ([v_3, v_6, v_9, v_12, v_16] : (List (List UInt8)))) (5)))], [cvar gb_2 r_api_Event e_1, cown (some gb_18) (rL (rU UInt8)) ([v_3, v_6, v_9, v_12, v_16] : (List (List UInt8))) 0 (5)], []⟩ ?_
 refine JQ.then ?_
 replace hm := bnd_inv hm
 obtain ⟨l_36, hx1, hq1⟩ := hm
 refine JC.seqJ (γ := Option Nat × Nat) (stj := fun q => ⟨[(3, ov (HDR q.1 0 (List.length l_36) q.2))], [cown q.1 (rL (rU UInt8)) l_36 0 q.2], []⟩) (fun q => ?_) ?_
 · obtain ⟨go_37, gc_38⟩ := q
   refine JC.at ⟨[(3, ov (HDR go_37 0 (List.length l_36) gc_38))], [cown go_37 (rL (rU UInt8)) l_36 0 gc_38], []⟩ ?_
   refine JC.seq ?_
   refine JC.region ?_
   refine jc (op_move lb (.tmp rfl)) ?_
   replace hq1 := bnd_inv hq1
   obtain ⟨v_39, hv_v_39, hq1⟩ := hq1
   refine JL.pre (Imp.frz (j := 0) rfl (ImpK.slotH (s := 3) rfl (ImpK.slotH (s := 49) rfl ImpK.refl))) ?_
   refine jx (op_call (js := []) ld cl37 (sim_ref01_Join k l_36 v_39 hv_v_39) .func (.cons (HasO.wk (.tmp rfl) wkHL) .nil) rfl) (fun q => ?_)
   obtain ⟨go_40, gc_41⟩ := q
   refine JL.nrm ⟨[(50, ov (HDR go_40 0 (List.length v_39) gc_41))], [cown go_40 (rU UInt8) v_39 0 gc_41], []⟩ [0] rfl (.cons rfl .nil) rfl ?_
   refine jc (op_assign lb (.tmp rfl)) ?_
   refine JL.nil ?_
   refine JQ.then ?_
   refine JC.ret ?_
   replace hq1 := Option.some.inj hq1
   subst hq1
   exact JQ.done (js := [0]) (ss := [.val (HDR go_40 0 (List.length v_39) gc_41)]) (go_40, gc_41) (.inl rfl) (.nil rfl) rfl (.cons (.tmp rfl) .nil) rfl rfl rfl
 · refine JC.seq ?_
   refine JC.region ?_
   refine jc (op_assign lb .cI) ?_
   refine JL.nil ?_
   refine JQ.then ?_
   refine JC.block ?_
   refine JC.pre ?_ (JC.loop (γ := Option Nat × Nat) (stf := fun s q => ⟨[(1, ov (PTR gb_2 0)), (3, ov (HDR q.1 0 (List.length s.1) q.2)), (4, ov (S (rI .i64) s.2))], [cvar gb_2 r_api_Event e_1, cown q.1 (rL (rU UInt8)) s.1 0 q.2], []⟩) (q := ((some gb_18), 5)) hx1 ?_)
   · exact (Imp.norm (js := [0, 0]) rfl (.cons rfl (.cons rfl (.cons rfl .nil))))
   · intro s q x hx hr
     obtain ⟨l_19, i_20⟩ := s
     obtain ⟨go_21, gc_22⟩ := q
     change ref09_Bytes.b1 k e_1 l_19 i_20 = some x at hx
     unfold ref09_Bytes.b1 at hx
     refine JC.at ⟨[(1, ov (PTR gb_2 0)), (3, ov (HDR go_21 0 (List.length l_19) gc_22)), (4, ov (S (rI .i64) i_20))], [cvar gb_2 r_api_Event e_1, cown go_21 (rL (rU UInt8)) l_19 0 gc_22], []⟩ ?_
     refine JC.seq ?_
     refine JC.seq ?_
     refine JC.region ?_
     refine jc (op_move lb (.tmp rfl)) ?_
     refine jc (op_fieldAddr (off := 20) lb tf38_4 (.tmp rfl)) ?_
     refine jc (op_loadS (j := 0) lb tS36 (.tmp rfl) rfl (Comp.trans (Comp.self r_api_Event e_1) (comp_api_Event_To e_1) (Nat.le_of_ble_eq_true rfl)) rfl rfl) ?_
     refine jc (op_lenL lb tu36 (.tmp rfl)) ?_
     replace hx := lt1_inv hx
     obtain ⟨v_23, hv_v_23, hx⟩ := hx
     refine jc (op_cmpI lb (.tmp rfl) (.tmp rfl) (congrArg some hv_v_23)) ?_
     refine JL.nil ?_
     refine JQ.then ?_
     replace hx := iteB_inv hx
     rcases hx with ⟨hc3, hx⟩ | ⟨hc3, hx⟩
     · refine JC.condT (.tmp rfl) hc3 ?_
       refine JC.skip ?_
       refine JQ.then ?_
       refine JC.seq ?_
       refine JC.block ?_
       replace hx := bnd_inv hx
       obtain ⟨v_24, hv_v_24, hx⟩ := hx
       replace hx := bnd_inv hx
       obtain ⟨v_25, hv_v_25, hx⟩ := hx
       replace hx := bnd_inv hx
       obtain ⟨v_28, hv_v_28, hx⟩ := hx
       replace hx := bnd_inv hx
       obtain ⟨v_29, hv_v_29, hx⟩ := hx
       replace hx := bnd_inv hx
       obtain ⟨l_32, hv_l_32, hx⟩ := hx
       refine JC.anyE (kl := [3]) (kk := 18) (base := [(1, ov (PTR gb_2 0)), (3, ov (HDR go_21 0 (List.length l_19) gc_22)), (4, ov (S (rI .i64) i_20))])
           (fs := fun γ => [⟨some 31, ov (HDR go_21 0 (List.length l_19) gc_22)⟩, ⟨some 32, ov (PTR gb_2 (0 + 20))⟩, ⟨some 33, ov (S (rL r_api_Dest) e_1.To)⟩, ⟨some 34, ov (S (rI .i64) i_20)⟩, ⟨some 35, ov (PT r_api_Dest v_24)⟩, ⟨some 36, ov (PT r_api_Dot v_24.Dot)⟩, ⟨some 37, ov (A r_api_Dot v_24.Dot)⟩, ⟨some 38, ov (S (rL (rU UInt8)) v_25)⟩, ⟨some 39, ov (PTR gb_2 (0 + 20))⟩, ⟨some 40, ov (S (rL r_api_Dest) e_1.To)⟩, ⟨some 41, ov (S (rI .i64) i_20)⟩, ⟨some 42, ov (PT r_api_Dest v_28)⟩, ⟨some 43, ov (PT rS v_28.Device)⟩, ⟨some 44, ov (S rS v_28.Device)⟩, ⟨some 45, ov (S (rL (rU UInt8)) v_28.Device)⟩, ⟨some 46, ov (S (rL (rU UInt8)) v_29)⟩, ⟨some 47, ov (S (rL (rL (rU UInt8))) ([v_25, v_29] : (List (List UInt8))))⟩, ⟨some 48, ov (HDR (deo (γ 17 0)) 0 (List.length l_32) (γ 17 1))⟩, ⟨some 3, ov (HDR (deo (γ 17 0)) 0 (List.length l_32) (γ 17 1))⟩])
           (rs := fun γ => [⟨cvar gb_2 r_api_Event e_1, none, none, [2, 9]⟩, ⟨cown go_21 (rL (rU UInt8)) l_19 0 gc_22, none, (some 17), []⟩, ⟨cown (deo (γ 17 0)) (rL (rU UInt8)) l_32 0 (γ 17 1), (some 17), none, []⟩])
           (ds := [31, 32, 33, 34, 35, 36, 37, 38, 39, 40, 41, 42, 43, 44, 45, 46, 47, 48, 3]) (bs := [1, 3, 4]) (afts := [[], [], [], [], [], [], [], [], [], [], [], [], [], [], [], [], [], [17, 18], []]) (js := [0, 0]) mixed (.cons rfl (.cons rfl (.cons rfl .nil))) (fun _ => rfl)
           (by
      refine dS 1 (fun γ ρ B hb hd => op_move lb (.tmp (hb 3 _ rfl))) ?_
      refine dS 2 (fun γ ρ B hb hd => op_fieldAddr (off := 20) lb tf38_4 (.tmp (hb 1 _ rfl))) ?_
      refine DSteps.cons (j := 3) rfl (fun _ => rfl) (.run (fun γ ρ B hb hd => ⟨.none, OpStep.at ⟨ρ, (cvar gb_2 r_api_Event e_1) :: B, _⟩ (setO ⟨ρ, (cvar gb_2 r_api_Event e_1) :: B, _⟩ _ _) (op_loadS (j := 0) lb tS36 (.tmp (hl hd 1 32 rfl)) rfl (Comp.trans (Comp.self r_api_Event e_1) (comp_api_Event_To e_1) (Nat.le_of_ble_eq_true rfl)) rfl rfl)⟩)) ?_
      refine dS 4 (fun γ ρ B hb hd => op_move lb (.tmp (hb 4 _ rfl))) ?_
      refine dS 5 (fun γ ρ B hb hd => op_indexAddrLg lb tu36 tz59 (.tmp (hl hd 2 33 rfl)) (.tmp (hl hd 3 34 rfl)) hv_v_24) ?_
      refine dS 6 (fun γ ρ B hb hd => op_fieldAddrP lb tf59_0 (.tmp (hl hd 4 35 rfl)) (comp_api_Dest_Dot v_24)) ?_
      refine dS 7 (fun γ ρ B hb hd => op_loadPAg lb tA24 (.tmp (hl hd 5 36 rfl)) rfl) ?_
      refine dS 8 (fun γ ρ B hb hd => (op_call (js := []) ld cl33 (sim_ref01_Dot k v_24.Dot v_25 hv_v_25) .func (.cons (.tmp (hl hd 6 37 rfl)) .nil) rfl).post (fun q => Imp.dropF (j := 0) rfl)) ?_
      refine dS 9 (fun γ ρ B hb hd => op_fieldAddr (off := 20) lb tf38_4 (.tmp (hb 1 _ rfl))) ?_
      refine DSteps.cons (j := 10) rfl (fun _ => rfl) (.run (fun γ ρ B hb hd => ⟨.none, OpStep.at ⟨ρ, (cvar gb_2 r_api_Event e_1) :: B, _⟩ (setO ⟨ρ, (cvar gb_2 r_api_Event e_1) :: B, _⟩ _ _) (op_loadS (j := 0) lb tS36 (.tmp (hl hd 8 39 rfl)) rfl (Comp.trans (Comp.self r_api_Event e_1) (comp_api_Event_To e_1) (Nat.le_of_ble_eq_true rfl)) rfl rfl)⟩)) ?_
      refine dS 11 (fun γ ρ B hb hd => op_move lb (.tmp (hb 4 _ rfl))) ?_
      refine dS 12 (fun γ ρ B hb hd => op_indexAddrLg lb tu36 tz59 (.tmp (hl hd 9 40 rfl)) (.tmp (hl hd 10 41 rfl)) hv_v_28) ?_
      refine dS 13 (fun γ ρ B hb hd => op_fieldAddrP lb tf59_1 (.tmp (hl hd 11 42 rfl)) (comp_api_Dest_Device v_28)) ?_
      refine dS 14 (fun γ ρ B hb hd => op_loadPSg lb tS9 rfl (.tmp (hl hd 12 43 rfl)) rfl) ?_
      refine dS 15 (fun γ ρ B hb hd => op_convSB lb tu9 tu35 tu5 (.tmp (hl hd 13 44 rfl))) ?_
      refine dS 16 (fun γ ρ B hb hd => (op_call (js := []) ld cl34 (sim_ref01_Blob k v_28.Device v_29 hv_v_29) .func (.cons (.tmp (hl hd 14 45 rfl)) .nil) rfl).post (fun q => Imp.dropF (j := 0) rfl)) ?_
      refine dS 17 (fun γ ρ B hb hd => op_buildF (r := (rL (rU UInt8))) lb tu64 tz35 tZ35 rfl (Nat.le_of_ble_eq_true rfl) (.S rfl (.tmp (hl hd 7 38 rfl)) (.S rfl (.tmp (hl hd 15 46 rfl)) .nil)) rfl) ?_
      refine DSteps.cons (j := 18) rfl (fun _ => rfl) (.runX (fun _ _ => rfl) (fun γ ρ B hb hd => ⟨.none, OpX.ghost (γ := Option Nat × Nat) (st' := fun q => setO ⟨ρ, (cown q.1 (rL (rU UInt8)) l_32 0 q.2) :: B, _⟩ (some 48) (ov (HDR q.1 0 (List.length l_32) q.2))) (fun q c => bif Nat.beq c 0 then eno q.1 else q.2) (op_appendL (j := 0) lb tu64 tu64 rfl tB35 rfl (Nat.lt_of_lt_of_le Nat.zero_lt_one (Nat.le_of_ble_eq_true rfl)) (Nat.lt_of_lt_of_le Nat.zero_lt_one (Nat.le_of_ble_eq_true rfl))  rfl (.tmp (hl hd 0 31 rfl)) (.tmp (hl hd 16 47 rfl)) hv_l_32) (fun q => by obtain ⟨q0, q1⟩ := q; cases q0 <;> exact Imp.refl)⟩) (fun _ _ => rfl) (fun _ _ => rfl)) ?_
      refine dS 19 (fun γ ρ B hb hd => op_assign lb (.tmp (hl hd 17 48 rfl))) ?_
      exact DSteps.nil)
           (by decide +kernel) (fun _ => rfl) rfl (fun _ => rfl) (fun _ => rfl) rfl (by decide) (by decide) (by decide +kernel) (fun _ d h => by simp at h; subst h; exact ⟨_, rfl, rfl⟩)
           (ρ' := fun γ => [(1, ov (PTR gb_2 0)), (3, ov (HDR (deo (γ 17 0)) 0 (List.length l_32) (γ 17 1))), (4, ov (S (rI .i64) i_20))])
           (X' := fun γ => [cvar gb_2 r_api_Event e_1, cown (deo (γ 17 0)) (rL (rU UInt8)) l_32 0 (γ 17 1)])
           (fun γ ρ hb hd => (.cons (hb 1 _ rfl (by decide)) (.cons (hdq hd 18 3 rfl) (.cons (hb 4 _ rfl (by decide)) .nil)))) (fun _ => rfl) (fun γ => ?_)
       generalize (deo (γ 17 0)) = go_33
       generalize (γ 17 1) = gc_34
       clear γ
       refine JQ.at ⟨[(1, ov (PTR gb_2 0)), (3, ov (HDR go_33 0 (List.length l_32) gc_34)), (4, ov (S (rI .i64) i_20))], [cvar gb_2 r_api_Event e_1, cown go_33 (rL (rU UInt8)) l_32 0 gc_34], []⟩ ?_
       refine JQ.outNB ?_
       refine JQ.then ?_
       refine JC.region ?_
       refine jc (op_move lb (.tmp rfl)) ?_
       replace hx := lt1_inv hx
       obtain ⟨v_35, hv_v_35, hx⟩ := hx
       refine jc (op_arI lb (.tmp rfl) .cI (congrArg some hv_v_35)) ?_
       refine jc (op_assign lb (.tmp rfl)) ?_
       refine JL.nil ?_
       replace hx := Option.some.inj hx
       first | subst hx | clear hx
       exact JQ.next (go_33, gc_34) rfl (Imp.norm (js := [0, 0]) rfl (.cons rfl (.cons rfl (.cons rfl .nil))))
     · refine JC.condF (.tmp rfl) hc3 ?_
       refine JC.exit ?_
       refine JQ.outX ?_
       replace hx := Option.some.inj hx
       first | subst hx | clear hx
       have ht := hr _ rfl
       have hq2 := congrArg some ht
       clear hr ht
       refine JQ.outX ?_
       refine JQ.here ?_
       replace hq2 := Option.some.inj hq2
       first | subst hq2 | clear hq2
       exact JQ.join (go_21, gc_22) (Imp.norm (js := [1]) rfl (.cons rfl .nil))

theorem sim_law09_num (k : Nat) (e_1 : Int) (r : Unit) (hm : law09_num k e_1 = some r) : Sim Try.prog 20 [S (rI .i64) e_1] [] (γ := Unit) (fun q => []) (fun q => .one (.val (S (rI .i64) e_1))) := by
 unfold law09_num at hm
 refine Sim.of Try.func20 rfl rfl (Nat.le_of_ble_eq_true rfl) (fun e0 w0 => ?_)
 refine JC.at ⟨[(0, ov (S (rI .i64) e_1))], [], []⟩ ?_
 refine JC.seq ?_
 refine JC.region ?_
 refine jc (op_assign lb .cI) ?_
 refine JL.nil ?_
 refine JQ.then ?_
 refine JC.seq ?_
 refine JC.region ?_
 refine jc (op_move lb (.tmp rfl)) ?_
 refine jc (op_assign lb (.tmp rfl)) ?_
 refine JL.nil ?_
 refine JQ.then ?_
 refine JC.ret ?_
 exact JQ.done (js := []) (ss := [.val (S (rI .i64) e_1)]) () (.inl rfl) (.nil rfl) rfl (.cons (.tmp rfl) .nil) rfl rfl rfl

theorem sim_slices_Clonebyte_byte (k : Nat) (s_1 : (List UInt8)) (r : (List UInt8)) (hm : slices_Clonebyte_byte k s_1 = some r) : Sim Try.prog 60 [S (rL (rU UInt8)) s_1] [] (γ := Option Nat × Nat) (fun q => [cown q.1 (rU UInt8) r 0 q.2]) (fun q => .one (.val (HDR q.1 0 (List.length r) q.2))) := by
 unfold slices_Clonebyte_byte at hm
 refine Sim.of Try.func60 rfl rfl (Nat.le_of_ble_eq_true rfl) (fun e0 w0 => ?_)
 refine JC.at ⟨[(0, ov (S (rL (rU UInt8)) s_1))], [], []⟩ ?_
 refine JC.seq ?_
 refine JC.region ?_
 refine jc (op_assign lb HasO.nilH) ?_
 refine JL.nil ?_
 refine JQ.then ?_
 refine JC.seq ?_
 refine JC.seq ?_
 refine JC.region ?_
 refine jc (op_move lb (.tmp rfl)) ?_
 refine JL.consX rfl (op_isNil (neg := false) (ltB rfl) tu35 (.tmp rfl) HasO.nilH) (fun q => ?_)
 obtain ⟨hb1, hb1_⟩ := q
 cases hb1
 · refine JL.nil ?_
   refine JQ.then ?_
   refine JC.condF (.tmp rfl) rfl ?_
   refine JC.skip ?_
   refine JQ.then ?_
   refine JC.seq ?_
   refine JC.region ?_
   refine jx (op_buildO (r := (rU UInt8)) lb tu35 tz5 tZ5 rfl (Nat.le_of_ble_eq_true rfl) .nil rfl) (fun q => ?_)
   obtain ⟨gb_2, hqq⟩ : ∃ z, z = q := ⟨_, rfl⟩
   subst hqq
   refine jc (op_move lb (.tmp rfl)) ?_
   replace hm := bnd_inv hm
   obtain ⟨x_3, hv_x_3, hm⟩ := hm
   refine jx (op_appendL (j := 0) lb tu35 tu35 rfl tB5 rfl (Nat.lt_of_lt_of_le Nat.zero_lt_one (Nat.le_of_ble_eq_true rfl)) (Nat.lt_of_lt_of_le Nat.zero_lt_one (Nat.le_of_ble_eq_true rfl))  rfl (.tmp rfl) (.tmp rfl) hv_x_3) (fun q => ?_)
   obtain ⟨go_4, gc_5⟩ := q
   refine jc (op_assign lb (.tmp rfl)) ?_
   refine JL.nil ?_
   refine JQ.then ?_
   refine JC.ret ?_
   replace hm := Option.some.inj hm
   subst hm
   exact JQ.done (js := [0]) (ss := [.val (HDR go_4 0 (List.length x_3) gc_5)]) (go_4, gc_5) (.inl rfl) (.nil rfl) rfl (.cons (.tmp rfl) .nil) rfl rfl rfl
 · replace hm := nilK hm (show _ = (
         some ([] : (List UInt8))
         ) by simp [hb1_ rfl, subL, apL])
   refine JL.nil ?_
   refine JQ.then ?_
   refine JC.condT (.tmp rfl) rfl ?_
   refine JC.seq ?_
   refine JC.region ?_
   refine jc (op_assign lb HasO.nilH) ?_
   refine JL.nil ?_
   refine JQ.then ?_
   refine JC.ret ?_
   refine JQ.outR ?_
   replace hm := Option.some.inj hm
   subst hm
   refine JQ.pre (Imp.nilown (rU UInt8)) ?_
   exact JQ.done (js := [0]) (ss := [.val (HDR none 0 (List.length ([] : (List UInt8))) (0))]) (none, 0) (.inl rfl) (.nil rfl) rfl (.cons (.tmp rfl) .nil) rfl rfl rfl

theorem sim_wire_Read (k : Nat) (b_1 : (List UInt8)) (r : (List UInt8) × Nat) (hm : wire_Read k b_1 = some r) : Sim Try.prog 38 [S (rL (rU UInt8)) b_1] [] (γ := Nat × Option Nat × Nat) (fun q => [cvar q.1 (rP (rW (HDX q.2.1 ((0) * 1) r.2)) (rP rB (rP rB r0))) ((), (true, (true, ()))), cown q.2.1 (rU UInt8) r.1 0 q.2.2]) (fun q => .one (.val (PTR q.1 0))) := by
 unfold wire_Read at hm
 refine Sim.of Try.func38 rfl rfl (Nat.le_of_ble_eq_true rfl) (fun e0 w0 => ?_)
 refine JC.at ⟨[(0, ov (S (rL (rU UInt8)) b_1))], [], []⟩ ?_
 refine JC.seq ?_
 refine JC.region ?_
 refine jc (op_assign lb (HasO.const (p := PTO none) fun _ => rfl)) ?_
 refine JL.nil ?_
 refine JQ.then ?_
 refine JC.seq ?_
 refine JC.region ?_
 refine jc (op_move lb (.tmp rfl)) ?_
 replace hm := bnd_inv hm
 obtain ⟨v_2, hv_v_2, hm⟩ := hm
 refine jx (op_call (js := []) ld cl60 (sim_slices_Clonebyte_byte k b_1 v_2 hv_v_2) .func (.cons (.tmp rfl) .nil) rfl) (fun q => ?_)
 obtain ⟨go_3, gc_4⟩ := q
 refine JL.pre (Imp.slot (s := 4) (q := HDE go_3 (List.length v_2) gc_4) rfl wkTE) ?_
 refine JL.pre (Imp.slotX (s := 4) (j := 0) rfl rfl) ?_
 refine JL.pre (Imp.slot (s := 4) (q := HDX go_3 ((0) * 1) (List.length v_2)) rfl wkX0) ?_
 refine jc (op_build lb tZ88 zr88 tp88 (.S (off := 0) (s := rW (HDX go_3 ((0) * 1) (List.length v_2))) (u := ()) rfl (HasO.wk (q := S (rW (HDX go_3 ((0) * 1) (List.length v_2))) ()) (.tmp rfl) wkV) rfl ((UpdR.fst (UpdR.self (by rfl))).at (by rfl)) (.S (off := 1) rfl .cB rfl ((UpdR.snd (UpdR.fst (UpdR.self (by rfl)))).at (by rfl)) (.S (off := 2) rfl .cB rfl ((UpdR.snd (UpdR.snd (UpdR.fst (UpdR.self (by rfl))))).at (by rfl)) .nil))) rfl) ?_
 refine jx (op_boxA lb (.tmp rfl)) (fun q => ?_)
 obtain ⟨gb_5, hqq⟩ : ∃ z, z = q := ⟨_, rfl⟩
 subst hqq
 refine jc (op_assign lb (.tmp rfl)) ?_
 refine JL.nil ?_
 refine JQ.then ?_
 refine JC.ret ?_
 replace hm := Option.some.inj hm
 subst hm
 exact JQ.done (js := [1, 0]) (ss := [.val (PTR gb_5 0)]) (gb_5, go_3, gc_4) (.inl rfl) (.nil rfl) rfl (.cons (.tmp rfl) .nil) rfl rfl rfl

theorem sim_wire_Reader_Failed (k : Nat) (o_1 : Nat) (n_2 : Nat) (is_3 : Bool) (made_4 : Bool) (x_6 : (List UInt8)) (gb_5 : Nat) (go_7 : Option Nat) (gc_8 : Nat) (r : Bool) (hm : wire_Reader_Failed k o_1 n_2 is_3 made_4 x_6 = some r) : Sim Try.prog 65 [PTR gb_5 0] [cvar gb_5 (rP (rW (HDX go_7 (o_1 * 1) n_2)) (rP rB (rP rB r0))) ((), (is_3, (made_4, ()))), cown go_7 (rU UInt8) x_6 0 gc_8] (γ := Unit) (fun q => [cvar gb_5 (rP (rW (HDX go_7 (o_1 * 1) n_2)) (rP rB (rP rB r0))) ((), (is_3, (made_4, ()))), cown go_7 (rU UInt8) x_6 0 gc_8]) (fun q => .one (.val (S rB r))) := by
 unfold wire_Reader_Failed at hm
 refine Sim.of Try.func65 rfl rfl (Nat.le_of_ble_eq_true rfl) (fun e0 w0 => ?_)
 refine JC.at ⟨[(0, ov (PTR gb_5 0))], [cvar gb_5 (rP (rW (HDX go_7 (o_1 * 1) n_2)) (rP rB (rP rB r0))) ((), (is_3, (made_4, ()))), cown go_7 (rU UInt8) x_6 0 gc_8], []⟩ ?_
 refine JC.seq ?_
 refine JC.region ?_
 refine jc (op_assign lb .cB) ?_
 refine JL.nil ?_
 refine JQ.then ?_
 replace hm := bnd_inv hm
 obtain ⟨x_10, hx1, hq1⟩ := hm
 refine JC.seqJ (γ := Unit) (stj := fun q => ⟨[(2, ov (S rB x_10))], [cvar gb_5 (rP (rW (HDX go_7 (o_1 * 1) n_2)) (rP rB (rP rB r0))) ((), (is_3, (made_4, ()))), cown go_7 (rU UInt8) x_6 0 gc_8], []⟩) (fun q => ?_) ?_
 · obtain _ := q
   refine JC.at ⟨[(2, ov (S rB x_10))], [cvar gb_5 (rP (rW (HDX go_7 (o_1 * 1) n_2)) (rP rB (rP rB r0))) ((), (is_3, (made_4, ()))), cown go_7 (rU UInt8) x_6 0 gc_8], []⟩ ?_
   refine JC.ret ?_
   replace hq1 := Option.some.inj hq1
   subst hq1
   exact JQ.done (js := [0, 0]) (ss := [.val (S rB x_10)]) () (.inl rfl) (.nil rfl) rfl (.cons (.tmp rfl) .nil) rfl rfl rfl
 · refine JC.region ?_
   refine jc (op_move lb (.tmp rfl)) ?_
   refine jc (op_nilP (neg := false) lb tu66 (.tmp rfl) (HasO.const (p := PTO none) fun _ => rfl)) ?_
   refine jc (op_move lb (.tmp rfl)) ?_
   refine JL.run (.yes rfl (ltB rfl) rfl rfl) (op_move lb (.tmp rfl)) ?_
   refine JL.run (.yes rfl (ltB rfl) rfl rfl) (op_nilCheck lb (.tmp rfl) (fun e v h => by subst h; rfl)) ?_
   refine JL.run (.yes rfl (ltB rfl) rfl rfl) (op_fieldAddr (off := 1) lb tf88_1 (.tmp rfl)) ?_
   refine JL.run (.yes rfl (ltB rfl) rfl rfl) (op_loadS (j := 0) lb tS4 (.tmp rfl) rfl (Comp.trans (Comp.self (rP (rW (HDX go_7 (o_1 * 1) n_2)) (rP rB (rP rB r0))) ((), (is_3, (made_4, ())))) (Comp.at' (Comp.inS (Comp.inF (Comp.self rB is_3) (Nat.le_of_ble_eq_true rfl))) (by rfl : _ = 1)) (Nat.le_of_ble_eq_true rfl)) rfl rfl) ?_
   replace hx1 := lt1_inv hx1
   obtain ⟨v_9, hv_v_9, hx1⟩ := hx1
   refine JL.run (.yes rfl (ltB rfl) rfl rfl) (op_not lb (.tmp rfl) hv_v_9) ?_
   refine jc (op_pickF lb (.tmp rfl) rfl (.tmp rfl)) ?_
   refine jc (op_assign lb (.tmp rfl)) ?_
   refine JL.nil ?_
   replace hx1 := Option.some.inj hx1
   first | subst hx1 | clear hx1
   refine JQ.pre (Imp.var (j := 0) (q := (rP (rW (HDX go_7 (o_1 * 1) n_2)) (rP rB (rP rB r0)))) (y := ((), (is_3, (made_4, ())))) rfl Wk.refl) ?_
   exact JQ.join () (Imp.norm (js := [0, 0]) rfl (.cons rfl .nil))

theorem sim_wire_Reader_take (k : Nat) (n_1 : Int) (o_2 : Nat) (n_3 : Nat) (is_4 : Bool) (made_5 : Bool) (x_7 : (List UInt8)) (gb_6 : Nat) (go_8 : Option Nat) (gc_9 : Nat) (r : Nat × Nat × Bool × Nat × Nat × Bool × Bool) (hm : wire_Reader_take k n_1 o_2 n_3 is_4 made_5 x_7 = some r) : Sim Try.prog 61 [PTR gb_6 0, S (rI .i64) n_1] [cvar gb_6 (rP (rW (HDX go_8 (o_2 * 1) n_3)) (rP rB (rP rB r0))) ((), (is_4, (made_5, ()))), cown go_8 (rU UInt8) x_7 0 gc_9] (γ := Unit) (fun q => [cown go_8 (rU UInt8) x_7 0 gc_9, cvar gb_6 (rP (rW (HDX go_8 (r.2.2.2.1 * 1) r.2.2.2.2.1)) (rP rB (rP rB r0))) ((), (r.2.2.2.2.2.1, (r.2.2.2.2.2.2, ())))]) (fun q => .tup [.val (HDX go_8 (r.1 * 1) r.2.1), .val (S rB r.2.2.1)]) := by
 unfold wire_Reader_take at hm
 refine Sim.of Try.func61 rfl rfl (Nat.le_of_ble_eq_true rfl) (fun e0 w0 => ?_)
 refine JC.at ⟨[(0, ov (PTR gb_6 0)), (1, ov (S (rI .i64) n_1))], [cvar gb_6 (rP (rW (HDX go_8 (o_2 * 1) n_3)) (rP rB (rP rB r0))) ((), (is_4, (made_5, ()))), cown go_8 (rU UInt8) x_7 0 gc_9], []⟩ ?_
 refine JC.seq ?_
 refine JC.region ?_
 refine jc (op_assign lb HasO.nilH) ?_
 refine jc (op_assign lb .cB) ?_
 refine JL.nil ?_
 refine JQ.then ?_
 refine JC.seq ?_
 refine JC.block ?_
 refine JC.seq ?_
 refine JC.region ?_
 refine jc (op_move lb (.tmp rfl)) ?_
 replace hm := bnd_inv hm
 obtain ⟨v_10, hv_v_10, hm⟩ := hm
 refine jx (op_call (js := [0, 0]) ld cl65 (sim_wire_Reader_Failed k o_2 n_3 is_4 made_5 x_7 gb_6 go_8 gc_9 v_10 hv_v_10) .func (.cons (.tmp rfl) .nil) rfl) (fun _ => ?_)
 refine jc (op_assign lb (.tmp rfl)) ?_
 refine JL.nil ?_
 refine JQ.then ?_
 replace hm := iteB_inv hm
 rcases hm with ⟨hc1, hm⟩ | ⟨hc1, hm⟩
 · refine JC.condT (.tmp rfl) hc1 ?_
   refine JC.seq ?_
   refine JC.region ?_
   refine jc (op_assign lb HasO.nilH) ?_
   refine jc (op_assign lb .cB) ?_
   refine JL.nil ?_
   refine JQ.then ?_
   refine JC.ret ?_
   refine JQ.outRB ?_
   refine JQ.outR ?_
   replace hm := Option.some.inj hm
   subst hm
   refine JQ.pre (Imp.slot (s := 4) (q := HDX go_8 ((0) * 1) (0)) rfl wkNX) ?_
   exact JQ.done (js := [1, 0]) (ss := [.val (HDX go_8 ((0) * 1) (0)), .val (S rB false)]) () (.inl rfl) (.nil rfl) rfl (.cons (.tmp rfl) (.cons (.tmp rfl) .nil)) rfl rfl rfl
 · refine JC.condF (.tmp rfl) hc1 ?_
   replace hm := bnd_inv hm
   obtain ⟨x_13, hx2, hq2⟩ := hm
   refine JC.seqJ (γ := Unit) (stj := fun q => ⟨[(0, ov (PTR gb_6 0)), (1, ov (S (rI .i64) n_1)), (10, ov (S rB x_13))], [cvar gb_6 (rP (rW (HDX go_8 (o_2 * 1) n_3)) (rP rB (rP rB r0))) ((), (is_4, (made_5, ()))), cown go_8 (rU UInt8) x_7 0 gc_9], []⟩) (fun q => ?_) ?_
   · obtain _ := q
     refine JC.at ⟨[(0, ov (PTR gb_6 0)), (1, ov (S (rI .i64) n_1)), (10, ov (S rB x_13))], [cvar gb_6 (rP (rW (HDX go_8 (o_2 * 1) n_3)) (rP rB (rP rB r0))) ((), (is_4, (made_5, ()))), cown go_8 (rU UInt8) x_7 0 gc_9], []⟩ ?_
     replace hq2 := iteB_inv hq2
     rcases hq2 with ⟨hc6, hq2⟩ | ⟨hc6, hq2⟩
     · refine JC.condT (.tmp rfl) hc6 ?_
       refine JC.seq ?_
       refine JC.region ?_
       refine jc (op_move lb (.tmp rfl)) ?_
       refine jc (op_build lb tZ88 zr88 tp88 (.S (off := 2) rfl .cB rfl ((UpdR.snd (UpdR.snd (UpdR.fst (UpdR.self (by rfl))))).at (by rfl)) .nil) rfl) ?_
       refine jc (op_nilCheck lb (.tmp rfl) (fun e v h => by subst h; rfl)) ?_
       refine jc (op_storeA (j := 0) tA88 (.tmp rfl) (.tmp rfl) rfl (UpdR.self (by rfl)) rfl) ?_
       refine JL.nil ?_
       refine JQ.then ?_
       refine JC.seq ?_
       refine JC.region ?_
       refine jc (op_assign lb HasO.nilH) ?_
       refine jc (op_assign lb .cB) ?_
       refine JL.nil ?_
       refine JQ.then ?_
       refine JC.ret ?_
       refine JQ.outRB ?_
       refine JQ.outR ?_
       replace hq2 := Option.some.inj hq2
       subst hq2
       refine JQ.pre (Imp.slot (s := 4) (q := HDX go_8 ((0) * 1) (0)) rfl wkNX) ?_
       refine JQ.pre (Imp.var (j := 0) (q := (rP (rW (HDX go_8 ((0) * 1) (0))) (rP rB (rP rB r0)))) (y := ((), (false, (true, ())))) rfl (Wk.pair Wk.nx (Wk.pair Wk.refl (Wk.pair Wk.refl Wk.refl)))) ?_
       exact JQ.done (js := [1, 0]) (ss := [.val (HDX go_8 ((0) * 1) (0)), .val (S rB false)]) () (.inl rfl) (.nil rfl) rfl (.cons (.tmp rfl) (.cons (.tmp rfl) .nil)) rfl rfl rfl
     · refine JC.condF (.tmp rfl) hc6 ?_
       refine JC.skip ?_
       refine JQ.outNB ?_
       refine JQ.then ?_
       refine JC.seq ?_
       refine JC.region ?_
       refine jc (op_move lb (.tmp rfl)) ?_
       refine jc (op_nilCheck lb (.tmp rfl) (fun e v h => by subst h; rfl)) ?_
       refine jc (op_fieldAddr (off := 0) lb tf88_0 (.tmp rfl)) ?_
       refine jc (op_loadW (j := 0) lb tS35 (.tmp rfl) rfl (Comp.trans (Comp.self (rP (rW (HDX go_8 (o_2 * 1) n_3)) (rP rB (rP rB r0))) ((), (is_4, (made_5, ())))) (Comp.at' (Comp.inF (Comp.self (rW (HDX go_8 (o_2 * 1) n_3)) ()) (Nat.le_of_ble_eq_true rfl)) (by rfl : _ = 0)) (Nat.le_of_ble_eq_true rfl))) ?_
       refine jc (op_move lb (.tmp rfl)) ?_
       refine jc (op_move lb (.tmp rfl)) ?_
       replace hq2 := bnd_inv hq2
       obtain ⟨⟨o_14, n_15⟩, hv_o_14, hq2⟩ := hq2
       refine jc (op_sliceXc (sz := 1) (o := o_2) lb tu35 tz5 (.tmp rfl) .none (.some (.tmp rfl)) (.some (.tmp rfl)) hv_o_14) ?_
       refine jc (op_assign lb (.tmp rfl)) ?_
       refine JL.nil ?_
       refine JQ.then ?_
       refine JC.seq ?_
       refine JC.region ?_
       refine jc (op_move lb (.tmp rfl)) ?_
       refine jc (op_move lb (.tmp rfl)) ?_
       refine jc (op_nilCheck lb (.tmp rfl) (fun e v h => by subst h; rfl)) ?_
       refine jc (op_fieldAddr (off := 0) lb tf88_0 (.tmp rfl)) ?_
       refine JL.sub ⟨[(1, ov (S (rI .i64) n_1)), (6, ov (HDX go_8 (o_14 * 1) n_15)), (32, ov (PTR gb_6 0)), (35, ov (PTR gb_6 (0 + 0)))], [cvar gb_6 (rP (rW (HDX go_8 (o_2 * 1) n_3)) (rP rB (rP rB r0))) ((), (is_4, (made_5, ()))), cown go_8 (rU UInt8) x_7 0 gc_9], []⟩ (.cons rfl (.cons rfl (.cons rfl (.cons rfl .nil)))) rfl rfl ?_
       refine jc (op_loadW (j := 0) lb tS35 (.tmp rfl) rfl (Comp.trans (Comp.self (rP (rW (HDX go_8 (o_2 * 1) n_3)) (rP rB (rP rB r0))) ((), (is_4, (made_5, ())))) (Comp.at' (Comp.inF (Comp.self (rW (HDX go_8 (o_2 * 1) n_3)) ()) (Nat.le_of_ble_eq_true rfl)) (by rfl : _ = 0)) (Nat.le_of_ble_eq_true rfl))) ?_
       refine jc (op_move lb (.tmp rfl)) ?_
       replace hq2 := bnd_inv hq2
       obtain ⟨⟨o_16, n_17⟩, hv_o_16, hq2⟩ := hq2
       refine jc (op_sliceX (sz := 1) (o := o_2) lb tu35 tz5 (.tmp rfl) (.some (.tmp rfl)) .none  hv_o_16) ?_
       refine jc (op_nilCheck lb (.tmp rfl) (fun e v h => by subst h; rfl)) ?_
       refine jc (op_fieldAddr (off := 0) lb tf88_0 (.tmp rfl)) ?_
       refine jc (op_storeW (j := 0) tS35 (.tmp rfl) (.tmp rfl) rfl ((UpdR.fst (UpdR.self (by rfl))).at (by change 0 = (0 + 0); omega)) rfl) ?_
       refine JL.nil ?_
       refine JQ.then ?_
       refine JC.seq ?_
       refine JC.region ?_
       refine jc (op_move lb (.tmp rfl)) ?_
       refine jc (op_assign lb (.tmp rfl)) ?_
       refine jc (op_assign lb .cB) ?_
       refine JL.nil ?_
       refine JQ.then ?_
       refine JC.ret ?_
       replace hq2 := Option.some.inj hq2
       subst hq2
       exact JQ.done (js := [1, 0]) (ss := [.val (HDX go_8 (o_14 * 1) n_15), .val (S rB true)]) () (.inl rfl) (.nil rfl) rfl (.cons (.tmp rfl) (.cons (.tmp rfl) .nil)) rfl rfl rfl
   · refine JC.region ?_
     refine jc (op_move lb (.tmp rfl)) ?_
     replace hx2 := lt1_inv hx2
     obtain ⟨v_11, hv_v_11, hx2⟩ := hx2
     refine jc (op_cmpI lb (.tmp rfl) .cI (congrArg some hv_v_11)) ?_
     refine jc (op_move lb (.tmp rfl)) ?_
     refine JL.cnd (sv := ov (S (rI .i64) n_1)) (Guard.isF (ltB rfl) rfl rfl) rfl (ltB rfl) (fun hq_3 => op_move lb (.tmp rfl)) ?_
     replace hx2 := iteB_inv hx2
     rcases hx2 with ⟨hc5, hx2⟩ | ⟨hc5, hx2⟩
     · refine JL.skip (.no rfl (ltB rfl) rfl hc5) (fun d h => by cases h; exact ltB rfl) ?_
       refine JL.skip (.no rfl (ltB rfl) rfl hc5) (fun d h => by cases h; exact ltB rfl) ?_
       refine JL.skip (.no rfl (ltB rfl) rfl hc5) (fun d h => by cases h; exact ltB rfl) ?_
       refine JL.skip (.no rfl (ltB rfl) rfl hc5) (fun d h => by cases h; exact ltB rfl) ?_
       refine JL.skip (.no rfl (ltB rfl) rfl hc5) (fun d h => by cases h; exact ltB rfl) ?_
       refine JL.skip (.no rfl (ltB rfl) rfl hc5) (fun d h => by cases h; exact ltB rfl) ?_
       refine jc (op_pickT lb (.tmp rfl) hc5 .cB) ?_
       refine JL.sub ⟨[(0, ov (PTR gb_6 0)), (1, ov (S (rI .i64) n_1)), (21, ov (S rB true))], [cvar gb_6 (rP (rW (HDX go_8 (o_2 * 1) n_3)) (rP rB (rP rB r0))) ((), (is_4, (made_5, ()))), cown go_8 (rU UInt8) x_7 0 gc_9], []⟩ (.cons rfl (.cons rfl (.cons rfl .nil))) rfl rfl ?_
       refine jc (op_assign lb (.tmp rfl)) ?_
       refine JL.nil ?_
       replace hx2 := Option.some.inj hx2
       first | subst hx2 | clear hx2
       exact JQ.join () (Imp.norm (js := [0, 0]) rfl (.cons rfl (.cons rfl (.cons rfl .nil))))
     · refine JL.run (.yes rfl (ltB rfl) rfl hc5) (op_move lb (.tmp rfl)) ?_
       refine JL.sub ⟨[(0, ov (PTR gb_6 0)), (1, ov (S (rI .i64) n_1)), (13, ov (S rB v_11)), (14, bif (!v_11) then ov (S (rI .i64) n_1) else .one .und), (15, ov (PTR gb_6 0))], [cvar gb_6 (rP (rW (HDX go_8 (o_2 * 1) n_3)) (rP rB (rP rB r0))) ((), (is_4, (made_5, ()))), cown go_8 (rU UInt8) x_7 0 gc_9], []⟩ (.cons rfl (.cons rfl (.cons rfl (.cons rfl (.cons rfl .nil))))) rfl rfl ?_
       refine JL.run (.yes rfl (ltB rfl) rfl hc5) (op_nilCheck lb (.tmp rfl) (fun e v h => by subst h; rfl)) ?_
       refine JL.run (.yes rfl (ltB rfl) rfl hc5) (op_fieldAddr (off := 0) lb tf88_0 (.tmp rfl)) ?_
       refine JL.run (.yes rfl (ltB rfl) rfl hc5) (op_loadW (j := 0) lb tS35 (.tmp rfl) rfl (Comp.trans (Comp.self (rP (rW (HDX go_8 (o_2 * 1) n_3)) (rP rB (rP rB r0))) ((), (is_4, (made_5, ())))) (Comp.at' (Comp.inF (Comp.self (rW (HDX go_8 (o_2 * 1) n_3)) ()) (Nat.le_of_ble_eq_true rfl)) (by rfl : _ = 0)) (Nat.le_of_ble_eq_true rfl))) ?_
       refine JL.run (.yes rfl (ltB rfl) rfl hc5) (op_lenX lb tu35 (.tmp rfl)) ?_
       replace hx2 := lt1_inv hx2
       obtain ⟨v_12, hv_v_12, hx2⟩ := hx2
       refine JL.run (.yes rfl (ltB rfl) rfl hc5) (op_cmpI lb (HasO.cnd (.tmp rfl) (notT hc5)) (.tmp rfl) (congrArg some hv_v_12)) ?_
       refine jc (op_pickF lb (.tmp rfl) hc5 (.tmp rfl)) ?_
       refine jc (op_assign lb (.tmp rfl)) ?_
       refine JL.nil ?_
       replace hx2 := Option.some.inj hx2
       first | subst hx2 | clear hx2
       exact JQ.join () (Imp.norm (js := [0, 0]) rfl (.cons rfl (.cons rfl (.cons rfl .nil))))

theorem sim_slices_Clonebyte_byte'2 (k : Nat) (o_1 : Nat) (n_2 : Nat) (x_3 : (List UInt8)) (go_4 : Option Nat) (gc_5 : Nat) (r : (List UInt8)) (hm : slices_Clonebyte_byte'2 k o_1 n_2 x_3 = some r) : Sim Try.prog 60 [HDX go_4 (o_1 * 1) n_2] [cown go_4 (rU UInt8) x_3 0 gc_5] (γ := Option Nat × Nat) (fun q => [cown q.1 (rU UInt8) r 0 q.2, cown go_4 (rU UInt8) x_3 0 gc_5]) (fun q => .one (.val (HDR q.1 0 (List.length r) q.2))) := by
 unfold slices_Clonebyte_byte'2 at hm
 refine Sim.of Try.func60 rfl rfl (Nat.le_of_ble_eq_true rfl) (fun e0 w0 => ?_)
 refine JC.at ⟨[(0, ov (HDX go_4 (o_1 * 1) n_2))], [cown go_4 (rU UInt8) x_3 0 gc_5], []⟩ ?_
 refine JC.seq ?_
 refine JC.region ?_
 refine jc (op_assign lb HasO.nilH) ?_
 refine JL.nil ?_
 refine JQ.then ?_
 refine JC.seq ?_
 refine JC.seq ?_
 refine JC.region ?_
 refine jc (op_move lb (.tmp rfl)) ?_
 refine JL.consX rfl (op_isNilX (neg := false) lb tu35 (.tmp rfl) HasO.nilH) (fun q => ?_)
 obtain ⟨hb1, hb1_⟩ := q
 cases hb1
 · refine JL.nil ?_
   refine JQ.then ?_
   refine JC.condF (.tmp rfl) rfl ?_
   refine JC.skip ?_
   refine JQ.then ?_
   refine JC.seq ?_
   refine JC.region ?_
   refine jx (op_buildO (r := (rU UInt8)) lb tu35 tz5 tZ5 rfl (Nat.le_of_ble_eq_true rfl) .nil rfl) (fun q => ?_)
   obtain ⟨gb_6, hqq⟩ : ∃ z, z = q := ⟨_, rfl⟩
   subst hqq
   refine jc (op_move lb (.tmp rfl)) ?_
   replace hm := bnd_inv hm
   obtain ⟨v_7, hv_v_7, hm⟩ := hm
   refine jx (op_appendXV (j := 1) (j' := 0) (o := o_1) lb tu35 tu35 rfl tB5 rfl (Nat.lt_of_lt_of_le Nat.zero_lt_one (Nat.le_of_ble_eq_true rfl)) (Nat.lt_of_lt_of_le Nat.zero_lt_one (Nat.le_of_ble_eq_true rfl)) rfl (.tmp rfl) rfl (.tmp rfl) hv_v_7) (fun q => ?_)
   obtain ⟨go_8, gc_9⟩ := q
   refine jc (op_assign lb (.tmp rfl)) ?_
   refine JL.nil ?_
   refine JQ.then ?_
   refine JC.ret ?_
   replace hm := Option.some.inj hm
   subst hm
   exact JQ.done (js := [1, 0]) (ss := [.val (HDR go_8 0 (List.length v_7) gc_9)]) (go_8, gc_9) (.inl rfl) (.nil rfl) rfl (.cons (.tmp rfl) .nil) rfl rfl rfl
 · replace hm := nilK hm (show _ = (
         some ([] : (List UInt8))
         ) by simp [hb1_ rfl, viewL, apV, apEV, apE, subL, apL])
   refine JL.nil ?_
   refine JQ.then ?_
   refine JC.condT (.tmp rfl) rfl ?_
   refine JC.seq ?_
   refine JC.region ?_
   refine jc (op_assign lb HasO.nilH) ?_
   refine JL.nil ?_
   refine JQ.then ?_
   refine JC.ret ?_
   refine JQ.outR ?_
   replace hm := Option.some.inj hm
   subst hm
   refine JQ.pre (Imp.nilown (rU UInt8)) ?_
   exact JQ.done (js := [1, 0]) (ss := [.val (HDR none 0 (List.length ([] : (List UInt8))) (0))]) (none, 0) (.inl rfl) (.nil rfl) rfl (.cons (.tmp rfl) .nil) rfl rfl rfl

end Go.Proofs.Ythoggbomakolkaa
