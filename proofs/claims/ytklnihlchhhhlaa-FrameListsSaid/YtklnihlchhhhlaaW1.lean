/- Walks. -/
import Derived.Test.YtklnihlchhhhlaaT
import Derived.Test.YtklnihlchhhhlaaW0
namespace Go.Proofs.Ytklnihlchhhhlaa
open Go Fw
set_option linter.unusedVariables false
set_option maxRecDepth 100000
set_option maxHeartbeats 4000000

theorem sim_slices_Equalint_int (k : Nat) (s1_1 : (List Int)) (s2_2 : (List Int)) (r : Bool) (hm : slices_Equalint_int k s1_1 s2_2 = some r) : Sim Try.prog 59 [S (rL (rI .i64)) s1_1, S (rL (rI .i64)) s2_2] [] (γ := Unit) (fun q => []) (fun q => .one (.val (S rB r))) := by
 unfold slices_Equalint_int at hm
 refine Sim.of Try.func59 rfl rfl (lE rfl) (fun e0 w0 => ?_)
 refine JC.at ⟨[(0, ov (S (rL (rI .i64)) s1_1)), (1, ov (S (rL (rI .i64)) s2_2))], [], []⟩ ?_
 refine jr <| jc (op_assign lb .cB) <| jn <| JC.seq <| jr ?_
 refine jmv rfl rfl <| jc (op_lenL lb tu48 (.tmp rfl)) <| jmv rfl rfl <| jc (op_lenL lb tu48 (.tmp rfl)) ?_
 replace hm := lt1_inv hm
 obtain ⟨v_3, hv_v_3, hm⟩ := hm
 refine jc (op_cmpI lb (.tmp rfl) (.tmp rfl) (congrArg some hv_v_3)) <| jn ?_
 replace hm := iteB_inv hm
 rcases hm with ⟨hc1, hm⟩ | ⟨hc1, hm⟩
 · refine JC.condT (.tmp rfl) hc1 ?_
   refine jr <| jc (op_assign lb .cB) <| jn ?_
   refine JC.ret ?_
   refine JQ.outR ?_
   replace hm := Option.some.inj hm
   subst hm
   exact JQ.done (js := []) (ss := [.val (S rB false)]) () (.inl rfl) (.nil rfl) rfl (.cons (.tmp rfl) .nil) rfl rfl rfl
 refine JC.condF (.tmp rfl) hc1 ?_
 refine JC.skip ?_
 refine JQ.then ?_
 replace hm := bnd_inv hm
 obtain ⟨tv2, hx2, hq2⟩ := hm
 refine JC.seqK (α := Unit) (γ := Unit) (stj := fun v q => ⟨[], [], []⟩) (p := fun v => tv2 = (.inl v)) (fun v q hv => ?_) ?_
 · subst hv
   skip
   obtain _ := q
   dsimp only at hq2
   refine JC.at ⟨[], [], []⟩ ?_
   refine jr <| jc (op_assign lb .cB) <| jn ?_
   refine JC.ret ?_
   replace hq2 := Option.some.inj hq2
   subst hq2
   exact JQ.done (js := []) (ss := [.val (S rB true)]) () (.inl rfl) (.nil rfl) rfl (.cons (.tmp rfl) .nil) rfl rfl rfl
 refine jr <| jmv rfl rfl <| jc (op_lenL lb tu48 (.tmp rfl)) <| jc (op_move lb .cI) <| jn ?_
 refine JC.block ?_
 replace hx2 := bnd_inv hx2
 obtain ⟨tv3, hL3, hq3⟩ := hx2
 refine JC.pre ?_ (JC.loop (γ := Unit) (stf := fun s q => ⟨[(0, ov (S (rL (rI .i64)) s1_1)), (1, ov (S (rL (rI .i64)) s2_2)), (12, ov (S (rI .i64) (List.length s1_1 : Int))), (13, ov (S (rI .i64) s))], [], []⟩) (q := ()) hL3 ?_)
 · exact (Imp.norm (js := []) rfl (.cons rfl (.cons rfl (.cons rfl (.cons rfl .nil)))))
 intro x_4 q x hx hr
 obtain _ := q
 change slices_Equalint_int.b1 k s1_1 s2_2 x_4 = some x at hx
 unfold slices_Equalint_int.b1 at hx
 refine JC.at ⟨[(0, ov (S (rL (rI .i64)) s1_1)), (1, ov (S (rL (rI .i64)) s2_2)), (12, ov (S (rI .i64) (List.length s1_1 : Int))), (13, ov (S (rI .i64) x_4))], [], []⟩ ?_
 refine jr ?_
 replace hx := lt1_inv hx
 obtain ⟨v_5, hv_v_5, hx⟩ := hx
 refine jc (op_cmpI lb (.tmp rfl) (.tmp rfl) (congrArg some hv_v_5)) <| jn <| JC.seq ?_
 replace hx := iteB_inv hx
 rcases hx with ⟨hc4, hx⟩ | ⟨hc4, hx⟩
 · refine JC.condT (.tmp rfl) hc4 ?_
   refine JC.skip ?_
   refine JQ.then <| JC.seq <| JC.block <| jr <| jmv rfl rfl ?_
   refine jc (op_assign lb (.tmp rfl)) <| jn <| JC.seq ?_
   replace hx := bnd_inv hx
   obtain ⟨v_6, hv_v_6, hx⟩ := hx
   replace hx := bnd_inv hx
   obtain ⟨v_7, hv_v_7, hx⟩ := hx
   replace hx := lt1_inv hx
   obtain ⟨v_8, hv_v_8, hx⟩ := hx
   refine JC.anyE (kl := []) (kk := 0) (base := [(0, ov (S (rL (rI .i64)) s1_1)), (1, ov (S (rL (rI .i64)) s2_2)), (5, ov (S (rI .i64) x_4)), (12, ov (S (rI .i64) (List.length s1_1 : Int))), (13, ov (S (rI .i64) x_4))])
       (fs := fun γ => [⟨some 16, ov (S (rL (rI .i64)) s1_1)⟩, ⟨some 17, ov (S (rI .i64) x_4)⟩, ⟨some 18, ov (PT (rI .i64) v_6)⟩, ⟨some 19, ov (S (rI .i64) v_6)⟩, ⟨some 20, ov (S (rL (rI .i64)) s2_2)⟩, ⟨some 21, ov (S (rI .i64) x_4)⟩, ⟨some 22, ov (PT (rI .i64) v_7)⟩, ⟨some 23, ov (S (rI .i64) v_7)⟩, ⟨some 24, ov (S rB v_8)⟩])
       (rs := fun γ => [])
       (ds := [16, 17, 18, 19, 20, 21, 22, 23, 24]) (bs := [0, 1, 5, 12, 13]) (afts := [[], [], [], [], [], [], [], [], []]) (js := []) mixed (.cons rfl (.cons rfl (.cons rfl (.cons rfl (.cons rfl .nil))))) (fun _ => rfl)
       (by
      refine dS 1 (fun γ ρ B hb hd => op_move lb (.tmp (hb 0 _ rfl))) <| dS 2 (fun γ ρ B hb hd => op_move lb (.tmp (hb 5 _ rfl))) <| dS 3 (fun γ ρ B hb hd => op_indexAddrLg lb tu48 tz3 (tl hd 0 16) (tl hd 1 17) hv_v_6) <| dS 4 (fun γ ρ B hb hd => op_loadPSg lb tS3 rfl (tl hd 2 18) rfl) <| dS 5 (fun γ ρ B hb hd => op_move lb (.tmp (hb 1 _ rfl))) ?_
      refine dS 6 (fun γ ρ B hb hd => op_move lb (.tmp (hb 5 _ rfl))) <| dS 7 (fun γ ρ B hb hd => op_indexAddrLg lb tu48 tz3 (tl hd 4 20) (tl hd 5 21) hv_v_7) <| dS 8 (fun γ ρ B hb hd => op_loadPSg lb tS3 rfl (tl hd 6 22) rfl) <| dS 9 (fun γ ρ B hb hd => op_cmpI lb (tl hd 3 19) (tl hd 7 23) (congrArg some hv_v_8)) ?_
      exact DSteps.nil)
       (by decide +kernel) (fun _ => rfl) rfl (fun _ => rfl) (fun _ => rfl) rfl (by decide) (by decide) (by decide +kernel) (fun _ d h => by cases h)
       (ρ' := fun γ => [(0, ov (S (rL (rI .i64)) s1_1)), (1, ov (S (rL (rI .i64)) s2_2)), (12, ov (S (rI .i64) (List.length s1_1 : Int))), (13, ov (S (rI .i64) x_4)), (24, ov (S rB v_8))])
       (X' := fun γ => [])
       (fun γ ρ hb hd => (.cons (hb 0 _ rfl (by decide)) (.cons (hb 1 _ rfl (by decide)) (.cons (hb 12 _ rfl (by decide)) (.cons (hb 13 _ rfl (by decide)) (.cons (hdq hd 8 24 rfl) .nil)))))) (fun _ => rfl) (fun γ => ?_)
   refine JQ.at ⟨[(0, ov (S (rL (rI .i64)) s1_1)), (1, ov (S (rL (rI .i64)) s2_2)), (12, ov (S (rI .i64) (List.length s1_1 : Int))), (13, ov (S (rI .i64) x_4)), (24, ov (S rB v_8))], [], []⟩ ?_
   refine JQ.then ?_
   replace hx := iteB_inv hx
   rcases hx with ⟨hc5, hx⟩ | ⟨hc5, hx⟩
   · refine JC.condT (.tmp rfl) hc5 ?_
     refine jr <| jc (op_assign lb .cB) <| jn ?_
     refine JC.ret ?_
     refine JQ.outRB ?_
     refine JQ.outR ?_
     replace hx := Option.some.inj hx
     first | subst hx | clear hx
     have ht := hr _ rfl
     clear hr
     first | subst ht | clear ht
     dsimp only at hq3
     refine JQ.outR ?_
     refine JQ.outRB ?_
     replace hq3 := Option.some.inj hq3
     first | subst hq3 | clear hq3
     dsimp only at hq2
     refine JQ.outR ?_
     replace hq2 := Option.some.inj hq2
     subst hq2
     exact JQ.done (js := []) (ss := [.val (S rB false)]) () (.inl rfl) (.nil rfl) rfl (.cons (.tmp rfl) .nil) rfl rfl rfl
   refine JC.condF (.tmp rfl) hc5 ?_
   refine JC.skip ?_
   refine JQ.outNB ?_
   refine JQ.then <| JC.region ?_
   replace hx := lt1_inv hx
   obtain ⟨v_9, hv_v_9, hx⟩ := hx
   refine jc (op_arI lb (.tmp rfl) .cI (congrArg some hv_v_9)) <| jmv rfl rfl <| JL.nil ?_
   replace hx := Option.some.inj hx
   first | subst hx | clear hx
   exact JQ.next () rfl (Imp.norm (js := []) rfl (.cons rfl (.cons rfl (.cons rfl (.cons rfl .nil)))))
 refine JC.condF (.tmp rfl) hc4 ?_
 refine JC.exit ?_
 refine JQ.outX ?_
 replace hx := Option.some.inj hx
 first | subst hx | clear hx
 have ht := hr _ rfl
 clear hr
 first | subst ht | clear ht
 dsimp only at hq3
 refine JQ.outX ?_
 refine JQ.here ?_
 replace hq3 := Option.some.inj hq3
 first | subst hq3 | clear hq3
 exact JQ.joinK () () rfl (Imp.norm (js := []) rfl .nil)

theorem sim_slices_Equalbyte_byte (k : Nat) (s1_1 : (List UInt8)) (s2_2 : (List UInt8)) (r : Bool) (hm : slices_Equalbyte_byte k s1_1 s2_2 = some r) : Sim Try.prog 20 [S (rL (rU UInt8)) s1_1, S (rL (rU UInt8)) s2_2] [] (γ := Unit) (fun q => []) (fun q => .one (.val (S rB r))) := by
 unfold slices_Equalbyte_byte at hm
 refine Sim.of Try.func20 rfl rfl (lE rfl) (fun e0 w0 => ?_)
 refine JC.at ⟨[(0, ov (S (rL (rU UInt8)) s1_1)), (1, ov (S (rL (rU UInt8)) s2_2))], [], []⟩ ?_
 refine jr <| jc (op_assign lb .cB) <| jn <| JC.seq <| jr ?_
 refine jmv rfl rfl <| jc (op_lenL lb tu25 (.tmp rfl)) <| jmv rfl rfl <| jc (op_lenL lb tu25 (.tmp rfl)) ?_
 replace hm := lt1_inv hm
 obtain ⟨v_3, hv_v_3, hm⟩ := hm
 refine jc (op_cmpI lb (.tmp rfl) (.tmp rfl) (congrArg some hv_v_3)) <| jn ?_
 replace hm := iteB_inv hm
 rcases hm with ⟨hc1, hm⟩ | ⟨hc1, hm⟩
 · refine JC.condT (.tmp rfl) hc1 ?_
   refine jr <| jc (op_assign lb .cB) <| jn ?_
   refine JC.ret ?_
   refine JQ.outR ?_
   replace hm := Option.some.inj hm
   subst hm
   exact JQ.done (js := []) (ss := [.val (S rB false)]) () (.inl rfl) (.nil rfl) rfl (.cons (.tmp rfl) .nil) rfl rfl rfl
 refine JC.condF (.tmp rfl) hc1 ?_
 refine JC.skip ?_
 refine JQ.then ?_
 replace hm := bnd_inv hm
 obtain ⟨tv2, hx2, hq2⟩ := hm
 refine JC.seqK (α := Unit) (γ := Unit) (stj := fun v q => ⟨[], [], []⟩) (p := fun v => tv2 = (.inl v)) (fun v q hv => ?_) ?_
 · subst hv
   skip
   obtain _ := q
   dsimp only at hq2
   refine JC.at ⟨[], [], []⟩ ?_
   refine jr <| jc (op_assign lb .cB) <| jn ?_
   refine JC.ret ?_
   replace hq2 := Option.some.inj hq2
   subst hq2
   exact JQ.done (js := []) (ss := [.val (S rB true)]) () (.inl rfl) (.nil rfl) rfl (.cons (.tmp rfl) .nil) rfl rfl rfl
 refine jr <| jmv rfl rfl <| jc (op_lenL lb tu25 (.tmp rfl)) <| jc (op_move lb .cI) <| jn ?_
 refine JC.block ?_
 replace hx2 := bnd_inv hx2
 obtain ⟨tv3, hL3, hq3⟩ := hx2
 refine JC.pre ?_ (JC.loop (γ := Unit) (stf := fun s q => ⟨[(0, ov (S (rL (rU UInt8)) s1_1)), (1, ov (S (rL (rU UInt8)) s2_2)), (12, ov (S (rI .i64) (List.length s1_1 : Int))), (13, ov (S (rI .i64) s))], [], []⟩) (q := ()) hL3 ?_)
 · exact (Imp.norm (js := []) rfl (.cons rfl (.cons rfl (.cons rfl (.cons rfl .nil)))))
 intro x_4 q x hx hr
 obtain _ := q
 change slices_Equalbyte_byte.b1 k s1_1 s2_2 x_4 = some x at hx
 unfold slices_Equalbyte_byte.b1 at hx
 refine JC.at ⟨[(0, ov (S (rL (rU UInt8)) s1_1)), (1, ov (S (rL (rU UInt8)) s2_2)), (12, ov (S (rI .i64) (List.length s1_1 : Int))), (13, ov (S (rI .i64) x_4))], [], []⟩ ?_
 refine jr ?_
 replace hx := lt1_inv hx
 obtain ⟨v_5, hv_v_5, hx⟩ := hx
 refine jc (op_cmpI lb (.tmp rfl) (.tmp rfl) (congrArg some hv_v_5)) <| jn <| JC.seq ?_
 replace hx := iteB_inv hx
 rcases hx with ⟨hc4, hx⟩ | ⟨hc4, hx⟩
 · refine JC.condT (.tmp rfl) hc4 ?_
   refine JC.skip ?_
   refine JQ.then <| JC.seq <| JC.block <| jr <| jmv rfl rfl ?_
   refine jc (op_assign lb (.tmp rfl)) <| jn <| JC.seq ?_
   replace hx := bnd_inv hx
   obtain ⟨v_6, hv_v_6, hx⟩ := hx
   replace hx := bnd_inv hx
   obtain ⟨v_7, hv_v_7, hx⟩ := hx
   replace hx := lt1_inv hx
   obtain ⟨v_8, hv_v_8, hx⟩ := hx
   refine JC.anyE (kl := []) (kk := 0) (base := [(0, ov (S (rL (rU UInt8)) s1_1)), (1, ov (S (rL (rU UInt8)) s2_2)), (5, ov (S (rI .i64) x_4)), (12, ov (S (rI .i64) (List.length s1_1 : Int))), (13, ov (S (rI .i64) x_4))])
       (fs := fun γ => [⟨some 16, ov (S (rL (rU UInt8)) s1_1)⟩, ⟨some 17, ov (S (rI .i64) x_4)⟩, ⟨some 18, ov (PT (rU UInt8) v_6)⟩, ⟨some 19, ov (S (rU UInt8) v_6)⟩, ⟨some 20, ov (S (rL (rU UInt8)) s2_2)⟩, ⟨some 21, ov (S (rI .i64) x_4)⟩, ⟨some 22, ov (PT (rU UInt8) v_7)⟩, ⟨some 23, ov (S (rU UInt8) v_7)⟩, ⟨some 24, ov (S rB v_8)⟩])
       (rs := fun γ => [])
       (ds := [16, 17, 18, 19, 20, 21, 22, 23, 24]) (bs := [0, 1, 5, 12, 13]) (afts := [[], [], [], [], [], [], [], [], []]) (js := []) mixed (.cons rfl (.cons rfl (.cons rfl (.cons rfl (.cons rfl .nil))))) (fun _ => rfl)
       (by
      refine dS 1 (fun γ ρ B hb hd => op_move lb (.tmp (hb 0 _ rfl))) <| dS 2 (fun γ ρ B hb hd => op_move lb (.tmp (hb 5 _ rfl))) <| dS 3 (fun γ ρ B hb hd => op_indexAddrLg lb tu25 tz5 (tl hd 0 16) (tl hd 1 17) hv_v_6) <| dS 4 (fun γ ρ B hb hd => op_loadPSg lb tS5 rfl (tl hd 2 18) rfl) <| dS 5 (fun γ ρ B hb hd => op_move lb (.tmp (hb 1 _ rfl))) ?_
      refine dS 6 (fun γ ρ B hb hd => op_move lb (.tmp (hb 5 _ rfl))) <| dS 7 (fun γ ρ B hb hd => op_indexAddrLg lb tu25 tz5 (tl hd 4 20) (tl hd 5 21) hv_v_7) <| dS 8 (fun γ ρ B hb hd => op_loadPSg lb tS5 rfl (tl hd 6 22) rfl) <| dS 9 (fun γ ρ B hb hd => op_cmpU lb (tl hd 3 19) (tl hd 7 23) (congrArg some hv_v_8)) ?_
      exact DSteps.nil)
       (by decide +kernel) (fun _ => rfl) rfl (fun _ => rfl) (fun _ => rfl) rfl (by decide) (by decide) (by decide +kernel) (fun _ d h => by cases h)
       (ρ' := fun γ => [(0, ov (S (rL (rU UInt8)) s1_1)), (1, ov (S (rL (rU UInt8)) s2_2)), (12, ov (S (rI .i64) (List.length s1_1 : Int))), (13, ov (S (rI .i64) x_4)), (24, ov (S rB v_8))])
       (X' := fun γ => [])
       (fun γ ρ hb hd => (.cons (hb 0 _ rfl (by decide)) (.cons (hb 1 _ rfl (by decide)) (.cons (hb 12 _ rfl (by decide)) (.cons (hb 13 _ rfl (by decide)) (.cons (hdq hd 8 24 rfl) .nil)))))) (fun _ => rfl) (fun γ => ?_)
   refine JQ.at ⟨[(0, ov (S (rL (rU UInt8)) s1_1)), (1, ov (S (rL (rU UInt8)) s2_2)), (12, ov (S (rI .i64) (List.length s1_1 : Int))), (13, ov (S (rI .i64) x_4)), (24, ov (S rB v_8))], [], []⟩ ?_
   refine JQ.then ?_
   replace hx := iteB_inv hx
   rcases hx with ⟨hc5, hx⟩ | ⟨hc5, hx⟩
   · refine JC.condT (.tmp rfl) hc5 ?_
     refine jr <| jc (op_assign lb .cB) <| jn ?_
     refine JC.ret ?_
     refine JQ.outRB ?_
     refine JQ.outR ?_
     replace hx := Option.some.inj hx
     first | subst hx | clear hx
     have ht := hr _ rfl
     clear hr
     first | subst ht | clear ht
     dsimp only at hq3
     refine JQ.outR ?_
     refine JQ.outRB ?_
     replace hq3 := Option.some.inj hq3
     first | subst hq3 | clear hq3
     dsimp only at hq2
     refine JQ.outR ?_
     replace hq2 := Option.some.inj hq2
     subst hq2
     exact JQ.done (js := []) (ss := [.val (S rB false)]) () (.inl rfl) (.nil rfl) rfl (.cons (.tmp rfl) .nil) rfl rfl rfl
   refine JC.condF (.tmp rfl) hc5 ?_
   refine JC.skip ?_
   refine JQ.outNB ?_
   refine JQ.then <| JC.region ?_
   replace hx := lt1_inv hx
   obtain ⟨v_9, hv_v_9, hx⟩ := hx
   refine jc (op_arI lb (.tmp rfl) .cI (congrArg some hv_v_9)) <| jmv rfl rfl <| JL.nil ?_
   replace hx := Option.some.inj hx
   first | subst hx | clear hx
   exact JQ.next () rfl (Imp.norm (js := []) rfl (.cons rfl (.cons rfl (.cons rfl (.cons rfl .nil)))))
 refine JC.condF (.tmp rfl) hc4 ?_
 refine JC.exit ?_
 refine JQ.outX ?_
 replace hx := Option.some.inj hx
 first | subst hx | clear hx
 have ht := hr _ rfl
 clear hr
 first | subst ht | clear ht
 dsimp only at hq3
 refine JQ.outX ?_
 refine JQ.here ?_
 replace hq3 := Option.some.inj hq3
 first | subst hq3 | clear hq3
 exact JQ.joinK () () rfl (Imp.norm (js := []) rfl .nil)

theorem sim_slices_Equalapi_Dest_api_Dest (k : Nat) (s1_1 : (List api_Dest)) (s2_2 : (List api_Dest)) (r : Bool) (hm : slices_Equalapi_Dest_api_Dest k s1_1 s2_2 = some r) : Sim Try.prog 87 [S (rL r_api_Dest) s1_1, S (rL r_api_Dest) s2_2] [] (γ := Unit) (fun q => []) (fun q => .one (.val (S rB r))) := by
 unfold slices_Equalapi_Dest_api_Dest at hm
 refine Sim.of Try.func87 rfl rfl (lE rfl) (fun e0 w0 => ?_)
 refine JC.at ⟨[(0, ov (S (rL r_api_Dest) s1_1)), (1, ov (S (rL r_api_Dest) s2_2))], [], []⟩ ?_
 refine jr <| jc (op_assign lb .cB) <| jn <| JC.seq <| jr ?_
 refine jmv rfl rfl <| jc (op_lenL lb tu41 (.tmp rfl)) <| jmv rfl rfl <| jc (op_lenL lb tu41 (.tmp rfl)) ?_
 replace hm := lt1_inv hm
 obtain ⟨v_3, hv_v_3, hm⟩ := hm
 refine jc (op_cmpI lb (.tmp rfl) (.tmp rfl) (congrArg some hv_v_3)) <| jn ?_
 replace hm := iteB_inv hm
 rcases hm with ⟨hc1, hm⟩ | ⟨hc1, hm⟩
 · refine JC.condT (.tmp rfl) hc1 ?_
   refine jr <| jc (op_assign lb .cB) <| jn ?_
   refine JC.ret ?_
   refine JQ.outR ?_
   replace hm := Option.some.inj hm
   subst hm
   exact JQ.done (js := []) (ss := [.val (S rB false)]) () (.inl rfl) (.nil rfl) rfl (.cons (.tmp rfl) .nil) rfl rfl rfl
 refine JC.condF (.tmp rfl) hc1 ?_
 refine JC.skip ?_
 refine JQ.then ?_
 replace hm := bnd_inv hm
 obtain ⟨tv2, hx2, hq2⟩ := hm
 refine JC.seqK (α := Unit) (γ := Unit) (stj := fun v q => ⟨[], [], []⟩) (p := fun v => tv2 = (.inl v)) (fun v q hv => ?_) ?_
 · subst hv
   skip
   obtain _ := q
   dsimp only at hq2
   refine JC.at ⟨[], [], []⟩ ?_
   refine jr <| jc (op_assign lb .cB) <| jn ?_
   refine JC.ret ?_
   replace hq2 := Option.some.inj hq2
   subst hq2
   exact JQ.done (js := []) (ss := [.val (S rB true)]) () (.inl rfl) (.nil rfl) rfl (.cons (.tmp rfl) .nil) rfl rfl rfl
 refine jr <| jmv rfl rfl <| jc (op_lenL lb tu41 (.tmp rfl)) <| jc (op_move lb .cI) <| jn ?_
 refine JC.block ?_
 replace hx2 := bnd_inv hx2
 obtain ⟨tv3, hL3, hq3⟩ := hx2
 refine JC.pre ?_ (JC.loop (γ := Unit) (stf := fun s q => ⟨[(0, ov (S (rL r_api_Dest) s1_1)), (1, ov (S (rL r_api_Dest) s2_2)), (12, ov (S (rI .i64) (List.length s1_1 : Int))), (13, ov (S (rI .i64) s))], [], []⟩) (q := ()) hL3 ?_)
 · exact (Imp.norm (js := []) rfl (.cons rfl (.cons rfl (.cons rfl (.cons rfl .nil)))))
 intro x_4 q x hx hr
 obtain _ := q
 change slices_Equalapi_Dest_api_Dest.b1 k s1_1 s2_2 x_4 = some x at hx
 unfold slices_Equalapi_Dest_api_Dest.b1 at hx
 refine JC.at ⟨[(0, ov (S (rL r_api_Dest) s1_1)), (1, ov (S (rL r_api_Dest) s2_2)), (12, ov (S (rI .i64) (List.length s1_1 : Int))), (13, ov (S (rI .i64) x_4))], [], []⟩ ?_
 refine jr ?_
 replace hx := lt1_inv hx
 obtain ⟨v_5, hv_v_5, hx⟩ := hx
 refine jc (op_cmpI lb (.tmp rfl) (.tmp rfl) (congrArg some hv_v_5)) <| jn <| JC.seq ?_
 replace hx := iteB_inv hx
 rcases hx with ⟨hc4, hx⟩ | ⟨hc4, hx⟩
 · refine JC.condT (.tmp rfl) hc4 ?_
   refine JC.skip ?_
   refine JQ.then <| JC.seq <| JC.block <| jr <| jmv rfl rfl ?_
   refine jc (op_assign lb (.tmp rfl)) <| jn <| JC.seq ?_
   replace hx := bnd_inv hx
   obtain ⟨v_6, hv_v_6, hx⟩ := hx
   replace hx := bnd_inv hx
   obtain ⟨v_7, hv_v_7, hx⟩ := hx
   replace hx := lt1_inv hx
   obtain ⟨v_8, hv_v_8, hx⟩ := hx
   refine JC.anyE (kl := []) (kk := 0) (base := [(0, ov (S (rL r_api_Dest) s1_1)), (1, ov (S (rL r_api_Dest) s2_2)), (5, ov (S (rI .i64) x_4)), (12, ov (S (rI .i64) (List.length s1_1 : Int))), (13, ov (S (rI .i64) x_4))])
       (fs := fun γ => [⟨some 16, ov (S (rL r_api_Dest) s1_1)⟩, ⟨some 17, ov (S (rI .i64) x_4)⟩, ⟨some 18, ov (PT r_api_Dest v_6)⟩, ⟨some 19, ov (A r_api_Dest v_6)⟩, ⟨some 20, ov (S (rL r_api_Dest) s2_2)⟩, ⟨some 21, ov (S (rI .i64) x_4)⟩, ⟨some 22, ov (PT r_api_Dest v_7)⟩, ⟨some 23, ov (A r_api_Dest v_7)⟩, ⟨some 24, ov (S rB v_8)⟩])
       (rs := fun γ => [])
       (ds := [16, 17, 18, 19, 20, 21, 22, 23, 24]) (bs := [0, 1, 5, 12, 13]) (afts := [[], [], [], [], [], [], [], [], []]) (js := []) mixed (.cons rfl (.cons rfl (.cons rfl (.cons rfl (.cons rfl .nil))))) (fun _ => rfl)
       (by
      refine dS 1 (fun γ ρ B hb hd => op_move lb (.tmp (hb 0 _ rfl))) <| dS 2 (fun γ ρ B hb hd => op_move lb (.tmp (hb 5 _ rfl))) <| dS 3 (fun γ ρ B hb hd => op_indexAddrLg lb tu41 tz110 (tl hd 0 16) (tl hd 1 17) hv_v_6) <| dS 4 (fun γ ρ B hb hd => op_loadPAg lb tA110 (tl hd 2 18) rfl) <| dS 5 (fun γ ρ B hb hd => op_move lb (.tmp (hb 1 _ rfl))) ?_
      refine dS 6 (fun γ ρ B hb hd => op_move lb (.tmp (hb 5 _ rfl))) <| dS 7 (fun γ ρ B hb hd => op_indexAddrLg lb tu41 tz110 (tl hd 4 20) (tl hd 5 21) hv_v_7) <| dS 8 (fun γ ρ B hb hd => op_loadPAg lb tA110 (tl hd 6 22) rfl) <| dS 9 (fun γ ρ B hb hd => op_neA lb qa110 (by decide) ng110 (tl hd 3 19) (tl hd 7 23) hv_v_8) ?_
      exact DSteps.nil)
       (by decide +kernel) (fun _ => rfl) rfl (fun _ => rfl) (fun _ => rfl) rfl (by decide) (by decide) (by decide +kernel) (fun _ d h => by cases h)
       (ρ' := fun γ => [(0, ov (S (rL r_api_Dest) s1_1)), (1, ov (S (rL r_api_Dest) s2_2)), (12, ov (S (rI .i64) (List.length s1_1 : Int))), (13, ov (S (rI .i64) x_4)), (24, ov (S rB v_8))])
       (X' := fun γ => [])
       (fun γ ρ hb hd => (.cons (hb 0 _ rfl (by decide)) (.cons (hb 1 _ rfl (by decide)) (.cons (hb 12 _ rfl (by decide)) (.cons (hb 13 _ rfl (by decide)) (.cons (hdq hd 8 24 rfl) .nil)))))) (fun _ => rfl) (fun γ => ?_)
   refine JQ.at ⟨[(0, ov (S (rL r_api_Dest) s1_1)), (1, ov (S (rL r_api_Dest) s2_2)), (12, ov (S (rI .i64) (List.length s1_1 : Int))), (13, ov (S (rI .i64) x_4)), (24, ov (S rB v_8))], [], []⟩ ?_
   refine JQ.then ?_
   replace hx := iteB_inv hx
   rcases hx with ⟨hc5, hx⟩ | ⟨hc5, hx⟩
   · refine JC.condT (.tmp rfl) hc5 ?_
     refine jr <| jc (op_assign lb .cB) <| jn ?_
     refine JC.ret ?_
     refine JQ.outRB ?_
     refine JQ.outR ?_
     replace hx := Option.some.inj hx
     first | subst hx | clear hx
     have ht := hr _ rfl
     clear hr
     first | subst ht | clear ht
     dsimp only at hq3
     refine JQ.outR ?_
     refine JQ.outRB ?_
     replace hq3 := Option.some.inj hq3
     first | subst hq3 | clear hq3
     dsimp only at hq2
     refine JQ.outR ?_
     replace hq2 := Option.some.inj hq2
     subst hq2
     exact JQ.done (js := []) (ss := [.val (S rB false)]) () (.inl rfl) (.nil rfl) rfl (.cons (.tmp rfl) .nil) rfl rfl rfl
   refine JC.condF (.tmp rfl) hc5 ?_
   refine JC.skip ?_
   refine JQ.outNB ?_
   refine JQ.then <| JC.region ?_
   replace hx := lt1_inv hx
   obtain ⟨v_9, hv_v_9, hx⟩ := hx
   refine jc (op_arI lb (.tmp rfl) .cI (congrArg some hv_v_9)) <| jmv rfl rfl <| JL.nil ?_
   replace hx := Option.some.inj hx
   first | subst hx | clear hx
   exact JQ.next () rfl (Imp.norm (js := []) rfl (.cons rfl (.cons rfl (.cons rfl (.cons rfl .nil)))))
 refine JC.condF (.tmp rfl) hc4 ?_
 refine JC.exit ?_
 refine JQ.outX ?_
 replace hx := Option.some.inj hx
 first | subst hx | clear hx
 have ht := hr _ rfl
 clear hr
 first | subst ht | clear ht
 dsimp only at hq3
 refine JQ.outX ?_
 refine JQ.here ?_
 replace hq3 := Option.some.inj hq3
 first | subst hq3 | clear hq3
 exact JQ.joinK () () rfl (Imp.norm (js := []) rfl .nil)

theorem sim_event_Same (k : Nat) (a_1 : api_Event) (b_2 : api_Event) (r : Bool) (hm : event_Same k a_1 b_2 = some r) : Sim Try.prog 60 [A r_api_Event a_1, A r_api_Event b_2] [] (γ := Unit) (fun q => []) (fun q => .one (.val (S rB r))) := by
 unfold event_Same at hm
 refine Sim.of Try.func60 rfl rfl (lE rfl) (fun e0 w0 => ?_)
 refine JC.at ⟨[(0, ov (A r_api_Event a_1)), (1, ov (A r_api_Event b_2))], [], []⟩ ?_
 refine jr ?_
 refine jx (op_boxA lb (.tmp rfl)) (fun q => ?_)
 obtain ⟨gb_3, hqq⟩ : ∃ z, z = q := ⟨_, rfl⟩
 subst hqq
 refine jx (op_boxA lb (.tmp rfl)) (fun q => ?_)
 obtain ⟨gb_4, hqq⟩ : ∃ z, z = q := ⟨_, rfl⟩
 subst hqq
 refine jc (op_assign lb .cB) <| jn ?_
 replace hm := bnd_inv hm
 obtain ⟨x_10, hx1, hq1⟩ := hm
 refine JC.seqJ (γ := Unit) (stj := fun _ => ⟨[(4, ov (S rB x_10))], [], []⟩) (fun _ => ?_) ?_
 · refine JC.ret ?_
   replace hq1 := Option.some.inj hq1
   subst hq1
   exact JQ.done (js := []) (ss := [.val (S rB x_10)]) () (.inl rfl) (.nil rfl) rfl (.cons (.tmp rfl) .nil) rfl rfl rfl
 refine JC.region <| jc (op_fieldAddr (off := 0) lb tf43_0 (.tmp rfl)) <| jc (op_loadA (j := 0) lb tA29 (.tmp rfl) rfl (cT (comp_api_Event_ID a_1) rfl) rfl) <| jc (op_fieldAddr (off := 0) lb tf43_0 (.tmp rfl)) <| jc (op_loadA (j := 1) lb tA29 (.tmp rfl) rfl (cT (comp_api_Event_ID b_2) rfl) rfl) ?_
 replace hx1 := lt1_inv hx1
 obtain ⟨v_5, hv_v_5, hx1⟩ := hx1
 refine jc (op_eqA lb qa29 (by decide) ng29 (.tmp rfl) (.tmp rfl) hv_v_5) ?_
 refine JL.sub ⟨[(2, ov (PTR gb_3 0)), (3, ov (PTR gb_4 0)), (4, ov (S rB false)), (9, ov (S rB v_5))], [cvar gb_3 r_api_Event a_1, cvar gb_4 r_api_Event b_2], []⟩ (.cons rfl (.cons rfl (.cons rfl (.cons rfl .nil)))) rfl rfl ?_
 refine jmv rfl rfl ?_
 replace hx1 := iteB_inv hx1
 rcases hx1 with ⟨hc3, hx1⟩ | ⟨hc3, hx1⟩
 · refine JL.run (.yes rfl (ltB rfl) rfl hc3) (op_fieldAddr (off := 2) lb tf43_1 (.tmp rfl)) ?_
   refine JL.run (.yes rfl (ltB rfl) rfl hc3) (op_loadS (j := 0) lb tS9 (.tmp rfl) rfl (cT (comp_api_Event_Topic a_1) rfl) rfl rfl) ?_
   refine JL.run (.yes rfl (ltB rfl) rfl hc3) (op_fieldAddr (off := 2) lb tf43_1 (.tmp rfl)) ?_
   refine JL.run (.yes rfl (ltB rfl) rfl hc3) (op_loadS (j := 1) lb tS9 (.tmp rfl) rfl (cT (comp_api_Event_Topic b_2) rfl) rfl rfl) ?_
   replace hx1 := lt1_inv hx1
   obtain ⟨v_6, hv_v_6, hx1⟩ := hx1
   refine JL.run (.yes rfl (ltB rfl) rfl hc3) (op_cmpS lb (.tmp rfl) (.tmp rfl) (congrArg some hv_v_6)) ?_
   refine jc (op_pickT lb (.tmp rfl) hc3 (.tmp rfl)) <| jmv rfl rfl ?_
   replace hx1 := iteB_inv hx1
   rcases hx1 with ⟨hc5, hx1⟩ | ⟨hc5, hx1⟩
   · refine JL.run (.yes rfl (ltB rfl) rfl hc5) (op_fieldAddr (off := 3) lb tf43_2 (.tmp rfl)) ?_
     refine JL.run (.yes rfl (ltB rfl) rfl hc5) (op_loadS (j := 0) lb tS25 (.tmp rfl) rfl (cT (comp_api_Event_Payload a_1) rfl) rfl rfl) ?_
     refine JL.run (.yes rfl (ltB rfl) rfl hc5) (op_fieldAddr (off := 3) lb tf43_2 (.tmp rfl)) ?_
     refine JL.run (.yes rfl (ltB rfl) rfl hc5) (op_loadS (j := 1) lb tS25 (.tmp rfl) rfl (cT (comp_api_Event_Payload b_2) rfl) rfl rfl) ?_
     refine JL.sub ⟨[(2, ov (PTR gb_3 0)), (3, ov (PTR gb_4 0)), (4, ov (S rB false)), (17, ov (S rB v_6)), (19, ov (S (rL (rU UInt8)) a_1.Payload)), (21, ov (S (rL (rU UInt8)) b_2.Payload))], [cvar gb_3 r_api_Event a_1, cvar gb_4 r_api_Event b_2], []⟩ (.cons rfl (.cons rfl (.cons rfl (.cons rfl (.cons rfl (.cons rfl .nil)))))) rfl rfl ?_
     replace hx1 := bnd_inv hx1
     obtain ⟨v_7, hv_v_7, hx1⟩ := hx1
     refine JL.runX (.yes rfl (ltB rfl) rfl hc5) (op_call (js := []) ld cl20 (sim_slices_Equalbyte_byte k a_1.Payload b_2.Payload v_7 hv_v_7) .func (.cons (.tmp rfl) (.cons (.tmp rfl) .nil)) rfl) (fun _ => ?_)
     refine jc (op_pickT lb (.tmp rfl) hc5 (.tmp rfl)) <| jmv rfl rfl ?_
     replace hx1 := iteB_inv hx1
     rcases hx1 with ⟨hc7, hx1⟩ | ⟨hc7, hx1⟩
     · refine JL.run (.yes rfl (ltB rfl) rfl hc7) (op_fieldAddr (off := 4) lb tf43_3 (.tmp rfl)) ?_
       refine JL.run (.yes rfl (ltB rfl) rfl hc7) (op_loadA (j := 0) lb tA40 (.tmp rfl) rfl (cT (comp_api_Event_Past a_1) rfl) rfl) ?_
       refine JL.run (.yes rfl (ltB rfl) rfl hc7) (op_fieldAddr (off := 4) lb tf43_3 (.tmp rfl)) ?_
       refine JL.run (.yes rfl (ltB rfl) rfl hc7) (op_loadA (j := 1) lb tA40 (.tmp rfl) rfl (cT (comp_api_Event_Past b_2) rfl) rfl) ?_
       replace hx1 := lt1_inv hx1
       obtain ⟨v_8, hv_v_8, hx1⟩ := hx1
       refine JL.run (.yes rfl (ltB rfl) rfl hc7) (op_eqA lb qa40 (by decide) ng40 (.tmp rfl) (.tmp rfl) hv_v_8) ?_
       refine jc (op_pickT lb (.tmp rfl) hc7 (.tmp rfl)) <| jmv rfl rfl ?_
       replace hx1 := iteB_inv hx1
       rcases hx1 with ⟨hc9, hx1⟩ | ⟨hc9, hx1⟩
       · refine JL.run (.yes rfl (ltB rfl) rfl hc9) (op_fieldAddr (off := 20) lb tf43_4 (.tmp rfl)) ?_
         refine JL.run (.yes rfl (ltB rfl) rfl hc9) (op_loadS (j := 0) lb tS41 (.tmp rfl) rfl (cT (comp_api_Event_To a_1) rfl) rfl rfl) ?_
         refine JL.nrm ⟨[(3, ov (PTR gb_4 0)), (4, ov (S rB false)), (31, ov (S rB v_8)), (33, ov (S (rL r_api_Dest) a_1.To))], [cvar gb_4 r_api_Event b_2], []⟩ [1] rfl (.cons rfl (.cons rfl (.cons rfl (.cons rfl .nil)))) rfl ?_
         refine JL.run (.yes rfl (ltB rfl) rfl hc9) (op_fieldAddr (off := 20) lb tf43_4 (.tmp rfl)) ?_
         refine JL.run (.yes rfl (ltB rfl) rfl hc9) (op_loadS (j := 0) lb tS41 (.tmp rfl) rfl (cT (comp_api_Event_To b_2) rfl) rfl rfl) ?_
         replace hx1 := bnd_inv hx1
         obtain ⟨v_9, hv_v_9, hx1⟩ := hx1
         refine JL.runX (.yes rfl (ltB rfl) rfl hc9) (op_call (js := []) ld cl87 (sim_slices_Equalapi_Dest_api_Dest k a_1.To b_2.To v_9 hv_v_9) .func (.cons (.tmp rfl) (.cons (.tmp rfl) .nil)) rfl) (fun _ => ?_)
         refine jc (op_pickT lb (.tmp rfl) hc9 (.tmp rfl)) <| jc (op_assign lb (.tmp rfl)) <| JL.nil ?_
         replace hx1 := Option.some.inj hx1
         first | subst hx1 | clear hx1
         exact JQ.join () (Imp.norm (js := []) rfl (.cons rfl .nil))
       refine JL.sk (.no rfl (ltB rfl) rfl hc9) <| JL.sk (.no rfl (ltB rfl) rfl hc9) <| JL.sk (.no rfl (ltB rfl) rfl hc9) <| JL.sk (.no rfl (ltB rfl) rfl hc9) <| JL.sk (.no rfl (ltB rfl) rfl hc9) ?_
       refine jc (op_pickF lb (.tmp rfl) hc9 .cB) <| jc (op_assign lb (.tmp rfl)) ?_
       refine JL.nrm ⟨[(4, ov (S rB false))], [], []⟩ [] rfl (.cons rfl .nil) rfl ?_
       refine JL.nil ?_
       replace hx1 := Option.some.inj hx1
       first | subst hx1 | clear hx1
       exact JQ.join () (Imp.norm (js := []) rfl (.cons rfl .nil))
     refine JL.sk (.no rfl (ltB rfl) rfl hc7) <| JL.sk (.no rfl (ltB rfl) rfl hc7) <| JL.sk (.no rfl (ltB rfl) rfl hc7) <| JL.sk (.no rfl (ltB rfl) rfl hc7) <| JL.sk (.no rfl (ltB rfl) rfl hc7) ?_
     refine jc (op_pickF lb (.tmp rfl) hc7 .cB) <| jmv rfl rfl <| JL.sk (.no rfl (ltB rfl) rfl rfl) <| JL.sk (.no rfl (ltB rfl) rfl rfl) <| JL.sk (.no rfl (ltB rfl) rfl rfl) ?_
     refine JL.sk (.no rfl (ltB rfl) rfl rfl) <| JL.sk (.no rfl (ltB rfl) rfl rfl) <| jc (op_pickF lb (.tmp rfl) rfl .cB) <| jc (op_assign lb (.tmp rfl)) <| JL.nil ?_
     replace hx1 := Option.some.inj hx1
     first | subst hx1 | clear hx1
     exact JQ.join () (Imp.norm (js := []) rfl (.cons rfl .nil))
   refine JL.sk (.no rfl (ltB rfl) rfl hc5) <| JL.sk (.no rfl (ltB rfl) rfl hc5) <| JL.sk (.no rfl (ltB rfl) rfl hc5) <| JL.sk (.no rfl (ltB rfl) rfl hc5) <| JL.sk (.no rfl (ltB rfl) rfl hc5) ?_
   refine jc (op_pickF lb (.tmp rfl) hc5 .cB) <| jmv rfl rfl <| JL.sk (.no rfl (ltB rfl) rfl rfl) <| JL.sk (.no rfl (ltB rfl) rfl rfl) <| JL.sk (.no rfl (ltB rfl) rfl rfl) ?_
   refine JL.sk (.no rfl (ltB rfl) rfl rfl) <| JL.sk (.no rfl (ltB rfl) rfl rfl) <| jc (op_pickF lb (.tmp rfl) rfl .cB) <| jmv rfl rfl ?_
   refine JL.sub ⟨[(2, ov (PTR gb_3 0)), (3, ov (PTR gb_4 0)), (4, ov (S rB false)), (31, ov (S rB false))], [cvar gb_3 r_api_Event a_1, cvar gb_4 r_api_Event b_2], []⟩ (.cons rfl (.cons rfl (.cons rfl (.cons rfl .nil)))) rfl rfl ?_
   refine JL.sk (.no rfl (ltB rfl) rfl rfl) <| JL.sk (.no rfl (ltB rfl) rfl rfl) <| JL.sk (.no rfl (ltB rfl) rfl rfl) <| JL.sk (.no rfl (ltB rfl) rfl rfl) <| JL.sk (.no rfl (ltB rfl) rfl rfl) ?_
   refine jc (op_pickF lb (.tmp rfl) rfl .cB) <| jc (op_assign lb (.tmp rfl)) <| JL.nil ?_
   replace hx1 := Option.some.inj hx1
   first | subst hx1 | clear hx1
   exact JQ.join () (Imp.norm (js := []) rfl (.cons rfl .nil))
 refine JL.sk (.no rfl (ltB rfl) rfl hc3) <| JL.sk (.no rfl (ltB rfl) rfl hc3) <| JL.sk (.no rfl (ltB rfl) rfl hc3) <| JL.sk (.no rfl (ltB rfl) rfl hc3) <| JL.sk (.no rfl (ltB rfl) rfl hc3) ?_
 refine jc (op_pickF lb (.tmp rfl) hc3 .cB) <| jmv rfl rfl <| JL.sk (.no rfl (ltB rfl) rfl rfl) <| JL.sk (.no rfl (ltB rfl) rfl rfl) <| JL.sk (.no rfl (ltB rfl) rfl rfl) ?_
 refine JL.sk (.no rfl (ltB rfl) rfl rfl) <| JL.sk (.no rfl (ltB rfl) rfl rfl) <| jc (op_pickF lb (.tmp rfl) rfl .cB) <| jmv rfl rfl <| JL.sk (.no rfl (ltB rfl) rfl rfl) ?_
 refine JL.sk (.no rfl (ltB rfl) rfl rfl) <| JL.sk (.no rfl (ltB rfl) rfl rfl) <| JL.sk (.no rfl (ltB rfl) rfl rfl) <| JL.sk (.no rfl (ltB rfl) rfl rfl) <| jc (op_pickF lb (.tmp rfl) rfl .cB) ?_
 refine jmv rfl rfl <| JL.sk (.no rfl (ltB rfl) rfl rfl) <| JL.sk (.no rfl (ltB rfl) rfl rfl) <| JL.sk (.no rfl (ltB rfl) rfl rfl) <| JL.sk (.no rfl (ltB rfl) rfl rfl) ?_
 refine JL.sk (.no rfl (ltB rfl) rfl rfl) <| jc (op_pickF lb (.tmp rfl) rfl .cB) <| jc (op_assign lb (.tmp rfl)) <| JL.nil ?_
 replace hx1 := Option.some.inj hx1
 first | subst hx1 | clear hx1
 exact JQ.join () (Imp.norm (js := []) rfl (.cons rfl .nil))

theorem sim_frame_Same (k : Nat) (t_1 : api_Frame) (a_2 : api_Frame) (r : Bool) (hm : frame_Same k t_1 a_2 = some r) : Sim Try.prog 21 [A r_api_Frame t_1, A r_api_Frame a_2] [] (γ := Unit) (fun q => []) (fun q => .one (.val (S rB r))) := by
 unfold frame_Same at hm
 refine Sim.of Try.func21 rfl rfl (lE rfl) (fun e0 w0 => ?_)
 refine JC.at ⟨[(0, ov (A r_api_Frame t_1)), (1, ov (A r_api_Frame a_2))], [], []⟩ ?_
 refine jr ?_
 refine jx (op_boxA lb (.tmp rfl)) (fun q => ?_)
 obtain ⟨gb_3, hqq⟩ : ∃ z, z = q := ⟨_, rfl⟩
 subst hqq
 refine jx (op_boxA lb (.tmp rfl)) (fun q => ?_)
 obtain ⟨gb_4, hqq⟩ : ∃ z, z = q := ⟨_, rfl⟩
 subst hqq
 refine jc (op_assign lb .cB) <| jn ?_
 replace hm := bnd_inv hm
 obtain ⟨x_12, hx1, hq1⟩ := hm
 refine JC.seqJ (γ := Unit) (stj := fun _ => ⟨[(2, ov (PTR gb_3 0)), (3, ov (PTR gb_4 0)), (5, ov (S rB x_12))], [cvar gb_3 r_api_Frame t_1, cvar gb_4 r_api_Frame a_2], []⟩) (fun _ => ?_) ?_
 · replace hq1 := bnd_inv hq1
   obtain ⟨x_18, hx14, hq14⟩ := hq1
   refine JC.seqJ (γ := Unit) (stj := fun _ => ⟨[(2, ov (PTR gb_3 0)), (3, ov (PTR gb_4 0)), (5, ov (S rB x_12)), (6, ov (S rB x_18))], [cvar gb_3 r_api_Frame t_1, cvar gb_4 r_api_Frame a_2], []⟩) (fun _ => ?_) ?_
   · replace hq14 := bnd_inv hq14
     obtain ⟨x_21, hx23, hq23⟩ := hq14
     refine JC.seqJ (γ := Unit) (stj := fun _ => ⟨[(4, ov (S rB x_21))], [], []⟩) (fun _ => ?_) ?_
     · refine JC.ret ?_
       replace hq23 := Option.some.inj hq23
       subst hq23
       exact JQ.done (js := []) (ss := [.val (S rB x_21)]) () (.inl rfl) (.nil rfl) rfl (.cons (.tmp rfl) .nil) rfl rfl rfl
     refine JC.region <| jmv rfl rfl <| jmv rfl rfl ?_
     refine JL.cnd (sv := ov (S rB x_18)) (Guard.isT (ltB rfl) rfl rfl) rfl (ltB rfl) (fun hq_24 => op_move lb (.tmp rfl)) ?_
     replace hx23 := lt1_inv hx23
     obtain ⟨v_19, hv_v_19, hx23⟩ := hx23
     refine jc (op_pickCS lb (.tmp rfl) (fun hb25 => (HasO.cnd (.tmp rfl) hb25)) (fun hb25 => .cB) hv_v_19) <| jmv rfl rfl ?_
     replace hx23 := iteB_inv hx23
     rcases hx23 with ⟨hc27, hx23⟩ | ⟨hc27, hx23⟩
     · refine JL.run (.yes rfl (ltB rfl) rfl hc27) (op_fieldAddr (off := 4) lb tf50_4 (.tmp rfl)) ?_
       refine JL.run (.yes rfl (ltB rfl) rfl hc27) (op_loadA (j := 0) lb tA43 (.tmp rfl) rfl (cT (comp_api_Frame_Event t_1) rfl) rfl) ?_
       refine JL.run (.yes rfl (ltB rfl) rfl hc27) (op_fieldAddr (off := 4) lb tf50_4 (.tmp rfl)) ?_
       refine JL.run (.yes rfl (ltB rfl) rfl hc27) (op_loadA (j := 1) lb tA43 (.tmp rfl) rfl (cT (comp_api_Frame_Event a_2) rfl) rfl) ?_
       replace hx23 := bnd_inv hx23
       obtain ⟨v_20, hv_v_20, hx23⟩ := hx23
       refine JL.runX (.yes rfl (ltB rfl) rfl hc27) (op_call (js := []) ld cl60 (sim_event_Same k t_1.Event a_2.Event v_20 hv_v_20) .func (.cons (.tmp rfl) (.cons (.tmp rfl) .nil)) rfl) (fun _ => ?_)
       refine jc (op_pickT lb (.tmp rfl) hc27 (.tmp rfl)) <| jc (op_assign lb (.tmp rfl)) ?_
       refine JL.nrm ⟨[(4, ov (S rB v_20))], [], []⟩ [] rfl (.cons rfl .nil) rfl ?_
       refine JL.nil ?_
       replace hx23 := Option.some.inj hx23
       first | subst hx23 | clear hx23
       exact JQ.join () (Imp.norm (js := []) rfl (.cons rfl .nil))
     refine JL.sk (.no rfl (ltB rfl) rfl hc27) <| JL.sk (.no rfl (ltB rfl) rfl hc27) <| JL.sk (.no rfl (ltB rfl) rfl hc27) <| JL.sk (.no rfl (ltB rfl) rfl hc27) <| JL.sk (.no rfl (ltB rfl) rfl hc27) ?_
     refine jc (op_pickF lb (.tmp rfl) hc27 .cB) <| jc (op_assign lb (.tmp rfl)) <| JL.nil ?_
     replace hx23 := Option.some.inj hx23
     first | subst hx23 | clear hx23
     exact JQ.join () (Imp.norm (js := []) rfl (.cons rfl .nil))
   refine JC.region <| jc (op_fieldAddr (off := 3) lb tf50_3 (.tmp rfl)) <| jc (op_loadS (j := 0) lb tS22 (.tmp rfl) rfl (cT (comp_api_Frame_Items t_1) rfl) rfl rfl) <| jc (op_fieldAddr (off := 3) lb tf50_3 (.tmp rfl)) <| jc (op_loadS (j := 1) lb tS22 (.tmp rfl) rfl (cT (comp_api_Frame_Items a_2) rfl) rfl rfl) ?_
   replace hx14 := bnd_inv hx14
   obtain ⟨v_13, hv_v_13, hx14⟩ := hx14
   refine jx (op_call (js := []) ld cl56 (sim_slices_Equalapi_Item_api_Item k t_1.Items a_2.Items v_13 hv_v_13) .func (.cons (.tmp rfl) (.cons (.tmp rfl) .nil)) rfl) (fun _ => ?_)
   refine jmv rfl rfl ?_
   replace hx14 := iteB_inv hx14
   rcases hx14 with ⟨hc16, hx14⟩ | ⟨hc16, hx14⟩
   · refine JL.run (.yes rfl (ltB rfl) rfl hc16) (op_fieldAddr (off := 57) lb tf50_7 (.tmp rfl)) ?_
     refine JL.run (.yes rfl (ltB rfl) rfl hc16) (op_loadS (j := 0) lb tS44 (.tmp rfl) rfl (cT (comp_api_Frame_Extra t_1) rfl) rfl rfl) ?_
     refine JL.run (.yes rfl (ltB rfl) rfl hc16) (op_fieldAddr (off := 57) lb tf50_7 (.tmp rfl)) ?_
     refine JL.run (.yes rfl (ltB rfl) rfl hc16) (op_loadS (j := 1) lb tS44 (.tmp rfl) rfl (cT (comp_api_Frame_Extra a_2) rfl) rfl rfl) ?_
     replace hx14 := bnd_inv hx14
     obtain ⟨v_14, hv_v_14, hx14⟩ := hx14
     refine JL.runX (.yes rfl (ltB rfl) rfl hc16) (op_call (js := []) ld cl57 (sim_slices_Equalapi_Dot_api_Dot k t_1.Extra a_2.Extra v_14 hv_v_14) .func (.cons (.tmp rfl) (.cons (.tmp rfl) .nil)) rfl) (fun _ => ?_)
     refine jc (op_pickT lb (.tmp rfl) hc16 (.tmp rfl)) ?_
     refine JL.sub ⟨[(2, ov (PTR gb_3 0)), (3, ov (PTR gb_4 0)), (5, ov (S rB x_12)), (65, ov (S rB v_14))], [cvar gb_3 r_api_Frame t_1, cvar gb_4 r_api_Frame a_2], []⟩ (.cons rfl (.cons rfl (.cons rfl (.cons rfl .nil)))) rfl rfl ?_
     refine jmv rfl rfl ?_
     replace hx14 := iteB_inv hx14
     rcases hx14 with ⟨hc18, hx14⟩ | ⟨hc18, hx14⟩
     · refine JL.run (.yes rfl (ltB rfl) rfl hc18) (op_fieldAddr (off := 58) lb tf50_8 (.tmp rfl)) ?_
       refine JL.run (.yes rfl (ltB rfl) rfl hc18) (op_loadS (j := 0) lb tS44 (.tmp rfl) rfl (cT (comp_api_Frame_Live t_1) rfl) rfl rfl) ?_
       refine JL.run (.yes rfl (ltB rfl) rfl hc18) (op_fieldAddr (off := 58) lb tf50_8 (.tmp rfl)) ?_
       refine JL.run (.yes rfl (ltB rfl) rfl hc18) (op_loadS (j := 1) lb tS44 (.tmp rfl) rfl (cT (comp_api_Frame_Live a_2) rfl) rfl rfl) ?_
       replace hx14 := bnd_inv hx14
       obtain ⟨v_15, hv_v_15, hx14⟩ := hx14
       refine JL.runX (.yes rfl (ltB rfl) rfl hc18) (op_call (js := []) ld cl57 (sim_slices_Equalapi_Dot_api_Dot k t_1.Live a_2.Live v_15 hv_v_15) .func (.cons (.tmp rfl) (.cons (.tmp rfl) .nil)) rfl) (fun _ => ?_)
       refine jc (op_pickT lb (.tmp rfl) hc18 (.tmp rfl)) <| jmv rfl rfl ?_
       replace hx14 := iteB_inv hx14
       rcases hx14 with ⟨hc20, hx14⟩ | ⟨hc20, hx14⟩
       · refine JL.run (.yes rfl (ltB rfl) rfl hc20) (op_fieldAddr (off := 91) lb tf50_10 (.tmp rfl)) ?_
         refine JL.run (.yes rfl (ltB rfl) rfl hc20) (op_loadS (j := 0) lb tS47 (.tmp rfl) rfl (cT (comp_api_Frame_Leaves t_1) rfl) rfl rfl) ?_
         refine JL.run (.yes rfl (ltB rfl) rfl hc20) (op_fieldAddr (off := 91) lb tf50_10 (.tmp rfl)) ?_
         refine JL.run (.yes rfl (ltB rfl) rfl hc20) (op_loadS (j := 1) lb tS47 (.tmp rfl) rfl (cT (comp_api_Frame_Leaves a_2) rfl) rfl rfl) ?_
         refine JL.sub ⟨[(2, ov (PTR gb_3 0)), (3, ov (PTR gb_4 0)), (5, ov (S rB x_12)), (73, ov (S rB v_15)), (75, ov (S (rL (rV 32 (rU UInt8))) t_1.Leaves)), (77, ov (S (rL (rV 32 (rU UInt8))) a_2.Leaves))], [cvar gb_3 r_api_Frame t_1, cvar gb_4 r_api_Frame a_2], []⟩ (.cons rfl (.cons rfl (.cons rfl (.cons rfl (.cons rfl (.cons rfl .nil)))))) rfl rfl ?_
         replace hx14 := bnd_inv hx14
         obtain ⟨v_16, hv_v_16, hx14⟩ := hx14
         refine JL.runX (.yes rfl (ltB rfl) rfl hc20) (op_call (js := []) ld cl58 (sim_slices_Equalapi_Hash_api_Hash k t_1.Leaves a_2.Leaves v_16 hv_v_16) .func (.cons (.tmp rfl) (.cons (.tmp rfl) .nil)) rfl) (fun _ => ?_)
         refine jc (op_pickT lb (.tmp rfl) hc20 (.tmp rfl)) <| jmv rfl rfl ?_
         replace hx14 := iteB_inv hx14
         rcases hx14 with ⟨hc22, hx14⟩ | ⟨hc22, hx14⟩
         · refine JL.run (.yes rfl (ltB rfl) rfl hc22) (op_fieldAddr (off := 92) lb tf50_11 (.tmp rfl)) ?_
           refine JL.run (.yes rfl (ltB rfl) rfl hc22) (op_loadS (j := 0) lb tS48 (.tmp rfl) rfl (cT (comp_api_Frame_Buckets t_1) rfl) rfl rfl) ?_
           refine JL.run (.yes rfl (ltB rfl) rfl hc22) (op_fieldAddr (off := 92) lb tf50_11 (.tmp rfl)) ?_
           refine JL.run (.yes rfl (ltB rfl) rfl hc22) (op_loadS (j := 1) lb tS48 (.tmp rfl) rfl (cT (comp_api_Frame_Buckets a_2) rfl) rfl rfl) ?_
           replace hx14 := bnd_inv hx14
           obtain ⟨v_17, hv_v_17, hx14⟩ := hx14
           refine JL.runX (.yes rfl (ltB rfl) rfl hc22) (op_call (js := []) ld cl59 (sim_slices_Equalint_int k t_1.Buckets a_2.Buckets v_17 hv_v_17) .func (.cons (.tmp rfl) (.cons (.tmp rfl) .nil)) rfl) (fun _ => ?_)
           refine jc (op_pickT lb (.tmp rfl) hc22 (.tmp rfl)) <| jc (op_assign lb (.tmp rfl)) <| JL.nil ?_
           replace hx14 := Option.some.inj hx14
           first | subst hx14 | clear hx14
           exact JQ.join () (Imp.norm (js := [0, 0]) rfl (.cons rfl (.cons rfl (.cons rfl (.cons rfl .nil)))))
         refine JL.sk (.no rfl (ltB rfl) rfl hc22) <| JL.sk (.no rfl (ltB rfl) rfl hc22) <| JL.sk (.no rfl (ltB rfl) rfl hc22) <| JL.sk (.no rfl (ltB rfl) rfl hc22) <| JL.sk (.no rfl (ltB rfl) rfl hc22) ?_
         refine jc (op_pickF lb (.tmp rfl) hc22 .cB) <| jc (op_assign lb (.tmp rfl)) <| JL.nil ?_
         replace hx14 := Option.some.inj hx14
         first | subst hx14 | clear hx14
         exact JQ.join () (Imp.norm (js := [0, 0]) rfl (.cons rfl (.cons rfl (.cons rfl (.cons rfl .nil)))))
       refine JL.sk (.no rfl (ltB rfl) rfl hc20) <| JL.sk (.no rfl (ltB rfl) rfl hc20) <| JL.sk (.no rfl (ltB rfl) rfl hc20) <| JL.sk (.no rfl (ltB rfl) rfl hc20) <| JL.sk (.no rfl (ltB rfl) rfl hc20) ?_
       refine jc (op_pickF lb (.tmp rfl) hc20 .cB) <| jmv rfl rfl <| JL.sk (.no rfl (ltB rfl) rfl rfl) <| JL.sk (.no rfl (ltB rfl) rfl rfl) <| JL.sk (.no rfl (ltB rfl) rfl rfl) ?_
       refine JL.sk (.no rfl (ltB rfl) rfl rfl) <| JL.sk (.no rfl (ltB rfl) rfl rfl) <| jc (op_pickF lb (.tmp rfl) rfl .cB) <| jc (op_assign lb (.tmp rfl)) ?_
       refine JL.sub ⟨[(2, ov (PTR gb_3 0)), (3, ov (PTR gb_4 0)), (5, ov (S rB x_12)), (6, ov (S rB false))], [cvar gb_3 r_api_Frame t_1, cvar gb_4 r_api_Frame a_2], []⟩ (.cons rfl (.cons rfl (.cons rfl (.cons rfl .nil)))) rfl rfl ?_
       refine JL.nil ?_
       replace hx14 := Option.some.inj hx14
       first | subst hx14 | clear hx14
       exact JQ.join () (Imp.norm (js := [0, 0]) rfl (.cons rfl (.cons rfl (.cons rfl (.cons rfl .nil)))))
     refine JL.sk (.no rfl (ltB rfl) rfl hc18) <| JL.sk (.no rfl (ltB rfl) rfl hc18) <| JL.sk (.no rfl (ltB rfl) rfl hc18) <| JL.sk (.no rfl (ltB rfl) rfl hc18) <| JL.sk (.no rfl (ltB rfl) rfl hc18) ?_
     refine jc (op_pickF lb (.tmp rfl) hc18 .cB) <| jmv rfl rfl <| JL.sk (.no rfl (ltB rfl) rfl rfl) <| JL.sk (.no rfl (ltB rfl) rfl rfl) <| JL.sk (.no rfl (ltB rfl) rfl rfl) ?_
     refine JL.sk (.no rfl (ltB rfl) rfl rfl) <| JL.sk (.no rfl (ltB rfl) rfl rfl) <| jc (op_pickF lb (.tmp rfl) rfl .cB) <| jmv rfl rfl <| JL.sk (.no rfl (ltB rfl) rfl rfl) ?_
     refine JL.sk (.no rfl (ltB rfl) rfl rfl) <| JL.sk (.no rfl (ltB rfl) rfl rfl) <| JL.sk (.no rfl (ltB rfl) rfl rfl) <| JL.sk (.no rfl (ltB rfl) rfl rfl) <| jc (op_pickF lb (.tmp rfl) rfl .cB) ?_
     refine jc (op_assign lb (.tmp rfl)) <| JL.nil ?_
     replace hx14 := Option.some.inj hx14
     first | subst hx14 | clear hx14
     exact JQ.join () (Imp.norm (js := [0, 0]) rfl (.cons rfl (.cons rfl (.cons rfl (.cons rfl .nil)))))
   refine JL.sk (.no rfl (ltB rfl) rfl hc16) <| JL.sk (.no rfl (ltB rfl) rfl hc16) <| JL.sk (.no rfl (ltB rfl) rfl hc16) <| JL.sk (.no rfl (ltB rfl) rfl hc16) <| JL.sk (.no rfl (ltB rfl) rfl hc16) ?_
   refine jc (op_pickF lb (.tmp rfl) hc16 .cB) <| jmv rfl rfl <| JL.sk (.no rfl (ltB rfl) rfl rfl) <| JL.sk (.no rfl (ltB rfl) rfl rfl) <| JL.sk (.no rfl (ltB rfl) rfl rfl) ?_
   refine JL.sk (.no rfl (ltB rfl) rfl rfl) <| JL.sk (.no rfl (ltB rfl) rfl rfl) <| jc (op_pickF lb (.tmp rfl) rfl .cB) <| jmv rfl rfl <| JL.sk (.no rfl (ltB rfl) rfl rfl) ?_
   refine JL.sk (.no rfl (ltB rfl) rfl rfl) <| JL.sk (.no rfl (ltB rfl) rfl rfl) <| JL.sk (.no rfl (ltB rfl) rfl rfl) <| JL.sk (.no rfl (ltB rfl) rfl rfl) <| jc (op_pickF lb (.tmp rfl) rfl .cB) ?_
   refine jmv rfl rfl ?_
   refine JL.sub ⟨[(2, ov (PTR gb_3 0)), (3, ov (PTR gb_4 0)), (5, ov (S rB x_12)), (80, ov (S rB false))], [cvar gb_3 r_api_Frame t_1, cvar gb_4 r_api_Frame a_2], []⟩ (.cons rfl (.cons rfl (.cons rfl (.cons rfl .nil)))) rfl rfl ?_
   refine JL.sk (.no rfl (ltB rfl) rfl rfl) <| JL.sk (.no rfl (ltB rfl) rfl rfl) <| JL.sk (.no rfl (ltB rfl) rfl rfl) <| JL.sk (.no rfl (ltB rfl) rfl rfl) <| JL.sk (.no rfl (ltB rfl) rfl rfl) ?_
   refine jc (op_pickF lb (.tmp rfl) rfl .cB) <| jc (op_assign lb (.tmp rfl)) <| JL.nil ?_
   replace hx14 := Option.some.inj hx14
   first | subst hx14 | clear hx14
   exact JQ.join () (Imp.norm (js := [0, 0]) rfl (.cons rfl (.cons rfl (.cons rfl (.cons rfl .nil)))))
 refine JC.region <| jc (op_fieldAddr (off := 0) lb tf50_0 (.tmp rfl)) <| jc (op_loadS (j := 0) lb tS38 (.tmp rfl) rfl (cT (comp_api_Frame_Kind t_1) rfl) rfl rfl) <| jc (op_fieldAddr (off := 0) lb tf50_0 (.tmp rfl)) <| jc (op_loadS (j := 1) lb tS38 (.tmp rfl) rfl (cT (comp_api_Frame_Kind a_2) rfl) rfl rfl) ?_
 replace hx1 := lt1_inv hx1
 obtain ⟨v_5, hv_v_5, hx1⟩ := hx1
 refine jc (op_cmpI lb (.tmp rfl) (.tmp rfl) (congrArg some hv_v_5)) ?_
 refine JL.sub ⟨[(2, ov (PTR gb_3 0)), (3, ov (PTR gb_4 0)), (11, ov (S rB v_5))], [cvar gb_3 r_api_Frame t_1, cvar gb_4 r_api_Frame a_2], []⟩ (.cons rfl (.cons rfl (.cons rfl .nil))) rfl rfl ?_
 refine jmv rfl rfl ?_
 replace hx1 := iteB_inv hx1
 rcases hx1 with ⟨hc3, hx1⟩ | ⟨hc3, hx1⟩
 · refine JL.run (.yes rfl (ltB rfl) rfl hc3) (op_fieldAddr (off := 1) lb tf50_1 (.tmp rfl)) ?_
   refine JL.run (.yes rfl (ltB rfl) rfl hc3) (op_loadS (j := 0) lb tS3 (.tmp rfl) rfl (cT (comp_api_Frame_From t_1) rfl) rfl rfl) ?_
   refine JL.run (.yes rfl (ltB rfl) rfl hc3) (op_fieldAddr (off := 1) lb tf50_1 (.tmp rfl)) ?_
   refine JL.run (.yes rfl (ltB rfl) rfl hc3) (op_loadS (j := 1) lb tS3 (.tmp rfl) rfl (cT (comp_api_Frame_From a_2) rfl) rfl rfl) ?_
   replace hx1 := lt1_inv hx1
   obtain ⟨v_6, hv_v_6, hx1⟩ := hx1
   refine JL.run (.yes rfl (ltB rfl) rfl hc3) (op_cmpI lb (.tmp rfl) (.tmp rfl) (congrArg some hv_v_6)) ?_
   refine jc (op_pickT lb (.tmp rfl) hc3 (.tmp rfl)) <| jmv rfl rfl ?_
   replace hx1 := iteB_inv hx1
   rcases hx1 with ⟨hc5, hx1⟩ | ⟨hc5, hx1⟩
   · refine JL.run (.yes rfl (ltB rfl) rfl hc5) (op_fieldAddr (off := 2) lb tf50_2 (.tmp rfl)) ?_
     refine JL.run (.yes rfl (ltB rfl) rfl hc5) (op_loadS (j := 0) lb tS3 (.tmp rfl) rfl (cT (comp_api_Frame_To t_1) rfl) rfl rfl) ?_
     refine JL.run (.yes rfl (ltB rfl) rfl hc5) (op_fieldAddr (off := 2) lb tf50_2 (.tmp rfl)) ?_
     refine JL.run (.yes rfl (ltB rfl) rfl hc5) (op_loadS (j := 1) lb tS3 (.tmp rfl) rfl (cT (comp_api_Frame_To a_2) rfl) rfl rfl) ?_
     refine JL.sub ⟨[(2, ov (PTR gb_3 0)), (3, ov (PTR gb_4 0)), (19, ov (S rB v_6)), (21, ov (S (rI .i64) t_1.To)), (23, ov (S (rI .i64) a_2.To))], [cvar gb_3 r_api_Frame t_1, cvar gb_4 r_api_Frame a_2], []⟩ (.cons rfl (.cons rfl (.cons rfl (.cons rfl (.cons rfl .nil))))) rfl rfl ?_
     replace hx1 := lt1_inv hx1
     obtain ⟨v_7, hv_v_7, hx1⟩ := hx1
     refine JL.run (.yes rfl (ltB rfl) rfl hc5) (op_cmpI lb (.tmp rfl) (.tmp rfl) (congrArg some hv_v_7)) ?_
     refine jc (op_pickT lb (.tmp rfl) hc5 (.tmp rfl)) <| jmv rfl rfl ?_
     replace hx1 := iteB_inv hx1
     rcases hx1 with ⟨hc7, hx1⟩ | ⟨hc7, hx1⟩
     · refine JL.run (.yes rfl (ltB rfl) rfl hc7) (op_fieldAddr (off := 25) lb tf50_5 (.tmp rfl)) ?_
       refine JL.run (.yes rfl (ltB rfl) rfl hc7) (op_loadA (j := 0) lb tA40 (.tmp rfl) rfl (cT (comp_api_Frame_Past t_1) rfl) rfl) ?_
       refine JL.run (.yes rfl (ltB rfl) rfl hc7) (op_fieldAddr (off := 25) lb tf50_5 (.tmp rfl)) ?_
       refine JL.run (.yes rfl (ltB rfl) rfl hc7) (op_loadA (j := 1) lb tA40 (.tmp rfl) rfl (cT (comp_api_Frame_Past a_2) rfl) rfl) ?_
       replace hx1 := lt1_inv hx1
       obtain ⟨v_8, hv_v_8, hx1⟩ := hx1
       refine JL.run (.yes rfl (ltB rfl) rfl hc7) (op_eqA lb qa40 (by decide) ng40 (.tmp rfl) (.tmp rfl) hv_v_8) ?_
       refine jc (op_pickT lb (.tmp rfl) hc7 (.tmp rfl)) <| jmv rfl rfl ?_
       replace hx1 := iteB_inv hx1
       rcases hx1 with ⟨hc9, hx1⟩ | ⟨hc9, hx1⟩
       · refine JL.run (.yes rfl (ltB rfl) rfl hc9) (op_fieldAddr (off := 41) lb tf50_6 (.tmp rfl)) ?_
         refine JL.run (.yes rfl (ltB rfl) rfl hc9) (op_loadA (j := 0) lb tA40 (.tmp rfl) rfl (cT (comp_api_Frame_Seen t_1) rfl) rfl) ?_
         refine JL.sub ⟨[(2, ov (PTR gb_3 0)), (3, ov (PTR gb_4 0)), (33, ov (S rB v_8)), (35, ov (A (rV 16 (rU UInt64)) t_1.Seen))], [cvar gb_3 r_api_Frame t_1, cvar gb_4 r_api_Frame a_2], []⟩ (.cons rfl (.cons rfl (.cons rfl (.cons rfl .nil)))) rfl rfl ?_
         refine JL.run (.yes rfl (ltB rfl) rfl hc9) (op_fieldAddr (off := 41) lb tf50_6 (.tmp rfl)) ?_
         refine JL.run (.yes rfl (ltB rfl) rfl hc9) (op_loadA (j := 1) lb tA40 (.tmp rfl) rfl (cT (comp_api_Frame_Seen a_2) rfl) rfl) ?_
         replace hx1 := lt1_inv hx1
         obtain ⟨v_9, hv_v_9, hx1⟩ := hx1
         refine JL.run (.yes rfl (ltB rfl) rfl hc9) (op_eqA lb qa40 (by decide) ng40 (.tmp rfl) (.tmp rfl) hv_v_9) ?_
         refine jc (op_pickT lb (.tmp rfl) hc9 (.tmp rfl)) <| jmv rfl rfl ?_
         replace hx1 := iteB_inv hx1
         rcases hx1 with ⟨hc11, hx1⟩ | ⟨hc11, hx1⟩
         · refine JL.run (.yes rfl (ltB rfl) rfl hc11) (op_fieldAddr (off := 59) lb tf50_9 (.tmp rfl)) ?_
           refine JL.run (.yes rfl (ltB rfl) rfl hc11) (op_loadA (j := 0) lb tA46 (.tmp rfl) rfl (cT (comp_api_Frame_Hash t_1) rfl) rfl) ?_
           refine JL.run (.yes rfl (ltB rfl) rfl hc11) (op_fieldAddr (off := 59) lb tf50_9 (.tmp rfl)) ?_
           refine JL.run (.yes rfl (ltB rfl) rfl hc11) (op_loadA (j := 1) lb tA46 (.tmp rfl) rfl (cT (comp_api_Frame_Hash a_2) rfl) rfl) ?_
           replace hx1 := lt1_inv hx1
           obtain ⟨v_10, hv_v_10, hx1⟩ := hx1
           refine JL.run (.yes rfl (ltB rfl) rfl hc11) (op_eqA lb qa46 (by decide) ng46 (.tmp rfl) (.tmp rfl) hv_v_10) ?_
           refine jc (op_pickT lb (.tmp rfl) hc11 (.tmp rfl)) <| jmv rfl rfl ?_
           refine JL.sub ⟨[(2, ov (PTR gb_3 0)), (3, ov (PTR gb_4 0)), (47, ov (S rB v_10))], [cvar gb_3 r_api_Frame t_1, cvar gb_4 r_api_Frame a_2], []⟩ (.cons rfl (.cons rfl (.cons rfl .nil))) rfl rfl ?_
           replace hx1 := iteB_inv hx1
           rcases hx1 with ⟨hc13, hx1⟩ | ⟨hc13, hx1⟩
           · refine JL.run (.yes rfl (ltB rfl) rfl hc13) (op_fieldAddr (off := 93) lb tf50_12 (.tmp rfl)) ?_
             refine JL.run (.yes rfl (ltB rfl) rfl hc13) (op_loadS (j := 0) lb tS4 (.tmp rfl) rfl (cT (comp_api_Frame_Reply t_1) rfl) rfl rfl) ?_
             refine JL.run (.yes rfl (ltB rfl) rfl hc13) (op_fieldAddr (off := 93) lb tf50_12 (.tmp rfl)) ?_
             refine JL.run (.yes rfl (ltB rfl) rfl hc13) (op_loadS (j := 1) lb tS4 (.tmp rfl) rfl (cT (comp_api_Frame_Reply a_2) rfl) rfl rfl) ?_
             replace hx1 := lt1_inv hx1
             obtain ⟨v_11, hv_v_11, hx1⟩ := hx1
             refine JL.run (.yes rfl (ltB rfl) rfl hc13) (op_eqB lb tu4 (.tmp rfl) (.tmp rfl) hv_v_11) ?_
             refine jc (op_pickT lb (.tmp rfl) hc13 (.tmp rfl)) <| jc (op_assign lb (.tmp rfl)) <| JL.nil ?_
             replace hx1 := Option.some.inj hx1
             first | subst hx1 | clear hx1
             exact JQ.join () (Imp.norm (js := [0, 0]) rfl (.cons rfl (.cons rfl (.cons rfl .nil))))
           refine JL.sk (.no rfl (ltB rfl) rfl hc13) <| JL.sk (.no rfl (ltB rfl) rfl hc13) <| JL.sk (.no rfl (ltB rfl) rfl hc13) <| JL.sk (.no rfl (ltB rfl) rfl hc13) <| JL.sk (.no rfl (ltB rfl) rfl hc13) ?_
           refine jc (op_pickF lb (.tmp rfl) hc13 .cB) <| jc (op_assign lb (.tmp rfl)) <| JL.nil ?_
           replace hx1 := Option.some.inj hx1
           first | subst hx1 | clear hx1
           exact JQ.join () (Imp.norm (js := [0, 0]) rfl (.cons rfl (.cons rfl (.cons rfl .nil))))
         refine JL.sk (.no rfl (ltB rfl) rfl hc11) <| JL.sk (.no rfl (ltB rfl) rfl hc11) <| JL.sk (.no rfl (ltB rfl) rfl hc11) <| JL.sk (.no rfl (ltB rfl) rfl hc11) <| JL.sk (.no rfl (ltB rfl) rfl hc11) ?_
         refine jc (op_pickF lb (.tmp rfl) hc11 .cB) <| jmv rfl rfl <| JL.sk (.no rfl (ltB rfl) rfl rfl) <| JL.sk (.no rfl (ltB rfl) rfl rfl) <| JL.sk (.no rfl (ltB rfl) rfl rfl) ?_
         refine JL.sk (.no rfl (ltB rfl) rfl rfl) <| JL.sk (.no rfl (ltB rfl) rfl rfl) <| jc (op_pickF lb (.tmp rfl) rfl .cB) <| jc (op_assign lb (.tmp rfl)) <| JL.nil ?_
         replace hx1 := Option.some.inj hx1
         first | subst hx1 | clear hx1
         exact JQ.join () (Imp.norm (js := [0, 0]) rfl (.cons rfl (.cons rfl (.cons rfl .nil))))
       refine JL.sk (.no rfl (ltB rfl) rfl hc9) <| JL.sk (.no rfl (ltB rfl) rfl hc9) <| JL.sk (.no rfl (ltB rfl) rfl hc9) <| JL.sk (.no rfl (ltB rfl) rfl hc9) <| JL.sk (.no rfl (ltB rfl) rfl hc9) ?_
       refine jc (op_pickF lb (.tmp rfl) hc9 .cB) <| jmv rfl rfl ?_
       refine JL.sub ⟨[(2, ov (PTR gb_3 0)), (3, ov (PTR gb_4 0)), (40, ov (S rB false))], [cvar gb_3 r_api_Frame t_1, cvar gb_4 r_api_Frame a_2], []⟩ (.cons rfl (.cons rfl (.cons rfl .nil))) rfl rfl ?_
       refine JL.sk (.no rfl (ltB rfl) rfl rfl) <| JL.sk (.no rfl (ltB rfl) rfl rfl) <| JL.sk (.no rfl (ltB rfl) rfl rfl) <| JL.sk (.no rfl (ltB rfl) rfl rfl) <| JL.sk (.no rfl (ltB rfl) rfl rfl) ?_
       refine jc (op_pickF lb (.tmp rfl) rfl .cB) <| jmv rfl rfl <| JL.sk (.no rfl (ltB rfl) rfl rfl) <| JL.sk (.no rfl (ltB rfl) rfl rfl) <| JL.sk (.no rfl (ltB rfl) rfl rfl) ?_
       refine JL.sk (.no rfl (ltB rfl) rfl rfl) <| JL.sk (.no rfl (ltB rfl) rfl rfl) <| jc (op_pickF lb (.tmp rfl) rfl .cB) <| jc (op_assign lb (.tmp rfl)) <| JL.nil ?_
       replace hx1 := Option.some.inj hx1
       first | subst hx1 | clear hx1
       exact JQ.join () (Imp.norm (js := [0, 0]) rfl (.cons rfl (.cons rfl (.cons rfl .nil))))
     refine JL.sk (.no rfl (ltB rfl) rfl hc7) <| JL.sk (.no rfl (ltB rfl) rfl hc7) <| JL.sk (.no rfl (ltB rfl) rfl hc7) <| JL.sk (.no rfl (ltB rfl) rfl hc7) <| JL.sk (.no rfl (ltB rfl) rfl hc7) ?_
     refine jc (op_pickF lb (.tmp rfl) hc7 .cB) <| jmv rfl rfl <| JL.sk (.no rfl (ltB rfl) rfl rfl) <| JL.sk (.no rfl (ltB rfl) rfl rfl) <| JL.sk (.no rfl (ltB rfl) rfl rfl) ?_
     refine JL.sk (.no rfl (ltB rfl) rfl rfl) <| JL.sk (.no rfl (ltB rfl) rfl rfl) <| jc (op_pickF lb (.tmp rfl) rfl .cB) <| jmv rfl rfl <| JL.sk (.no rfl (ltB rfl) rfl rfl) ?_
     refine JL.sk (.no rfl (ltB rfl) rfl rfl) <| JL.sk (.no rfl (ltB rfl) rfl rfl) <| JL.sk (.no rfl (ltB rfl) rfl rfl) <| JL.sk (.no rfl (ltB rfl) rfl rfl) <| jc (op_pickF lb (.tmp rfl) rfl .cB) ?_
     refine jmv rfl rfl <| JL.sk (.no rfl (ltB rfl) rfl rfl) <| JL.sk (.no rfl (ltB rfl) rfl rfl) <| JL.sk (.no rfl (ltB rfl) rfl rfl) <| JL.sk (.no rfl (ltB rfl) rfl rfl) ?_
     refine JL.sk (.no rfl (ltB rfl) rfl rfl) <| jc (op_pickF lb (.tmp rfl) rfl .cB) <| jc (op_assign lb (.tmp rfl)) <| JL.nil ?_
     replace hx1 := Option.some.inj hx1
     first | subst hx1 | clear hx1
     exact JQ.join () (Imp.norm (js := [0, 0]) rfl (.cons rfl (.cons rfl (.cons rfl .nil))))
   refine JL.sk (.no rfl (ltB rfl) rfl hc5) <| JL.sk (.no rfl (ltB rfl) rfl hc5) <| JL.sk (.no rfl (ltB rfl) rfl hc5) <| JL.sk (.no rfl (ltB rfl) rfl hc5) <| JL.sk (.no rfl (ltB rfl) rfl hc5) ?_
   refine jc (op_pickF lb (.tmp rfl) hc5 .cB) <| jmv rfl rfl <| JL.sk (.no rfl (ltB rfl) rfl rfl) <| JL.sk (.no rfl (ltB rfl) rfl rfl) <| JL.sk (.no rfl (ltB rfl) rfl rfl) ?_
   refine JL.sk (.no rfl (ltB rfl) rfl rfl) <| JL.sk (.no rfl (ltB rfl) rfl rfl) <| jc (op_pickF lb (.tmp rfl) rfl .cB) <| jmv rfl rfl ?_
   refine JL.sub ⟨[(2, ov (PTR gb_3 0)), (3, ov (PTR gb_4 0)), (33, ov (S rB false))], [cvar gb_3 r_api_Frame t_1, cvar gb_4 r_api_Frame a_2], []⟩ (.cons rfl (.cons rfl (.cons rfl .nil))) rfl rfl ?_
   refine JL.sk (.no rfl (ltB rfl) rfl rfl) <| JL.sk (.no rfl (ltB rfl) rfl rfl) <| JL.sk (.no rfl (ltB rfl) rfl rfl) <| JL.sk (.no rfl (ltB rfl) rfl rfl) <| JL.sk (.no rfl (ltB rfl) rfl rfl) ?_
   refine jc (op_pickF lb (.tmp rfl) rfl .cB) <| jmv rfl rfl <| JL.sk (.no rfl (ltB rfl) rfl rfl) <| JL.sk (.no rfl (ltB rfl) rfl rfl) <| JL.sk (.no rfl (ltB rfl) rfl rfl) ?_
   refine JL.sk (.no rfl (ltB rfl) rfl rfl) <| JL.sk (.no rfl (ltB rfl) rfl rfl) <| jc (op_pickF lb (.tmp rfl) rfl .cB) <| jmv rfl rfl <| JL.sk (.no rfl (ltB rfl) rfl rfl) ?_
   refine JL.sk (.no rfl (ltB rfl) rfl rfl) <| JL.sk (.no rfl (ltB rfl) rfl rfl) <| JL.sk (.no rfl (ltB rfl) rfl rfl) <| JL.sk (.no rfl (ltB rfl) rfl rfl) <| jc (op_pickF lb (.tmp rfl) rfl .cB) ?_
   refine jc (op_assign lb (.tmp rfl)) <| JL.nil ?_
   replace hx1 := Option.some.inj hx1
   first | subst hx1 | clear hx1
   exact JQ.join () (Imp.norm (js := [0, 0]) rfl (.cons rfl (.cons rfl (.cons rfl .nil))))
 refine JL.sk (.no rfl (ltB rfl) rfl hc3) <| JL.sk (.no rfl (ltB rfl) rfl hc3) <| JL.sk (.no rfl (ltB rfl) rfl hc3) <| JL.sk (.no rfl (ltB rfl) rfl hc3) <| JL.sk (.no rfl (ltB rfl) rfl hc3) ?_
 refine jc (op_pickF lb (.tmp rfl) hc3 .cB) <| jmv rfl rfl <| JL.sk (.no rfl (ltB rfl) rfl rfl) <| JL.sk (.no rfl (ltB rfl) rfl rfl) <| JL.sk (.no rfl (ltB rfl) rfl rfl) ?_
 refine JL.sk (.no rfl (ltB rfl) rfl rfl) <| JL.sk (.no rfl (ltB rfl) rfl rfl) <| jc (op_pickF lb (.tmp rfl) rfl .cB) <| jmv rfl rfl <| JL.sk (.no rfl (ltB rfl) rfl rfl) ?_
 refine JL.sk (.no rfl (ltB rfl) rfl rfl) <| JL.sk (.no rfl (ltB rfl) rfl rfl) <| JL.sk (.no rfl (ltB rfl) rfl rfl) <| JL.sk (.no rfl (ltB rfl) rfl rfl) <| jc (op_pickF lb (.tmp rfl) rfl .cB) ?_
 refine jmv rfl rfl <| JL.sk (.no rfl (ltB rfl) rfl rfl) <| JL.sk (.no rfl (ltB rfl) rfl rfl) <| JL.sk (.no rfl (ltB rfl) rfl rfl) <| JL.sk (.no rfl (ltB rfl) rfl rfl) ?_
 refine JL.sk (.no rfl (ltB rfl) rfl rfl) <| jc (op_pickF lb (.tmp rfl) rfl .cB) <| jmv rfl rfl <| JL.sk (.no rfl (ltB rfl) rfl rfl) <| JL.sk (.no rfl (ltB rfl) rfl rfl) ?_
 refine JL.sk (.no rfl (ltB rfl) rfl rfl) <| JL.sk (.no rfl (ltB rfl) rfl rfl) <| JL.sk (.no rfl (ltB rfl) rfl rfl) <| jc (op_pickF lb (.tmp rfl) rfl .cB) <| jmv rfl rfl ?_
 refine JL.sk (.no rfl (ltB rfl) rfl rfl) <| JL.sk (.no rfl (ltB rfl) rfl rfl) <| JL.sk (.no rfl (ltB rfl) rfl rfl) <| JL.sk (.no rfl (ltB rfl) rfl rfl) <| JL.sk (.no rfl (ltB rfl) rfl rfl) ?_
 refine jc (op_pickF lb (.tmp rfl) rfl .cB) ?_
 refine JL.sub ⟨[(2, ov (PTR gb_3 0)), (3, ov (PTR gb_4 0)), (53, ov (S rB false))], [cvar gb_3 r_api_Frame t_1, cvar gb_4 r_api_Frame a_2], []⟩ (.cons rfl (.cons rfl (.cons rfl .nil))) rfl rfl ?_
 refine jc (op_assign lb (.tmp rfl)) <| JL.nil ?_
 replace hx1 := Option.some.inj hx1
 first | subst hx1 | clear hx1
 exact JQ.join () (Imp.norm (js := [0, 0]) rfl (.cons rfl (.cons rfl (.cons rfl .nil))))

end Go.Proofs.Ytklnihlchhhhlaa
