/- Walks. -/
import Derived.Test.YtbflmobpbjnekaaT
import Derived.Test.YtbflmobpbjnekaaW0
namespace Go.Proofs.Ytbflmobpbjnekaa
open Go Fw
set_option linter.unusedVariables false
set_option maxRecDepth 100000
set_option maxHeartbeats 4000000

theorem sim_sha_state_press_1 (k : Nat) (x_1 : UInt32) (l_2 : (List Int)) (r : UInt32) (hm : sha_state_press_1 k x_1 l_2 = some r) : Sim Try.prog 61 [S (rU UInt32) x_1, S (rL (rI .i64)) l_2] [] (γ := Unit) (fun q => []) (fun q => .one (.val (S (rU UInt32) r))) := by
 unfold sha_state_press_1 at hm
 refine Sim.of Try.func61 rfl rfl (lE rfl) (fun e0 w0 => ?_)
 refine JC.at ⟨[(0, ov (S (rU UInt32) x_1)), (1, ov (S (rL (rI .i64)) l_2))], [], []⟩ <| jr <| jc (op_assign lb (HasO.cU (x := (0 : UInt32)) rfl (by decide))) <| jn <| jr <| jc (op_assign lb (HasO.cU (x := (0 : UInt32)) rfl (by decide))) <| jn <| bI hm fun y_11 hx1 hq1 => JC.seqJ (γ := Unit) (stj := fun _ => ⟨[(5, ov (S (rU UInt32) y_11))], [], []⟩) (fun _ => ?_) ?_
 · refine jr <| jmv rfl rfl <| jc (op_assign lb tR) <| jn <| JC.ret ?_
   obtain rfl := so hq1
   exact jd (.val (S (rU UInt32) y_11)) rfl rfl rfl rfl rfl rfl
 refine jr <| jmv rfl rfl <| jc (op_lenL lb tu53 tR) <| jc (op_move lb .cI) <| jn <| JC.block <| JC.pre ?_ (JC.loop (γ := Unit) (stf := fun s q => ⟨[(0, ov (S (rU UInt32) x_1)), (5, ov (S (rU UInt32) s.1)), (8, ov (S (rL (rI .i64)) l_2)), (9, ov (S (rI .i64) (List.length l_2 : Int))), (10, ov (S (rI .i64) s.2))], [], []⟩) (q := ()) hx1 ?_)
 · exact (Imp.norm (js := []) rfl (.cons rfl (.cons rfl (.cons rfl (.cons rfl (.cons rfl .nil))))))
 intro s q x hx hr
 obtain ⟨y_3, x_4⟩ := s
 obtain _ := q
 change sha_state_press_1.b1 k l_2 x_1 y_3 x_4 = some x at hx
 unfold sha_state_press_1.b1 at hx
 refine JC.at ⟨[(0, ov (S (rU UInt32) x_1)), (5, ov (S (rU UInt32) y_3)), (8, ov (S (rL (rI .i64)) l_2)), (9, ov (S (rI .i64) (List.length l_2 : Int))), (10, ov (S (rI .i64) x_4))], [], []⟩ <| jr <| lI hx fun v_5 hv_5 hx => jc (op_cmpI lb tR tR (cs hv_5)) <| jn <| JC.seq <| jif tR hx (fun hc3 hx => ?_) (fun hc3 hx => ?_)
 · refine JC.skip <| JQ.then <| JC.seq <| JC.block <| jr <| bI hx fun v_6 hv_6 hx => jc (op_indexAddrLg lb tu53 tz3 tR tR hv_6) <| jc (op_loadPSg lb tS3 rfl tR rfl) <| jc (op_assign lb tR) <| jn <| JC.region <| jmv rfl rfl <| jmv rfl rfl <| jmv rfl rfl <| lI hx fun v_7 hv_7 hx => jc (op_neg lb tR hv_7) <| bI hx fun v_8 hv_8 hx => jx (op_call (js := []) ld cl62 (sim_math_bits_RotateLeft32 k x_1 v_7 v_8 hv_8) .func (.cons tR (.cons tR .nil)) rfl) (fun _ => ?_)
   refine lI hx fun v_9 hv_9 hx => jc (op_arU lb tR tR (cs hv_9)) <| jc (op_assign lb tR) <| JL.nil <| JQ.outNB <| JQ.then <| JC.region <| lI hx fun v_10 hv_10 hx => jc (op_arI lb tR .cI (cs hv_10)) <| JL.sub ⟨[(0, ov (S (rU UInt32) x_1)), (5, ov (S (rU UInt32) v_9)), (8, ov (S (rL (rI .i64)) l_2)), (9, ov (S (rI .i64) (List.length l_2 : Int))), (10, ov (S (rI .i64) x_4)), (20, ov (S (rI .i64) v_10))], [], []⟩ (.cons rfl (.cons rfl (.cons rfl (.cons rfl (.cons rfl (.cons rfl .nil)))))) rfl rfl <| jmv rfl rfl <| JL.nil ?_
   try obtain rfl := so hx
   exact JQ.next () rfl (Imp.norm (js := []) rfl (.cons rfl (.cons rfl (.cons rfl (.cons rfl (.cons rfl .nil))))))
 refine JC.exit <| JQ.outX ?_
 try obtain rfl := so hx
 have ht := hr _ rfl
 have hq2 := cs ht
 clear hr ht
 refine JQ.outX <| JQ.here ?_
 try obtain rfl := so hq2
 exact jo rfl rfl rfl

theorem sim_sha_state_press (k : Nat) (a_1 : (List UInt8)) (t_2 : sha_state) (gb_3 : Nat) (r : sha_state) (hm : sha_state_press k a_1 t_2 = some r) : Sim Try.prog 49 [PTR gb_3 0, S (rL (rU UInt8)) a_1] [cvar gb_3 r_sha_state t_2] (γ := Unit) (fun q => [cvar gb_3 r_sha_state r]) (fun q => .tup []) := by
 unfold sha_state_press at hm
 refine Sim.of Try.func49 rfl rfl (lE rfl) (fun e0 w0 => ?_)
 refine JC.at ⟨[(0, ov (PTR gb_3 0)), (1, ov (S (rL (rU UInt8)) a_1))], [cvar gb_3 r_sha_state t_2], []⟩ <| jr <| jc (op_assign lb .func) <| jn <| jr <| jx (op_alloc lb tZ77 zr77) fun gb_4 => jn <| bI hm fun x_26 hx1 hq1 => JC.seqJ (γ := Unit) (stj := fun _ => ⟨[(0, ov (PTR gb_3 0)), (4, ov (CLO 61 [])), (5, ov (PTR gb_4 0))], [cvar gb_3 r_sha_state t_2, cvar gb_4 (rV 64 (rU UInt32)) x_26], []⟩) (fun _ => ?_) ?_
 · refine bI hq1 fun x_54 hx7 hq7 => JC.seqJ (γ := Unit) (stj := fun _ => ⟨[(0, ov (PTR gb_3 0)), (4, ov (CLO 61 [])), (5, ov (PTR gb_4 0))], [cvar gb_3 r_sha_state t_2, cvar gb_4 (rV 64 (rU UInt32)) x_54], []⟩) (fun _ => ?_) ?_
   · refine JC.seq <| bI hq7 fun i_55 hv_i_55 hq7 => lI hq7 fun v_56 hv_56 hq7 => bI hq7 fun i_57 hv_i_57 hq7 => lI hq7 fun v_58 hv_58 hq7 => bI hq7 fun i_59 hv_i_59 hq7 => lI hq7 fun v_60 hv_60 hq7 => bI hq7 fun i_61 hv_i_61 hq7 => ?_
     obtain ⟨v_62, hv_62, hq7⟩ := lt1_inv hq7
     refine bI hq7 fun i_63 hv_i_63 hq7 => lI hq7 fun v_64 hv_64 hq7 => bI hq7 fun i_65 hv_i_65 hq7 => lI hq7 fun v_66 hv_66 hq7 => bI hq7 fun i_67 hv_i_67 hq7 => lI hq7 fun v_68 hv_68 hq7 => bI hq7 fun i_69 hv_i_69 hq7 => ?_
     obtain ⟨v_70, hv_70, hq7⟩ := lt1_inv hq7
     refine JC.anyF (base := [(0, ov (PTR gb_3 0)), (4, ov (CLO 61 [])), (5, ov (PTR gb_4 0))])
         (fs := fun γ => [⟨some 90, ov (PTR gb_3 0)⟩, ⟨some 91, ov (PTR gb_3 0)⟩, ⟨some 92, ov (PTR gb_3 (0 + 0))⟩, ⟨some 93, ov (PTR gb_3 ((0 + 0) + i_55.1 * 1))⟩, ⟨some 94, ov (S (rU UInt32) v_56)⟩, ⟨some 95, ov (PTR gb_3 0)⟩, ⟨some 96, ov (PTR gb_3 0)⟩, ⟨some 97, ov (PTR gb_3 (0 + 0))⟩, ⟨some 98, ov (PTR gb_3 ((0 + 0) + i_57.1 * 1))⟩, ⟨some 99, ov (S (rU UInt32) v_58)⟩, ⟨some 100, ov (PTR gb_3 0)⟩, ⟨some 101, ov (PTR gb_3 0)⟩, ⟨some 102, ov (PTR gb_3 (0 + 0))⟩, ⟨some 103, ov (PTR gb_3 ((0 + 0) + i_59.1 * 1))⟩, ⟨some 104, ov (S (rU UInt32) v_60)⟩, ⟨some 105, ov (PTR gb_3 0)⟩, ⟨some 106, ov (PTR gb_3 0)⟩, ⟨some 107, ov (PTR gb_3 (0 + 0))⟩, ⟨some 108, ov (PTR gb_3 ((0 + 0) + i_61.1 * 1))⟩, ⟨some 109, ov (S (rU UInt32) v_62)⟩, ⟨some 110, ov (PTR gb_3 0)⟩, ⟨some 111, ov (PTR gb_3 0)⟩, ⟨some 112, ov (PTR gb_3 (0 + 0))⟩, ⟨some 113, ov (PTR gb_3 ((0 + 0) + i_63.1 * 1))⟩, ⟨some 114, ov (S (rU UInt32) v_64)⟩, ⟨some 115, ov (PTR gb_3 0)⟩, ⟨some 116, ov (PTR gb_3 0)⟩, ⟨some 117, ov (PTR gb_3 (0 + 0))⟩, ⟨some 118, ov (PTR gb_3 ((0 + 0) + i_65.1 * 1))⟩, ⟨some 119, ov (S (rU UInt32) v_66)⟩, ⟨some 120, ov (PTR gb_3 0)⟩, ⟨some 121, ov (PTR gb_3 0)⟩, ⟨some 122, ov (PTR gb_3 (0 + 0))⟩, ⟨some 123, ov (PTR gb_3 ((0 + 0) + i_67.1 * 1))⟩, ⟨some 124, ov (S (rU UInt32) v_68)⟩, ⟨some 125, ov (PTR gb_3 0)⟩, ⟨some 126, ov (PTR gb_3 0)⟩, ⟨some 127, ov (PTR gb_3 (0 + 0))⟩, ⟨some 128, ov (PTR gb_3 ((0 + 0) + i_69.1 * 1))⟩, ⟨some 129, ov (S (rU UInt32) v_70)⟩, ⟨some 12, ov (S (rU UInt32) v_56)⟩, ⟨some 13, ov (S (rU UInt32) v_58)⟩, ⟨some 14, ov (S (rU UInt32) v_60)⟩, ⟨some 15, ov (S (rU UInt32) v_62)⟩, ⟨some 16, ov (S (rU UInt32) v_64)⟩, ⟨some 17, ov (S (rU UInt32) v_66)⟩, ⟨some 18, ov (S (rU UInt32) v_68)⟩, ⟨some 19, ov (S (rU UInt32) v_70)⟩])
         (rs := fun γ => [⟨cvar gb_3 r_sha_state t_2, none, none, [4, 9, 14, 19, 24, 29, 34, 39]⟩, ⟨cvar gb_4 (rV 64 (rU UInt32)) x_54, none, none, []⟩])
         (afts := nn 48) (js := [0, 0]) mixed (.cons rfl (.cons rfl (.cons rfl .nil))) (fun _ => rfl)
         (by
      refine db 1 0 <| dS 2 (fun γ ρ B hb hd => op_nilCheck lb (tl hd 0 90) (fun e v h => by subst h; rfl)) <| dS 3 (fun γ ρ B hb hd => op_fieldAddr (off := 0) lb tf79_0 (tl hd 1 91)) <| dS 4 (fun γ ρ B hb hd => op_indexAddrIF lb tr61 (tl hd 2 92) .cI hv_i_55) <| dR 5 (fun γ ρ B hb hd => OpStep.lk ⟨ρ, (cvar gb_3 r_sha_state t_2) :: B, _⟩ (op_loadS (j := 0) lb tS60 (tl hd 3 93) rfl (Comp.at (cT (comp_sha_state_h t_2) rfl) i_55.2 rfl) rfl hv_56)) ?_
      refine db 6 0 <| dS 7 (fun γ ρ B hb hd => op_nilCheck lb (tl hd 5 95) (fun e v h => by subst h; rfl)) <| dS 8 (fun γ ρ B hb hd => op_fieldAddr (off := 0) lb tf79_0 (tl hd 6 96)) <| dS 9 (fun γ ρ B hb hd => op_indexAddrIF lb tr61 (tl hd 7 97) .cI hv_i_57) <| dR 10 (fun γ ρ B hb hd => OpStep.lk ⟨ρ, (cvar gb_3 r_sha_state t_2) :: B, _⟩ (op_loadS (j := 0) lb tS60 (tl hd 8 98) rfl (Comp.at (cT (comp_sha_state_h t_2) rfl) i_57.2 rfl) rfl hv_58)) ?_
      refine db 11 0 <| dS 12 (fun γ ρ B hb hd => op_nilCheck lb (tl hd 10 100) (fun e v h => by subst h; rfl)) <| dS 13 (fun γ ρ B hb hd => op_fieldAddr (off := 0) lb tf79_0 (tl hd 11 101)) <| dS 14 (fun γ ρ B hb hd => op_indexAddrIF lb tr61 (tl hd 12 102) .cI hv_i_59) <| dR 15 (fun γ ρ B hb hd => OpStep.lk ⟨ρ, (cvar gb_3 r_sha_state t_2) :: B, _⟩ (op_loadS (j := 0) lb tS60 (tl hd 13 103) rfl (Comp.at (cT (comp_sha_state_h t_2) rfl) i_59.2 rfl) rfl hv_60)) ?_
      refine db 16 0 <| dS 17 (fun γ ρ B hb hd => op_nilCheck lb (tl hd 15 105) (fun e v h => by subst h; rfl)) <| dS 18 (fun γ ρ B hb hd => op_fieldAddr (off := 0) lb tf79_0 (tl hd 16 106)) <| dS 19 (fun γ ρ B hb hd => op_indexAddrIF lb tr61 (tl hd 17 107) .cI hv_i_61) <| dR 20 (fun γ ρ B hb hd => OpStep.lk ⟨ρ, (cvar gb_3 r_sha_state t_2) :: B, _⟩ (op_loadS (j := 0) lb tS60 (tl hd 18 108) rfl (Comp.at (cT (comp_sha_state_h t_2) rfl) i_61.2 rfl) rfl hv_62)) ?_
      refine db 21 0 <| dS 22 (fun γ ρ B hb hd => op_nilCheck lb (tl hd 20 110) (fun e v h => by subst h; rfl)) <| dS 23 (fun γ ρ B hb hd => op_fieldAddr (off := 0) lb tf79_0 (tl hd 21 111)) <| dS 24 (fun γ ρ B hb hd => op_indexAddrIF lb tr61 (tl hd 22 112) .cI hv_i_63) <| dR 25 (fun γ ρ B hb hd => OpStep.lk ⟨ρ, (cvar gb_3 r_sha_state t_2) :: B, _⟩ (op_loadS (j := 0) lb tS60 (tl hd 23 113) rfl (Comp.at (cT (comp_sha_state_h t_2) rfl) i_63.2 rfl) rfl hv_64)) ?_
      refine db 26 0 <| dS 27 (fun γ ρ B hb hd => op_nilCheck lb (tl hd 25 115) (fun e v h => by subst h; rfl)) <| dS 28 (fun γ ρ B hb hd => op_fieldAddr (off := 0) lb tf79_0 (tl hd 26 116)) <| dS 29 (fun γ ρ B hb hd => op_indexAddrIF lb tr61 (tl hd 27 117) .cI hv_i_65) <| dR 30 (fun γ ρ B hb hd => OpStep.lk ⟨ρ, (cvar gb_3 r_sha_state t_2) :: B, _⟩ (op_loadS (j := 0) lb tS60 (tl hd 28 118) rfl (Comp.at (cT (comp_sha_state_h t_2) rfl) i_65.2 rfl) rfl hv_66)) ?_
      refine db 31 0 <| dS 32 (fun γ ρ B hb hd => op_nilCheck lb (tl hd 30 120) (fun e v h => by subst h; rfl)) <| dS 33 (fun γ ρ B hb hd => op_fieldAddr (off := 0) lb tf79_0 (tl hd 31 121)) <| dS 34 (fun γ ρ B hb hd => op_indexAddrIF lb tr61 (tl hd 32 122) .cI hv_i_67) <| dR 35 (fun γ ρ B hb hd => OpStep.lk ⟨ρ, (cvar gb_3 r_sha_state t_2) :: B, _⟩ (op_loadS (j := 0) lb tS60 (tl hd 33 123) rfl (Comp.at (cT (comp_sha_state_h t_2) rfl) i_67.2 rfl) rfl hv_68)) ?_
      refine db 36 0 <| dS 37 (fun γ ρ B hb hd => op_nilCheck lb (tl hd 35 125) (fun e v h => by subst h; rfl)) <| dS 38 (fun γ ρ B hb hd => op_fieldAddr (off := 0) lb tf79_0 (tl hd 36 126)) <| dS 39 (fun γ ρ B hb hd => op_indexAddrIF lb tr61 (tl hd 37 127) .cI hv_i_69) <| dR 40 (fun γ ρ B hb hd => OpStep.lk ⟨ρ, (cvar gb_3 r_sha_state t_2) :: B, _⟩ (op_loadS (j := 0) lb tS60 (tl hd 38 128) rfl (Comp.at (cT (comp_sha_state_h t_2) rfl) i_69.2 rfl) rfl hv_70)) ?_
      refine dS 41 (fun γ ρ B hb hd => op_assign lb (tl hd 4 94)) <| dS 42 (fun γ ρ B hb hd => op_assign lb (tl hd 9 99)) <| dS 43 (fun γ ρ B hb hd => op_assign lb (tl hd 14 104)) <| dS 44 (fun γ ρ B hb hd => op_assign lb (tl hd 19 109)) <| dS 45 (fun γ ρ B hb hd => op_assign lb (tl hd 24 114)) ?_
      refine dS 46 (fun γ ρ B hb hd => op_assign lb (tl hd 29 119)) <| dS 47 (fun γ ρ B hb hd => op_assign lb (tl hd 34 124)) <| dS 48 (fun γ ρ B hb hd => op_assign lb (tl hd 39 129)) ?_
      exact DSteps.nil)
         (by decide +kernel) (fun _ => rfl) (fun _ => rfl) (fun _ => rfl) rfl
         (ρ' := fun γ => [(0, ov (PTR gb_3 0)), (4, ov (CLO 61 [])), (5, ov (PTR gb_4 0)), (12, ov (S (rU UInt32) v_56)), (13, ov (S (rU UInt32) v_58)), (14, ov (S (rU UInt32) v_60)), (15, ov (S (rU UInt32) v_62)), (16, ov (S (rU UInt32) v_64)), (17, ov (S (rU UInt32) v_66)), (18, ov (S (rU UInt32) v_68)), (19, ov (S (rU UInt32) v_70))])
         (X' := fun γ => [cvar gb_3 r_sha_state t_2, cvar gb_4 (rV 64 (rU UInt32)) x_54])
         (fun γ ρ hb hd => (.cons (hb 0 _ rfl) (.cons (hb 4 _ rfl) (.cons (hb 5 _ rfl) (.cons (hdq hd 40 12 rfl) (.cons (hdq hd 41 13 rfl) (.cons (hdq hd 42 14 rfl) (.cons (hdq hd 43 15 rfl) (.cons (hdq hd 44 16 rfl) (.cons (hdq hd 45 17 rfl) (.cons (hdq hd 46 18 rfl) (.cons (hdq hd 47 19 rfl) .nil)))))))))))) (fun _ => rfl) (fun γ => ?_)
     refine JQ.at ⟨[(0, ov (PTR gb_3 0)), (4, ov (CLO 61 [])), (5, ov (PTR gb_4 0)), (12, ov (S (rU UInt32) v_56)), (13, ov (S (rU UInt32) v_58)), (14, ov (S (rU UInt32) v_60)), (15, ov (S (rU UInt32) v_62)), (16, ov (S (rU UInt32) v_64)), (17, ov (S (rU UInt32) v_66)), (18, ov (S (rU UInt32) v_68)), (19, ov (S (rU UInt32) v_70))], [cvar gb_3 r_sha_state t_2, cvar gb_4 (rV 64 (rU UInt32)) x_54], []⟩ <| JQ.then ?_
     obtain ⟨⟨x_104, x_105, x_106, x_107, x_108, x_109, x_110, x_111⟩, hx10, hq10⟩ := bnd_inv hq7
     refine JC.seqJ (γ := Unit) (stj := fun _ => ⟨[(0, ov (PTR gb_3 0)), (12, ov (S (rU UInt32) x_104)), (13, ov (S (rU UInt32) x_105)), (14, ov (S (rU UInt32) x_106)), (15, ov (S (rU UInt32) x_107)), (16, ov (S (rU UInt32) x_108)), (17, ov (S (rU UInt32) x_109)), (18, ov (S (rU UInt32) x_110)), (19, ov (S (rU UInt32) x_111))], [cvar gb_3 r_sha_state t_2], []⟩) (fun _ => ?_) ?_
     · refine jr <| jmv rfl rfl <| jmv rfl rfl <| jmv rfl rfl <| jmv rfl rfl <| jmv rfl rfl <| jmv rfl rfl <| jmv rfl rfl <| jmv rfl rfl ?_
       refine jc (op_build lb tZ61 zv61 tp61 (.S (off := 0) rfl tR rfl ((Upd.at (off := 0) (i := 0) (Comp.self (rV 8 (rU UInt32)) (Vector.replicate 8 (0 : UInt32))) (by decide) rfl (Upd.self (rV 8 (rU UInt32)) (Vector.replicate 8 (0 : UInt32)) _)).R.at rfl) (.S (off := 1) rfl tR rfl ((Upd.at (off := 0) (i := 1) (Comp.self (rV 8 (rU UInt32)) (Vector.set (Vector.replicate 8 (0 : UInt32)) 0 x_104 (by decide))) (by decide) rfl (Upd.self (rV 8 (rU UInt32)) (Vector.set (Vector.replicate 8 (0 : UInt32)) 0 x_104 (by decide)) _)).R.at rfl) (.S (off := 2) rfl tR rfl ((Upd.at (off := 0) (i := 2) (Comp.self (rV 8 (rU UInt32)) (Vector.set (Vector.set (Vector.replicate 8 (0 : UInt32)) 0 x_104 (by decide)) 1 x_105 (by decide))) (by decide) rfl (Upd.self (rV 8 (rU UInt32)) (Vector.set (Vector.set (Vector.replicate 8 (0 : UInt32)) 0 x_104 (by decide)) 1 x_105 (by decide)) _)).R.at rfl) (.S (off := 3) rfl tR rfl ((Upd.at (off := 0) (i := 3) (Comp.self (rV 8 (rU UInt32)) (Vector.set (Vector.set (Vector.set (Vector.replicate 8 (0 : UInt32)) 0 x_104 (by decide)) 1 x_105 (by decide)) 2 x_106 (by decide))) (by decide) rfl (Upd.self (rV 8 (rU UInt32)) (Vector.set (Vector.set (Vector.set (Vector.replicate 8 (0 : UInt32)) 0 x_104 (by decide)) 1 x_105 (by decide)) 2 x_106 (by decide)) _)).R.at rfl) (.S (off := 4) rfl tR rfl ((Upd.at (off := 0) (i := 4) (Comp.self (rV 8 (rU UInt32)) (Vector.set (Vector.set (Vector.set (Vector.set (Vector.replicate 8 (0 : UInt32)) 0 x_104 (by decide)) 1 x_105 (by decide)) 2 x_106 (by decide)) 3 x_107 (by decide))) (by decide) rfl (Upd.self (rV 8 (rU UInt32)) (Vector.set (Vector.set (Vector.set (Vector.set (Vector.replicate 8 (0 : UInt32)) 0 x_104 (by decide)) 1 x_105 (by decide)) 2 x_106 (by decide)) 3 x_107 (by decide)) _)).R.at rfl) (.S (off := 5) rfl tR rfl ((Upd.at (off := 0) (i := 5) (Comp.self (rV 8 (rU UInt32)) (Vector.set (Vector.set (Vector.set (Vector.set (Vector.set (Vector.replicate 8 (0 : UInt32)) 0 x_104 (by decide)) 1 x_105 (by decide)) 2 x_106 (by decide)) 3 x_107 (by decide)) 4 x_108 (by decide))) (by decide) rfl (Upd.self (rV 8 (rU UInt32)) (Vector.set (Vector.set (Vector.set (Vector.set (Vector.set (Vector.replicate 8 (0 : UInt32)) 0 x_104 (by decide)) 1 x_105 (by decide)) 2 x_106 (by decide)) 3 x_107 (by decide)) 4 x_108 (by decide)) _)).R.at rfl) (.S (off := 6) rfl tR rfl ((Upd.at (off := 0) (i := 6) (Comp.self (rV 8 (rU UInt32)) (Vector.set (Vector.set (Vector.set (Vector.set (Vector.set (Vector.set (Vector.replicate 8 (0 : UInt32)) 0 x_104 (by decide)) 1 x_105 (by decide)) 2 x_106 (by decide)) 3 x_107 (by decide)) 4 x_108 (by decide)) 5 x_109 (by decide))) (by decide) rfl (Upd.self (rV 8 (rU UInt32)) (Vector.set (Vector.set (Vector.set (Vector.set (Vector.set (Vector.set (Vector.replicate 8 (0 : UInt32)) 0 x_104 (by decide)) 1 x_105 (by decide)) 2 x_106 (by decide)) 3 x_107 (by decide)) 4 x_108 (by decide)) 5 x_109 (by decide)) _)).R.at rfl) (.S (off := 7) rfl tR rfl ((Upd.at (off := 0) (i := 7) (Comp.self (rV 8 (rU UInt32)) (Vector.set (Vector.set (Vector.set (Vector.set (Vector.set (Vector.set (Vector.set (Vector.replicate 8 (0 : UInt32)) 0 x_104 (by decide)) 1 x_105 (by decide)) 2 x_106 (by decide)) 3 x_107 (by decide)) 4 x_108 (by decide)) 5 x_109 (by decide)) 6 x_110 (by decide))) (by decide) rfl (Upd.self (rV 8 (rU UInt32)) (Vector.set (Vector.set (Vector.set (Vector.set (Vector.set (Vector.set (Vector.set (Vector.replicate 8 (0 : UInt32)) 0 x_104 (by decide)) 1 x_105 (by decide)) 2 x_106 (by decide)) 3 x_107 (by decide)) 4 x_108 (by decide)) 5 x_109 (by decide)) 6 x_110 (by decide)) _)).R.at rfl) .nil)))))))) rfl) ?_
       refine jc (op_move lb .cI) <| jn <| JC.block <| JC.pre ?_ (JC.loop (γ := Unit) (stf := fun s q => ⟨[(0, ov (PTR gb_3 0)), (196, ov (A (rV 8 (rU UInt32)) (#v[x_104, x_105, x_106, x_107, x_108, x_109, x_110, x_111] : (Vector UInt32 8)))), (197, ov (S (rI .i64) s.2))], [cvar gb_3 r_sha_state s.1], []⟩) (q := ()) hq10 ?_)
       · exact (Imp.norm (js := [0]) rfl (.cons rfl (.cons rfl (.cons rfl .nil))))
       intro s q x hx hr
       obtain ⟨t_112, x_113⟩ := s
       obtain _ := q
       change sha_state_press.b5 k x_104 x_105 x_106 x_107 x_108 x_109 x_110 x_111 t_112 x_113 = some x at hx
       unfold sha_state_press.b5 at hx
       refine JC.at ⟨[(0, ov (PTR gb_3 0)), (196, ov (A (rV 8 (rU UInt32)) (#v[x_104, x_105, x_106, x_107, x_108, x_109, x_110, x_111] : (Vector UInt32 8)))), (197, ov (S (rI .i64) x_113))], [cvar gb_3 r_sha_state t_112], []⟩ <| jr <| lI hx fun v_114 hv_114 hx => jc (op_cmpI lb tR .cI (cs hv_114)) <| jn <| JC.seq ?_
       rcases iteB_inv hx with ⟨hc14, hx⟩ | ⟨hc14, hx⟩
       · refine JC.condT tR hc14 <| JC.skip <| JQ.then <| JC.seq <| JC.block <| jr <| jmv rfl rfl <| bI hx fun v_115 hv_115 hx => jc (op_indexSg lb tu61 tS60 rfl tR tR hv_115) <| jc (op_assign lb tR) <| jc (op_assign lb tR) <| jn <| bI hx fun i_116 hv_i_116 hx => lI hx fun v_117 hv_117 hx => lI hx fun v_118 hv_118 hx => ?_
         obtain ⟨i_119, hv_i_119, hx⟩ := bnd_inv hx
         obtain ⟨t_120, hv_t_120, hx⟩ := lt1_inv hx
         refine JC.anyF (base := [(0, ov (PTR gb_3 0)), (23, ov (S (rI .i64) x_113)), (24, ov (S (rU UInt32) v_115)), (196, ov (A (rV 8 (rU UInt32)) (#v[x_104, x_105, x_106, x_107, x_108, x_109, x_110, x_111] : (Vector UInt32 8)))), (197, ov (S (rI .i64) x_113))])
             (fs := fun γ => [⟨some 201, ov (PTR gb_3 0)⟩, ⟨some 202, ov (S (rI .i64) x_113)⟩, ⟨some 203, ov (PTR gb_3 0)⟩, ⟨some 204, ov (PTR gb_3 (0 + 0))⟩, ⟨some 205, ov (PTR gb_3 ((0 + 0) + i_116.1 * 1))⟩, ⟨some 206, ov (S (rU UInt32) v_117)⟩, ⟨some 207, ov (S (rU UInt32) v_115)⟩, ⟨some 208, ov (S (rU UInt32) v_118)⟩, ⟨some 209, ov (PTR gb_3 0)⟩, ⟨some 210, ov (PTR gb_3 (0 + 0))⟩, ⟨some 211, ov (PTR gb_3 ((0 + 0) + i_119.1 * 1))⟩, ⟨none, .one .any⟩])
             (rs := fun γ => [⟨cvar gb_3 r_sha_state t_112, none, (some 11), [5]⟩, ⟨cvar gb_3 r_sha_state t_120, (some 11), none, []⟩])
             (afts := nn 12) (js := [0]) mixed (.cons rfl (.cons rfl (.cons rfl (.cons rfl (.cons rfl .nil))))) (fun _ => rfl)
             (by
      refine db 1 0 <| db 2 23 <| dS 3 (fun γ ρ B hb hd => op_nilCheck lb (tl hd 0 201) (fun e v h => by subst h; rfl)) <| dS 4 (fun γ ρ B hb hd => op_fieldAddr (off := 0) lb tf79_0 (tl hd 2 203)) <| dS 5 (fun γ ρ B hb hd => op_indexAddrIF lb tr61 (tl hd 3 204) (tl hd 1 202) hv_i_116) ?_
      refine dR 6 (fun γ ρ B hb hd => OpStep.lk ⟨ρ, (cvar gb_3 r_sha_state t_112) :: B, _⟩ (op_loadS (j := 0) lb tS60 (tl hd 4 205) rfl (Comp.at (cT (comp_sha_state_h t_112) rfl) i_116.2 rfl) rfl hv_117)) <| db 7 24 <| dS 8 (fun γ ρ B hb hd => op_arU lb (tl hd 5 206) (tl hd 6 207) (cs hv_118)) <| dS 9 (fun γ ρ B hb hd => op_nilCheck lb (tl hd 0 201) (fun e v h => by subst h; rfl)) <| dS 10 (fun γ ρ B hb hd => op_fieldAddr (off := 0) lb tf79_0 (tl hd 8 209)) ?_
      refine dS 11 (fun γ ρ B hb hd => op_indexAddrIF lb tr61 (tl hd 9 210) (tl hd 1 202) hv_i_119) <| dR 12 (fun γ ρ B hb hd => OpStep.at ⟨ρ, (cvar gb_3 r_sha_state t_112) :: B, _⟩ (setO ⟨ρ, (cvar gb_3 r_sha_state t_120) :: B, _⟩ _ _) (op_storeS (j := 0) tS60 (tl hd 10 211) (tl hd 7 208) rfl rfl (Upd.at (cT (comp_sha_state_h t_112) rfl) i_119.2 rfl (Upd.trans (Comp.self r_sha_state t_112) (Upd.self r_sha_state t_112 _) (upd_sha_state_h t_112 (putV t_112.h i_119 v_118)))).R hv_t_120)) ?_
      exact DSteps.nil)
             (by decide +kernel) (fun _ => rfl) (fun _ => rfl) (fun _ => rfl) rfl
             (ρ' := fun γ => [(0, ov (PTR gb_3 0)), (196, ov (A (rV 8 (rU UInt32)) (#v[x_104, x_105, x_106, x_107, x_108, x_109, x_110, x_111] : (Vector UInt32 8)))), (197, ov (S (rI .i64) x_113))])
             (X' := fun γ => [cvar gb_3 r_sha_state t_120])
             (fun γ ρ hb hd => (.cons (hb 0 _ rfl) (.cons (hb 196 _ rfl) (.cons (hb 197 _ rfl) .nil)))) (fun _ => rfl) (fun γ => ?_)
         refine JQ.at ⟨[(0, ov (PTR gb_3 0)), (196, ov (A (rV 8 (rU UInt32)) (#v[x_104, x_105, x_106, x_107, x_108, x_109, x_110, x_111] : (Vector UInt32 8)))), (197, ov (S (rI .i64) x_113))], [cvar gb_3 r_sha_state t_120], []⟩ <| JQ.outNB <| JQ.then <| JC.region <| lI hx fun v_121 hv_121 hx => jc (op_arI lb tR .cI (cs hv_121)) <| jmv rfl rfl <| JL.nil ?_
         try obtain rfl := so hx
         exact JQ.next () rfl (Imp.norm (js := [0]) rfl (.cons rfl (.cons rfl (.cons rfl .nil))))
       refine JC.condF tR hc14 <| JC.exit <| JQ.outX ?_
       try obtain rfl := so hx
       have ht := hr _ rfl
       have hq13 := cs ht
       clear hr ht
       refine JQ.outX <| JQ.here ?_
       obtain rfl := so hq13
       exact JQ.done (js := [0]) (ss := []) () (.inr rfl) (.nil rfl) rfl .nil rfl rfl rfl
     refine jr <| jc (op_move lb .cI) <| jn <| JC.block <| JC.pre ?_ (JC.loop (γ := Unit) (stf := fun s q => ⟨[(0, ov (PTR gb_3 0)), (4, ov (CLO 61 [])), (5, ov (PTR gb_4 0)), (12, ov (S (rU UInt32) s.1)), (13, ov (S (rU UInt32) s.2.1)), (14, ov (S (rU UInt32) s.2.2.1)), (15, ov (S (rU UInt32) s.2.2.2.1)), (16, ov (S (rU UInt32) s.2.2.2.2.1)), (17, ov (S (rU UInt32) s.2.2.2.2.2.1)), (18, ov (S (rU UInt32) s.2.2.2.2.2.2.1)), (19, ov (S (rU UInt32) s.2.2.2.2.2.2.2.1)), (130, ov (S (rI .i64) s.2.2.2.2.2.2.2.2))], [cvar gb_3 r_sha_state t_2, cvar gb_4 (rV 64 (rU UInt32)) x_54], []⟩) (q := ()) hx10 ?_)
     · exact (Imp.norm (js := [0, 0]) rfl (.cons rfl (.cons rfl (.cons rfl (.cons rfl (.cons rfl (.cons rfl (.cons rfl (.cons rfl (.cons rfl (.cons rfl (.cons rfl (.cons rfl .nil)))))))))))))
     intro s q x hx hr
     obtain ⟨x_71, x_72, x_73, x_74, x_75, x_76, x_77, x_78, x_79⟩ := s
     obtain _ := q
     change sha_state_press.b4 k t_2 x_54 x_71 x_72 x_73 x_74 x_75 x_76 x_77 x_78 x_79 = some x at hx
     unfold sha_state_press.b4 at hx
     refine JC.at ⟨[(0, ov (PTR gb_3 0)), (4, ov (CLO 61 [])), (5, ov (PTR gb_4 0)), (12, ov (S (rU UInt32) x_71)), (13, ov (S (rU UInt32) x_72)), (14, ov (S (rU UInt32) x_73)), (15, ov (S (rU UInt32) x_74)), (16, ov (S (rU UInt32) x_75)), (17, ov (S (rU UInt32) x_76)), (18, ov (S (rU UInt32) x_77)), (19, ov (S (rU UInt32) x_78)), (130, ov (S (rI .i64) x_79))], [cvar gb_3 r_sha_state t_2, cvar gb_4 (rV 64 (rU UInt32)) x_54], []⟩ <| jr <| lI hx fun v_80 hv_80 hx => jc (op_cmpI lb tR .cI (cs hv_80)) <| jn <| JC.seq <| jif tR hx (fun hc12 hx => ?_) (fun hc12 hx => ?_)
     · refine JC.skip <| JQ.then <| JC.seq <| JC.block <| jr <| jmv rfl rfl <| jc (op_assign lb tR) <| jn <| JC.seq <| bI hx fun v_81 hv_81 hx => lI hx fun v_82 hv_82 hx => lI hx fun v_83 hv_83 hx => lI hx fun v_84 hv_84 hx => lI hx fun v_85 hv_85 hx => ?_
       obtain ⟨v_86, hv_86, hx⟩ := lt1_inv hx
       refine lI hx fun v_87 hv_87 hx => bI hx fun i_88 hv_i_88 hx => lI hx fun v_89 hv_89 hx => lI hx fun v_90 hv_90 hx => bI hx fun i_91 hv_i_91 hx => lI hx fun v_92 hv_92 hx => ?_
       obtain ⟨v_93, hv_93, hx⟩ := lt1_inv hx
       refine JC.anyF (base := [(0, ov (PTR gb_3 0)), (4, ov (CLO 61 [])), (5, ov (PTR gb_4 0)), (12, ov (S (rU UInt32) x_71)), (13, ov (S (rU UInt32) x_72)), (14, ov (S (rU UInt32) x_73)), (15, ov (S (rU UInt32) x_74)), (16, ov (S (rU UInt32) x_75)), (17, ov (S (rU UInt32) x_76)), (18, ov (S (rU UInt32) x_77)), (19, ov (S (rU UInt32) x_78)), (20, ov (S (rI .i64) x_79)), (130, ov (S (rI .i64) x_79))])
           (fs := fun γ => [⟨some 133, ov (S (rU UInt32) x_78)⟩, ⟨some 134, ov (CLO 61 [])⟩, ⟨some 135, ov (S (rU UInt32) x_75)⟩, ⟨some 136, ov (S (rL (rI .i64)) ([(6 : Int), (11 : Int), (25 : Int)] : (List Int)))⟩, ⟨some 137, ov (S (rU UInt32) v_81)⟩, ⟨some 138, ov (S (rU UInt32) v_82)⟩, ⟨some 139, ov (S (rU UInt32) x_75)⟩, ⟨some 140, ov (S (rU UInt32) x_76)⟩, ⟨some 141, ov (S (rU UInt32) v_83)⟩, ⟨some 142, ov (S (rU UInt32) x_75)⟩, ⟨some 143, ov (S (rU UInt32) v_84)⟩, ⟨some 144, ov (S (rU UInt32) x_77)⟩, ⟨some 145, ov (S (rU UInt32) v_85)⟩, ⟨some 146, ov (S (rU UInt32) v_86)⟩, ⟨some 147, ov (S (rU UInt32) v_87)⟩, ⟨some 148, ov (PTR gb_3 0)⟩, ⟨some 149, ov (S (rI .i64) x_79)⟩, ⟨some 150, ov (PTR gb_3 0)⟩, ⟨some 151, ov (PTR gb_3 (0 + 8))⟩, ⟨some 152, ov (PTR gb_3 ((0 + 8) + i_88.1 * 1))⟩, ⟨some 153, ov (S (rU UInt32) v_89)⟩, ⟨some 154, ov (S (rU UInt32) v_90)⟩, ⟨some 155, ov (S (rI .i64) x_79)⟩, ⟨some 156, ov (PTR gb_4 (0 + i_91.1 * 1))⟩, ⟨some 157, ov (S (rU UInt32) v_92)⟩, ⟨some 158, ov (S (rU UInt32) v_93)⟩, ⟨some 21, ov (S (rU UInt32) v_93)⟩])
           (rs := fun γ => [⟨cvar gb_3 r_sha_state t_2, none, none, [20]⟩, ⟨cvar gb_4 (rV 64 (rU UInt32)) x_54, none, none, [24]⟩])
           (afts := nn 27) (js := [0, 0]) mixed (.cons rfl (.cons rfl (.cons rfl (.cons rfl (.cons rfl (.cons rfl (.cons rfl (.cons rfl (.cons rfl (.cons rfl (.cons rfl (.cons rfl (.cons rfl .nil))))))))))))) (fun _ => rfl)
           (by
      refine db 1 19 <| db 2 4 <| db 3 16 <| dS 4 (fun γ ρ B hb hd => op_buildF (r := (rI .i64)) lb tu53 tz3 tZ3 rfl (lE rfl) (.S rfl .cI (.S rfl .cI (.S rfl .cI .nil))) rfl) <| dS 5 (fun γ ρ B hb hd => (op_call (js := []) ld cl61 (sim_sha_state_press_1 k x_75 ([(6 : Int), (11 : Int), (25 : Int)] : (List Int)) v_81 hv_81) (tl hd 1 134) (.cons (tl hd 2 135) (.cons (tl hd 3 136) .nil)) rfl).post (fun _ => Imp.refl)) ?_
      refine dS 6 (fun γ ρ B hb hd => op_arU lb (tl hd 0 133) (tl hd 4 137) (cs hv_82)) <| db 7 16 <| db 8 17 <| dS 9 (fun γ ρ B hb hd => op_arU lb (tl hd 6 139) (tl hd 7 140) (cs hv_83)) <| db 10 16 ?_
      refine dS 11 (fun γ ρ B hb hd => op_com lb (tl hd 9 142) hv_84) <| db 12 18 <| dS 13 (fun γ ρ B hb hd => op_arU lb (tl hd 10 143) (tl hd 11 144) (cs hv_85)) <| dS 14 (fun γ ρ B hb hd => op_arU lb (tl hd 8 141) (tl hd 12 145) (cs hv_86)) <| dS 15 (fun γ ρ B hb hd => op_arU lb (tl hd 5 138) (tl hd 13 146) (cs hv_87)) ?_
      refine db 16 0 <| db 17 20 <| dS 18 (fun γ ρ B hb hd => op_nilCheck lb (tl hd 15 148) (fun e v h => by subst h; rfl)) <| dS 19 (fun γ ρ B hb hd => op_fieldAddr (off := 8) lb tf79_1 (tl hd 17 150)) <| dS 20 (fun γ ρ B hb hd => op_indexAddrIF lb tr77 (tl hd 18 151) (tl hd 16 149) hv_i_88) ?_
      refine dR 21 (fun γ ρ B hb hd => OpStep.lk ⟨ρ, (cvar gb_3 r_sha_state t_2) :: B, _⟩ (op_loadS (j := 0) lb tS60 (tl hd 19 152) rfl (Comp.at (cT (comp_sha_state_k t_2) rfl) i_88.2 rfl) rfl hv_89)) <| dS 22 (fun γ ρ B hb hd => op_arU lb (tl hd 14 147) (tl hd 20 153) (cs hv_90)) <| db 23 20 <| dS 24 (fun γ ρ B hb hd => op_indexAddrIF lb tr77 (.tmp (hb 5 _ rfl)) (tl hd 22 155) hv_i_91) <| dR 25 (fun γ ρ B hb hd => OpStep.lk ⟨ρ, (cvar gb_4 (rV 64 (rU UInt32)) x_54) :: B, _⟩ (op_loadS (j := 0) lb tS60 (tl hd 23 156) rfl (Comp.at (Comp.self (rV 64 (rU UInt32)) x_54) i_91.2 rfl) rfl hv_92)) ?_
      refine dS 26 (fun γ ρ B hb hd => op_arU lb (tl hd 21 154) (tl hd 24 157) (cs hv_93)) <| dS 27 (fun γ ρ B hb hd => op_assign lb (tl hd 25 158)) ?_
      exact DSteps.nil)
           (by decide +kernel) (fun _ => rfl) (fun _ => rfl) (fun _ => rfl) rfl
           (ρ' := fun γ => [(0, ov (PTR gb_3 0)), (4, ov (CLO 61 [])), (5, ov (PTR gb_4 0)), (12, ov (S (rU UInt32) x_71)), (13, ov (S (rU UInt32) x_72)), (14, ov (S (rU UInt32) x_73)), (15, ov (S (rU UInt32) x_74)), (16, ov (S (rU UInt32) x_75)), (17, ov (S (rU UInt32) x_76)), (18, ov (S (rU UInt32) x_77)), (21, ov (S (rU UInt32) v_93)), (130, ov (S (rI .i64) x_79))])
           (X' := fun γ => [cvar gb_3 r_sha_state t_2, cvar gb_4 (rV 64 (rU UInt32)) x_54])
           (fun γ ρ hb hd => (.cons (hb 0 _ rfl) (.cons (hb 4 _ rfl) (.cons (hb 5 _ rfl) (.cons (hb 12 _ rfl) (.cons (hb 13 _ rfl) (.cons (hb 14 _ rfl) (.cons (hb 15 _ rfl) (.cons (hb 16 _ rfl) (.cons (hb 17 _ rfl) (.cons (hb 18 _ rfl) (.cons (hdq hd 26 21 rfl) (.cons (hb 130 _ rfl) .nil))))))))))))) (fun _ => rfl) (fun γ => ?_)
       refine JQ.at ⟨[(0, ov (PTR gb_3 0)), (4, ov (CLO 61 [])), (5, ov (PTR gb_4 0)), (12, ov (S (rU UInt32) x_71)), (13, ov (S (rU UInt32) x_72)), (14, ov (S (rU UInt32) x_73)), (15, ov (S (rU UInt32) x_74)), (16, ov (S (rU UInt32) x_75)), (17, ov (S (rU UInt32) x_76)), (18, ov (S (rU UInt32) x_77)), (21, ov (S (rU UInt32) v_93)), (130, ov (S (rI .i64) x_79))], [cvar gb_3 r_sha_state t_2, cvar gb_4 (rV 64 (rU UInt32)) x_54], []⟩ <| JQ.then <| jr <| jmv rfl rfl <| jmv rfl rfl <| jc (op_buildF (r := (rI .i64)) lb tu53 tz3 tZ3 rfl (lE rfl) (.S rfl .cI (.S rfl .cI (.S rfl .cI .nil))) rfl) <| bI hx fun v_94 hv_94 hx => jx (op_call (js := []) ld cl61 (sim_sha_state_press_1 k x_71 ([(2 : Int), (13 : Int), (22 : Int)] : (List Int)) v_94 hv_94) tR (.cons tR (.cons tR .nil)) rfl) fun _ => jmv rfl rfl <| jmv rfl rfl <| lI hx fun v_95 hv_95 hx => jc (op_arU lb tR tR (cs hv_95)) <| jmv rfl rfl <| jmv rfl rfl <| lI hx fun v_96 hv_96 hx => jc (op_arU lb tR tR (cs hv_96)) ?_
       refine lI hx fun v_97 hv_97 hx => jc (op_arU lb tR tR (cs hv_97)) <| jmv rfl rfl <| JL.sub ⟨[(0, ov (PTR gb_3 0)), (4, ov (CLO 61 [])), (5, ov (PTR gb_4 0)), (12, ov (S (rU UInt32) x_71)), (13, ov (S (rU UInt32) x_72)), (14, ov (S (rU UInt32) x_73)), (15, ov (S (rU UInt32) x_74)), (16, ov (S (rU UInt32) x_75)), (17, ov (S (rU UInt32) x_76)), (18, ov (S (rU UInt32) x_77)), (21, ov (S (rU UInt32) v_93)), (130, ov (S (rI .i64) x_79)), (162, ov (S (rU UInt32) v_94)), (169, ov (S (rU UInt32) v_97)), (170, ov (S (rU UInt32) x_72))], [cvar gb_3 r_sha_state t_2, cvar gb_4 (rV 64 (rU UInt32)) x_54], []⟩ (.cons rfl (.cons rfl (.cons rfl (.cons rfl (.cons rfl (.cons rfl (.cons rfl (.cons rfl (.cons rfl (.cons rfl (.cons rfl (.cons rfl (.cons rfl (.cons rfl (.cons rfl .nil))))))))))))))) rfl rfl <| jmv rfl rfl <| lI hx fun v_98 hv_98 hx => jc (op_arU lb tR tR (cs hv_98)) <| lI hx fun v_99 hv_99 hx => jc (op_arU lb tR tR (cs hv_99)) ?_
       obtain ⟨v_100, hv_100, hx⟩ := lt1_inv hx
       refine jc (op_arU lb tR tR (cs hv_100)) <| jc (op_assign lb tR) <| jn <| JC.region <| jmv rfl rfl <| jmv rfl rfl <| lI hx fun v_101 hv_101 hx => jc (op_arU lb tR tR (cs hv_101)) <| jmv rfl rfl <| jmv rfl rfl <| jmv rfl rfl <| jmv rfl rfl <| JL.sub ⟨[(0, ov (PTR gb_3 0)), (4, ov (CLO 61 [])), (5, ov (PTR gb_4 0)), (12, ov (S (rU UInt32) x_71)), (13, ov (S (rU UInt32) x_72)), (14, ov (S (rU UInt32) x_73)), (15, ov (S (rU UInt32) x_74)), (16, ov (S (rU UInt32) x_75)), (17, ov (S (rU UInt32) x_76)), (18, ov (S (rU UInt32) x_77)), (21, ov (S (rU UInt32) v_93)), (130, ov (S (rI .i64) x_79)), (177, ov (S (rU UInt32) v_101)), (178, ov (S (rU UInt32) x_71)), (179, ov (S (rU UInt32) x_72)), (180, ov (S (rU UInt32) x_73)), (181, ov (S (rU UInt32) x_74))], [cvar gb_3 r_sha_state t_2, cvar gb_4 (rV 64 (rU UInt32)) x_54], []⟩ (.cons rfl (.cons rfl (.cons rfl (.cons rfl (.cons rfl (.cons rfl (.cons rfl (.cons rfl (.cons rfl (.cons rfl (.cons rfl (.cons rfl (.cons rfl (.cons rfl (.cons rfl (.cons rfl (.cons rfl .nil))))))))))))))))) rfl rfl <| jmv rfl rfl <| lI hx fun v_102 hv_102 hx => jc (op_arU lb tR tR (cs hv_102)) <| jmv rfl rfl <| jmv rfl rfl <| jmv rfl rfl <| jc (op_assign lb tR) <| jc (op_assign lb tR) <| jc (op_assign lb tR) <| jc (op_assign lb tR) <| jc (op_assign lb tR) <| jc (op_assign lb tR) ?_
       refine jc (op_assign lb tR) <| JL.sub ⟨[(0, ov (PTR gb_3 0)), (4, ov (CLO 61 [])), (5, ov (PTR gb_4 0)), (12, ov (S (rU UInt32) v_101)), (13, ov (S (rU UInt32) x_71)), (14, ov (S (rU UInt32) x_72)), (15, ov (S (rU UInt32) x_73)), (16, ov (S (rU UInt32) v_102)), (17, ov (S (rU UInt32) x_75)), (18, ov (S (rU UInt32) x_76)), (130, ov (S (rI .i64) x_79)), (186, ov (S (rU UInt32) x_77))], [cvar gb_3 r_sha_state t_2, cvar gb_4 (rV 64 (rU UInt32)) x_54], []⟩ (.cons rfl (.cons rfl (.cons rfl (.cons rfl (.cons rfl (.cons rfl (.cons rfl (.cons rfl (.cons rfl (.cons rfl (.cons rfl (.cons rfl .nil)))))))))))) rfl rfl <| jc (op_assign lb tR) <| JL.nil <| JQ.outNB <| JQ.then <| JC.region <| lI hx fun v_103 hv_103 hx => jc (op_arI lb tR .cI (cs hv_103)) <| jmv rfl rfl <| JL.nil ?_
       try obtain rfl := so hx
       exact JQ.next () rfl (Imp.norm (js := [0, 0]) rfl (.cons rfl (.cons rfl (.cons rfl (.cons rfl (.cons rfl (.cons rfl (.cons rfl (.cons rfl (.cons rfl (.cons rfl (.cons rfl (.cons rfl .nil)))))))))))))
     refine JC.exit <| JQ.outX ?_
     try obtain rfl := so hx
     have ht := hr _ rfl
     have hq11 := cs ht
     clear hr ht
     refine JQ.outX <| JQ.here ?_
     have hz := Option.some.inj hq11
     replace hz := Prod.mk.inj hz
     obtain ⟨hz_a, hz⟩ := hz
     first | subst hz_a | clear hz_a
     replace hz := Prod.mk.inj hz
     obtain ⟨hz_a, hz⟩ := hz
     first | subst hz_a | clear hz_a
     replace hz := Prod.mk.inj hz
     obtain ⟨hz_a, hz⟩ := hz
     first | subst hz_a | clear hz_a
     replace hz := Prod.mk.inj hz
     obtain ⟨hz_a, hz⟩ := hz
     first | subst hz_a | clear hz_a
     replace hz := Prod.mk.inj hz
     obtain ⟨hz_a, hz⟩ := hz
     first | subst hz_a | clear hz_a
     replace hz := Prod.mk.inj hz
     obtain ⟨hz_a, hz⟩ := hz
     first | subst hz_a | clear hz_a
     replace hz := Prod.mk.inj hz
     obtain ⟨hz_a, hz⟩ := hz
     first | subst hz_a | clear hz_a
     first | subst hz | clear hz
     exact JQ.join () (Imp.norm (js := [0]) rfl (.cons rfl (.cons rfl (.cons rfl (.cons rfl (.cons rfl (.cons rfl (.cons rfl (.cons rfl (.cons rfl .nil))))))))))
   refine jr <| jc (op_assign lb .cI) <| jn <| JC.block <| JC.pre ?_ (JC.loop (γ := Unit) (stf := fun s q => ⟨[(0, ov (PTR gb_3 0)), (4, ov (CLO 61 [])), (5, ov (PTR gb_4 0)), (9, ov (S (rI .i64) s.2))], [cvar gb_3 r_sha_state t_2, cvar gb_4 (rV 64 (rU UInt32)) s.1], []⟩) (q := ()) hx7 ?_)
   · exact (Imp.norm (js := [0, 0]) rfl (.cons rfl (.cons rfl (.cons rfl (.cons rfl .nil)))))
   intro s q x hx hr
   obtain ⟨x_27, x_28⟩ := s
   obtain _ := q
   change sha_state_press.b3 k x_27 x_28 = some x at hx
   unfold sha_state_press.b3 at hx
   refine JC.at ⟨[(0, ov (PTR gb_3 0)), (4, ov (CLO 61 [])), (5, ov (PTR gb_4 0)), (9, ov (S (rI .i64) x_28))], [cvar gb_3 r_sha_state t_2, cvar gb_4 (rV 64 (rU UInt32)) x_27], []⟩ <| JC.seq <| jr <| jmv rfl rfl <| lI hx fun v_29 hv_29 hx => jc (op_cmpI lb tR .cI (cs hv_29)) <| jn <| jif tR hx (fun hc9 hx => ?_) (fun hc9 hx => ?_)
   · refine JC.skip <| JQ.then <| JC.seq <| JC.block <| JC.seq <| lI hx fun v_30 hv_30 hx => bI hx fun i_31 hv_i_31 hx => lI hx fun v_32 hv_32 hx => lI hx fun v_33 hv_33 hx => bI hx fun i_34 hv_i_34 hx => ?_
     obtain ⟨v_35, hv_35, hx⟩ := lt1_inv hx
     refine JC.anyF (base := [(0, ov (PTR gb_3 0)), (4, ov (CLO 61 [])), (5, ov (PTR gb_4 0)), (9, ov (S (rI .i64) x_28))])
         (fs := fun γ => [⟨some 55, ov (S (rI .i64) x_28)⟩, ⟨some 56, ov (S (rI .i64) v_30)⟩, ⟨some 57, ov (PTR gb_4 (0 + i_31.1 * 1))⟩, ⟨some 58, ov (S (rU UInt32) v_32)⟩, ⟨some 59, ov (S (rI .i64) x_28)⟩, ⟨some 60, ov (S (rI .i64) v_33)⟩, ⟨some 61, ov (PTR gb_4 (0 + i_34.1 * 1))⟩, ⟨some 62, ov (S (rU UInt32) v_35)⟩, ⟨some 10, ov (S (rU UInt32) v_32)⟩, ⟨some 11, ov (S (rU UInt32) v_35)⟩])
         (rs := fun γ => [⟨cvar gb_3 r_sha_state t_2, none, none, []⟩, ⟨cvar gb_4 (rV 64 (rU UInt32)) x_27, none, none, [3, 7]⟩])
         (afts := nn 10) (js := [0, 0]) mixed (.cons rfl (.cons rfl (.cons rfl (.cons rfl .nil)))) (fun _ => rfl)
         (by
      refine db 1 9 <| dS 2 (fun γ ρ B hb hd => op_arI lb (tl hd 0 55) .cI (cs hv_30)) <| dS 3 (fun γ ρ B hb hd => op_indexAddrIF lb tr77 (.tmp (hb 5 _ rfl)) (tl hd 1 56) hv_i_31) <| dR 4 (fun γ ρ B hb hd => OpStep.lk ⟨ρ, (cvar gb_4 (rV 64 (rU UInt32)) x_27) :: B, _⟩ (op_loadS (j := 0) lb tS60 (tl hd 2 57) rfl (Comp.at (Comp.self (rV 64 (rU UInt32)) x_27) i_31.2 rfl) rfl hv_32)) <| db 5 9 ?_
      refine dS 6 (fun γ ρ B hb hd => op_arI lb (tl hd 4 59) .cI (cs hv_33)) <| dS 7 (fun γ ρ B hb hd => op_indexAddrIF lb tr77 (.tmp (hb 5 _ rfl)) (tl hd 5 60) hv_i_34) <| dR 8 (fun γ ρ B hb hd => OpStep.lk ⟨ρ, (cvar gb_4 (rV 64 (rU UInt32)) x_27) :: B, _⟩ (op_loadS (j := 0) lb tS60 (tl hd 6 61) rfl (Comp.at (Comp.self (rV 64 (rU UInt32)) x_27) i_34.2 rfl) rfl hv_35)) <| dS 9 (fun γ ρ B hb hd => op_assign lb (tl hd 3 58)) <| dS 10 (fun γ ρ B hb hd => op_assign lb (tl hd 7 62)) ?_
      exact DSteps.nil)
         (by decide +kernel) (fun _ => rfl) (fun _ => rfl) (fun _ => rfl) rfl
         (ρ' := fun γ => [(0, ov (PTR gb_3 0)), (4, ov (CLO 61 [])), (5, ov (PTR gb_4 0)), (9, ov (S (rI .i64) x_28)), (10, ov (S (rU UInt32) v_32)), (11, ov (S (rU UInt32) v_35))])
         (X' := fun γ => [cvar gb_3 r_sha_state t_2, cvar gb_4 (rV 64 (rU UInt32)) x_27])
         (fun γ ρ hb hd => (.cons (hb 0 _ rfl) (.cons (hb 4 _ rfl) (.cons (hb 5 _ rfl) (.cons (hb 9 _ rfl) (.cons (hdq hd 8 10 rfl) (.cons (hdq hd 9 11 rfl) .nil))))))) (fun _ => rfl) (fun γ => ?_)
     refine JQ.at ⟨[(0, ov (PTR gb_3 0)), (4, ov (CLO 61 [])), (5, ov (PTR gb_4 0)), (9, ov (S (rI .i64) x_28)), (10, ov (S (rU UInt32) v_32)), (11, ov (S (rU UInt32) v_35))], [cvar gb_3 r_sha_state t_2, cvar gb_4 (rV 64 (rU UInt32)) x_27], []⟩ <| JQ.then <| lI hx fun v_36 hv_36 hx => bI hx fun i_37 hv_i_37 hx => lI hx fun v_38 hv_38 hx => bI hx fun v_39 hv_39 hx => lI hx fun v_40 hv_40 hx => lI hx fun v_41 hv_41 hx => ?_
     obtain ⟨v_42, hv_42, hx⟩ := lt1_inv hx
     refine lI hx fun v_43 hv_43 hx => bI hx fun i_44 hv_i_44 hx => lI hx fun v_45 hv_45 hx => lI hx fun v_46 hv_46 hx => bI hx fun v_47 hv_47 hx => lI hx fun v_48 hv_48 hx => lI hx fun v_49 hv_49 hx => lI hx fun v_50 hv_50 hx => ?_
     obtain ⟨i_51, hv_i_51, hx⟩ := bnd_inv hx
     obtain ⟨x_52, hv_x_52, hx⟩ := lt1_inv hx
     refine JC.anyF (base := [(0, ov (PTR gb_3 0)), (4, ov (CLO 61 [])), (5, ov (PTR gb_4 0)), (9, ov (S (rI .i64) x_28)), (10, ov (S (rU UInt32) v_32)), (11, ov (S (rU UInt32) v_35))])
         (fs := fun γ => [⟨some 63, ov (S (rI .i64) x_28)⟩, ⟨some 64, ov (S (rI .i64) x_28)⟩, ⟨some 65, ov (S (rI .i64) v_36)⟩, ⟨some 66, ov (PTR gb_4 (0 + i_37.1 * 1))⟩, ⟨some 67, ov (S (rU UInt32) v_38)⟩, ⟨some 68, ov (CLO 61 [])⟩, ⟨some 69, ov (S (rU UInt32) v_32)⟩, ⟨some 70, ov (S (rL (rI .i64)) ([(7 : Int), (18 : Int)] : (List Int)))⟩, ⟨some 71, ov (S (rU UInt32) v_39)⟩, ⟨some 72, ov (S (rU UInt32) v_32)⟩, ⟨some 73, ov (S (rU UInt32) v_40)⟩, ⟨some 74, ov (S (rU UInt32) v_41)⟩, ⟨some 75, ov (S (rU UInt32) v_42)⟩, ⟨some 76, ov (S (rI .i64) x_28)⟩, ⟨some 77, ov (S (rI .i64) v_43)⟩, ⟨some 78, ov (PTR gb_4 (0 + i_44.1 * 1))⟩, ⟨some 79, ov (S (rU UInt32) v_45)⟩, ⟨some 80, ov (S (rU UInt32) v_46)⟩, ⟨some 81, ov (CLO 61 [])⟩, ⟨some 82, ov (S (rU UInt32) v_35)⟩, ⟨some 83, ov (S (rL (rI .i64)) ([(17 : Int), (19 : Int)] : (List Int)))⟩, ⟨some 84, ov (S (rU UInt32) v_47)⟩, ⟨some 85, ov (S (rU UInt32) v_35)⟩, ⟨some 86, ov (S (rU UInt32) v_48)⟩, ⟨some 87, ov (S (rU UInt32) v_49)⟩, ⟨some 88, ov (S (rU UInt32) v_50)⟩, ⟨some 89, ov (PTR gb_4 (0 + i_51.1 * 1))⟩, ⟨none, .one .any⟩])
         (rs := fun γ => [⟨cvar gb_3 r_sha_state t_2, none, none, []⟩, ⟨cvar gb_4 (rV 64 (rU UInt32)) x_27, none, (some 27), [4, 16]⟩, ⟨cvar gb_4 (rV 64 (rU UInt32)) x_52, (some 27), none, []⟩])
         (afts := nn 28) (js := [0, 0]) mixed (.cons rfl (.cons rfl (.cons rfl (.cons rfl (.cons rfl (.cons rfl .nil)))))) (fun _ => rfl)
         (by
      refine db 1 9 <| db 2 9 <| dS 3 (fun γ ρ B hb hd => op_arI lb (tl hd 1 64) .cI (cs hv_36)) <| dS 4 (fun γ ρ B hb hd => op_indexAddrIF lb tr77 (.tmp (hb 5 _ rfl)) (tl hd 2 65) hv_i_37) <| dR 5 (fun γ ρ B hb hd => OpStep.lk ⟨ρ, (cvar gb_4 (rV 64 (rU UInt32)) x_27) :: B, _⟩ (op_loadS (j := 0) lb tS60 (tl hd 3 66) rfl (Comp.at (Comp.self (rV 64 (rU UInt32)) x_27) i_37.2 rfl) rfl hv_38)) ?_
      refine db 6 4 <| db 7 10 <| dS 8 (fun γ ρ B hb hd => op_buildF (r := (rI .i64)) lb tu53 tz3 tZ3 rfl (lE rfl) (.S rfl .cI (.S rfl .cI .nil)) rfl) <| dS 9 (fun γ ρ B hb hd => (op_call (js := []) ld cl61 (sim_sha_state_press_1 k v_32 ([(7 : Int), (18 : Int)] : (List Int)) v_39 hv_39) (tl hd 5 68) (.cons (tl hd 6 69) (.cons (tl hd 7 70) .nil)) rfl).post (fun _ => Imp.refl)) <| db 10 10 ?_
      refine dS 11 (fun γ ρ B hb hd => op_shrUU lb (tl hd 9 72) (HasO.cU (x := (3 : UInt64)) rfl (by decide)) hv_40) <| dS 12 (fun γ ρ B hb hd => op_arU lb (tl hd 8 71) (tl hd 10 73) (cs hv_41)) <| dS 13 (fun γ ρ B hb hd => op_arU lb (tl hd 4 67) (tl hd 11 74) (cs hv_42)) <| db 14 9 <| dS 15 (fun γ ρ B hb hd => op_arI lb (tl hd 13 76) .cI (cs hv_43)) ?_
      refine dS 16 (fun γ ρ B hb hd => op_indexAddrIF lb tr77 (.tmp (hb 5 _ rfl)) (tl hd 14 77) hv_i_44) <| dR 17 (fun γ ρ B hb hd => OpStep.lk ⟨ρ, (cvar gb_4 (rV 64 (rU UInt32)) x_27) :: B, _⟩ (op_loadS (j := 0) lb tS60 (tl hd 15 78) rfl (Comp.at (Comp.self (rV 64 (rU UInt32)) x_27) i_44.2 rfl) rfl hv_45)) <| dS 18 (fun γ ρ B hb hd => op_arU lb (tl hd 12 75) (tl hd 16 79) (cs hv_46)) <| db 19 4 <| db 20 11 ?_
      refine dS 21 (fun γ ρ B hb hd => op_buildF (r := (rI .i64)) lb tu53 tz3 tZ3 rfl (lE rfl) (.S rfl .cI (.S rfl .cI .nil)) rfl) <| dS 22 (fun γ ρ B hb hd => (op_call (js := []) ld cl61 (sim_sha_state_press_1 k v_35 ([(17 : Int), (19 : Int)] : (List Int)) v_47 hv_47) (tl hd 18 81) (.cons (tl hd 19 82) (.cons (tl hd 20 83) .nil)) rfl).post (fun _ => Imp.refl)) <| db 23 11 <| dS 24 (fun γ ρ B hb hd => op_shrUU lb (tl hd 22 85) (HasO.cU (x := (10 : UInt64)) rfl (by decide)) hv_48) <| dS 25 (fun γ ρ B hb hd => op_arU lb (tl hd 21 84) (tl hd 23 86) (cs hv_49)) ?_
      refine dS 26 (fun γ ρ B hb hd => op_arU lb (tl hd 17 80) (tl hd 24 87) (cs hv_50)) <| dS 27 (fun γ ρ B hb hd => op_indexAddrIF lb tr77 (.tmp (hb 5 _ rfl)) (tl hd 0 63) hv_i_51) <| dR 28 (fun γ ρ B hb hd => OpStep.at ⟨ρ, (cvar gb_4 (rV 64 (rU UInt32)) x_27) :: B, _⟩ (setO ⟨ρ, (cvar gb_4 (rV 64 (rU UInt32)) x_52) :: B, _⟩ _ _) (op_storeS (j := 0) tS60 (tl hd 26 89) (tl hd 25 88) rfl rfl (Upd.at (Comp.self (rV 64 (rU UInt32)) x_27) i_51.2 rfl (Upd.self (rV 64 (rU UInt32)) x_27 _)).R hv_x_52)) ?_
      exact DSteps.nil)
         (by decide +kernel) (fun _ => rfl) (fun _ => rfl) (fun _ => rfl) rfl
         (ρ' := fun γ => [(0, ov (PTR gb_3 0)), (4, ov (CLO 61 [])), (5, ov (PTR gb_4 0)), (9, ov (S (rI .i64) x_28))])
         (X' := fun γ => [cvar gb_3 r_sha_state t_2, cvar gb_4 (rV 64 (rU UInt32)) x_52])
         (fun γ ρ hb hd => (.cons (hb 0 _ rfl) (.cons (hb 4 _ rfl) (.cons (hb 5 _ rfl) (.cons (hb 9 _ rfl) .nil))))) (fun _ => rfl) (fun γ => ?_)
     refine JQ.at ⟨[(0, ov (PTR gb_3 0)), (4, ov (CLO 61 [])), (5, ov (PTR gb_4 0)), (9, ov (S (rI .i64) x_28))], [cvar gb_3 r_sha_state t_2, cvar gb_4 (rV 64 (rU UInt32)) x_52], []⟩ <| JQ.outNB <| JQ.then <| JC.region <| jmv rfl rfl <| lI hx fun v_53 hv_53 hx => jc (op_arI lb tR .cI (cs hv_53)) <| jc (op_assign lb tR) <| JL.nil ?_
     try obtain rfl := so hx
     exact JQ.next () rfl (Imp.norm (js := [0, 0]) rfl (.cons rfl (.cons rfl (.cons rfl (.cons rfl .nil)))))
   refine JC.exit <| JQ.outX ?_
   try obtain rfl := so hx
   have ht := hr _ rfl
   have hq8 := cs ht
   clear hr ht
   refine JQ.outX <| JQ.here ?_
   try obtain rfl := so hq8
   exact JQ.join () (Imp.norm (js := [0, 0]) rfl (.cons rfl (.cons rfl (.cons rfl .nil))))
 refine jr <| jc (op_move lb .cI) <| jn <| JC.block <| JC.pre ?_ (JC.loop (γ := Unit) (stf := fun s q => ⟨[(0, ov (PTR gb_3 0)), (1, ov (S (rL (rU UInt8)) a_1)), (4, ov (CLO 61 [])), (5, ov (PTR gb_4 0)), (25, ov (S (rI .i64) s.2))], [cvar gb_3 r_sha_state t_2, cvar gb_4 (rV 64 (rU UInt32)) s.1], []⟩) (q := ()) hx1 ?_)
 · exact (Imp.norm (js := [0, 0]) rfl (.cons rfl (.cons rfl (.cons rfl (.cons rfl (.cons rfl .nil))))))
 intro s q x hx hr
 obtain ⟨x_5, x_6⟩ := s
 obtain _ := q
 change sha_state_press.b1 k a_1 x_5 x_6 = some x at hx
 unfold sha_state_press.b1 at hx
 refine JC.at ⟨[(0, ov (PTR gb_3 0)), (1, ov (S (rL (rU UInt8)) a_1)), (4, ov (CLO 61 [])), (5, ov (PTR gb_4 0)), (25, ov (S (rI .i64) x_6))], [cvar gb_3 r_sha_state t_2, cvar gb_4 (rV 64 (rU UInt32)) x_5], []⟩ <| jr <| lI hx fun v_7 hv_7 hx => jc (op_cmpI lb tR .cI (cs hv_7)) <| jn <| JC.seq <| jif tR hx (fun hc3 hx => ?_) (fun hc3 hx => ?_)
 · refine JC.skip <| JQ.then <| bI hx fun x_24 hx4 hq4 => JC.seqJ (γ := Unit) (stj := fun _ => ⟨[(0, ov (PTR gb_3 0)), (1, ov (S (rL (rU UInt8)) a_1)), (4, ov (CLO 61 [])), (5, ov (PTR gb_4 0)), (25, ov (S (rI .i64) x_6))], [cvar gb_3 r_sha_state t_2, cvar gb_4 (rV 64 (rU UInt32)) x_24], []⟩) (fun _ => ?_) ?_
   · refine JC.region <| lI hq4 fun v_25 hv_25 hq4 => jc (op_arI lb tR .cI (cs hv_25)) <| jmv rfl rfl <| JL.nil ?_
     try obtain rfl := so hq4
     exact JQ.next () rfl (Imp.norm (js := [0, 0]) rfl (.cons rfl (.cons rfl (.cons rfl (.cons rfl (.cons rfl .nil))))))
   refine JC.block <| jr <| jmv rfl rfl <| jc (op_assign lb tR) <| jn <| jr <| jmv rfl rfl <| jmv rfl rfl <| lI hx4 fun v_8 hv_8 hx4 => jc (op_arI lb .cI tR (cs hv_8)) <| jmv rfl rfl <| lI hx4 fun v_9 hv_9 hx4 => jc (op_arI lb .cI tR (cs hv_9)) <| lI hx4 fun v_10 hv_10 hx4 => jc (op_arI lb tR .cI (cs hv_10)) ?_
   obtain ⟨v_11, hv_11, hx4⟩ := bnd_inv hx4
   refine jc (op_sliceLg lb tu37 tz5 tR (.some tR) (.some tR) hv_11) <| jc (op_lenL lb tu37 tR) <| jc (op_move lb .cI) <| JL.sub ⟨[(0, ov (PTR gb_3 0)), (1, ov (S (rL (rU UInt8)) a_1)), (4, ov (CLO 61 [])), (5, ov (PTR gb_4 0)), (6, ov (S (rI .i64) x_6)), (25, ov (S (rI .i64) x_6)), (34, ov (S (rL (rU UInt8)) v_11)), (35, ov (S (rI .i64) (List.length v_11 : Int))), (36, ov (S (rI .i64) (0 : Int)))], [cvar gb_3 r_sha_state t_2, cvar gb_4 (rV 64 (rU UInt32)) x_5], []⟩ (.cons rfl (.cons rfl (.cons rfl (.cons rfl (.cons rfl (.cons rfl (.cons rfl (.cons rfl (.cons rfl .nil))))))))) rfl rfl <| jn <| JC.block <| JC.pre ?_ (JC.loop (γ := Unit) (stf := fun s q => ⟨[(0, ov (PTR gb_3 0)), (1, ov (S (rL (rU UInt8)) a_1)), (4, ov (CLO 61 [])), (5, ov (PTR gb_4 0)), (6, ov (S (rI .i64) x_6)), (25, ov (S (rI .i64) x_6)), (34, ov (S (rL (rU UInt8)) v_11)), (35, ov (S (rI .i64) (List.length v_11 : Int))), (36, ov (S (rI .i64) s.2))], [cvar gb_3 r_sha_state t_2, cvar gb_4 (rV 64 (rU UInt32)) s.1], []⟩) (q := ()) hx4 ?_)
   · exact (Imp.norm (js := [0, 0]) rfl (.cons rfl (.cons rfl (.cons rfl (.cons rfl (.cons rfl (.cons rfl (.cons rfl (.cons rfl (.cons rfl .nil))))))))))
   intro s q x hx hr
   obtain ⟨x_12, x_13⟩ := s
   obtain _ := q
   change sha_state_press.b2 k v_11 x_6 x_12 x_13 = some x at hx
   unfold sha_state_press.b2 at hx
   refine JC.at ⟨[(0, ov (PTR gb_3 0)), (1, ov (S (rL (rU UInt8)) a_1)), (4, ov (CLO 61 [])), (5, ov (PTR gb_4 0)), (6, ov (S (rI .i64) x_6)), (25, ov (S (rI .i64) x_6)), (34, ov (S (rL (rU UInt8)) v_11)), (35, ov (S (rI .i64) (List.length v_11 : Int))), (36, ov (S (rI .i64) x_13))], [cvar gb_3 r_sha_state t_2, cvar gb_4 (rV 64 (rU UInt32)) x_12], []⟩ <| jr <| lI hx fun v_14 hv_14 hx => jc (op_cmpI lb tR tR (cs hv_14)) <| jn <| JC.seq <| jif tR hx (fun hc6 hx => ?_) (fun hc6 hx => ?_)
   · refine JC.skip <| JQ.then <| JC.seq <| JC.block <| jr <| bI hx fun v_15 hv_15 hx => jc (op_indexAddrLg lb tu37 tz5 tR tR hv_15) <| jc (op_loadPSg lb tS5 rfl tR rfl) <| jc (op_assign lb tR) <| jn <| JC.region <| jmv rfl rfl <| jmv rfl rfl <| bI hx fun i_16 hv_i_16 hx => jc (op_indexAddrIF lb tr77 tR tR hv_i_16) <| lI hx fun v_17 hv_17 hx => jc (op_loadS (j := 1) lb tS60 tR rfl (Comp.at (Comp.self (rV 64 (rU UInt32)) x_12) i_16.2 rfl) rfl hv_17) ?_
     refine lI hx fun v_18 hv_18 hx => jc (op_shlUU lb tR (HasO.cU (x := (8 : UInt64)) rfl (by decide)) hv_18) <| jmv rfl rfl <| lI hx fun v_19 hv_19 hx => jc (op_convUU lb tu5 tu60 tR hv_19) <| lI hx fun v_20 hv_20 hx => jc (op_arU lb tR tR (cs hv_20)) <| JL.sub ⟨[(0, ov (PTR gb_3 0)), (1, ov (S (rL (rU UInt8)) a_1)), (4, ov (CLO 61 [])), (5, ov (PTR gb_4 0)), (6, ov (S (rI .i64) x_6)), (25, ov (S (rI .i64) x_6)), (34, ov (S (rL (rU UInt8)) v_11)), (35, ov (S (rI .i64) (List.length v_11 : Int))), (36, ov (S (rI .i64) x_13)), (40, ov (S (rI .i64) x_6)), (47, ov (S (rU UInt32) v_20))], [cvar gb_3 r_sha_state t_2, cvar gb_4 (rV 64 (rU UInt32)) x_12], []⟩ (.cons rfl (.cons rfl (.cons rfl (.cons rfl (.cons rfl (.cons rfl (.cons rfl (.cons rfl (.cons rfl (.cons rfl (.cons rfl .nil))))))))))) rfl rfl <| bI hx fun i_21 hv_i_21 hx => jc (op_indexAddrIF lb tr77 tR tR hv_i_21) ?_
     refine lI hx fun x_22 hv_x_22 hx => jc (op_storeS (j := 1) tS60 tR tR rfl rfl (Upd.at (Comp.self (rV 64 (rU UInt32)) x_12) i_21.2 rfl (Upd.self (rV 64 (rU UInt32)) x_12 _)).R hv_x_22) <| JL.nil <| JQ.outNB <| JQ.then <| JC.region <| lI hx fun v_23 hv_23 hx => jc (op_arI lb tR .cI (cs hv_23)) <| jmv rfl rfl <| JL.nil ?_
     try obtain rfl := so hx
     exact JQ.next () rfl (Imp.norm (js := [0, 0]) rfl (.cons rfl (.cons rfl (.cons rfl (.cons rfl (.cons rfl (.cons rfl (.cons rfl (.cons rfl (.cons rfl .nil))))))))))
   refine JC.exit <| JQ.outX ?_
   try obtain rfl := so hx
   have ht := hr _ rfl
   have hq5 := cs ht
   clear hr ht
   refine JQ.outX <| JQ.here <| JQ.outNB ?_
   try obtain rfl := so hq5
   exact JQ.join () (Imp.norm (js := [0, 0]) rfl (.cons rfl (.cons rfl (.cons rfl (.cons rfl (.cons rfl .nil))))))
 refine JC.exit <| JQ.outX ?_
 try obtain rfl := so hx
 have ht := hr _ rfl
 have hq2 := cs ht
 clear hr ht
 refine JQ.outX <| JQ.here ?_
 try obtain rfl := so hq2
 exact JQ.join () (Imp.norm (js := [0, 0]) rfl (.cons rfl (.cons rfl (.cons rfl .nil))))

end Go.Proofs.Ytbflmobpbjnekaa
