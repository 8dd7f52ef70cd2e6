/- Walks. -/
import Derived.Test.YtklnihlchhhhlaaGreatT
import Derived.Test.YtklnihlchhhhlaaGreatH
import Derived.Test.YtklnihlchhhhlaaGreatW1
import Derived.Test.YtklnihlchhhhlaaGreatW4
import Derived.Test.YtklnihlchhhhlaaGreatW5
import Derived.Test.YtklnihlchhhhlaaGreatW6
namespace Go.Proofs.YtklnihlchhhhlaaGreat
open Go Fw
set_option linter.unusedVariables false
set_option maxRecDepth 100000
set_option maxHeartbeats 4000000

theorem sim_frame_Of (k : Nat) (r : Unit) (hm : frame_Of k = some r) : Sim Tryz.prog 15 [S (rL (rU UInt8)) ([] : (List UInt8))] [] (γ := Unit) (fun q => []) (fun q => .tup [.val (A r_api_Frame (api_Frame.mk (0 : Int) (0 : Int) (0 : Int) ([] : (List api_Item)) (api_Event.mk (api_Dot.mk (0 : Int) (0 : UInt64)) ([] : (List UInt8)) ([] : (List UInt8)) (Vector.replicate 16 (0 : UInt64)) ([] : (List api_Dest))) (Vector.replicate 16 (0 : UInt64)) (Vector.replicate 16 (0 : UInt64)) ([] : (List api_Dot)) ([] : (List api_Dot)) (Vector.replicate 32 (0 : UInt8)) ([] : (List (Vector UInt8 32))) ([] : (List Int)) false)), .val (S (rI .i64) (4 : Int))]) := by
 unfold frame_Of at hm
 refine Sim.of Tryz.func15 rfl rfl (lE rfl) (fun e0 w0 => ?_)
 refine JC.at ⟨[(0, ov (S (rL (rU UInt8)) ([] : (List UInt8))))], [], []⟩ ?_
 refine jr ?_
 refine jx (op_alloc lb tZ39 zr39) (fun gb_1 => ?_)
 refine jc (op_assign lb .cI) <| jn <| jr <| jmv rfl rfl ?_
 obtain ⟨v_2, hv_2, hm⟩ := bnd_inv hm
 obtain rfl := h_Read hv_2
 refine jx (op_call (js := []) ld cl52 (sim_wire_Read k ([] : (List UInt8)) ([] : (List UInt8)) hv_2) .func (.cons (.tmp rfl) .nil) rfl) (fun q => ?_)
 obtain ⟨gb_3, go_4, gc_5⟩ := q
 refine jc (op_build lb tZ90 zr90 tp90 (.S (off := 0) (s := rW (PTR gb_3 0)) (u := ()) rfl (HasO.wk (q := S (rW (PTR gb_3 0)) ()) (.tmp rfl) wkV) rfl ((UpdR.fst (UpdR.self (by rfl))).at (by rfl)) .nil) rfl) ?_
 refine jx (op_boxA lb (.tmp rfl)) (fun gb_6 => ?_)
 refine JL.sub ⟨[(0, ov (S (rL (rU UInt8)) ([] : (List UInt8)))), (2, ov (PTR gb_1 0)), (10, ov (PTR gb_6 0))], [cvar gb_3 (zq26 go_4 gc_5) ((), (true, (true, ()))), cown go_4 (rU UInt8) ([] : (List UInt8)) 0 gc_5, cvar gb_1 zq0 zq1, cvar gb_6 (zq27 gb_3) zq25], []⟩ (.cons rfl (.cons rfl (.cons rfl .nil))) rfl rfl ?_
 refine jc (op_assign lb (.tmp rfl)) <| jn <| JC.seq ?_
 obtain ⟨⟨v_7, x_8⟩, hv_7, hm⟩ := bnd_inv hm
 obtain ⟨rfl, rfl⟩ := h_Num hv_7
 obtain ⟨v_9, hv_9, hm⟩ := lt1_inv hm
 obtain rfl := h_w0 hv_9
 obtain ⟨⟨v_10, x_11⟩, hv_10, hm⟩ := bnd_inv hm
 obtain ⟨rfl, rfl⟩ := h_Num2 hv_10
 obtain ⟨v_12, hv_12, hm⟩ := lt1_inv hm
 obtain rfl := h_w0 hv_12
 obtain ⟨⟨v_13, x_14⟩, hv_13, hm⟩ := bnd_inv hm
 obtain ⟨rfl, rfl⟩ := h_Num2 hv_13
 obtain ⟨v_15, hv_15, hm⟩ := lt1_inv hm
 obtain rfl := h_w0 hv_15
 refine JC.anyF (base := [(0, ov (S (rL (rU UInt8)) ([] : (List UInt8)))), (2, ov (PTR gb_1 0)), (4, ov (PTR gb_6 0))])
     (fs := fun γ => [⟨some 11, ov (PTR gb_6 0)⟩, ⟨some 12, ov (PTR gb_6 0)⟩, ⟨some 13, ov (PTR gb_6 0)⟩, ⟨some 14, ov (PTR gb_6 (0 + 0))⟩, ⟨some 15, ov (PTR gb_3 0)⟩, ⟨some 16, ov (S (rU UInt64) (0 : UInt64))⟩, ⟨some 17, ov (S (rI .i64) (0 : Int))⟩, ⟨some 18, ov (PTR gb_6 0)⟩, ⟨some 19, ov (PTR gb_6 0)⟩, ⟨some 20, ov (PTR gb_6 (0 + 0))⟩, ⟨some 21, ov (PTR gb_3 0)⟩, ⟨some 22, ov (S (rU UInt64) (0 : UInt64))⟩, ⟨some 23, ov (S (rI .i64) (0 : Int))⟩, ⟨some 24, ov (PTR gb_6 0)⟩, ⟨some 25, ov (PTR gb_6 0)⟩, ⟨some 26, ov (PTR gb_6 (0 + 0))⟩, ⟨some 27, ov (PTR gb_3 0)⟩, ⟨some 28, ov (S (rU UInt64) (0 : UInt64))⟩, ⟨some 29, ov (S (rI .i64) (0 : Int))⟩, ⟨some 30, ov (A zq0 zq1)⟩, ⟨some 31, ov (PTR gb_6 0)⟩, ⟨some 32, ov (PTR gb_6 (0 + 1))⟩, ⟨none, .one .any⟩])
     (rs := fun γ => [⟨cvar gb_3 (zq26 go_4 gc_5) ((), (true, (true, ()))), none, (some 5), []⟩, ⟨cown go_4 (rU UInt8) ([] : (List UInt8)) 0 gc_5, none, (some 5), []⟩, ⟨cvar gb_1 zq0 zq1, none, none, []⟩, ⟨cvar gb_6 (zq27 gb_3) zq25, none, none, [4, 10, 16, 22]⟩, ⟨cvar gb_3 r_wire_Reader (wire_Reader.mk ([] : (List UInt8)) false true), (some 5), none, [11, 17]⟩, ⟨cown go_4 (rU UInt8) ([] : (List UInt8)) (List.length ([] : (List UInt8))) gc_5, (some 5), none, []⟩])
     (afts := nn 23) (js := [0, 0, 0, 0]) mixed (.cons rfl (.cons rfl (.cons rfl .nil))) (fun _ => rfl)
     (by
      refine db 1 4 <| db 2 4 <| dS 3 (fun γ ρ B hb hd => op_nilCheck lb (tl hd 1 12) (fun e v h => by subst h; rfl)) <| dS 4 (fun γ ρ B hb hd => op_fieldAddr (off := 0) lb tf90_0 (tl hd 2 13)) <| dR 5 (fun γ ρ B hb hd => OpStep.lk ⟨ρ, (cvar gb_6 (zq27 gb_3) zq25) :: B, _⟩ (op_loadW (j := 0) lb tS87 (tl hd 3 14) rfl (Comp.trans (Comp.self (zq27 gb_3) zq25) (Comp.at' (Comp.inF (Comp.self (rW (PTR gb_3 0)) ()) (lE rfl)) (by rfl : _ = 0)) (lE rfl)))) ?_
      refine dR 6 (fun γ ρ B hb hd => OpStep.at ⟨ρ, (cvar gb_3 (zq26 go_4 gc_5) ((), (true, (true, ())))) :: (cown go_4 (rU UInt8) ([] : (List UInt8)) 0 gc_5) :: B, _⟩ (setO ⟨ρ, (cvar gb_3 r_wire_Reader (wire_Reader.mk ([] : (List UInt8)) false true)) :: (cown go_4 (rU UInt8) ([] : (List UInt8)) (List.length ([] : (List UInt8))) gc_5) :: B, _⟩ _ _) ((op_call (js := [0, 0]) ld cl53 (sim_wire_Reader_Number k (1 : Int) true true ([] : (List UInt8)) gb_3 go_4 gc_5 ((0 : UInt64), (wire_Reader.mk ([] : (List UInt8)) false true)) hv_7) .func (.cons (tl hd 4 15) (.cons .cI .nil)) rfl).post (fun _ => Imp.refl))) <| dS 7 (fun γ ρ B hb hd => op_convUI lb tu24 tu22 (tl hd 5 16) hv_9) <| db 8 4 <| dS 9 (fun γ ρ B hb hd => op_nilCheck lb (tl hd 7 18) (fun e v h => by subst h; rfl)) <| dS 10 (fun γ ρ B hb hd => op_fieldAddr (off := 0) lb tf90_0 (tl hd 8 19)) ?_
      refine dR 11 (fun γ ρ B hb hd => OpStep.lk ⟨ρ, (cvar gb_6 (zq27 gb_3) zq25) :: B, _⟩ (op_loadW (j := 0) lb tS87 (tl hd 9 20) rfl (Comp.trans (Comp.self (zq27 gb_3) zq25) (Comp.at' (Comp.inF (Comp.self (rW (PTR gb_3 0)) ()) (lE rfl)) (by rfl : _ = 0)) (lE rfl)))) <| dR 12 (fun γ ρ B hb hd => OpStep.lk ⟨ρ, (cvar gb_3 r_wire_Reader (wire_Reader.mk ([] : (List UInt8)) false true)) :: B, _⟩ ((op_call (js := [0]) ld cl53 (sim_wire_Reader_Number'2 k (1 : Int) (wire_Reader.mk ([] : (List UInt8)) false true) gb_3 ((0 : UInt64), (wire_Reader.mk ([] : (List UInt8)) false true)) hv_10) .func (.cons (tl hd 10 21) (.cons .cI .nil)) rfl).post (fun _ => Imp.pick (js := [0]) rfl rfl))) <| dS 13 (fun γ ρ B hb hd => op_convUI lb tu24 tu3 (tl hd 11 22) hv_12) <| db 14 4 <| dS 15 (fun γ ρ B hb hd => op_nilCheck lb (tl hd 13 24) (fun e v h => by subst h; rfl)) ?_
      refine dS 16 (fun γ ρ B hb hd => op_fieldAddr (off := 0) lb tf90_0 (tl hd 14 25)) <| dR 17 (fun γ ρ B hb hd => OpStep.lk ⟨ρ, (cvar gb_6 (zq27 gb_3) zq25) :: B, _⟩ (op_loadW (j := 0) lb tS87 (tl hd 15 26) rfl (Comp.trans (Comp.self (zq27 gb_3) zq25) (Comp.at' (Comp.inF (Comp.self (rW (PTR gb_3 0)) ()) (lE rfl)) (by rfl : _ = 0)) (lE rfl)))) <| dR 18 (fun γ ρ B hb hd => OpStep.lk ⟨ρ, (cvar gb_3 r_wire_Reader (wire_Reader.mk ([] : (List UInt8)) false true)) :: B, _⟩ ((op_call (js := [0]) ld cl53 (sim_wire_Reader_Number'2 k (1 : Int) (wire_Reader.mk ([] : (List UInt8)) false true) gb_3 ((0 : UInt64), (wire_Reader.mk ([] : (List UInt8)) false true)) hv_13) .func (.cons (tl hd 16 27) (.cons .cI .nil)) rfl).post (fun _ => Imp.pick (js := [0]) rfl rfl))) <| dS 19 (fun γ ρ B hb hd => op_convUI lb tu24 tu3 (tl hd 17 28) hv_15) <| dS 20 (fun γ ρ B hb hd => op_build lb tZ39 zr39 tp39 (.S (off := 0) rfl (tl hd 6 17) rfl ((UpdR.fst (UpdR.self (by rfl))).at (by rfl)) (.S (off := 1) rfl (tl hd 12 23) rfl ((UpdR.snd (UpdR.fst (UpdR.self (by rfl)))).at (by rfl)) (.S (off := 2) rfl (tl hd 18 29) rfl ((UpdR.snd (UpdR.snd (UpdR.fst (UpdR.self (by rfl))))).at (by rfl)) .nil))) rfl) ?_
      refine dS 21 (fun γ ρ B hb hd => op_nilCheck lb (tl hd 0 11) (fun e v h => by subst h; rfl)) <| dS 22 (fun γ ρ B hb hd => op_fieldAddr (off := 1) lb tf90_1 (tl hd 20 31)) <| dR 23 (fun γ ρ B hb hd => OpStep.lk ⟨ρ, (cvar gb_6 (zq27 gb_3) zq25) :: B, _⟩ (op_storeA (j := 0) tA39 (tl hd 21 32) (tl hd 19 30) rfl ((UpdR.snd (UpdR.fst (UpdR.self (by rfl)))).at (by change (1 + 0) = (0 + 1); omega)) rfl)) ?_
      exact DSteps.nil)
     (by decide +kernel) (fun _ => rfl) (fun _ => rfl) (fun _ => rfl) rfl
     (ρ' := fun γ => [(0, ov (S (rL (rU UInt8)) ([] : (List UInt8)))), (2, ov (PTR gb_1 0)), (4, ov (PTR gb_6 0))])
     (X' := fun γ => [cvar gb_1 zq0 zq1, cvar gb_6 (zq27 gb_3) zq25, cvar gb_3 r_wire_Reader (wire_Reader.mk ([] : (List UInt8)) false true), cown go_4 (rU UInt8) ([] : (List UInt8)) (List.length ([] : (List UInt8))) gc_5])
     (fun γ ρ hb hd => (.cons (hb 0 _ rfl) (.cons (hb 2 _ rfl) (.cons (hb 4 _ rfl) .nil)))) (fun _ => rfl) (fun γ => ?_)
 refine JQ.at ⟨[(0, ov (S (rL (rU UInt8)) ([] : (List UInt8)))), (2, ov (PTR gb_1 0)), (4, ov (PTR gb_6 0))], [cvar gb_1 zq0 zq1, cvar gb_6 (zq27 gb_3) zq25, cvar gb_3 r_wire_Reader (wire_Reader.mk ([] : (List UInt8)) false true), cown go_4 (rU UInt8) ([] : (List UInt8)) (List.length ([] : (List UInt8))) gc_5], []⟩ ?_
 refine JQ.then ?_
 obtain ⟨_, hx1, hq1⟩ := bnd_inv hm
 refine JC.seqJ (γ := Unit) (stj := fun _ => ⟨[(0, ov (S (rL (rU UInt8)) ([] : (List UInt8)))), (2, ov (PTR gb_1 0)), (4, ov (PTR gb_6 0))], [cvar gb_1 zq0 zq1, cvar gb_6 (zq27 gb_3) zq25, cvar gb_3 r_wire_Reader (wire_Reader.mk ([] : (List UInt8)) false true)], []⟩) (fun _ => ?_) ?_
 · refine JC.seq ?_
   obtain ⟨_, hx2, hq2⟩ := bnd_inv hq1
   refine JC.seqJ (γ := Unit) (stj := fun _ => ⟨[(2, ov (PTR gb_1 0)), (4, ov (PTR gb_6 0)), (63, ov (S rB true))], [cvar gb_1 zq0 zq1, cvar gb_6 (zq27 gb_3) zq25, cvar gb_3 r_wire_Reader (wire_Reader.mk ([] : (List UInt8)) false true)], []⟩) (fun _ => ?_) ?_
   · refine JC.condT (.tmp rfl) rfl ?_
     refine jr <| jc (op_build lb tZ39 zr39 tp39 .nil rfl) <| jc (op_storeA (j := 0) tA39 (.tmp rfl) (.tmp rfl) rfl (UpdR.self (by rfl)) rfl) <| jc (op_assign lb .cI) <| jn ?_
     refine JC.ret ?_
     refine JQ.outR ?_
     refine JQ.pre (Imp.var (j := 0) (q := r_api_Frame) (y := (api_Frame.mk (0 : Int) (0 : Int) (0 : Int) ([] : (List api_Item)) (api_Event.mk (api_Dot.mk (0 : Int) (0 : UInt64)) ([] : (List UInt8)) ([] : (List UInt8)) (Vector.replicate 16 (0 : UInt64)) ([] : (List api_Dest))) (Vector.replicate 16 (0 : UInt64)) (Vector.replicate 16 (0 : UInt64)) ([] : (List api_Dot)) ([] : (List api_Dot)) (Vector.replicate 32 (0 : UInt8)) ([] : (List (Vector UInt8 32))) ([] : (List Int)) false)) rfl (Wk.st (Wk.pair Wk.refl (Wk.pair Wk.refl (Wk.pair Wk.refl (Wk.pair Wk.nil (Wk.pair (Wk.st (Wk.pair Wk.refl (Wk.pair Wk.refl (Wk.pair Wk.nil (Wk.pair Wk.refl (Wk.pair Wk.nil Wk.refl)))))) (Wk.pair Wk.refl (Wk.pair Wk.refl (Wk.pair Wk.nil (Wk.pair Wk.nil (Wk.pair Wk.refl (Wk.pair Wk.nil (Wk.pair Wk.nil (Wk.pair Wk.refl Wk.refl))))))))))))))) ?_
     exact JQ.done (js := []) (ss := [.val (A r_api_Frame (api_Frame.mk (0 : Int) (0 : Int) (0 : Int) ([] : (List api_Item)) (api_Event.mk (api_Dot.mk (0 : Int) (0 : UInt64)) ([] : (List UInt8)) ([] : (List UInt8)) (Vector.replicate 16 (0 : UInt64)) ([] : (List api_Dest))) (Vector.replicate 16 (0 : UInt64)) (Vector.replicate 16 (0 : UInt64)) ([] : (List api_Dot)) ([] : (List api_Dot)) (Vector.replicate 32 (0 : UInt8)) ([] : (List (Vector UInt8 32))) ([] : (List Int)) false)), .val (S (rI .i64) (4 : Int))]) () (.inl rfl) (.nil rfl) rfl (.cons (.cellA (j := 0) tA39 rfl rfl) (.cons (.tmp rfl) .nil)) rfl rfl rfl
   refine JC.region <| jmv rfl rfl <| jc (op_nilCheck lb (.tmp rfl) (fun e v h => by subst h; rfl)) <| jc (op_fieldAddr (off := 1) lb tf90_1 (.tmp rfl)) <| jc (op_loadA (j := 1) lb tA39 (.tmp rfl) rfl (Comp.trans (Comp.self (zq27 gb_3) zq25) (Comp.at' (Comp.inS (Comp.inF (Comp.self zq0 zq1) (lE rfl))) (by rfl : _ = 1)) (lE rfl)) rfl) ?_
   obtain ⟨v_21, hv_21, hx2⟩ := bnd_inv hx2
   obtain rfl := h_May0 hv_21
   refine jx (op_call (js := []) ld cl11 (sim_frame_May k (api_Frame.mk (0 : Int) (0 : Int) (0 : Int) ([] : (List api_Item)) (api_Event.mk (api_Dot.mk (0 : Int) (0 : UInt64)) ([] : (List UInt8)) ([] : (List UInt8)) (Vector.replicate 16 (0 : UInt64)) ([] : (List api_Dest))) (Vector.replicate 16 (0 : UInt64)) (Vector.replicate 16 (0 : UInt64)) ([] : (List api_Dot)) ([] : (List api_Dot)) (Vector.replicate 32 (0 : UInt8)) ([] : (List (Vector UInt8 32))) ([] : (List Int)) false) false hv_21) .func (.cons (HasO.wk (q := A r_api_Frame (api_Frame.mk (0 : Int) (0 : Int) (0 : Int) ([] : (List api_Item)) (api_Event.mk (api_Dot.mk (0 : Int) (0 : UInt64)) ([] : (List UInt8)) ([] : (List UInt8)) (Vector.replicate 16 (0 : UInt64)) ([] : (List api_Dest))) (Vector.replicate 16 (0 : UInt64)) (Vector.replicate 16 (0 : UInt64)) ([] : (List api_Dot)) ([] : (List api_Dot)) (Vector.replicate 32 (0 : UInt8)) ([] : (List (Vector UInt8 32))) ([] : (List Int)) false)) (.tmp rfl) (wkAK (Wk.st (Wk.pair Wk.refl (Wk.pair Wk.refl (Wk.pair Wk.refl (Wk.pair Wk.nil (Wk.pair (Wk.st (Wk.pair Wk.refl (Wk.pair Wk.refl (Wk.pair Wk.nil (Wk.pair Wk.refl (Wk.pair Wk.nil Wk.refl)))))) (Wk.pair Wk.refl (Wk.pair Wk.refl (Wk.pair Wk.nil (Wk.pair Wk.nil (Wk.pair Wk.refl (Wk.pair Wk.nil (Wk.pair Wk.nil (Wk.pair Wk.refl Wk.refl)))))))))))))))) .nil) rfl) (fun _ => ?_)
   refine jc (op_not lb (.tmp rfl) rfl) <| jmv rfl rfl <| jk rfl rfl <| jk rfl rfl <| jk rfl rfl ?_
   refine jk rfl rfl <| jk rfl rfl <| jk rfl rfl <| jk rfl rfl <| jk rfl rfl ?_
   refine jc (op_pickT lb (.tmp rfl) rfl .cB) <| JL.nil ?_
   exact JQ.join () (Imp.norm (js := [0, 0, 0]) rfl (.cons rfl (.cons rfl (.cons rfl .nil))))
 refine JC.seq ?_
 obtain ⟨v_16, hv_16, hx1⟩ := bnd_inv hx1
 obtain rfl := h_forms hv_16
 obtain ⟨⟨v_18, is_19⟩, hv_18, hx1⟩ := bnd_inv hx1
 obtain ⟨rfl, rfl⟩ := h_get hv_18
 refine JC.anyF (base := [(0, ov (S (rL (rU UInt8)) ([] : (List UInt8)))), (2, ov (PTR gb_1 0)), (4, ov (PTR gb_6 0))])
     (fs := fun γ => [⟨some 34, ov (MPV (deo (γ 0 0)))⟩, ⟨some 35, ov (PTR gb_6 0)⟩, ⟨some 36, ov (PTR gb_6 0)⟩, ⟨some 37, ov (PTR gb_6 (0 + 1))⟩, ⟨some 38, ov (PTR gb_6 ((0 + 1) + 0))⟩, ⟨some 39, ov (S (rI .i64) (0 : Int))⟩, ⟨some 40, .tup [.val (A r_frame_form (frame_form.mk (none : Option Nat) (none : Option Nat))), .val (S rB false)]⟩, ⟨some 33, .tup [.val (A r_frame_form (frame_form.mk (none : Option Nat) (none : Option Nat))), .val (S rB false)]⟩, ⟨some 41, ov (A r_frame_form (frame_form.mk (none : Option Nat) (none : Option Nat)))⟩, ⟨some 42, ov (S rB false)⟩, ⟨some 5, ov (PTR (γ 10 0) 0)⟩, ⟨none, .one .any⟩, ⟨some 6, ov (S rB false)⟩])
     (rs := fun γ => [⟨cvar gb_1 zq0 zq1, none, none, []⟩, ⟨cvar gb_6 (zq27 gb_3) zq25, none, none, [5]⟩, ⟨cvar gb_3 r_wire_Reader (wire_Reader.mk ([] : (List UInt8)) false true), none, none, []⟩, ⟨cown go_4 (rU UInt8) ([] : (List UInt8)) (List.length ([] : (List UInt8))) gc_5, none, none, []⟩, ⟨cmap (deo (γ 0 0)) (S (rI .i64)) (A r_frame_form) (some (([((1 : Int), (frame_form.mk (some 92 : Option Nat) (some 93 : Option Nat))), ((2 : Int), (frame_form.mk (some 94 : Option Nat) (some 95 : Option Nat))), ((3 : Int), (frame_form.mk (some 96 : Option Nat) (some 97 : Option Nat))), ((4 : Int), (frame_form.mk (some 98 : Option Nat) (some 99 : Option Nat))), ((5 : Int), (frame_form.mk (some 100 : Option Nat) (some 101 : Option Nat))), ((6 : Int), (frame_form.mk (some 102 : Option Nat) (some 103 : Option Nat))), ((7 : Int), (frame_form.mk (some 104 : Option Nat) (some 105 : Option Nat)))] : (List (Int × frame_form))))), (some 0), none, [6]⟩, ⟨cvar (γ 10 0) r_frame_form (frame_form.mk (none : Option Nat) (none : Option Nat)), (some 10), none, [11]⟩])
     (afts := [[0, 6, 7, 8, 9, 11, 12], [], [], [], [], [], [], [], [], [], [10, 11, 12], [], []]) (js := [0, 0, 0, 0]) mixed (.cons rfl (.cons rfl (.cons rfl .nil))) (fun _ => rfl)
     (by
      refine DSteps.cons (j := 1) rfl (fun _ => rfl) (.runX (fun _ _ => rfl) (fun γ ρ B hb hd => ⟨.none, OpX.ghost (γ := Option Nat) (st' := fun q => setO ⟨ρ, (cmap q (S (rI .i64)) (A r_frame_form) (some (([((1 : Int), (frame_form.mk (some 92 : Option Nat) (some 93 : Option Nat))), ((2 : Int), (frame_form.mk (some 94 : Option Nat) (some 95 : Option Nat))), ((3 : Int), (frame_form.mk (some 96 : Option Nat) (some 97 : Option Nat))), ((4 : Int), (frame_form.mk (some 98 : Option Nat) (some 99 : Option Nat))), ((5 : Int), (frame_form.mk (some 100 : Option Nat) (some 101 : Option Nat))), ((6 : Int), (frame_form.mk (some 102 : Option Nat) (some 103 : Option Nat))), ((7 : Int), (frame_form.mk (some 104 : Option Nat) (some 105 : Option Nat)))] : (List (Int × frame_form)))))) :: B, _⟩ (some 34) (ov (MPV q))) (fun q c => eno q) (op_call (js := []) ld cl54 (sim_frame_forms k ([((1 : Int), (frame_form.mk (some 92 : Option Nat) (some 93 : Option Nat))), ((2 : Int), (frame_form.mk (some 94 : Option Nat) (some 95 : Option Nat))), ((3 : Int), (frame_form.mk (some 96 : Option Nat) (some 97 : Option Nat))), ((4 : Int), (frame_form.mk (some 98 : Option Nat) (some 99 : Option Nat))), ((5 : Int), (frame_form.mk (some 100 : Option Nat) (some 101 : Option Nat))), ((6 : Int), (frame_form.mk (some 102 : Option Nat) (some 103 : Option Nat))), ((7 : Int), (frame_form.mk (some 104 : Option Nat) (some 105 : Option Nat)))] : (List (Int × frame_form))) hv_16) .func .nil rfl) (fun q => by cases q <;> exact Imp.refl)⟩) (fun _ _ => rfl) (fun _ _ => rfl)) ?_
      refine db 2 4 <| dS 3 (fun γ ρ B hb hd => op_nilCheck lb (tl hd 1 35) (fun e v h => by subst h; rfl)) <| dS 4 (fun γ ρ B hb hd => op_fieldAddr (off := 1) lb tf90_1 (tl hd 2 36)) <| dS 5 (fun γ ρ B hb hd => op_fieldAddr (off := 0) lb tf39_0 (tl hd 3 37)) <| dR 6 (fun γ ρ B hb hd => OpStep.lk ⟨ρ, (cvar gb_6 (zq27 gb_3) zq25) :: B, _⟩ (op_loadS (j := 0) lb tS22 (tl hd 4 38) rfl (Comp.trans (Comp.trans (Comp.self (zq27 gb_3) zq25) (Comp.at' (Comp.inS (Comp.inF (Comp.self zq0 zq1) (lE rfl))) (by rfl : _ = 1)) (lE rfl)) (Comp.at' (Comp.inF (Comp.self (rI .i64) (0 : Int)) (lE rfl)) (by rfl : _ = 0)) (lE rfl)) rfl rfl)) ?_
      refine dR 7 (fun γ ρ B hb hd => OpStep.lk ⟨ρ, (cmap (deo (γ 0 0)) (S (rI .i64)) (A r_frame_form) (some (([((1 : Int), (frame_form.mk (some 92 : Option Nat) (some 93 : Option Nat))), ((2 : Int), (frame_form.mk (some 94 : Option Nat) (some 95 : Option Nat))), ((3 : Int), (frame_form.mk (some 96 : Option Nat) (some 97 : Option Nat))), ((4 : Int), (frame_form.mk (some 98 : Option Nat) (some 99 : Option Nat))), ((5 : Int), (frame_form.mk (some 100 : Option Nat) (some 101 : Option Nat))), ((6 : Int), (frame_form.mk (some 102 : Option Nat) (some 103 : Option Nat))), ((7 : Int), (frame_form.mk (some 104 : Option Nat) (some 105 : Option Nat)))] : (List (Int × frame_form)))))) :: B, _⟩ (op_lookupD (z0 := (frame_form.mk (none : Option Nat) (none : Option Nat))) (j := 0) lb tu97 ky22 tZ95 (fun e => ⟨_, rfl, zv95 e⟩) rfl (tl hd 0 34) (tl hd 5 39) hv_18)) <| dm 8 6 40 <| dS 9 (fun γ ρ B hb hd => op_extract (i := 0) lb (tl hd 7 33) rfl) <| dS 10 (fun γ ρ B hb hd => op_extract (i := 1) lb (tl hd 7 33) rfl) ?_
      refine DSteps.cons (j := 11) rfl (fun _ => rfl) (.runX (fun _ _ => rfl) (fun γ ρ B hb hd => ⟨.none, OpX.ghost (γ := Nat) (st' := fun q => setO ⟨ρ, (cvar q r_frame_form (frame_form.mk (none : Option Nat) (none : Option Nat))) :: B, _⟩ (some 5) (ov (PTR q 0))) (fun q c => q) (OpX.front (op_alloc lb tZ95 zr95)) (fun q => Imp.refl)⟩) (fun _ _ => rfl) (fun _ _ => rfl)) ?_
      refine dR 12 (fun γ ρ B hb hd => OpStep.lk ⟨ρ, (cvar (γ 10 0) r_frame_form (frame_form.mk (none : Option Nat) (none : Option Nat))) :: B, _⟩ (op_storeA (j := 0) tA95 (tl hd 10 5) (tl hd 8 41) rfl (UpdR.self (by rfl)) rfl)) <| dS 13 (fun γ ρ B hb hd => op_assign lb (tl hd 9 42)) ?_
      exact DSteps.nil)
     (by decide +kernel) (fun _ => rfl) (fun _ => rfl) (fun _ => rfl) rfl
     (ρ' := fun γ => [(0, ov (S (rL (rU UInt8)) ([] : (List UInt8)))), (2, ov (PTR gb_1 0)), (4, ov (PTR gb_6 0)), (5, ov (PTR (γ 10 0) 0)), (6, ov (S rB false))])
     (X' := fun γ => [cvar gb_1 zq0 zq1, cvar gb_6 (zq27 gb_3) zq25, cvar gb_3 r_wire_Reader (wire_Reader.mk ([] : (List UInt8)) false true), cown go_4 (rU UInt8) ([] : (List UInt8)) (List.length ([] : (List UInt8))) gc_5, cmap (deo (γ 0 0)) (S (rI .i64)) (A r_frame_form) (some (([((1 : Int), (frame_form.mk (some 92 : Option Nat) (some 93 : Option Nat))), ((2 : Int), (frame_form.mk (some 94 : Option Nat) (some 95 : Option Nat))), ((3 : Int), (frame_form.mk (some 96 : Option Nat) (some 97 : Option Nat))), ((4 : Int), (frame_form.mk (some 98 : Option Nat) (some 99 : Option Nat))), ((5 : Int), (frame_form.mk (some 100 : Option Nat) (some 101 : Option Nat))), ((6 : Int), (frame_form.mk (some 102 : Option Nat) (some 103 : Option Nat))), ((7 : Int), (frame_form.mk (some 104 : Option Nat) (some 105 : Option Nat)))] : (List (Int × frame_form))))), cvar (γ 10 0) r_frame_form (frame_form.mk (none : Option Nat) (none : Option Nat))])
     (fun γ ρ hb hd => (.cons (hb 0 _ rfl) (.cons (hb 2 _ rfl) (.cons (hb 4 _ rfl) (.cons (hdq hd 10 5 rfl) (.cons (hdq hd 12 6 rfl) .nil)))))) (fun _ => rfl) (fun γ => ?_)
 generalize (deo (γ 0 0)) = go_17
 generalize (γ 10 0) = gb_20
 clear γ
 refine JQ.at ⟨[(0, ov (S (rL (rU UInt8)) ([] : (List UInt8)))), (2, ov (PTR gb_1 0)), (4, ov (PTR gb_6 0)), (5, ov (PTR gb_20 0)), (6, ov (S rB false))], [cvar gb_1 zq0 zq1, cvar gb_6 (zq27 gb_3) zq25, cvar gb_3 r_wire_Reader (wire_Reader.mk ([] : (List UInt8)) false true), cown go_4 (rU UInt8) ([] : (List UInt8)) (List.length ([] : (List UInt8))) gc_5, cmap go_17 (S (rI .i64)) (A r_frame_form) (some (([((1 : Int), (frame_form.mk (some 92 : Option Nat) (some 93 : Option Nat))), ((2 : Int), (frame_form.mk (some 94 : Option Nat) (some 95 : Option Nat))), ((3 : Int), (frame_form.mk (some 96 : Option Nat) (some 97 : Option Nat))), ((4 : Int), (frame_form.mk (some 98 : Option Nat) (some 99 : Option Nat))), ((5 : Int), (frame_form.mk (some 100 : Option Nat) (some 101 : Option Nat))), ((6 : Int), (frame_form.mk (some 102 : Option Nat) (some 103 : Option Nat))), ((7 : Int), (frame_form.mk (some 104 : Option Nat) (some 105 : Option Nat)))] : (List (Int × frame_form))))), cvar gb_20 r_frame_form (frame_form.mk (none : Option Nat) (none : Option Nat))], []⟩ ?_
 refine JQ.then <| jr <| jmv rfl rfl <| jn ?_
 refine JC.condF (.tmp rfl) rfl ?_
 refine JC.skip ?_
 exact JQ.join () (Imp.norm (js := [0, 0, 0]) rfl (.cons rfl (.cons rfl (.cons rfl .nil))))

theorem sim_law11_num (k : Nat) (e_1 : Int) (r : Unit) (hm : law11_num k e_1 = some r) : Sim Tryz.prog 13 [S (rI .i64) e_1] [] (γ := Unit) (fun q => []) (fun q => .one (.val (S (rI .i64) e_1))) := by
 unfold law11_num at hm
 refine Sim.of Tryz.func13 rfl rfl (lE rfl) (fun e0 w0 => ?_)
 refine JC.at ⟨[(0, ov (S (rI .i64) e_1))], [], []⟩ ?_
 refine jr <| jc (op_assign lb .cI) <| jn <| jr <| jmv rfl rfl ?_
 refine jc (op_assign lb (.tmp rfl)) <| jn ?_
 refine JC.ret ?_
 exact jd (.val (S (rI .i64) e_1)) rfl rfl rfl rfl rfl rfl

theorem sim_frame_Name (k : Nat) (k_1 : Int) (r : (List UInt8)) (hm : frame_Name k k_1 = some r) : Sim Tryz.prog 24 [S (rI .i64) k_1] [] (γ := Unit) (fun q => []) (fun q => .one (.val (S rS r))) := by
 unfold frame_Name at hm
 refine Sim.of Tryz.func24 rfl rfl (lE rfl) (fun e0 w0 => ?_)
 refine JC.at ⟨[(0, ov (S (rI .i64) k_1))], [], []⟩ ?_
 refine jr <| jc (op_assign lb (HasO.cS (l := []) rfl)) <| jn <| jr <| jc (op_buildF (r := rS) lb tu123 tz9 tZ9 rfl (lE rfl) (.S rfl (HasO.cS (l := []) rfl) (.S rfl (HasO.cS (l := [100, 101, 108, 116, 97]) rfl) (.S rfl (HasO.cS (l := [101, 118, 101, 110, 116]) rfl) (.S rfl (HasO.cS (l := [104, 97, 118, 101]) rfl) (.S rfl (HasO.cS (l := [107, 110, 111, 119, 110]) rfl) (.S rfl (HasO.cS (l := [114, 111, 111, 116]) rfl) (.S rfl (HasO.cS (l := [108, 101, 97, 118, 101, 115]) rfl) (.S rfl (HasO.cS (l := [105, 116, 101, 109, 115]) rfl) .nil)))))))) rfl) ?_
 refine jc (op_assign lb (.tmp rfl)) <| jn <| JC.seq ?_
 obtain ⟨x_5, hx1, hq1⟩ := bnd_inv hm
 refine JC.seqJ (γ := Unit) (stj := fun _ => ⟨[(0, ov (S (rI .i64) k_1)), (3, ov (S (rL rS) ([([] : List UInt8), ([100, 101, 108, 116, 97] : List UInt8), ([101, 118, 101, 110, 116] : List UInt8), ([104, 97, 118, 101] : List UInt8), ([107, 110, 111, 119, 110] : List UInt8), ([114, 111, 111, 116] : List UInt8), ([108, 101, 97, 118, 101, 115] : List UInt8), ([105, 116, 101, 109, 115] : List UInt8)] : (List (List UInt8))))), (12, ov (S rB x_5))], [], []⟩) (fun _ => ?_) ?_
 · rcases iteB_inv hq1 with ⟨hc7, hq1⟩ | ⟨hc7, hq1⟩
   · refine JC.condT (.tmp rfl) hc7 ?_
     refine jr <| jc (op_assign lb (HasO.cS (l := []) rfl)) <| jn ?_
     refine JC.ret ?_
     refine JQ.outR ?_
     obtain rfl := so hq1
     exact jd (.val (S rS ([] : List UInt8))) rfl rfl rfl rfl rfl rfl
   refine JC.condF (.tmp rfl) hc7 ?_
   refine JC.skip ?_
   refine JQ.then <| jr <| jmv rfl rfl <| jmv rfl rfl ?_
   obtain ⟨v_6, hv_6, hq1⟩ := bnd_inv hq1
   refine jc (op_indexAddrLg lb tu123 tz9 (.tmp rfl) (.tmp rfl) hv_6) <| jc (op_loadPSg lb tS9 rfl (.tmp rfl) rfl) <| jc (op_assign lb (.tmp rfl)) <| jn ?_
   refine JC.ret ?_
   obtain rfl := so hq1
   exact jd (.val (S rS v_6)) rfl rfl rfl rfl rfl rfl
 refine JC.region <| jmv rfl rfl ?_
 obtain ⟨v_2, hv_2, hx1⟩ := lt1_inv hx1
 refine jc (op_cmpI lb (.tmp rfl) .cI (cs hv_2)) <| jmv rfl rfl ?_
 refine JL.cnd (sv := ov (S (rI .i64) k_1)) (Guard.isF (ltB rfl) rfl rfl) rfl (ltB rfl) (fun hq_2 => op_move lb (.tmp rfl)) ?_
 refine JL.cnd (sv := ov (S (rL rS) ([([] : List UInt8), ([100, 101, 108, 116, 97] : List UInt8), ([101, 118, 101, 110, 116] : List UInt8), ([104, 97, 118, 101] : List UInt8), ([107, 110, 111, 119, 110] : List UInt8), ([114, 111, 111, 116] : List UInt8), ([108, 101, 97, 118, 101, 115] : List UInt8), ([105, 116, 101, 109, 115] : List UInt8)] : (List (List UInt8))))) (Guard.isF (ltB rfl) rfl rfl) rfl (ltB rfl) (fun hq_3 => op_move lb (.tmp rfl)) ?_
 refine JL.cnd (sv := ov (S (rI .i64) (List.length ([([] : List UInt8), ([100, 101, 108, 116, 97] : List UInt8), ([101, 118, 101, 110, 116] : List UInt8), ([104, 97, 118, 101] : List UInt8), ([107, 110, 111, 119, 110] : List UInt8), ([114, 111, 111, 116] : List UInt8), ([108, 101, 97, 118, 101, 115] : List UInt8), ([105, 116, 101, 109, 115] : List UInt8)] : (List (List UInt8))) : Int))) (Guard.isF (ltB rfl) rfl rfl) rfl (ltB rfl) (fun hq_4 => op_lenL lb tu123 (HasO.cnd (.tmp rfl) (notT (notF hq_4)))) ?_
 obtain ⟨v_3, hv_3, hx1⟩ := lt1_inv hx1
 refine JL.cnd (sv := ov (S rB v_3)) (Guard.isF (ltB rfl) rfl rfl) rfl (ltB rfl) (fun hq_5 => op_cmpI lb (HasO.cnd (.tmp rfl) (notT (notF hq_5))) (HasO.cnd (.tmp rfl) (notT (notF hq_5))) (cs hv_3)) ?_
 obtain ⟨v_4, hv_4, hx1⟩ := lt1_inv hx1
 refine jc (op_pickCS lb (.tmp rfl) (fun hb6 => .cB) (fun hb6 => (HasO.cnd (.tmp rfl) (notT hb6))) hv_4) <| JL.nil ?_
 try obtain rfl := so hx1
 exact JQ.join () (Imp.norm (js := []) rfl (.cons rfl (.cons rfl (.cons rfl .nil))))

theorem sim_law11_known'4 (k : Nat) (r : Bool) (hm : law11_known'4 k = some r) : Sim Tryz.prog 9 [] [] (γ := Unit) (fun q => []) (fun q => .one (.val (S rB r))) := by
 unfold law11_known'4 at hm
 refine Sim.of Tryz.func9 rfl rfl (lE rfl) (fun e0 w0 => ?_)
 refine JC.at ⟨[], [], []⟩ ?_
 refine jr <| jc (op_assign lb .cB) <| jn <| jr <| jc (op_build lb tZ39 zr39 tp39 (.S (off := 0) rfl .cI rfl ((UpdR.fst (UpdR.self (by rfl))).at (by rfl)) (.S (off := 1) rfl .cI rfl ((UpdR.snd (UpdR.fst (UpdR.self (by rfl)))).at (by rfl)) (.S (off := 2) rfl .cI rfl ((UpdR.snd (UpdR.snd (UpdR.fst (UpdR.self (by rfl))))).at (by rfl)) .nil))) rfl) ?_
 obtain ⟨⟨v_1, v_2⟩, hv_1, hm⟩ := bnd_inv hm
 refine jx (op_call (js := []) ld cl10 (sim_frame_Bytes'4 k (api_Frame.mk (3 : Int) (1 : Int) (2 : Int) ([] : (List api_Item)) (api_Event.mk (api_Dot.mk (0 : Int) (0 : UInt64)) ([] : (List UInt8)) ([] : (List UInt8)) (Vector.replicate 16 (0 : UInt64)) ([] : (List api_Dest))) (Vector.replicate 16 (0 : UInt64)) (Vector.replicate 16 (0 : UInt64)) ([] : (List api_Dot)) ([] : (List api_Dot)) (Vector.replicate 32 (0 : UInt8)) ([] : (List (Vector UInt8 32))) ([] : (List Int)) false) (v_1, v_2) hv_1) .func (.cons (HasO.wk (q := A r_api_Frame (api_Frame.mk (3 : Int) (1 : Int) (2 : Int) ([] : (List api_Item)) (api_Event.mk (api_Dot.mk (0 : Int) (0 : UInt64)) ([] : (List UInt8)) ([] : (List UInt8)) (Vector.replicate 16 (0 : UInt64)) ([] : (List api_Dest))) (Vector.replicate 16 (0 : UInt64)) (Vector.replicate 16 (0 : UInt64)) ([] : (List api_Dot)) ([] : (List api_Dot)) (Vector.replicate 32 (0 : UInt8)) ([] : (List (Vector UInt8 32))) ([] : (List Int)) false)) (.tmp rfl) (wkAK (Wk.st (Wk.pair Wk.refl (Wk.pair Wk.refl (Wk.pair Wk.refl (Wk.pair Wk.nil (Wk.pair (Wk.st (Wk.pair Wk.refl (Wk.pair Wk.refl (Wk.pair Wk.nil (Wk.pair Wk.refl (Wk.pair Wk.nil Wk.refl)))))) (Wk.pair Wk.refl (Wk.pair Wk.refl (Wk.pair Wk.nil (Wk.pair Wk.nil (Wk.pair Wk.refl (Wk.pair Wk.nil (Wk.pair Wk.nil (Wk.pair Wk.refl Wk.refl)))))))))))))))) .nil) rfl) (fun q => ?_)
 obtain ⟨go_3, gc_4⟩ := q
 refine jmv rfl rfl <| jc (op_extract (i := 0) lb (.tmp rfl) rfl) <| jc (op_extract (i := 1) lb (.tmp rfl) rfl) <| jc (op_assign lb (.tmp rfl)) <| jc (op_assign lb (.tmp rfl)) ?_
 refine jn <| jr ?_
 obtain ⟨_, hv_u_5, hm⟩ := bnd_inv hm
 refine jx (op_call (js := []) ld cl15 (sim_frame_Of k () hv_u_5) .func (.cons (HasO.wk (q := S (rL (rU UInt8)) []) HasO.nilH wkNil) .nil) rfl) (fun _ => ?_)
 refine jmv rfl rfl ?_
 refine JL.sub ⟨[(1, ov (HDR go_3 0 (List.length v_1) gc_4)), (2, ov (S (rI .i64) v_2)), (10, .tup [.val (A r_api_Frame (api_Frame.mk (0 : Int) (0 : Int) (0 : Int) ([] : (List api_Item)) (api_Event.mk (api_Dot.mk (0 : Int) (0 : UInt64)) ([] : (List UInt8)) ([] : (List UInt8)) (Vector.replicate 16 (0 : UInt64)) ([] : (List api_Dest))) (Vector.replicate 16 (0 : UInt64)) (Vector.replicate 16 (0 : UInt64)) ([] : (List api_Dot)) ([] : (List api_Dot)) (Vector.replicate 32 (0 : UInt8)) ([] : (List (Vector UInt8 32))) ([] : (List Int)) false)), .val (S (rI .i64) (4 : Int))])], [cown go_3 (rU UInt8) v_1 (List.length v_1) gc_4], []⟩ (.cons rfl (.cons rfl (.cons rfl .nil))) rfl rfl ?_
 refine jc (op_extract (i := 0) lb (.tmp rfl) rfl) <| jc (op_extract (i := 1) lb (.tmp rfl) rfl) ?_
 refine jx (op_alloc lb tZ39 zr39) (fun gb_6 => ?_)
 refine jc (op_storeA (j := 1) tA39 (.tmp rfl) (.tmp rfl) rfl (UpdR.self (by rfl)) rfl) <| jc (op_assign lb (.tmp rfl)) <| jn ?_
 obtain ⟨x_27, hx1, hq1⟩ := bnd_inv hm
 refine JC.seqJ (γ := Unit) (stj := fun _ => ⟨[(0, ov (S rB x_27))], [], []⟩) (fun _ => ?_) ?_
 · refine JC.ret ?_
   obtain rfl := so hq1
   exact jd (.val (S rB x_27)) rfl rfl rfl rfl rfl rfl
 refine JC.region <| jmv rfl rfl ?_
 obtain ⟨_, hv_u_7, hx1⟩ := bnd_inv hx1
 refine jx (op_call (js := []) ld cl13 (sim_law11_num k v_2 () hv_u_7) .func (.cons (.tmp rfl) .nil) rfl) (fun _ => ?_)
 obtain ⟨v_8, hv_8, hx1⟩ := lt1_inv hx1
 refine jc (op_cmpI lb (.tmp rfl) .cI (cs hv_8)) ?_
 refine JL.nrm ⟨[(1, ov (HDR go_3 0 (List.length v_1) gc_4)), (4, ov (S (rI .i64) (4 : Int))), (16, ov (S rB v_8))], [cown go_3 (rU UInt8) v_1 (List.length v_1) gc_4], []⟩ [0] rfl (.cons rfl (.cons rfl (.cons rfl .nil))) rfl ?_
 refine jmv rfl rfl ?_
 rcases iteB_inv hx1 with ⟨hc3, hx1⟩ | ⟨hc3, hx1⟩
 · refine JL.run (.yes rfl (ltB rfl) rfl hc3) (op_move lb (.tmp rfl)) ?_
   refine JL.run (.yes rfl (ltB rfl) rfl hc3) (op_lenH lb tu27 (.tmp rfl)) ?_
   obtain ⟨v_9, hv_9, hx1⟩ := lt1_inv hx1
   refine JL.run (.yes rfl (ltB rfl) rfl hc3) (op_cmpI lb (.tmp rfl) .cI (cs hv_9)) ?_
   refine jc (op_pickT lb (.tmp rfl) hc3 (.tmp rfl)) <| jmv rfl rfl ?_
   rcases iteB_inv hx1 with ⟨hc5, hx1⟩ | ⟨hc5, hx1⟩
   · refine JL.run (.yes rfl (ltB rfl) rfl hc5) (op_move lb (.tmp rfl)) ?_
     obtain ⟨i_10, hv_i_10, hx1⟩ := bnd_inv hx1
     refine JL.run (.yes rfl (ltB rfl) rfl hc5) (op_indexAddrOF (r := (rU UInt8)) (j := 0) lb tu27 tz5 rfl (.tmp rfl) .cI hv_i_10) ?_
     obtain ⟨v_11, hv_11, hx1⟩ := bnd_inv hx1
     refine JL.run (.yes rfl (ltB rfl) rfl hc5) (op_loadOS (r := (rU UInt8)) (i := i_10) (off := 0) (j := 0) lb tS5 rfl rfl (.tmp rfl) hv_11 (Comp.self (rU UInt8) v_11) (by decide)) ?_
     obtain ⟨v_12, hv_12, hx1⟩ := lt1_inv hx1
     refine JL.run (.yes rfl (ltB rfl) rfl hc5) (op_cmpU lb (.tmp rfl) (HasO.cU (x := (3 : UInt8)) rfl (by decide)) (cs hv_12)) ?_
     refine jc (op_pickT lb (.tmp rfl) hc5 (.tmp rfl)) <| jmv rfl rfl ?_
     refine JL.sub ⟨[(1, ov (HDR go_3 0 (List.length v_1) gc_4)), (4, ov (S (rI .i64) (4 : Int))), (28, ov (S rB v_12))], [cown go_3 (rU UInt8) v_1 (List.length v_1) gc_4], []⟩ (.cons rfl (.cons rfl (.cons rfl .nil))) rfl rfl ?_
     rcases iteB_inv hx1 with ⟨hc7, hx1⟩ | ⟨hc7, hx1⟩
     · refine JL.run (.yes rfl (ltB rfl) rfl hc7) (op_move lb (.tmp rfl)) ?_
       obtain ⟨i_13, hv_i_13, hx1⟩ := bnd_inv hx1
       refine JL.run (.yes rfl (ltB rfl) rfl hc7) (op_indexAddrOF (r := (rU UInt8)) (j := 0) lb tu27 tz5 rfl (.tmp rfl) .cI hv_i_13) ?_
       obtain ⟨v_14, hv_14, hx1⟩ := bnd_inv hx1
       refine JL.run (.yes rfl (ltB rfl) rfl hc7) (op_loadOS (r := (rU UInt8)) (i := i_13) (off := 0) (j := 0) lb tS5 rfl rfl (.tmp rfl) hv_14 (Comp.self (rU UInt8) v_14) (by decide)) ?_
       obtain ⟨v_15, hv_15, hx1⟩ := lt1_inv hx1
       refine JL.run (.yes rfl (ltB rfl) rfl hc7) (op_cmpU lb (.tmp rfl) (HasO.cU (x := (1 : UInt8)) rfl (by decide)) (cs hv_15)) ?_
       refine jc (op_pickT lb (.tmp rfl) hc7 (.tmp rfl)) <| jmv rfl rfl ?_
       rcases iteB_inv hx1 with ⟨hc9, hx1⟩ | ⟨hc9, hx1⟩
       · refine JL.run (.yes rfl (ltB rfl) rfl hc9) (op_move lb (.tmp rfl)) ?_
         obtain ⟨i_16, hv_i_16, hx1⟩ := bnd_inv hx1
         refine JL.run (.yes rfl (ltB rfl) rfl hc9) (op_indexAddrOF (r := (rU UInt8)) (j := 0) lb tu27 tz5 rfl (.tmp rfl) .cI hv_i_16) ?_
         obtain ⟨v_17, hv_17, hx1⟩ := bnd_inv hx1
         refine JL.run (.yes rfl (ltB rfl) rfl hc9) (op_loadOS (r := (rU UInt8)) (i := i_16) (off := 0) (j := 0) lb tS5 rfl rfl (.tmp rfl) hv_17 (Comp.self (rU UInt8) v_17) (by decide)) ?_
         obtain ⟨v_18, hv_18, hx1⟩ := lt1_inv hx1
         refine JL.run (.yes rfl (ltB rfl) rfl hc9) (op_cmpU lb (.tmp rfl) (HasO.cU (x := (2 : UInt8)) rfl (by decide)) (cs hv_18)) ?_
         refine jc (op_pickT lb (.tmp rfl) hc9 (.tmp rfl)) <| jmv rfl rfl ?_
         refine JL.nrm ⟨[(4, ov (S (rI .i64) (4 : Int))), (40, ov (S rB v_18))], [], []⟩ [] rfl (.cons rfl (.cons rfl .nil)) rfl ?_
         refine JL.cnd (sv := ov (A zq0 zq30)) (Guard.isT (ltB rfl) rfl rfl) rfl (ltB rfl) (fun hq_10 => op_build lb tZ39 zr39 tp39 (.S (off := 0) rfl .cI rfl ((UpdR.fst (UpdR.self (by rfl))).at (by rfl)) (.S (off := 1) rfl .cI rfl ((UpdR.snd (UpdR.fst (UpdR.self (by rfl)))).at (by rfl)) (.S (off := 2) rfl .cI rfl ((UpdR.snd (UpdR.snd (UpdR.fst (UpdR.self (by rfl))))).at (by rfl)) .nil))) rfl) ?_
         obtain ⟨v_19, hv_19, hx1⟩ := bnd_inv hx1
         refine JL.cnd (sv := ov (S rB v_19)) (Guard.isT (ltB rfl) rfl rfl) rfl (ltB rfl) (fun hq_11 => (op_call (js := []) ld cl11 (sim_frame_May k (api_Frame.mk (5 : Int) (1 : Int) (1 : Int) ([] : (List api_Item)) (api_Event.mk (api_Dot.mk (0 : Int) (0 : UInt64)) ([] : (List UInt8)) ([] : (List UInt8)) (Vector.replicate 16 (0 : UInt64)) ([] : (List api_Dest))) (Vector.replicate 16 (0 : UInt64)) (Vector.replicate 16 (0 : UInt64)) ([] : (List api_Dot)) ([] : (List api_Dot)) (Vector.replicate 32 (0 : UInt8)) ([] : (List (Vector UInt8 32))) ([] : (List Int)) false) v_19 (ifT hv_19 hq_11)) .func (.cons (HasO.wk (q := A r_api_Frame (api_Frame.mk (5 : Int) (1 : Int) (1 : Int) ([] : (List api_Item)) (api_Event.mk (api_Dot.mk (0 : Int) (0 : UInt64)) ([] : (List UInt8)) ([] : (List UInt8)) (Vector.replicate 16 (0 : UInt64)) ([] : (List api_Dest))) (Vector.replicate 16 (0 : UInt64)) (Vector.replicate 16 (0 : UInt64)) ([] : (List api_Dot)) ([] : (List api_Dot)) (Vector.replicate 32 (0 : UInt8)) ([] : (List (Vector UInt8 32))) ([] : (List Int)) false)) (HasO.cnd (.tmp rfl) hq_11) (wkAK (Wk.st (Wk.pair Wk.refl (Wk.pair Wk.refl (Wk.pair Wk.refl (Wk.pair Wk.nil (Wk.pair (Wk.st (Wk.pair Wk.refl (Wk.pair Wk.refl (Wk.pair Wk.nil (Wk.pair Wk.refl (Wk.pair Wk.nil Wk.refl)))))) (Wk.pair Wk.refl (Wk.pair Wk.refl (Wk.pair Wk.nil (Wk.pair Wk.nil (Wk.pair Wk.refl (Wk.pair Wk.nil (Wk.pair Wk.nil (Wk.pair Wk.refl Wk.refl)))))))))))))))) .nil) rfl).post (fun _ => Imp.refl)) ?_
         obtain ⟨v_20, hv_20, hx1⟩ := lt1_inv hx1
         refine JL.cnd (sv := ov (S rB v_20)) (Guard.isT (ltB rfl) rfl rfl) rfl (ltB rfl) (fun hq_12 => op_not lb (HasO.cnd (.tmp rfl) hq_12) hv_20) ?_
         obtain ⟨v_21, hv_21, hx1⟩ := lt1_inv hx1
         refine jc (op_pickCS lb (.tmp rfl) (fun hb13 => (HasO.cnd (.tmp rfl) hb13)) (fun hb13 => .cB) hv_21) <| jmv rfl rfl ?_
         refine JL.cnd (sv := ov (S (rI .i64) (4 : Int))) (Guard.isT (ltB rfl) rfl rfl) rfl (ltB rfl) (fun hq_14 => op_move lb (.tmp rfl)) ?_
         obtain ⟨_, hv_u_22, hx1⟩ := bnd_inv hx1
         refine JL.cnd (sv := ov (S (rI .i64) (4 : Int))) (Guard.isT (ltB rfl) rfl rfl) rfl (ltB rfl) (fun hq_15 => (op_call (js := []) ld cl13 (sim_law11_num k (4 : Int) () (ifT hv_u_22 hq_15)) .func (.cons (HasO.cnd (.tmp rfl) hq_15) .nil) rfl).post (fun _ => Imp.refl)) ?_
         refine JL.cnd (sv := ov (S rB true)) (Guard.isT (ltB rfl) rfl rfl) rfl (ltB rfl) (fun hq_16 => op_cmpI lb (HasO.cnd (.tmp rfl) hq_16) .cI (cs (by decide : ((4 : Int) == (4 : Int)) = true))) ?_
         obtain ⟨v_23, hv_23, hx1⟩ := lt1_inv hx1
         refine jc (op_pickCS lb (.tmp rfl) (fun hb17 => (HasO.cnd (.tmp rfl) hb17)) (fun hb17 => .cB) hv_23) <| jmv rfl rfl ?_
         obtain ⟨v_24, hv_24, hx1⟩ := bnd_inv hx1
         refine JL.cnd (sv := ov (S rS v_24)) (Guard.isT (ltB rfl) rfl rfl) rfl (ltB rfl) (fun hq_18 => (op_call (js := []) ld cl24 (sim_frame_Name k (7 : Int) v_24 (ifT hv_24 hq_18)) .func (.cons .cI .nil) rfl).post (fun _ => Imp.refl)) ?_
         obtain ⟨v_25, hv_25, hx1⟩ := lt1_inv hx1
         refine JL.cnd (sv := ov (S rB v_25)) (Guard.isT (ltB rfl) rfl rfl) rfl (ltB rfl) (fun hq_19 => op_cmpS lb (HasO.cnd (.tmp rfl) hq_19) (HasO.cS (l := [105, 116, 101, 109, 115]) rfl) (cs hv_25)) ?_
         refine JL.sub ⟨[(50, ov (S rB v_23)), (52, bif v_23 then ov (S rB v_25) else .one .und)], [], []⟩ (.cons rfl (.cons rfl .nil)) rfl rfl ?_
         obtain ⟨v_26, hv_26, hx1⟩ := lt1_inv hx1
         refine jc (op_pickCS lb (.tmp rfl) (fun hb20 => (HasO.cnd (.tmp rfl) hb20)) (fun hb20 => .cB) hv_26) <| jc (op_assign lb (.tmp rfl)) <| JL.nil ?_
         try obtain rfl := so hx1
         exact jo rfl rfl rfl
       refine jk rfl hc9 <| jk rfl hc9 <| jk rfl hc9 <| jk rfl hc9 <| jc (op_pickF lb (.tmp rfl) hc9 .cB) ?_
       refine jmv rfl rfl <| jk rfl rfl <| jk rfl rfl <| jk rfl rfl <| jc (op_pickF lb (.tmp rfl) rfl .cB) ?_
       refine jmv rfl rfl <| jk rfl rfl <| jk rfl rfl <| jk rfl rfl <| jc (op_pickF lb (.tmp rfl) rfl .cB) ?_
       refine jmv rfl rfl ?_
       refine JL.nrm ⟨[(50, ov (S rB false))], [], []⟩ [] rfl (.cons rfl .nil) rfl ?_
       refine jk rfl rfl <| jk rfl rfl <| jc (op_pickF lb (.tmp rfl) rfl .cB) <| jc (op_assign lb (.tmp rfl)) <| JL.nil ?_
       try obtain rfl := so hx1
       exact jo rfl rfl rfl
     refine jk rfl hc7 <| jk rfl hc7 <| jk rfl hc7 <| jk rfl hc7 <| jc (op_pickF lb (.tmp rfl) hc7 .cB) ?_
     refine jmv rfl rfl <| jk rfl rfl <| jk rfl rfl <| jk rfl rfl <| jk rfl rfl ?_
     refine jc (op_pickF lb (.tmp rfl) rfl .cB) <| jmv rfl rfl <| jk rfl rfl <| jk rfl rfl <| jk rfl rfl ?_
     refine jc (op_pickF lb (.tmp rfl) rfl .cB) <| jmv rfl rfl <| jk rfl rfl <| jk rfl rfl <| jk rfl rfl ?_
     refine jc (op_pickF lb (.tmp rfl) rfl .cB) <| jmv rfl rfl <| jk rfl rfl <| jk rfl rfl <| jc (op_pickF lb (.tmp rfl) rfl .cB) ?_
     refine jc (op_assign lb (.tmp rfl)) <| JL.nil ?_
     try obtain rfl := so hx1
     exact jo rfl rfl rfl
   refine jk rfl hc5 <| jk rfl hc5 <| jk rfl hc5 <| jk rfl hc5 <| jc (op_pickF lb (.tmp rfl) hc5 .cB) ?_
   refine jmv rfl rfl <| jk rfl rfl <| jk rfl rfl <| jk rfl rfl <| jk rfl rfl ?_
   refine jc (op_pickF lb (.tmp rfl) rfl .cB) <| jmv rfl rfl <| jk rfl rfl <| jk rfl rfl <| jk rfl rfl ?_
   refine jk rfl rfl <| jc (op_pickF lb (.tmp rfl) rfl .cB) <| jmv rfl rfl ?_
   refine JL.nrm ⟨[(4, ov (S (rI .i64) (4 : Int))), (40, ov (S rB false))], [], []⟩ [] rfl (.cons rfl (.cons rfl .nil)) rfl ?_
   refine jk rfl rfl <| jk rfl rfl <| jk rfl rfl <| jc (op_pickF lb (.tmp rfl) rfl .cB) <| jmv rfl rfl ?_
   refine jk rfl rfl <| jk rfl rfl <| jk rfl rfl <| jc (op_pickF lb (.tmp rfl) rfl .cB) <| jmv rfl rfl ?_
   refine jk rfl rfl <| jk rfl rfl <| jc (op_pickF lb (.tmp rfl) rfl .cB) <| jc (op_assign lb (.tmp rfl)) <| JL.nil ?_
   try obtain rfl := so hx1
   exact jo rfl rfl rfl
 refine jk rfl hc3 <| jk rfl hc3 <| jk rfl hc3 <| jc (op_pickF lb (.tmp rfl) hc3 .cB) <| jmv rfl rfl ?_
 refine jk rfl rfl <| jk rfl rfl <| jk rfl rfl <| jk rfl rfl <| jc (op_pickF lb (.tmp rfl) rfl .cB) ?_
 refine jmv rfl rfl <| jk rfl rfl <| jk rfl rfl <| jk rfl rfl <| jk rfl rfl ?_
 refine jc (op_pickF lb (.tmp rfl) rfl .cB) <| jmv rfl rfl <| jk rfl rfl <| jk rfl rfl <| jk rfl rfl ?_
 refine jk rfl rfl <| jc (op_pickF lb (.tmp rfl) rfl .cB) <| jmv rfl rfl <| jk rfl rfl <| jk rfl rfl ?_
 refine jk rfl rfl <| jc (op_pickF lb (.tmp rfl) rfl .cB) <| jmv rfl rfl <| jk rfl rfl <| jk rfl rfl ?_
 refine jk rfl rfl <| jc (op_pickF lb (.tmp rfl) rfl .cB) ?_
 refine JL.nrm ⟨[(49, ov (S rB false))], [], []⟩ [] rfl (.cons rfl .nil) rfl ?_
 refine jmv rfl rfl <| jk rfl rfl <| jk rfl rfl <| jc (op_pickF lb (.tmp rfl) rfl .cB) <| jc (op_assign lb (.tmp rfl)) ?_
 refine JL.nil ?_
 try obtain rfl := so hx1
 exact jo rfl rfl rfl

theorem sim_ref09_MayDot (k : Nat) (d_1 : api_Dot) (r : Bool) (hm : ref09_MayDot k d_1 = some r) : Sim Tryz.prog 41 [A r_api_Dot d_1] [] (γ := Unit) (fun q => []) (fun q => .one (.val (S rB r))) := by
 unfold ref09_MayDot at hm
 refine Sim.of Tryz.func41 rfl rfl (lE rfl) (fun e0 w0 => ?_)
 refine JC.at ⟨[(0, ov (A r_api_Dot d_1))], [], []⟩ ?_
 refine jr ?_
 refine jx (op_boxA lb (.tmp rfl)) (fun gb_2 => ?_)
 refine jc (op_assign lb .cB) <| jn ?_
 obtain ⟨x_7, hx1, hq1⟩ := bnd_inv hm
 refine JC.seqJ (γ := Unit) (stj := fun _ => ⟨[(2, ov (S rB x_7))], [], []⟩) (fun _ => ?_) ?_
 · refine JC.ret ?_
   obtain rfl := so hq1
   exact jd (.val (S rB x_7)) rfl rfl rfl rfl rfl rfl
 refine JC.region <| jc (op_fieldAddr (off := 0) lb tf26_0 (.tmp rfl)) <| jc (op_loadS (j := 0) lb tS3 (.tmp rfl) rfl (cT (comp_api_Dot_Region d_1) rfl) rfl rfl) ?_
 obtain ⟨v_3, hv_3, hx1⟩ := lt1_inv hx1
 refine jc (op_cmpI lb (.tmp rfl) .cI (cs hv_3)) <| jmv rfl rfl ?_
 rcases iteB_inv hx1 with ⟨hc3, hx1⟩ | ⟨hc3, hx1⟩
 · refine JL.run (.yes rfl (ltB rfl) rfl hc3) (op_fieldAddr (off := 0) lb tf26_0 (.tmp rfl)) ?_
   refine JL.run (.yes rfl (ltB rfl) rfl hc3) (op_loadS (j := 0) lb tS3 (.tmp rfl) rfl (cT (comp_api_Dot_Region d_1) rfl) rfl rfl) ?_
   obtain ⟨v_4, hv_4, hx1⟩ := lt1_inv hx1
   refine JL.run (.yes rfl (ltB rfl) rfl hc3) (op_cmpI lb (.tmp rfl) .cI (cs hv_4)) ?_
   refine jc (op_pickT lb (.tmp rfl) hc3 (.tmp rfl)) ?_
   refine JL.sub ⟨[(1, ov (PTR gb_2 0)), (2, ov (S rB false)), (10, ov (S rB v_4))], [cvar gb_2 r_api_Dot d_1], []⟩ (.cons rfl (.cons rfl (.cons rfl .nil))) rfl rfl ?_
   refine jmv rfl rfl ?_
   rcases iteB_inv hx1 with ⟨hc5, hx1⟩ | ⟨hc5, hx1⟩
   · refine JL.run (.yes rfl (ltB rfl) rfl hc5) (op_fieldAddr (off := 1) lb tf26_1 (.tmp rfl)) ?_
     refine JL.run (.yes rfl (ltB rfl) rfl hc5) (op_loadS (j := 0) lb tS24 (.tmp rfl) rfl (cT (comp_api_Dot_Count d_1) rfl) rfl rfl) ?_
     obtain ⟨v_5, hv_5, hx1⟩ := lt1_inv hx1
     refine JL.run (.yes rfl (ltB rfl) rfl hc5) (op_cmpU lb (.tmp rfl) (HasO.cU (x := (1 : UInt64)) rfl (by decide)) (cs hv_5)) ?_
     refine jc (op_pickT lb (.tmp rfl) hc5 (.tmp rfl)) <| jmv rfl rfl ?_
     rcases iteB_inv hx1 with ⟨hc7, hx1⟩ | ⟨hc7, hx1⟩
     · refine JL.run (.yes rfl (ltB rfl) rfl hc7) (op_fieldAddr (off := 1) lb tf26_1 (.tmp rfl)) ?_
       refine JL.run (.yes rfl (ltB rfl) rfl hc7) (op_loadS (j := 0) lb tS24 (.tmp rfl) rfl (cT (comp_api_Dot_Count d_1) rfl) rfl rfl) ?_
       obtain ⟨v_6, hv_6, hx1⟩ := lt1_inv hx1
       refine JL.run (.yes rfl (ltB rfl) rfl hc7) (op_cmpU lb (.tmp rfl) (HasO.cU (x := (4611686018427387904 : UInt64)) rfl (by decide)) (cs hv_6)) ?_
       refine jc (op_pickT lb (.tmp rfl) hc7 (.tmp rfl)) <| jc (op_assign lb (.tmp rfl)) <| JL.nil ?_
       try obtain rfl := so hx1
       exact jo rfl rfl rfl
     refine jk rfl hc7 <| jk rfl hc7 <| jk rfl hc7 <| jc (op_pickF lb (.tmp rfl) hc7 .cB) <| jc (op_assign lb (.tmp rfl)) ?_
     refine JL.nil ?_
     try obtain rfl := so hx1
     exact jo rfl rfl rfl
   refine jk rfl hc5 <| jk rfl hc5 <| jk rfl hc5 <| jc (op_pickF lb (.tmp rfl) hc5 .cB) <| jmv rfl rfl ?_
   refine jk rfl rfl <| jk rfl rfl <| jk rfl rfl <| jc (op_pickF lb (.tmp rfl) rfl .cB) <| jc (op_assign lb (.tmp rfl)) ?_
   refine JL.nil ?_
   try obtain rfl := so hx1
   exact jo rfl rfl rfl
 refine jk rfl hc3 <| jk rfl hc3 <| jk rfl hc3 <| jc (op_pickF lb (.tmp rfl) hc3 .cB) <| jmv rfl rfl ?_
 refine jk rfl rfl <| jk rfl rfl <| jk rfl rfl <| jc (op_pickF lb (.tmp rfl) rfl .cB) <| jmv rfl rfl ?_
 refine JL.sub ⟨[(1, ov (PTR gb_2 0)), (2, ov (S rB false)), (16, ov (S rB false))], [cvar gb_2 r_api_Dot d_1], []⟩ (.cons rfl (.cons rfl (.cons rfl .nil))) rfl rfl ?_
 refine jk rfl rfl <| jk rfl rfl <| jk rfl rfl <| jc (op_pickF lb (.tmp rfl) rfl .cB) <| jc (op_assign lb (.tmp rfl)) ?_
 refine JL.nil ?_
 try obtain rfl := so hx1
 exact jo rfl rfl rfl

theorem sim_ref09_MayName (k : Nat) (s_1 : (List UInt8)) (r : Bool) (hm : ref09_MayName k s_1 = some r) : Sim Tryz.prog 72 [S rS s_1] [] (γ := Unit) (fun q => []) (fun q => .one (.val (S rB r))) := by
 unfold ref09_MayName at hm
 refine Sim.of Tryz.func72 rfl rfl (lE rfl) (fun e0 w0 => ?_)
 refine JC.at ⟨[(0, ov (S rS s_1))], [], []⟩ ?_
 refine jr <| jc (op_assign lb .cB) <| jn ?_
 obtain ⟨x_5, hx1, hq1⟩ := bnd_inv hm
 refine JC.seqJ (γ := Unit) (stj := fun _ => ⟨[(2, ov (S rB x_5))], [], []⟩) (fun _ => ?_) ?_
 · refine JC.ret ?_
   obtain rfl := so hq1
   exact jd (.val (S rB x_5)) rfl rfl rfl rfl rfl rfl
 refine JC.region <| jmv rfl rfl <| jc (op_lenS lb tu9 (.tmp rfl)) ?_
 obtain ⟨v_2, hv_2, hx1⟩ := lt1_inv hx1
 refine jc (op_cmpI lb (.tmp rfl) .cI (cs hv_2)) <| jmv rfl rfl ?_
 refine JL.cnd (sv := ov (S rS s_1)) (Guard.isT (ltB rfl) rfl rfl) rfl (ltB rfl) (fun hq_2 => op_move lb (.tmp rfl)) ?_
 refine JL.cnd (sv := ov (S (rI .i64) (List.length s_1 : Int))) (Guard.isT (ltB rfl) rfl rfl) rfl (ltB rfl) (fun hq_3 => op_lenS lb tu9 (HasO.cnd (.tmp rfl) hq_3)) ?_
 obtain ⟨v_3, hv_3, hx1⟩ := lt1_inv hx1
 refine JL.cnd (sv := ov (S rB v_3)) (Guard.isT (ltB rfl) rfl rfl) rfl (ltB rfl) (fun hq_4 => op_cmpI lb (HasO.cnd (.tmp rfl) hq_4) .cI (cs hv_3)) ?_
 obtain ⟨v_4, hv_4, hx1⟩ := lt1_inv hx1
 refine jc (op_pickCS lb (.tmp rfl) (fun hb5 => (HasO.cnd (.tmp rfl) hb5)) (fun hb5 => .cB) hv_4) <| jc (op_assign lb (.tmp rfl)) <| JL.nil ?_
 try obtain rfl := so hx1
 exact jo rfl rfl rfl

theorem sim_ref11_MayItem (k : Nat) (i_1 : api_Item) (r : Bool) (hm : ref11_MayItem k i_1 = some r) : Sim Tryz.prog 21 [A r_api_Item i_1] [] (γ := Unit) (fun q => []) (fun q => .one (.val (S rB r))) := by
 unfold ref11_MayItem at hm
 refine Sim.of Tryz.func21 rfl rfl (lE rfl) (fun e0 w0 => ?_)
 refine JC.at ⟨[(0, ov (A r_api_Item i_1))], [], []⟩ ?_
 refine jr ?_
 refine jx (op_boxA lb (.tmp rfl)) (fun gb_2 => ?_)
 refine jc (op_assign lb .cB) <| jn <| JC.seq <| jr <| jc (op_fieldAddr (off := 0) lb tf62_0 (.tmp rfl)) ?_
 refine jc (op_loadA (j := 0) lb tA26 (.tmp rfl) rfl (cT (comp_api_Item_Dot i_1) rfl) rfl) ?_
 obtain ⟨v_3, hv_3, hm⟩ := bnd_inv hm
 refine jx (op_call (js := []) ld cl41 (sim_ref09_MayDot k i_1.Dot v_3 hv_3) .func (.cons (.tmp rfl) .nil) rfl) (fun _ => ?_)
 obtain ⟨v_4, hv_4, hm⟩ := lt1_inv hm
 refine jc (op_not lb (.tmp rfl) hv_4) <| jn ?_
 rcases iteB_inv hm with ⟨hc1, hm⟩ | ⟨hc1, hm⟩
 · refine JC.condT (.tmp rfl) hc1 ?_
   refine jr <| jc (op_assign lb .cB) <| jn ?_
   refine JC.ret ?_
   refine JQ.outR ?_
   obtain rfl := so hm
   exact jd (.val (S rB false)) rfl rfl rfl rfl rfl rfl
 refine JC.condF (.tmp rfl) hc1 ?_
 refine JC.skip ?_
 refine JQ.then <| JC.seq <| jr <| jc (op_fieldAddr (off := 4) lb tf62_2 (.tmp rfl)) <| jc (op_loadS (j := 0) lb tS4 (.tmp rfl) rfl (cT (comp_api_Item_Gone i_1) rfl) rfl rfl) ?_
 refine jn ?_
 rcases iteB_inv hm with ⟨hc2, hm⟩ | ⟨hc2, hm⟩
 · refine JC.condT (.tmp rfl) hc2 ?_
   obtain ⟨x_7, hx3, hq3⟩ := bnd_inv hm
   refine JC.seqJ (γ := Unit) (stj := fun _ => ⟨[(2, ov (S rB x_7))], [], []⟩) (fun _ => ?_) ?_
   · refine JC.ret ?_
     refine JQ.outR ?_
     obtain rfl := so hq3
     exact jd (.val (S rB x_7)) rfl rfl rfl rfl rfl rfl
   refine JC.region <| jc (op_fieldAddr (off := 2) lb tf62_1 (.tmp rfl)) <| jc (op_fieldAddr (off := 0) lb tf60_0 (.tmp rfl)) ?_
   refine JL.sub ⟨[(1, ov (PTR gb_2 0)), (2, ov (S rB false)), (10, ov (PTR gb_2 ((0 + 2) + 0)))], [cvar gb_2 r_api_Item i_1], []⟩ (.cons rfl (.cons rfl (.cons rfl .nil))) rfl rfl ?_
   refine jc (op_loadS (j := 0) lb tS9 (.tmp rfl) rfl (Comp.trans (cT (comp_api_Item_Key i_1) rfl) (comp_api_Key_Topic i_1.Key) (lE rfl)) rfl rfl) ?_
   obtain ⟨v_5, hv_5, hx3⟩ := lt1_inv hx3
   refine jc (op_cmpS lb (.tmp rfl) (HasO.cS (l := []) rfl) (cs hv_5)) <| jmv rfl rfl ?_
   rcases iteB_inv hx3 with ⟨hc5, hx3⟩ | ⟨hc5, hx3⟩
   · refine JL.run (.yes rfl (ltB rfl) rfl hc5) (op_fieldAddr (off := 2) lb tf62_1 (.tmp rfl)) ?_
     refine JL.run (.yes rfl (ltB rfl) rfl hc5) (op_fieldAddr (off := 1) lb tf60_1 (.tmp rfl)) ?_
     refine JL.run (.yes rfl (ltB rfl) rfl hc5) (op_loadS (j := 0) lb tS9 (.tmp rfl) rfl (Comp.trans (cT (comp_api_Item_Key i_1) rfl) (comp_api_Key_Device i_1.Key) (lE rfl)) rfl rfl) ?_
     obtain ⟨v_6, hv_6, hx3⟩ := lt1_inv hx3
     refine JL.run (.yes rfl (ltB rfl) rfl hc5) (op_cmpS lb (.tmp rfl) (HasO.cS (l := []) rfl) (cs hv_6)) ?_
     refine jc (op_pickT lb (.tmp rfl) hc5 (.tmp rfl)) <| jc (op_assign lb (.tmp rfl)) <| JL.nil ?_
     try obtain rfl := so hx3
     exact jo rfl rfl rfl
   refine jk rfl hc5 <| jk rfl hc5 <| jk rfl hc5 <| jk rfl hc5 <| jc (op_pickF lb (.tmp rfl) hc5 .cB) ?_
   refine jc (op_assign lb (.tmp rfl)) <| JL.nil ?_
   try obtain rfl := so hx3
   exact jo rfl rfl rfl
 refine JC.condF (.tmp rfl) hc2 ?_
 refine JC.skip ?_
 refine JQ.then ?_
 obtain ⟨x_10, hx6, hq6⟩ := bnd_inv hm
 refine JC.seqJ (γ := Unit) (stj := fun _ => ⟨[(2, ov (S rB x_10))], [], []⟩) (fun _ => ?_) ?_
 · refine JC.ret ?_
   obtain rfl := so hq6
   exact jd (.val (S rB x_10)) rfl rfl rfl rfl rfl rfl
 refine JC.region <| jc (op_fieldAddr (off := 2) lb tf62_1 (.tmp rfl)) <| jc (op_fieldAddr (off := 0) lb tf60_0 (.tmp rfl)) ?_
 refine JL.sub ⟨[(1, ov (PTR gb_2 0)), (2, ov (S rB false)), (20, ov (PTR gb_2 ((0 + 2) + 0)))], [cvar gb_2 r_api_Item i_1], []⟩ (.cons rfl (.cons rfl (.cons rfl .nil))) rfl rfl ?_
 refine jc (op_loadS (j := 0) lb tS9 (.tmp rfl) rfl (Comp.trans (cT (comp_api_Item_Key i_1) rfl) (comp_api_Key_Topic i_1.Key) (lE rfl)) rfl rfl) ?_
 obtain ⟨v_8, hv_8, hx6⟩ := bnd_inv hx6
 refine jx (op_call (js := []) ld cl72 (sim_ref09_MayName k i_1.Key.Topic v_8 hv_8) .func (.cons (.tmp rfl) .nil) rfl) (fun _ => ?_)
 refine jmv rfl rfl ?_
 rcases iteB_inv hx6 with ⟨hc8, hx6⟩ | ⟨hc8, hx6⟩
 · refine JL.run (.yes rfl (ltB rfl) rfl hc8) (op_fieldAddr (off := 2) lb tf62_1 (.tmp rfl)) ?_
   refine JL.run (.yes rfl (ltB rfl) rfl hc8) (op_fieldAddr (off := 1) lb tf60_1 (.tmp rfl)) ?_
   refine JL.run (.yes rfl (ltB rfl) rfl hc8) (op_loadS (j := 0) lb tS9 (.tmp rfl) rfl (Comp.trans (cT (comp_api_Item_Key i_1) rfl) (comp_api_Key_Device i_1.Key) (lE rfl)) rfl rfl) ?_
   obtain ⟨v_9, hv_9, hx6⟩ := bnd_inv hx6
   refine JL.runX (.yes rfl (ltB rfl) rfl hc8) (op_call (js := []) ld cl72 (sim_ref09_MayName k i_1.Key.Device v_9 hv_9) .func (.cons (.tmp rfl) .nil) rfl) (fun _ => ?_)
   refine jc (op_pickT lb (.tmp rfl) hc8 (.tmp rfl)) <| jc (op_assign lb (.tmp rfl)) <| JL.nil ?_
   try obtain rfl := so hx6
   exact jo rfl rfl rfl
 refine jk rfl hc8 <| jk rfl hc8 <| jk rfl hc8 <| jk rfl hc8 <| jc (op_pickF lb (.tmp rfl) hc8 .cB) ?_
 refine jc (op_assign lb (.tmp rfl)) <| JL.nil ?_
 try obtain rfl := so hx6
 exact jo rfl rfl rfl

theorem sim_frame_ItemBytes_1 (k : Nat) (i_1 : api_Item) (r : Bool) (hm : frame_ItemBytes_1 k i_1 = some r) : Sim Tryz.prog 74 [A r_api_Item i_1] [] (γ := Unit) (fun q => []) (fun q => .one (.val (S rB r))) := by
 unfold frame_ItemBytes_1 at hm
 refine Sim.of Tryz.func74 rfl rfl (lE rfl) (fun e0 w0 => ?_)
 refine JC.at ⟨[(0, ov (A r_api_Item i_1))], [], []⟩ ?_
 refine jr ?_
 refine jx (op_boxA lb (.tmp rfl)) (fun gb_2 => ?_)
 refine jc (op_assign lb .cB) <| jn <| jr <| jc (op_loadA (j := 0) lb tA62 (.tmp rfl) rfl (Comp.self r_api_Item i_1) rfl) ?_
 obtain ⟨v_3, hv_3, hm⟩ := bnd_inv hm
 refine jx (op_call (js := []) ld cl20 (sim_frame_MayItem k i_1 v_3 hv_3) .func (.cons (.tmp rfl) .nil) rfl) (fun _ => ?_)
 obtain ⟨v_4, hv_4, hm⟩ := lt1_inv hm
 refine jc (op_not lb (.tmp rfl) hv_4) <| jc (op_assign lb (.tmp rfl)) <| jn ?_
 refine JC.ret ?_
 obtain rfl := so hm
 exact jd (.val (S rB v_4)) rfl rfl rfl rfl rfl rfl

theorem sim_slices_IndexFuncapi_Item_api_Item'2 (k : Nat) (s_1 : (List api_Item)) (r : Int) (hm : slices_IndexFuncapi_Item_api_Item'2 k s_1 = some r) : Sim Tryz.prog 111 [S (rL r_api_Item) s_1, CLO 74 []] [] (γ := Unit) (fun q => []) (fun q => .one (.val (S (rI .i64) r))) := by
 unfold slices_IndexFuncapi_Item_api_Item'2 at hm
 refine Sim.of Tryz.func111 rfl rfl (lE rfl) (fun e0 w0 => ?_)
 refine JC.at ⟨[(0, ov (S (rL r_api_Item) s_1)), (1, ov (CLO 74 []))], [], []⟩ ?_
 refine jr <| jc (op_assign lb .cI) <| jn ?_
 obtain ⟨tv1, hx1, hq1⟩ := bnd_inv hm
 refine JC.seqK (α := Unit) (γ := Unit) (stj := fun v q => ⟨[], [], []⟩) (p := fun v => tv1 = (.inl v)) (fun v q hv => ?_) ?_
 · subst hv
   skip
   obtain _ := q
   dsimp only at hq1
   refine JC.at ⟨[], [], []⟩ ?_
   refine jr <| jc (op_assign lb .cI) <| jn ?_
   refine JC.ret ?_
   obtain rfl := so hq1
   exact jd (.val (S (rI .i64) (-1 : Int))) rfl rfl rfl rfl rfl rfl
 refine jr <| jmv rfl rfl <| jc (op_lenL lb tu23 (.tmp rfl)) <| jc (op_move lb .cI) <| jn ?_
 refine JC.block ?_
 obtain ⟨tv2, hL2, hq2⟩ := bnd_inv hx1
 refine JC.pre ?_ (JC.loop (γ := Unit) (stf := fun s q => ⟨[(0, ov (S (rL r_api_Item) s_1)), (1, ov (CLO 74 [])), (7, ov (S (rI .i64) (List.length s_1 : Int))), (8, ov (S (rI .i64) s))], [], []⟩) (q := ()) hL2 ?_)
 · exact (Imp.norm (js := []) rfl (.cons rfl (.cons rfl (.cons rfl (.cons rfl .nil)))))
 intro x_2 q x hx hr
 obtain _ := q
 change slices_IndexFuncapi_Item_api_Item'2.b1 k s_1 x_2 = some x at hx
 unfold slices_IndexFuncapi_Item_api_Item'2.b1 at hx
 refine JC.at ⟨[(0, ov (S (rL r_api_Item) s_1)), (1, ov (CLO 74 [])), (7, ov (S (rI .i64) (List.length s_1 : Int))), (8, ov (S (rI .i64) x_2))], [], []⟩ ?_
 refine jr ?_
 obtain ⟨v_3, hv_3, hx⟩ := lt1_inv hx
 refine jc (op_cmpI lb (.tmp rfl) (.tmp rfl) (cs hv_3)) <| jn <| JC.seq ?_
 rcases iteB_inv hx with ⟨hc3, hx⟩ | ⟨hc3, hx⟩
 · refine JC.condT (.tmp rfl) hc3 ?_
   refine JC.skip ?_
   refine JQ.then <| JC.seq <| JC.block <| jr <| jmv rfl rfl ?_
   refine jc (op_assign lb (.tmp rfl)) <| jn <| jr <| jmv rfl rfl <| jmv rfl rfl ?_
   refine jmv rfl rfl ?_
   obtain ⟨v_4, hv_4, hx⟩ := bnd_inv hx
   refine jc (op_indexAddrLg lb tu23 tz62 (.tmp rfl) (.tmp rfl) hv_4) <| jc (op_loadPAg lb tA62 (.tmp rfl) rfl) ?_
   obtain ⟨v_5, hv_5, hx⟩ := bnd_inv hx
   refine jx (op_call (js := []) ld cl74 (sim_frame_ItemBytes_1 k v_4 v_5 hv_5) (.tmp rfl) (.cons (.tmp rfl) .nil) rfl) (fun _ => ?_)
   refine jn ?_
   rcases iteB_inv hx with ⟨hc4, hx⟩ | ⟨hc4, hx⟩
   · refine JC.condT (.tmp rfl) hc4 ?_
     refine jr <| jmv rfl rfl <| jc (op_assign lb (.tmp rfl)) <| jn ?_
     refine JC.ret ?_
     refine JQ.outRB ?_
     refine JQ.outR ?_
     try obtain rfl := so hx
     have ht := hr _ rfl
     clear hr
     first | subst ht | clear ht
     dsimp only at hq2
     refine JQ.outR ?_
     refine JQ.outRB ?_
     try obtain rfl := so hq2
     dsimp only at hq1
     refine JQ.outR ?_
     obtain rfl := so hq1
     exact jd (.val (S (rI .i64) x_2)) rfl rfl rfl rfl rfl rfl
   refine JC.condF (.tmp rfl) hc4 ?_
   refine JC.skip ?_
   refine JQ.outNB ?_
   refine JQ.then <| JC.region ?_
   obtain ⟨v_6, hv_6, hx⟩ := lt1_inv hx
   refine jc (op_arI lb (.tmp rfl) .cI (cs hv_6)) <| jmv rfl rfl <| JL.nil ?_
   try obtain rfl := so hx
   exact JQ.next () rfl (Imp.norm (js := []) rfl (.cons rfl (.cons rfl (.cons rfl (.cons rfl .nil)))))
 refine JC.condF (.tmp rfl) hc3 ?_
 refine JC.exit ?_
 refine JQ.outX ?_
 try obtain rfl := so hx
 have ht := hr _ rfl
 clear hr
 first | subst ht | clear ht
 dsimp only at hq2
 refine JQ.outX ?_
 refine JQ.here ?_
 try obtain rfl := so hq2
 exact JQ.joinK () () rfl (Imp.norm (js := []) rfl .nil)

theorem sim_slices_ContainsFuncapi_Item_api_Item'2 (k : Nat) (s_1 : (List api_Item)) (r : Bool) (hm : slices_ContainsFuncapi_Item_api_Item'2 k s_1 = some r) : Sim Tryz.prog 73 [S (rL r_api_Item) s_1, CLO 74 []] [] (γ := Unit) (fun q => []) (fun q => .one (.val (S rB r))) := by
 unfold slices_ContainsFuncapi_Item_api_Item'2 at hm
 refine Sim.of Tryz.func73 rfl rfl (lE rfl) (fun e0 w0 => ?_)
 refine JC.at ⟨[(0, ov (S (rL r_api_Item) s_1)), (1, ov (CLO 74 []))], [], []⟩ ?_
 refine jr <| jc (op_assign lb .cB) <| jn <| jr <| jmv rfl rfl ?_
 refine jmv rfl rfl ?_
 obtain ⟨v_2, hv_2, hm⟩ := bnd_inv hm
 refine jx (op_call (js := []) ld cl111 (sim_slices_IndexFuncapi_Item_api_Item'2 k s_1 v_2 hv_2) .func (.cons (.tmp rfl) (.cons (.tmp rfl) .nil)) rfl) (fun _ => ?_)
 obtain ⟨v_3, hv_3, hm⟩ := lt1_inv hm
 refine jc (op_cmpI lb (.tmp rfl) .cI (cs hv_3)) <| jc (op_assign lb (.tmp rfl)) <| jn ?_
 refine JC.ret ?_
 obtain rfl := so hm
 exact jd (.val (S rB v_3)) rfl rfl rfl rfl rfl rfl

theorem sim_frame_writer_put'4 (k : Nat) (b_1 : (List UInt8)) (v_2 : Int) (gb_3 : Nat) (r : (List UInt8)) (hm : frame_writer_put'4 k b_1 v_2 = some r) : Sim Tryz.prog 78 [PTR gb_3 0, S (rL (rU UInt8)) b_1, S (rI .i64) v_2] [cvar gb_3 (rP (rW (HDR none 0 0 0)) r0) ((), ())] (γ := Option Nat × Nat) (fun q => [cvar gb_3 (rP (rW (HDR q.1 0 (List.length r) q.2)) r0) ((), ()), cown q.1 (rU UInt8) r 0 q.2]) (fun q => .tup []) := by
 unfold frame_writer_put'4 at hm
 refine Sim.of Tryz.func78 rfl rfl (lE rfl) (fun e0 w0 => ?_)
 refine JC.at ⟨[(0, ov (PTR gb_3 0)), (1, ov (S (rL (rU UInt8)) b_1)), (2, ov (S (rI .i64) v_2))], [cvar gb_3 (rP (rW (HDR none 0 0 0)) r0) ((), ())], []⟩ ?_
 refine JC.region <| jmv rfl rfl <| jmv rfl rfl <| jc (op_nilCheck lb (.tmp rfl) (fun e v h => by subst h; rfl)) <| jc (op_fieldAddr (off := 0) lb tf119_0 (.tmp rfl)) ?_
 refine jc (op_loadW (j := 0) lb tS27 (.tmp rfl) rfl (Comp.trans (Comp.self (rP (rW (HDR none 0 0 0)) r0) ((), ())) (Comp.at' (Comp.inF (Comp.self (rW (HDR none 0 0 0)) ()) (lE rfl)) (by rfl : _ = 0)) (lE rfl))) <| jmv rfl rfl ?_
 obtain ⟨v_4, hv_4, hm⟩ := bnd_inv hm
 refine JL.pre (Imp.nilown (rU UInt8)) ?_
 refine jx (op_appendL (j := 1) lb tu27 tu27 rfl tB5 rfl (Nat.lt_of_lt_of_le Nat.zero_lt_one (lE rfl)) (Nat.lt_of_lt_of_le Nat.zero_lt_one (lE rfl))  rfl (.tmp rfl) (.tmp rfl) hv_4) (fun q => ?_)
 obtain ⟨go_5, gc_6⟩ := q
 refine JL.sub ⟨[(6, ov (PTR gb_3 0)), (12, ov (HDR go_5 0 (List.length v_4) gc_6))], [cvar gb_3 (rP (rW (HDR none 0 0 0)) r0) ((), ()), cown go_5 (rU UInt8) v_4 0 gc_6], []⟩ (.cons rfl (.cons rfl .nil)) rfl rfl ?_
 refine jc (op_nilCheck lb (.tmp rfl) (fun e v h => by subst h; rfl)) <| jc (op_fieldAddr (off := 0) lb tf119_0 (.tmp rfl)) <| jc (op_storeW (j := 0) tS27 (.tmp rfl) (.tmp rfl) rfl ((UpdR.fst (UpdR.self (by rfl))).at (by change 0 = (0 + 0); omega)) rfl) <| JL.nil ?_
 obtain rfl := so hm
 exact JQ.done (js := [0, 0]) (ss := []) (go_5, gc_6) (.inr rfl) (.nil rfl) rfl .nil rfl rfl rfl

theorem sim_frame_writer_items'4 (k : Nat) (l_1 : (List api_Item)) (gb_2 : Nat) (r : (List UInt8)) (hm : frame_writer_items'4 k l_1 = some r) : Sim Tryz.prog 75 [PTR gb_2 0, S (rL r_api_Item) l_1] [cvar gb_2 (rP (rW (HDR none 0 0 0)) r0) ((), ())] (γ := Option Nat × Nat) (fun q => [cvar gb_2 (rP (rW (HDR q.1 0 (List.length r) q.2)) r0) ((), ()), cown q.1 (rU UInt8) r 0 q.2]) (fun q => .tup []) := by
 unfold frame_writer_items'4 at hm
 refine Sim.of Tryz.func75 rfl rfl (lE rfl) (fun e0 w0 => ?_)
 refine JC.at ⟨[(0, ov (PTR gb_2 0)), (1, ov (S (rL r_api_Item) l_1))], [cvar gb_2 (rP (rW (HDR none 0 0 0)) r0) ((), ())], []⟩ ?_
 refine jr <| jmv rfl rfl <| jmv rfl rfl <| jc (op_lenL lb tu23 (.tmp rfl)) ?_
 obtain ⟨v_3, hv_3, hm⟩ := lt1_inv hm
 refine jc (op_convIU lb tu3 tu24 (.tmp rfl) hv_3) ?_
 obtain ⟨⟨v_4, v_5⟩, hv_4, hm⟩ := bnd_inv hm
 refine jx (op_call (js := []) ld cl79 (sim_wire_Put k v_3 (2 : Int) (v_4, v_5) hv_4) .func (.cons (.tmp rfl) (.cons .cI .nil)) rfl) (fun q => ?_)
 obtain ⟨go_6, gc_7⟩ := q
 refine jc (op_extract (i := 0) lb (.tmp rfl) rfl) <| jc (op_extract (i := 1) lb (.tmp rfl) rfl) ?_
 obtain ⟨x_8, hv_x_8, hm⟩ := bnd_inv hm
 refine JL.pre (Imp.frz (j := 0) rfl (ImpK.tupAt (s := 10) (i := 0) (q := HL go_6 (rU UInt8) v_4 gc_7) rfl rfl ownHL (ImpK.slotH (s := 11) rfl ImpK.refl))) ?_
 refine jx (op_call (js := [1]) ld cl78 (sim_frame_writer_put'4 k v_4 v_5 gb_2 x_8 hv_x_8) .func (.cons (.tmp rfl) (.cons (HasO.wk (.tmp rfl) wkHL) (.cons (.tmp rfl) .nil))) rfl) (fun q => ?_)
 obtain ⟨go_9, gc_10⟩ := q
 refine JL.nrm ⟨[(0, ov (PTR gb_2 0)), (1, ov (S (rL r_api_Item) l_1))], [cvar gb_2 (zq21 go_9 x_8 gc_10) ((), ()), cown go_9 (rU UInt8) x_8 0 gc_10], []⟩ [0, 0] rfl (.cons rfl (.cons rfl .nil)) rfl ?_
 refine jn <| jr <| jmv rfl rfl <| jc (op_lenL lb tu23 (.tmp rfl)) <| jc (op_move lb .cI) ?_
 refine jn <| JC.block ?_
 refine JC.pre ?_ (JC.loop (γ := Option Nat × Nat) (stf := fun s q => ⟨[(0, ov (PTR gb_2 0)), (14, ov (S (rL r_api_Item) l_1)), (15, ov (S (rI .i64) (List.length l_1 : Int))), (16, ov (S (rI .i64) s.2))], [cvar gb_2 (rP (rW (HDR q.1 0 (List.length s.1) q.2)) r0) ((), ()), cown q.1 (rU UInt8) s.1 0 q.2], []⟩) (q := (go_9, gc_10)) hm ?_)
 · exact (Imp.norm (js := [0, 0]) rfl (.cons rfl (.cons rfl (.cons rfl (.cons rfl .nil)))))
 intro s q x hx hr
 obtain ⟨b_11, x_12⟩ := s
 obtain ⟨go_13, gc_14⟩ := q
 change frame_writer_items'4.b1 k l_1 b_11 x_12 = some x at hx
 unfold frame_writer_items'4.b1 at hx
 refine JC.at ⟨[(0, ov (PTR gb_2 0)), (14, ov (S (rL r_api_Item) l_1)), (15, ov (S (rI .i64) (List.length l_1 : Int))), (16, ov (S (rI .i64) x_12))], [cvar gb_2 (zq21 go_13 b_11 gc_14) ((), ()), cown go_13 (rU UInt8) b_11 0 gc_14], []⟩ ?_
 refine jr ?_
 obtain ⟨v_15, hv_15, hx⟩ := lt1_inv hx
 refine jc (op_cmpI lb (.tmp rfl) (.tmp rfl) (cs hv_15)) <| jn <| JC.seq ?_
 rcases iteB_inv hx with ⟨hc2, hx⟩ | ⟨hc2, hx⟩
 · refine JC.condT (.tmp rfl) hc2 ?_
   refine JC.skip ?_
   refine JQ.then ?_
   obtain ⟨b_43, hx3, hq3⟩ := bnd_inv hx
   refine JC.seqJ (γ := Option Nat × Nat) (stj := fun q => ⟨[(0, ov (PTR gb_2 0)), (14, ov (S (rL r_api_Item) l_1)), (15, ov (S (rI .i64) (List.length l_1 : Int))), (16, ov (S (rI .i64) x_12))], [cvar gb_2 (rP (rW (HDR q.1 0 (List.length b_43) q.2)) r0) ((), ()), cown q.1 (rU UInt8) b_43 0 q.2], []⟩) (fun q => ?_) ?_
   · obtain ⟨go_44, gc_45⟩ := q
     refine JC.at ⟨[(0, ov (PTR gb_2 0)), (14, ov (S (rL r_api_Item) l_1)), (15, ov (S (rI .i64) (List.length l_1 : Int))), (16, ov (S (rI .i64) x_12))], [cvar gb_2 (zq21 go_44 b_43 gc_45) ((), ()), cown go_44 (rU UInt8) b_43 0 gc_45], []⟩ ?_
     refine JC.region ?_
     obtain ⟨v_46, hv_46, hq3⟩ := lt1_inv hq3
     refine jc (op_arI lb (.tmp rfl) .cI (cs hv_46)) <| jmv rfl rfl <| JL.nil ?_
     try obtain rfl := so hq3
     exact JQ.next (go_44, gc_45) rfl (Imp.norm (js := [0, 0]) rfl (.cons rfl (.cons rfl (.cons rfl (.cons rfl .nil)))))
   refine JC.block <| jr ?_
   obtain ⟨v_16, hv_16, hx3⟩ := bnd_inv hx3
   refine jc (op_indexAddrLg lb tu23 tz62 (.tmp rfl) (.tmp rfl) hv_16) <| jc (op_loadPAg lb tA62 (.tmp rfl) rfl) ?_
   refine jx (op_alloc lb tZ62 zr62) (fun gb_17 => ?_)
   refine jc (op_storeA (j := 2) tA62 (.tmp rfl) (.tmp rfl) rfl (UpdR.self (by rfl)) rfl) <| jn <| jr <| jmv rfl rfl <| jc (op_fieldAddr (off := 0) lb tf62_0 (.tmp rfl)) ?_
   refine jc (op_loadA (j := 2) lb tA26 (.tmp rfl) rfl (cT (comp_api_Item_Dot v_16) rfl) rfl) ?_
   refine JL.sub ⟨[(0, ov (PTR gb_2 0)), (5, ov (PTR gb_17 0)), (14, ov (S (rL r_api_Item) l_1)), (15, ov (S (rI .i64) (List.length l_1 : Int))), (16, ov (S (rI .i64) x_12)), (20, ov (PTR gb_2 0)), (22, ov (A r_api_Dot v_16.Dot))], [cvar gb_2 (zq21 go_13 b_11 gc_14) ((), ()), cown go_13 (rU UInt8) b_11 0 gc_14, cvar gb_17 r_api_Item v_16], []⟩ (.cons rfl (.cons rfl (.cons rfl (.cons rfl (.cons rfl (.cons rfl (.cons rfl .nil))))))) rfl rfl ?_
   obtain ⟨⟨v_18, v_19⟩, hv_18, hx3⟩ := bnd_inv hx3
   refine jx (op_call (js := []) ld cl112 (sim_wire_Dot k v_16.Dot (v_18, v_19) hv_18) .func (.cons (.tmp rfl) .nil) rfl) (fun q => ?_)
   obtain ⟨go_20, gc_21⟩ := q
   refine jc (op_extract (i := 0) lb (.tmp rfl) rfl) <| jc (op_extract (i := 1) lb (.tmp rfl) rfl) ?_
   obtain ⟨x_22, hv_x_22, hx3⟩ := bnd_inv hx3
   refine JL.pre (Imp.frz (j := 0) rfl (ImpK.tupAt (s := 23) (i := 0) (q := HL go_20 (rU UInt8) v_18 gc_21) rfl rfl ownHL (ImpK.slotH (s := 24) rfl ImpK.refl))) ?_
   refine jx (op_call (js := [1, 1]) ld cl78 (sim_frame_writer_put'2 k v_18 v_19 b_11 gb_2 go_13 gc_14 x_22 hv_x_22) .func (.cons (.tmp rfl) (.cons (HasO.wk (.tmp rfl) wkHL) (.cons (.tmp rfl) .nil))) rfl) (fun q => ?_)
   obtain ⟨go_23, gc_24⟩ := q
   refine JL.nrm ⟨[(0, ov (PTR gb_2 0)), (5, ov (PTR gb_17 0)), (14, ov (S (rL r_api_Item) l_1)), (15, ov (S (rI .i64) (List.length l_1 : Int))), (16, ov (S (rI .i64) x_12))], [cvar gb_2 (zq21 go_23 x_22 gc_24) ((), ()), cown go_23 (rU UInt8) x_22 0 gc_24, cvar gb_17 r_api_Item v_16], []⟩ [0, 0, 1] rfl (.cons rfl (.cons rfl (.cons rfl (.cons rfl (.cons rfl .nil))))) rfl ?_
   refine jn <| jr <| jmv rfl rfl <| jc (op_fieldAddr (off := 4) lb tf62_2 (.tmp rfl)) <| jc (op_loadS (j := 2) lb tS4 (.tmp rfl) rfl (cT (comp_api_Item_Gone v_16) rfl) rfl rfl) ?_
   obtain ⟨x_25, hv_x_25, hx3⟩ := bnd_inv hx3
   refine jx (op_call (js := [0, 0]) ld cl113 (sim_frame_writer_flag k v_16.Gone x_22 gb_2 go_23 gc_24 x_25 hv_x_25) .func (.cons (.tmp rfl) (.cons (.tmp rfl) .nil)) rfl) (fun q => ?_)
   obtain ⟨go_26, gc_27⟩ := q
   refine jn <| jr <| jc (op_fieldAddr (off := 4) lb tf62_2 (.tmp rfl)) <| jc (op_loadS (j := 2) lb tS4 (.tmp rfl) rfl (cT (comp_api_Item_Gone v_16) rfl) rfl rfl) ?_
   obtain ⟨v_28, hv_28, hx3⟩ := lt1_inv hx3
   refine jc (op_not lb (.tmp rfl) hv_28) <| jn ?_
   rcases iteB_inv hx3 with ⟨hc4, hx3⟩ | ⟨hc4, hx3⟩
   · refine JC.condT (.tmp rfl) hc4 ?_
     refine jr <| jmv rfl rfl <| jc (op_fieldAddr (off := 2) lb tf62_1 (.tmp rfl)) <| jc (op_fieldAddr (off := 0) lb tf60_0 (.tmp rfl)) ?_
     refine JL.sub ⟨[(0, ov (PTR gb_2 0)), (5, ov (PTR gb_17 0)), (14, ov (S (rL r_api_Item) l_1)), (15, ov (S (rI .i64) (List.length l_1 : Int))), (16, ov (S (rI .i64) x_12)), (34, ov (PTR gb_2 0)), (36, ov (PTR gb_17 ((0 + 2) + 0)))], [cvar gb_2 (zq21 go_26 x_25 gc_27) ((), ()), cown go_26 (rU UInt8) x_25 0 gc_27, cvar gb_17 r_api_Item v_16], []⟩ (.cons rfl (.cons rfl (.cons rfl (.cons rfl (.cons rfl (.cons rfl (.cons rfl .nil))))))) rfl rfl ?_
     refine jc (op_loadS (j := 2) lb tS9 (.tmp rfl) rfl (Comp.trans (cT (comp_api_Item_Key v_16) rfl) (comp_api_Key_Topic v_16.Key) (lE rfl)) rfl rfl) <| jc (op_convSB lb tu9 tu27 tu5 (.tmp rfl)) ?_
     obtain ⟨⟨v_29, v_30⟩, hv_29, hx3⟩ := bnd_inv hx3
     refine jx (op_call (js := []) ld cl114 (sim_wire_Blob k v_16.Key.Topic (v_29, v_30) hv_29) .func (.cons (.tmp rfl) .nil) rfl) (fun q => ?_)
     obtain ⟨go_31, gc_32⟩ := q
     refine jc (op_extract (i := 0) lb (.tmp rfl) rfl) <| jc (op_extract (i := 1) lb (.tmp rfl) rfl) ?_
     obtain ⟨x_33, hv_x_33, hx3⟩ := bnd_inv hx3
     refine JL.pre (Imp.frz (j := 0) rfl (ImpK.tupAt (s := 39) (i := 0) (q := HL go_31 (rU UInt8) v_29 gc_32) rfl rfl ownHL (ImpK.slotH (s := 40) rfl ImpK.refl))) ?_
     refine jx (op_call (js := [1, 1]) ld cl78 (sim_frame_writer_put'2 k v_29 v_30 x_25 gb_2 go_26 gc_27 x_33 hv_x_33) .func (.cons (.tmp rfl) (.cons (HasO.wk (.tmp rfl) wkHL) (.cons (.tmp rfl) .nil))) rfl) (fun q => ?_)
     obtain ⟨go_34, gc_35⟩ := q
     refine JL.nrm ⟨[(0, ov (PTR gb_2 0)), (5, ov (PTR gb_17 0)), (14, ov (S (rL r_api_Item) l_1)), (15, ov (S (rI .i64) (List.length l_1 : Int))), (16, ov (S (rI .i64) x_12))], [cvar gb_2 (zq21 go_34 x_33 gc_35) ((), ()), cown go_34 (rU UInt8) x_33 0 gc_35, cvar gb_17 r_api_Item v_16], []⟩ [0, 0, 1] rfl (.cons rfl (.cons rfl (.cons rfl (.cons rfl (.cons rfl .nil))))) rfl ?_
     refine jn <| JC.region <| jmv rfl rfl <| jc (op_fieldAddr (off := 2) lb tf62_1 (.tmp rfl)) <| jc (op_fieldAddr (off := 1) lb tf60_1 (.tmp rfl)) ?_
     refine jc (op_loadS (j := 2) lb tS9 (.tmp rfl) rfl (Comp.trans (cT (comp_api_Item_Key v_16) rfl) (comp_api_Key_Device v_16.Key) (lE rfl)) rfl rfl) <| jc (op_convSB lb tu9 tu27 tu5 (.tmp rfl)) ?_
     obtain ⟨⟨v_36, v_37⟩, hv_36, hx3⟩ := bnd_inv hx3
     refine jx (op_call (js := []) ld cl114 (sim_wire_Blob k v_16.Key.Device (v_36, v_37) hv_36) .func (.cons (.tmp rfl) .nil) rfl) (fun q => ?_)
     obtain ⟨go_38, gc_39⟩ := q
     refine jc (op_extract (i := 0) lb (.tmp rfl) rfl) <| jc (op_extract (i := 1) lb (.tmp rfl) rfl) ?_
     obtain ⟨x_40, hv_x_40, hx3⟩ := bnd_inv hx3
     refine JL.pre (Imp.frz (j := 0) rfl (ImpK.tupAt (s := 48) (i := 0) (q := HL go_38 (rU UInt8) v_36 gc_39) rfl rfl ownHL (ImpK.slotH (s := 49) rfl ImpK.refl))) ?_
     refine jx (op_call (js := [1, 1]) ld cl78 (sim_frame_writer_put'2 k v_36 v_37 x_33 gb_2 go_34 gc_35 x_40 hv_x_40) .func (.cons (.tmp rfl) (.cons (HasO.wk (.tmp rfl) wkHL) (.cons (.tmp rfl) .nil))) rfl) (fun q => ?_)
     obtain ⟨go_41, gc_42⟩ := q
     refine JL.nrm ⟨[(0, ov (PTR gb_2 0)), (14, ov (S (rL r_api_Item) l_1)), (15, ov (S (rI .i64) (List.length l_1 : Int))), (16, ov (S (rI .i64) x_12))], [cvar gb_2 (zq21 go_41 x_40 gc_42) ((), ()), cown go_41 (rU UInt8) x_40 0 gc_42], []⟩ [0, 0] rfl (.cons rfl (.cons rfl (.cons rfl (.cons rfl .nil)))) rfl ?_
     refine JL.nil ?_
     refine JQ.outNB ?_
     try obtain rfl := so hx3
     exact JQ.join (go_41, gc_42) (Imp.norm (js := [0, 0]) rfl (.cons rfl (.cons rfl (.cons rfl (.cons rfl .nil)))))
   refine JC.condF (.tmp rfl) hc4 ?_
   refine JC.skip ?_
   refine JQ.outNB ?_
   try obtain rfl := so hx3
   exact JQ.join (go_26, gc_27) (Imp.norm (js := [0, 0]) rfl (.cons rfl (.cons rfl (.cons rfl (.cons rfl .nil)))))
 refine JC.condF (.tmp rfl) hc2 ?_
 refine JC.exit ?_
 refine JQ.outX ?_
 try obtain rfl := so hx
 have ht := hr _ rfl
 have hq1 := cs ht
 clear hr ht
 refine JQ.outX ?_
 refine JQ.here ?_
 obtain rfl := so hq1
 exact JQ.done (js := [0, 0]) (ss := []) (go_13, gc_14) (.inr rfl) (.nil rfl) rfl .nil rfl rfl rfl

theorem sim_frame_ItemBytes (k : Nat) (l_1 : (List api_Item)) (r : (List UInt8)) (hm : frame_ItemBytes k l_1 = some r) : Sim Tryz.prog 22 [S (rL r_api_Item) l_1] [] (γ := Option Nat × Nat) (fun q => [cown q.1 (rU UInt8) r 0 q.2]) (fun q => .one (.val (HDR q.1 0 (List.length r) q.2))) := by
 unfold frame_ItemBytes at hm
 refine Sim.of Tryz.func22 rfl rfl (lE rfl) (fun e0 w0 => ?_)
 refine JC.at ⟨[(0, ov (S (rL r_api_Item) l_1))], [], []⟩ ?_
 refine jr <| jc (op_assign lb HasO.nilH) <| jn <| JC.seq ?_
 obtain ⟨x_5, hx1, hq1⟩ := bnd_inv hm
 refine JC.seqJ (γ := Unit) (stj := fun _ => ⟨[(0, ov (S (rL r_api_Item) l_1)), (10, ov (S rB x_5))], [], []⟩) (fun _ => ?_) ?_
 · rcases iteB_inv hq1 with ⟨hc5, hq1⟩ | ⟨hc5, hq1⟩
   · refine JC.condT (.tmp rfl) hc5 ?_
     refine jr <| jc (op_assign lb HasO.nilH) <| jn ?_
     refine JC.ret ?_
     refine JQ.outR ?_
     obtain rfl := so hq1
     refine JQ.pre (Imp.nilown (rU UInt8)) ?_
     exact JQ.done (js := [0]) (ss := [.val (HDR none 0 (List.length ([] : (List UInt8))) (0))]) (none, 0) (.inl rfl) (.nil rfl) rfl (.cons (.tmp rfl) .nil) rfl rfl rfl
   refine JC.condF (.tmp rfl) hc5 ?_
   refine JC.skip ?_
   refine JQ.then <| jr <| jc (op_build lb tZ119 zr119 tp119 .nil rfl) ?_
   refine jx (op_boxA lb (.tmp rfl)) (fun gb_6 => ?_)
   refine jc (op_assign lb (.tmp rfl)) <| jn <| jr <| jmv rfl rfl <| jmv rfl rfl ?_
   obtain ⟨x_7, hv_x_7, hq1⟩ := bnd_inv hq1
   refine jx (op_call (js := [0]) ld cl75 (sim_frame_writer_items'4 k l_1 gb_6 x_7 hv_x_7) .func (.cons (.tmp rfl) (.cons (.tmp rfl) .nil)) rfl) (fun q => ?_)
   obtain ⟨go_8, gc_9⟩ := q
   refine jn <| jr <| jmv rfl rfl <| jc (op_nilCheck lb (.tmp rfl) (fun e v h => by subst h; rfl)) ?_
   refine JL.sub ⟨[(17, ov (PTR gb_6 0))], [cvar gb_6 (zq21 go_8 x_7 gc_9) ((), ()), cown go_8 (rU UInt8) x_7 0 gc_9], []⟩ (.cons rfl .nil) rfl rfl ?_
   refine jc (op_fieldAddr (off := 0) lb tf119_0 (.tmp rfl)) <| jc (op_loadW (j := 0) lb tS27 (.tmp rfl) rfl (Comp.trans (Comp.self (zq21 go_8 x_7 gc_9) ((), ())) (Comp.at' (Comp.inF (Comp.self (rW (HDR go_8 0 (List.length x_7) gc_9)) ()) (lE rfl)) (by rfl : _ = 0)) (lE rfl))) <| jc (op_assign lb (.tmp rfl)) <| jn ?_
   refine JC.ret ?_
   obtain rfl := so hq1
   exact JQ.done (js := [1]) (ss := [.val (HDR go_8 0 (List.length x_7) gc_9)]) (go_8, gc_9) (.inl rfl) (.nil rfl) rfl (.cons (.tmp rfl) .nil) rfl rfl rfl
 refine JC.region <| jmv rfl rfl <| jc (op_lenL lb tu23 (.tmp rfl)) ?_
 obtain ⟨v_2, hv_2, hx1⟩ := lt1_inv hx1
 refine jc (op_cmpI lb (.tmp rfl) .cI (cs hv_2)) <| jmv rfl rfl ?_
 refine JL.cnd (sv := ov (S (rL r_api_Item) l_1)) (Guard.isF (ltB rfl) rfl rfl) rfl (ltB rfl) (fun hq_2 => op_move lb (.tmp rfl)) ?_
 obtain ⟨v_3, hv_3, hx1⟩ := bnd_inv hx1
 refine JL.cnd (sv := ov (S rB v_3)) (Guard.isF (ltB rfl) rfl rfl) rfl (ltB rfl) (fun hq_3 => (op_call (js := []) ld cl73 (sim_slices_ContainsFuncapi_Item_api_Item'2 k l_1 v_3 (ifT hv_3 hq_3)) .func (.cons (HasO.cnd (.tmp rfl) (notT (notF hq_3))) (.cons .func .nil)) rfl).post (fun _ => Imp.refl)) ?_
 obtain ⟨v_4, hv_4, hx1⟩ := lt1_inv hx1
 refine jc (op_pickCS lb (.tmp rfl) (fun hb4 => .cB) (fun hb4 => (HasO.cnd (.tmp rfl) (notT hb4))) hv_4) <| JL.nil ?_
 try obtain rfl := so hx1
 exact JQ.join () (Imp.norm (js := []) rfl (.cons rfl (.cons rfl .nil)))

theorem sim_ref01_Put (k : Nat) (n_1 : UInt64) (size_2 : Int) (r : (List UInt8)) (hm : ref01_Put k n_1 size_2 = some r) : Sim Tryz.prog 46 [S (rU UInt64) n_1, S (rI .i64) size_2] [] (γ := Option Nat) (fun q => [cown q (rU UInt8) r 0 (Int.toNat size_2)]) (fun q => .one (.val (HDR q 0 (List.length r) (Int.toNat size_2)))) := by
 unfold ref01_Put at hm
 refine Sim.of Tryz.func46 rfl rfl (lE rfl) (fun e0 w0 => ?_)
 refine JC.at ⟨[(0, ov (S (rU UInt64) n_1)), (1, ov (S (rI .i64) size_2))], [], []⟩ ?_
 refine jr <| jc (op_assign lb HasO.nilH) <| jn <| jr <| jmv rfl rfl ?_
 obtain ⟨v_3, hv_3, hm⟩ := bnd_inv hm
 refine jx (op_makeOg lb tu27 tB5 zv5 (.tmp rfl) (.tmp rfl) hv_3) (fun gb_4 => ?_)
 refine jc (op_assign lb (.tmp rfl)) <| jn ?_
 obtain ⟨b_16, hx1, hq1⟩ := bnd_inv hm
 refine JC.seqJ (γ := Unit) (stj := fun _ => ⟨[(5, ov (HDR (some gb_4) 0 (List.length b_16) (Int.toNat size_2)))], [cown (some gb_4) (rU UInt8) b_16 0 (Int.toNat size_2)], []⟩) (fun _ => ?_) ?_
 · refine jr <| jmv rfl rfl <| jc (op_assign lb (.tmp rfl)) <| jn ?_
   refine JC.ret ?_
   obtain rfl := so hq1
   exact JQ.done (js := [0]) (ss := [.val (HDR (some gb_4) 0 (List.length b_16) (Int.toNat size_2))]) (some gb_4) (.inl rfl) (.nil rfl) rfl (.cons (.tmp rfl) .nil) rfl rfl rfl
 refine jr <| jmv rfl rfl ?_
 obtain ⟨v_5, hv_5, hx1⟩ := lt1_inv hx1
 refine jc (op_arI lb (.tmp rfl) .cI (cs hv_5)) <| jc (op_assign lb (.tmp rfl)) <| jn <| JC.block ?_
 refine JC.pre ?_ (JC.loop (γ := Unit) (stf := fun s q => ⟨[(0, ov (S (rU UInt64) s.1)), (5, ov (HDR (some gb_4) 0 (List.length s.2.1) (Int.toNat size_2))), (6, ov (S (rI .i64) s.2.2))], [cown (some gb_4) (rU UInt8) s.2.1 0 (Int.toNat size_2)], []⟩) (q := ()) hx1 ?_)
 · exact (Imp.norm (js := [0]) rfl (.cons rfl (.cons rfl (.cons rfl .nil))))
 intro s q x hx hr
 obtain ⟨n_6, b_7, i_8⟩ := s
 obtain _ := q
 change ref01_Put.b1 k n_6 b_7 i_8 = some x at hx
 unfold ref01_Put.b1 at hx
 refine JC.at ⟨[(0, ov (S (rU UInt64) n_6)), (5, ov (HDR (some gb_4) 0 (List.length b_7) (Int.toNat size_2))), (6, ov (S (rI .i64) i_8))], [cown (some gb_4) (rU UInt8) b_7 0 (Int.toNat size_2)], []⟩ ?_
 refine JC.seq <| jr <| jmv rfl rfl ?_
 obtain ⟨v_9, hv_9, hx⟩ := lt1_inv hx
 refine jc (op_cmpI lb (.tmp rfl) .cI (cs hv_9)) <| jn ?_
 rcases iteB_inv hx with ⟨hc3, hx⟩ | ⟨hc3, hx⟩
 · refine JC.condT (.tmp rfl) hc3 ?_
   refine JC.skip ?_
   refine JQ.then <| JC.seq <| JC.block <| jr <| jmv rfl rfl ?_
   refine jmv rfl rfl <| jmv rfl rfl ?_
   obtain ⟨v_10, hv_10, hx⟩ := bnd_inv hx
   refine jc (op_arU lb (.tmp rfl) (HasO.cU (x := (256 : UInt64)) rfl (by decide)) hv_10) ?_
   obtain ⟨v_11, hv_11, hx⟩ := lt1_inv hx
   refine jc (op_convUU lb tu24 tu5 (.tmp rfl) hv_11) ?_
   obtain ⟨i_12, hv_i_12, hx⟩ := bnd_inv hx
   refine jc (op_indexAddrOF (r := (rU UInt8)) (j := 0) lb tu27 tz5 rfl (.tmp rfl) (.tmp rfl) hv_i_12) ?_
   obtain ⟨b_13, hv_b_13, hx⟩ := bnd_inv hx
   refine jc (op_storeOSg (r := (rU UInt8)) (j := 0) tS5 rfl rfl (.tmp rfl) (.tmp rfl) hv_b_13) ?_
   refine JL.pre (Imp.slot (s := 5) (q := HDR (some gb_4) 0 (List.length b_13) (Int.toNat size_2)) rfl (wkLen (setO'_len hv_b_13))) ?_
   refine JL.pre (Imp.slot (s := 15) (q := HDR (some gb_4) 0 (List.length b_13) (Int.toNat size_2)) rfl (wkLen (setO'_len hv_b_13))) ?_
   refine jn <| JC.region <| jmv rfl rfl ?_
   refine JL.sub ⟨[(0, ov (S (rU UInt64) n_6)), (5, ov (HDR (some gb_4) 0 (List.length b_13) (Int.toNat size_2))), (6, ov (S (rI .i64) i_8)), (21, ov (S (rU UInt64) n_6))], [cown (some gb_4) (rU UInt8) b_13 0 (Int.toNat size_2)], []⟩ (.cons rfl (.cons rfl (.cons rfl (.cons rfl .nil)))) rfl rfl ?_
   obtain ⟨v_14, hv_14, hx⟩ := bnd_inv hx
   refine jc (op_arU lb (.tmp rfl) (HasO.cU (x := (256 : UInt64)) rfl (by decide)) hv_14) <| jc (op_assign lb (.tmp rfl)) <| JL.nil ?_
   refine JQ.outNB ?_
   refine JQ.then <| JC.region <| jmv rfl rfl ?_
   obtain ⟨v_15, hv_15, hx⟩ := lt1_inv hx
   refine jc (op_arI lb (.tmp rfl) .cI (cs hv_15)) <| jc (op_assign lb (.tmp rfl)) <| JL.nil ?_
   try obtain rfl := so hx
   exact JQ.next () rfl (Imp.norm (js := [0]) rfl (.cons rfl (.cons rfl (.cons rfl .nil))))
 refine JC.condF (.tmp rfl) hc3 ?_
 refine JC.exit ?_
 refine JQ.outX ?_
 try obtain rfl := so hx
 have ht := hr _ rfl
 have hq2 := cs ht
 clear hr ht
 refine JQ.outX ?_
 refine JQ.here ?_
 try obtain rfl := so hq2
 exact JQ.join () (Imp.norm (js := [0]) rfl (.cons rfl .nil))

theorem sim_ref01_Dot (k : Nat) (d_1 : api_Dot) (r : (List UInt8)) (hm : ref01_Dot k d_1 = some r) : Sim Tryz.prog 76 [A r_api_Dot d_1] [] (γ := Option Nat × Nat) (fun q => [cown q.1 (rU UInt8) r 0 q.2]) (fun q => .one (.val (HDR q.1 0 (List.length r) q.2))) := by
 unfold ref01_Dot at hm
 refine Sim.of Tryz.func76 rfl rfl (lE rfl) (fun e0 w0 => ?_)
 refine JC.at ⟨[(0, ov (A r_api_Dot d_1))], [], []⟩ ?_
 refine jr ?_
 refine jx (op_boxA lb (.tmp rfl)) (fun gb_2 => ?_)
 refine jc (op_assign lb HasO.nilH) <| jn <| JC.seq ?_
 obtain ⟨v_3, hv_3, hm⟩ := lt1_inv hm
 obtain ⟨v_4, hv_4, hm⟩ := bnd_inv hm
 obtain ⟨v_6, hv_6, hm⟩ := bnd_inv hm
 obtain ⟨x_8, hv_x_8, hm⟩ := bnd_inv hm
 refine JC.anyF (base := [(1, ov (PTR gb_2 0))])
     (fs := fun γ => [⟨some 3, ov (PTR gb_2 (0 + 0))⟩, ⟨some 4, ov (S (rI .i64) d_1.Region)⟩, ⟨some 5, ov (S (rU UInt64) v_3)⟩, ⟨some 6, ov (HDR (deo (γ 3 0)) 0 (List.length v_4) (Int.toNat (1 : Int)))⟩, ⟨some 7, ov (PTR gb_2 (0 + 1))⟩, ⟨some 8, ov (S (rU UInt64) d_1.Count)⟩, ⟨some 9, ov (HDR (deo (γ 6 0)) 0 (List.length v_6) (Int.toNat (8 : Int)))⟩, ⟨some 10, ov (HDR (deo (γ 7 0)) 0 (List.length x_8) (γ 7 1))⟩, ⟨some 2, ov (HDR (deo (γ 7 0)) 0 (List.length x_8) (γ 7 1))⟩])
     (rs := fun γ => [⟨cvar gb_2 r_api_Dot d_1, none, none, [1, 5]⟩, ⟨cown (deo (γ 3 0)) (rU UInt8) v_4 0 (Int.toNat (1 : Int)), (some 3), (some 7), []⟩, ⟨cown (deo (γ 6 0)) (rU UInt8) v_6 0 (Int.toNat (8 : Int)), (some 6), none, [7]⟩, ⟨cown (deo (γ 7 0)) (rU UInt8) x_8 0 (γ 7 1), (some 7), none, []⟩])
     (afts := [[], [], [], [3, 6, 7, 8], [], [], [6, 7, 8], [7, 8], []]) (js := [0]) mixed (.cons rfl .nil) (fun _ => rfl)
     (by
      refine dS 1 (fun γ ρ B hb hd => op_fieldAddr (off := 0) lb tf26_0 (.tmp (hb 1 _ rfl))) <| dR 2 (fun γ ρ B hb hd => OpStep.lk ⟨ρ, (cvar gb_2 r_api_Dot d_1) :: B, _⟩ (op_loadS (j := 0) lb tS3 (tl hd 0 3) rfl (cT (comp_api_Dot_Region d_1) rfl) rfl rfl)) <| dS 3 (fun γ ρ B hb hd => op_convIU lb tu3 tu24 (tl hd 1 4) hv_3) ?_
      refine DSteps.cons (j := 4) rfl (fun _ => rfl) (.runX (fun _ _ => rfl) (fun γ ρ B hb hd => ⟨.none, OpX.ghost (γ := Option Nat) (st' := fun q => setO ⟨ρ, (cown q (rU UInt8) v_4 0 (Int.toNat (1 : Int))) :: B, _⟩ (some 6) (ov (HDR q 0 (List.length v_4) (Int.toNat (1 : Int))))) (fun q c => eno q) (op_call (js := []) ld cl46 (sim_ref01_Put k v_3 (1 : Int) v_4 hv_4) .func (.cons (tl hd 2 5) (.cons .cI .nil)) rfl) (fun q => by cases q <;> exact Imp.refl)⟩) (fun _ _ => rfl) (fun _ _ => rfl)) ?_
      refine dS 5 (fun γ ρ B hb hd => op_fieldAddr (off := 1) lb tf26_1 (.tmp (hb 1 _ rfl))) <| dR 6 (fun γ ρ B hb hd => OpStep.lk ⟨ρ, (cvar gb_2 r_api_Dot d_1) :: B, _⟩ (op_loadS (j := 0) lb tS24 (tl hd 4 7) rfl (cT (comp_api_Dot_Count d_1) rfl) rfl rfl)) ?_
      refine DSteps.cons (j := 7) rfl (fun _ => rfl) (.runX (fun _ _ => rfl) (fun γ ρ B hb hd => ⟨.none, OpX.ghost (γ := Option Nat) (st' := fun q => setO ⟨ρ, (cown q (rU UInt8) v_6 0 (Int.toNat (8 : Int))) :: B, _⟩ (some 9) (ov (HDR q 0 (List.length v_6) (Int.toNat (8 : Int))))) (fun q c => eno q) (op_call (js := []) ld cl46 (sim_ref01_Put k d_1.Count (8 : Int) v_6 hv_6) .func (.cons (tl hd 5 8) (.cons .cI .nil)) rfl) (fun q => by cases q <;> exact Imp.refl)⟩) (fun _ _ => rfl) (fun _ _ => rfl)) ?_
      refine DSteps.cons (j := 8) rfl (fun _ => rfl) (.runX (fun _ _ => rfl) (fun γ ρ B hb hd => ⟨.none, OpX.ghost (γ := Option Nat × Nat) (st' := fun q => setO ⟨ρ, (cown q.1 (rU UInt8) x_8 0 q.2) :: (cown (deo (γ 6 0)) (rU UInt8) v_6 0 (Int.toNat (8 : Int))) :: B, _⟩ (some 10) (ov (HDR q.1 0 (List.length x_8) q.2))) (fun q c => bif Nat.beq c 0 then eno q.1 else q.2) (op_appendO (j := 0) (j' := 1) lb tu27 tu27 rfl tB5 rfl (Nat.lt_of_lt_of_le Nat.zero_lt_one (lE rfl)) (Nat.lt_of_lt_of_le Nat.zero_lt_one (lE rfl))  rfl (tl hd 3 6) rfl (tl hd 6 9) hv_x_8) (fun q => by obtain ⟨q0, q1⟩ := q; cases q0 <;> exact Imp.refl)⟩) (fun _ _ => rfl) (fun _ _ => rfl)) ?_
      refine dS 9 (fun γ ρ B hb hd => op_assign lb (tl hd 7 10)) ?_
      exact DSteps.nil)
     (by decide +kernel) (fun _ => rfl) (fun _ => rfl) (fun _ => rfl) rfl
     (ρ' := fun γ => [(2, ov (HDR (deo (γ 7 0)) 0 (List.length x_8) (γ 7 1)))])
     (X' := fun γ => [cvar gb_2 r_api_Dot d_1, cown (deo (γ 6 0)) (rU UInt8) v_6 0 (Int.toNat (8 : Int)), cown (deo (γ 7 0)) (rU UInt8) x_8 0 (γ 7 1)])
     (fun γ ρ hb hd => (.cons (hdq hd 8 2 rfl) .nil)) (fun _ => rfl) (fun γ => ?_)
 generalize (deo (γ 3 0)) = go_5
 generalize (deo (γ 6 0)) = go_7
 generalize (deo (γ 7 0)) = go_9
 generalize (γ 7 1) = gc_10
 clear γ
 refine JQ.at ⟨[(2, ov (HDR go_9 0 (List.length x_8) gc_10))], [cvar gb_2 r_api_Dot d_1, cown go_7 (rU UInt8) v_6 0 (Int.toNat (8 : Int)), cown go_9 (rU UInt8) x_8 0 gc_10], []⟩ ?_
 refine JQ.then ?_
 refine JC.ret ?_
 obtain rfl := so hm
 exact JQ.done (js := [2]) (ss := [.val (HDR go_9 0 (List.length x_8) gc_10)]) (go_9, gc_10) (.inl rfl) (.nil rfl) rfl (.cons (.tmp rfl) .nil) rfl rfl rfl

theorem sim_ref11_flag (k : Nat) (is_1 : Bool) (r : (List UInt8)) (hm : ref11_flag k is_1 = some r) : Sim Tryz.prog 49 [S rB is_1] [] (γ := Unit) (fun q => []) (fun q => .one (.val (S (rL (rU UInt8)) r))) := by
 unfold ref11_flag at hm
 refine Sim.of Tryz.func49 rfl rfl (lE rfl) (fun e0 w0 => ?_)
 refine JC.at ⟨[(0, ov (S rB is_1))], [], []⟩ ?_
 refine jr <| jc (op_assign lb HasO.nilH) <| jn <| JC.seq <| jr ?_
 refine jmv rfl rfl <| jn ?_
 rcases iteB_inv hm with ⟨hc1, hm⟩ | ⟨hc1, hm⟩
 · refine JC.condT (.tmp rfl) hc1 ?_
   refine jr <| jc (op_buildF (r := (rU UInt8)) lb tu27 tz5 tZ5 rfl (lE rfl) (.S rfl (HasO.cU (x := (1 : UInt8)) rfl (by decide)) .nil) rfl) <| jc (op_assign lb (.tmp rfl)) <| jn ?_
   refine JC.ret ?_
   refine JQ.outR ?_
   obtain rfl := so hm
   exact JQ.done (js := []) (ss := [.val (S (rL (rU UInt8)) ([(1 : UInt8)] : (List UInt8)))]) () (.inl rfl) (.nil rfl) rfl (.cons (.tmp rfl) .nil) rfl rfl rfl
 refine JC.condF (.tmp rfl) hc1 ?_
 refine JC.skip ?_
 refine JQ.then <| jr <| jc (op_buildF (r := (rU UInt8)) lb tu27 tz5 tZ5 rfl (lE rfl) (.S rfl (HasO.cU (x := (0 : UInt8)) rfl (by decide)) .nil) rfl) <| jc (op_assign lb (.tmp rfl)) <| jn ?_
 refine JC.ret ?_
 obtain rfl := so hm
 exact JQ.done (js := []) (ss := [.val (S (rL (rU UInt8)) ([(0 : UInt8)] : (List UInt8)))]) () (.inl rfl) (.nil rfl) rfl (.cons (.tmp rfl) .nil) rfl rfl rfl

theorem sim_ref01_Blob (k : Nat) (b_1 : (List UInt8)) (r : (List UInt8)) (hm : ref01_Blob k b_1 = some r) : Sim Tryz.prog 77 [S (rL (rU UInt8)) b_1] [] (γ := Option Nat × Nat) (fun q => [cown q.1 (rU UInt8) r 0 q.2]) (fun q => .one (.val (HDR q.1 0 (List.length r) q.2))) := by
 unfold ref01_Blob at hm
 refine Sim.of Tryz.func77 rfl rfl (lE rfl) (fun e0 w0 => ?_)
 refine JC.at ⟨[(0, ov (S (rL (rU UInt8)) b_1))], [], []⟩ ?_
 refine jr <| jc (op_assign lb HasO.nilH) <| jn <| jr <| jmv rfl rfl ?_
 refine jc (op_lenL lb tu27 (.tmp rfl)) ?_
 obtain ⟨v_2, hv_2, hm⟩ := lt1_inv hm
 refine jc (op_convIU lb tu3 tu24 (.tmp rfl) hv_2) ?_
 obtain ⟨v_3, hv_3, hm⟩ := bnd_inv hm
 refine jx (op_call (js := []) ld cl46 (sim_ref01_Put k v_2 (2 : Int) v_3 hv_3) .func (.cons (.tmp rfl) (.cons .cI .nil)) rfl) (fun go_4 => ?_)
 refine jmv rfl rfl ?_
 obtain ⟨x_5, hv_x_5, hm⟩ := bnd_inv hm
 refine jx (op_appendL (j := 0) lb tu27 tu27 rfl tB5 rfl (Nat.lt_of_lt_of_le Nat.zero_lt_one (lE rfl)) (Nat.lt_of_lt_of_le Nat.zero_lt_one (lE rfl))  rfl (.tmp rfl) (.tmp rfl) hv_x_5) (fun q => ?_)
 obtain ⟨go_6, gc_7⟩ := q
 refine jc (op_assign lb (.tmp rfl)) ?_
 refine JL.sub ⟨[(2, ov (HDR go_6 0 (List.length x_5) gc_7))], [cown go_6 (rU UInt8) x_5 0 gc_7], []⟩ (.cons rfl .nil) rfl rfl ?_
 refine jn ?_
 refine JC.ret ?_
 obtain rfl := so hm
 exact JQ.done (js := [0]) (ss := [.val (HDR go_6 0 (List.length x_5) gc_7)]) (go_6, gc_7) (.inl rfl) (.nil rfl) rfl (.cons (.tmp rfl) .nil) rfl rfl rfl

end Go.Proofs.YtklnihlchhhhlaaGreat
