/- Walks. -/
import Derived.Test.YtkbkdfcakpbojaaT
import Derived.Test.YtkbkdfcakpbojaaW0
import Derived.Test.YtkbkdfcakpbojaaW1
import Derived.Test.YtkbkdfcakpbojaaW11
import Derived.Test.YtkbkdfcakpbojaaW12
import Derived.Test.YtkbkdfcakpbojaaW2
namespace Go.Proofs.Ytkbkdfcakpbojaa
open Go Fw
set_option linter.unusedVariables false
set_option maxRecDepth 100000
set_option maxHeartbeats 4000000

theorem sim_strings_Builder_WriteByte'3 (k : Nat) (c_1 : UInt8) (x_3 : (List UInt8)) (gb_2 : Nat) (go_4 : Option Nat) (gc_5 : Nat) (r : (List UInt8)) (hm : strings_Builder_WriteByte'3 k c_1 x_3 = some r) : Sim Try.prog 51 [PTR gb_2 0, S (rU UInt8) c_1] [cvarT 81 gb_2 (rP (rW (PN gb_2)) (rP (rW (HDR go_4 0 (List.length x_3) gc_5)) r0)) ((), ((), ())), cownT 5 go_4 (rU UInt8) x_3 0 gc_5] (γ := Option Nat × Nat) (fun q => [cvarT 81 gb_2 (rP (rW (PTR gb_2 0)) (rP (rW (HDR q.1 0 (List.length r) q.2)) r0)) ((), ((), ())), cownT 5 q.1 (rU UInt8) r 0 q.2]) (fun q => .one (.val (NILI))) := by
 unfold strings_Builder_WriteByte'3 at hm
 refine Sim.of Try.func51 rfl rfl (Nat.le_of_ble_eq_true rfl) (fun e0 w0 => ?_)
 refine JC.at ⟨[(0, ov (PTR gb_2 0)), (1, ov (S (rU UInt8) c_1))], [cvarT 81 gb_2 (rP (rW (PN gb_2)) (rP (rW (HDR go_4 0 (List.length x_3) gc_5)) r0)) ((), ((), ())), cownT 5 go_4 (rU UInt8) x_3 0 gc_5], []⟩ ?_
 refine JC.seq ?_
 refine JC.region ?_
 refine jc (op_assign lb (HasO.const (p := NILI) fun _ => rfl)) ?_
 refine JL.nil ?_
 refine JQ.then ?_
 refine JC.seq ?_
 refine JC.region ?_
 refine jc (op_move lb (.tmp rfl)) ?_
 replace hm := bnd_inv hm
 obtain ⟨_, hv_u_6, hm⟩ := hm
 refine jx (op_call (js := [0, 0]) ld cl55 (sim_strings_Builder_copyCheck'3 k x_3 gb_2 go_4 gc_5 () hv_u_6) .func (.cons (.tmp rfl) .nil) rfl) (fun _ => ?_)
 refine JL.nil ?_
 refine JQ.then ?_
 refine JC.seq ?_
 refine JC.region ?_
 refine jc (op_move lb (.tmp rfl)) ?_
 refine jc (op_move lb (.tmp rfl)) ?_
 refine jc (op_nilCheck lb (.tmp rfl) (fun e v h => by subst h; rfl)) ?_
 refine jc (op_fieldAddr (off := 1) lb tf81_1 (.tmp rfl)) ?_
 refine jc (op_loadWT (j := 0) lb tS23 (.tmp rfl) rfl (Comp.trans (Comp.self (rP (rW (PTR gb_2 0)) (rP (rW (HDR go_4 0 (List.length x_3) gc_5)) r0)) ((), ((), ()))) (Comp.at' (Comp.inS (Comp.inF (Comp.self (rW (HDR go_4 0 (List.length x_3) gc_5)) ()) (Nat.le_of_ble_eq_true rfl))) (by rfl : _ = 1)) (Nat.le_of_ble_eq_true rfl))) ?_
 refine jc (op_move lb (.tmp rfl)) ?_
 refine jc (op_buildF (r := (rU UInt8)) lb tu23 tz5 tZ5 rfl (Nat.le_of_ble_eq_true rfl) (.S rfl (.tmp rfl) .nil) rfl) ?_
 refine JL.sub ⟨[(7, ov (PTR gb_2 0)), (11, ov (HDR go_4 0 (List.length x_3) gc_5)), (13, ov (S (rL (rU UInt8)) ([c_1] : (List UInt8))))], [cvarT 81 gb_2 (rP (rW (PTR gb_2 0)) (rP (rW (HDR go_4 0 (List.length x_3) gc_5)) r0)) ((), ((), ())), cownT 5 go_4 (rU UInt8) x_3 0 gc_5], []⟩ (.cons rfl (.cons rfl (.cons rfl .nil))) rfl rfl ?_
 replace hm := bnd_inv hm
 obtain ⟨x_7, hv_x_7, hm⟩ := hm
 refine jx (op_appendLT (j := 1) lb tu23 tu23 rfl tB5 rfl (Nat.lt_of_lt_of_le Nat.zero_lt_one (Nat.le_of_ble_eq_true rfl)) (Nat.lt_of_lt_of_le Nat.zero_lt_one (Nat.le_of_ble_eq_true rfl))  rfl (.tmp rfl) (.tmp rfl) hv_x_7) (fun q => ?_)
 obtain ⟨go_8, gc_9⟩ := q
 refine jc (op_nilCheck lb (.tmp rfl) (fun e v h => by subst h; rfl)) ?_
 refine jc (op_fieldAddr (off := 1) lb tf81_1 (.tmp rfl)) ?_
 refine jc (op_storeWT (j := 0) tS23 (.tmp rfl) (.tmp rfl) rfl ((UpdR.snd (UpdR.fst (UpdR.self (by rfl)))).at (by change (1 + 0) = (0 + 1); omega)) rfl) ?_
 refine JL.nil ?_
 refine JQ.then ?_
 refine JC.seq ?_
 refine JC.region ?_
 refine jc (op_assign lb (HasO.const (p := NILI) fun _ => rfl)) ?_
 refine JL.nil ?_
 refine JQ.then ?_
 refine JC.ret ?_
 replace hm := Option.some.inj hm
 subst hm
 exact JQ.done (js := [0, 0]) (ss := [.val (NILI)]) (go_8, gc_9) (.inl rfl) (.nil rfl) rfl (.cons (.tmp rfl) .nil) rfl rfl rfl

theorem sim_strings_Builder_String (k : Nat) (x_2 : (List UInt8)) (gb_1 : Nat) (go_3 : Option Nat) (gc_4 : Nat) (r : (List UInt8)) (hm : strings_Builder_String k x_2 = some r) : Sim Try.prog 52 [PTR gb_1 0] [cvarT 81 gb_1 (rP (rW (PN gb_1)) (rP (rW (HDR go_3 0 (List.length x_2) gc_4)) r0)) ((), ((), ())), cownT 5 go_3 (rU UInt8) x_2 0 gc_4] (γ := Unit) (fun q => []) (fun q => .one (.val (S rS r))) := by
 unfold strings_Builder_String at hm
 refine Sim.of Try.func52 rfl rfl (Nat.le_of_ble_eq_true rfl) (fun e0 w0 => ?_)
 refine JC.at ⟨[(0, ov (PTR gb_1 0))], [cvarT 81 gb_1 (rP (rW (PN gb_1)) (rP (rW (HDR go_3 0 (List.length x_2) gc_4)) r0)) ((), ((), ())), cownT 5 go_3 (rU UInt8) x_2 0 gc_4], []⟩ ?_
 refine JC.seq ?_
 refine JC.region ?_
 refine jc (op_assign lb (HasO.cS (l := []) rfl)) ?_
 refine JL.nil ?_
 refine JQ.then ?_
 refine JC.seq ?_
 replace hm := bnd_inv hm
 obtain ⟨v_5, hv_v_5, hm⟩ := hm
 refine JC.anyE (kl := []) (kk := 0) (base := [(0, ov (PTR gb_1 0))])
     (fs := fun γ => [⟨some 3, ov (PTR gb_1 0)⟩, ⟨some 4, ov (PTR gb_1 0)⟩, ⟨some 5, ov (PTR gb_1 (0 + 1))⟩, ⟨some 6, ov (HDR go_3 0 (List.length x_2) gc_4)⟩, ⟨some 7, ov (SDP go_3 gc_4)⟩, ⟨some 8, ov (PTR gb_1 0)⟩, ⟨some 9, ov (PTR gb_1 0)⟩, ⟨some 10, ov (PTR gb_1 (0 + 1))⟩, ⟨some 11, ov (HDR go_3 0 (List.length x_2) gc_4)⟩, ⟨some 12, ov (S (rI .i64) (List.length x_2 : Int))⟩, ⟨some 13, ov (S rS v_5)⟩, ⟨some 2, ov (S rS v_5)⟩])
     (rs := fun γ => [⟨cvarT 81 gb_1 (rP (rW (PN gb_1)) (rP (rW (HDR go_3 0 (List.length x_2) gc_4)) r0)) ((), ((), ())), none, none, [3, 8]⟩, ⟨cownT 5 go_3 (rU UInt8) x_2 0 gc_4, none, (some 10), [4]⟩])
     (ds := [3, 4, 5, 6, 7, 8, 9, 10, 11, 12, 13, 2]) (bs := [0]) (afts := [[], [], [], [], [], [], [], [], [], [], [], []]) (js := [0, 0]) mixed (.cons rfl .nil) (fun _ => rfl)
     (by
      refine dS 1 (fun γ ρ B hb hd => op_move lb (.tmp (hb 0 _ rfl))) ?_
      refine dS 2 (fun γ ρ B hb hd => op_nilCheck lb (.tmp (hl hd 0 3 rfl)) (fun e v h => by subst h; rfl)) ?_
      refine dS 3 (fun γ ρ B hb hd => op_fieldAddr (off := 1) lb tf81_1 (.tmp (hl hd 1 4 rfl))) ?_
      refine DSteps.cons (j := 4) rfl (fun _ => rfl) (.run (fun γ ρ B hb hd => ⟨.none, OpStep.at ⟨ρ, (cvarT 81 gb_1 (rP (rW (PN gb_1)) (rP (rW (HDR go_3 0 (List.length x_2) gc_4)) r0)) ((), ((), ()))) :: B, _⟩ (setO ⟨ρ, (cvarT 81 gb_1 (rP (rW (PN gb_1)) (rP (rW (HDR go_3 0 (List.length x_2) gc_4)) r0)) ((), ((), ()))) :: B, _⟩ _ _) (op_loadWT (j := 0) lb tS23 (.tmp (hl hd 2 5 rfl)) rfl (Comp.trans (Comp.self (rP (rW (PN gb_1)) (rP (rW (HDR go_3 0 (List.length x_2) gc_4)) r0)) ((), ((), ()))) (Comp.at' (Comp.inS (Comp.inF (Comp.self (rW (HDR go_3 0 (List.length x_2) gc_4)) ()) (Nat.le_of_ble_eq_true rfl))) (by rfl : _ = 1)) (Nat.le_of_ble_eq_true rfl)))⟩)) ?_
      refine DSteps.cons (j := 5) rfl (fun _ => rfl) (.run (fun γ ρ B hb hd => ⟨.none, OpStep.at ⟨ρ, (cownT 5 go_3 (rU UInt8) x_2 0 gc_4) :: B, _⟩ (setO ⟨ρ, (cownT 5 go_3 (rU UInt8) x_2 0 gc_4) :: B, _⟩ _ _) (op_sliceData (j := 0) lb tu87 rfl (.tmp (hl hd 3 6 rfl)))⟩)) ?_
      refine dS 6 (fun γ ρ B hb hd => op_move lb (.tmp (hb 0 _ rfl))) ?_
      refine dS 7 (fun γ ρ B hb hd => op_nilCheck lb (.tmp (hl hd 5 8 rfl)) (fun e v h => by subst h; rfl)) ?_
      refine dS 8 (fun γ ρ B hb hd => op_fieldAddr (off := 1) lb tf81_1 (.tmp (hl hd 6 9 rfl))) ?_
      refine DSteps.cons (j := 9) rfl (fun _ => rfl) (.run (fun γ ρ B hb hd => ⟨.none, OpStep.at ⟨ρ, (cvarT 81 gb_1 (rP (rW (PN gb_1)) (rP (rW (HDR go_3 0 (List.length x_2) gc_4)) r0)) ((), ((), ()))) :: B, _⟩ (setO ⟨ρ, (cvarT 81 gb_1 (rP (rW (PN gb_1)) (rP (rW (HDR go_3 0 (List.length x_2) gc_4)) r0)) ((), ((), ()))) :: B, _⟩ _ _) (op_loadWT (j := 0) lb tS23 (.tmp (hl hd 7 10 rfl)) rfl (Comp.trans (Comp.self (rP (rW (PN gb_1)) (rP (rW (HDR go_3 0 (List.length x_2) gc_4)) r0)) ((), ((), ()))) (Comp.at' (Comp.inS (Comp.inF (Comp.self (rW (HDR go_3 0 (List.length x_2) gc_4)) ()) (Nat.le_of_ble_eq_true rfl))) (by rfl : _ = 1)) (Nat.le_of_ble_eq_true rfl)))⟩)) ?_
      refine dS 10 (fun γ ρ B hb hd => op_lenH lb tu23 (.tmp (hl hd 8 11 rfl))) ?_
      refine DSteps.cons (j := 11) rfl (fun _ => rfl) (.run (fun γ ρ B hb hd => ⟨.none, OpStep.at ⟨ρ, (cownT 5 go_3 (rU UInt8) x_2 0 gc_4) :: B, _⟩ (setO ⟨ρ, B, _⟩ _ _) (op_unsafeStr (j := 0) lb tu87 co5 rfl (.tmp (hl hd 4 7 rfl)) (.tmp (hl hd 9 12 rfl)) hv_v_5)⟩)) ?_
      refine dS 12 (fun γ ρ B hb hd => op_assign lb (.tmp (hl hd 10 13 rfl))) ?_
      exact DSteps.nil)
     (by decide +kernel) (fun _ => rfl) rfl (fun _ => rfl) (fun _ => rfl) rfl (by decide) (by decide) (by decide +kernel) (fun _ d h => by cases h)
     (ρ' := fun γ => [(2, ov (S rS v_5))])
     (X' := fun γ => [cvarT 81 gb_1 (rP (rW (PN gb_1)) (rP (rW (HDR go_3 0 (List.length x_2) gc_4)) r0)) ((), ((), ()))])
     (fun γ ρ hb hd => (.cons (hdq hd 11 2 rfl) .nil)) (fun _ => rfl) (fun γ => ?_)
 refine JQ.at ⟨[(2, ov (S rS v_5))], [cvarT 81 gb_1 (rP (rW (PN gb_1)) (rP (rW (HDR go_3 0 (List.length x_2) gc_4)) r0)) ((), ((), ()))], []⟩ ?_
 refine JQ.then ?_
 refine JC.ret ?_
 replace hm := Option.some.inj hm
 subst hm
 exact JQ.done (js := []) (ss := [.val (S rS v_5)]) () (.inl rfl) (.nil rfl) rfl (.cons (.tmp rfl) .nil) rfl rfl rfl

theorem sim_wire_Hex (k : Nat) (b_1 : (List UInt8)) (r : (List UInt8)) (hm : wire_Hex k b_1 = some r) : Sim Try.prog 37 [S (rL (rU UInt8)) b_1] [] (γ := Unit) (fun q => []) (fun q => .one (.val (S rS r))) := by
 unfold wire_Hex at hm
 refine Sim.of Try.func37 rfl rfl (Nat.le_of_ble_eq_true rfl) (fun e0 w0 => ?_)
 refine JC.at ⟨[(0, ov (S (rL (rU UInt8)) b_1))], [], []⟩ ?_
 refine JC.seq ?_
 refine JC.region ?_
 refine jc (op_assign lb (HasO.cS (l := []) rfl)) ?_
 refine JL.nil ?_
 refine JQ.then ?_
 refine JC.seq ?_
 refine JC.region ?_
 refine jx (op_allocT lb tZ81 zr81) (fun q => ?_)
 obtain ⟨gb_2, hqq⟩ : ∃ z, z = q := ⟨_, rfl⟩
 subst hqq
 refine JL.nil ?_
 refine JQ.then ?_
 replace hm := bnd_inv hm
 obtain ⟨buf_20, hx1, hq1⟩ := hm
 refine JC.seqJ (γ := Option Nat × Nat) (stj := fun q => ⟨[(3, ov (PTR gb_2 0))], [cvarT 81 gb_2 (rP (rW (PN gb_2)) (rP (rW (HDR q.1 0 (List.length buf_20) q.2)) r0)) ((), ((), ())), cownT 5 q.1 (rU UInt8) buf_20 0 q.2], []⟩) (fun q => ?_) ?_
 · obtain ⟨go_21, gc_22⟩ := q
   refine JC.at ⟨[(3, ov (PTR gb_2 0))], [cvarT 81 gb_2 (rP (rW (PN gb_2)) (rP (rW (HDR go_21 0 (List.length buf_20) gc_22)) r0)) ((), ((), ())), cownT 5 go_21 (rU UInt8) buf_20 0 gc_22], []⟩ ?_
   refine JC.seq ?_
   refine JC.region ?_
   replace hq1 := bnd_inv hq1
   obtain ⟨v_23, hv_v_23, hq1⟩ := hq1
   refine jx (op_call (js := [0, 0]) ld cl52 (sim_strings_Builder_String k buf_20 gb_2 go_21 gc_22 v_23 hv_v_23) .func (.cons (.tmp rfl) .nil) rfl) (fun _ => ?_)
   refine jc (op_assign lb (.tmp rfl)) ?_
   refine JL.nil ?_
   refine JQ.then ?_
   refine JC.ret ?_
   replace hq1 := Option.some.inj hq1
   subst hq1
   exact JQ.done (js := []) (ss := [.val (S rS v_23)]) () (.inl rfl) (.nil rfl) rfl (.cons (.tmp rfl) .nil) rfl rfl rfl
 · refine JC.seq ?_
   refine JC.region ?_
   refine jc (op_move lb (.tmp rfl)) ?_
   refine jc (op_lenL lb tu23 (.tmp rfl)) ?_
   refine jc (op_move lb .cI) ?_
   refine JL.nil ?_
   refine JQ.then ?_
   refine JC.block ?_
   refine JC.pre (Imp.nilownT 5 (rU UInt8)) ?_
   refine JC.pre (Imp.varT (j := 0) (q := (rP (rW (PN gb_2)) (rP (rW (HDR none 0 (List.length ([] : (List UInt8))) (0))) r0))) (y := ((), ((), ()))) rfl (Wk.pair Wk.pn0 (Wk.pair Wk.refl Wk.refl))) ?_
   refine JC.pre ?_ (JC.loop (γ := Option Nat × Nat) (stf := fun s q => ⟨[(3, ov (PTR gb_2 0)), (6, ov (S (rL (rU UInt8)) b_1)), (7, ov (S (rI .i64) (List.length b_1 : Int))), (8, ov (S (rI .i64) s.2))], [cvarT 81 gb_2 (rP (rW (PN gb_2)) (rP (rW (HDR q.1 0 (List.length s.1) q.2)) r0)) ((), ((), ())), cownT 5 q.1 (rU UInt8) s.1 0 q.2], []⟩) (q := (none, 0)) hx1 ?_)
   · exact (Imp.norm (js := [0, 0]) rfl (.cons rfl (.cons rfl (.cons rfl (.cons rfl .nil)))))
   · intro s q x hx hr
     obtain ⟨buf_3, x_4⟩ := s
     obtain ⟨go_5, gc_6⟩ := q
     change wire_Hex.b1 k b_1 buf_3 x_4 = some x at hx
     unfold wire_Hex.b1 at hx
     refine JC.at ⟨[(3, ov (PTR gb_2 0)), (6, ov (S (rL (rU UInt8)) b_1)), (7, ov (S (rI .i64) (List.length b_1 : Int))), (8, ov (S (rI .i64) x_4))], [cvarT 81 gb_2 (rP (rW (PN gb_2)) (rP (rW (HDR go_5 0 (List.length buf_3) gc_6)) r0)) ((), ((), ())), cownT 5 go_5 (rU UInt8) buf_3 0 gc_6], []⟩ ?_
     refine JC.seq ?_
     refine JC.region ?_
     replace hx := lt1_inv hx
     obtain ⟨v_7, hv_v_7, hx⟩ := hx
     refine jc (op_cmpI lb (.tmp rfl) (.tmp rfl) (congrArg some hv_v_7)) ?_
     refine JL.nil ?_
     refine JQ.then ?_
     refine JC.seq ?_
     replace hx := iteB_inv hx
     rcases hx with ⟨hc3, hx⟩ | ⟨hc3, hx⟩
     · refine JC.condT (.tmp rfl) hc3 ?_
       refine JC.skip ?_
       refine JQ.then ?_
       refine JC.seq ?_
       refine JC.block ?_
       refine JC.seq ?_
       refine JC.region ?_
       replace hx := bnd_inv hx
       obtain ⟨v_8, hv_v_8, hx⟩ := hx
       refine jc (op_indexAddrLg lb tu23 tz5 (.tmp rfl) (.tmp rfl) hv_v_8) ?_
       refine jc (op_loadPSg lb tS5 rfl (.tmp rfl) rfl) ?_
       refine jc (op_assign lb (.tmp rfl)) ?_
       refine JL.nil ?_
       refine JQ.then ?_
       refine JC.seq ?_
       refine JC.region ?_
       refine jc (op_move lb (.tmp rfl)) ?_
       replace hx := lt1_inv hx
       obtain ⟨v_9, hv_v_9, hx⟩ := hx
       refine jc (op_shrUU lb (.tmp rfl) (HasO.cU (x := (4 : UInt64)) rfl (by decide)) hv_v_9) ?_
       replace hx := bnd_inv hx
       obtain ⟨v_10, hv_v_10, hx⟩ := hx
       refine jc (op_indexStrUg lb tu9 (HasO.cS (l := [48, 49, 50, 51, 52, 53, 54, 55, 56, 57, 97, 98, 99, 100, 101, 102]) rfl) (.tmp rfl) hv_v_10) ?_
       replace hx := bnd_inv hx
       obtain ⟨v_11, hv_v_11, hx⟩ := hx
       refine jx (op_call (js := [0, 0]) ld cl51 (sim_strings_Builder_WriteByte'3 k v_10 buf_3 gb_2 go_5 gc_6 v_11 hv_v_11) .func (.cons (.tmp rfl) (.cons (.tmp rfl) .nil)) rfl) (fun q => ?_)
       obtain ⟨go_12, gc_13⟩ := q
       refine JL.nil ?_
       refine JQ.then ?_
       refine JC.region ?_
       refine jc (op_move lb (.tmp rfl)) ?_
       replace hx := lt1_inv hx
       obtain ⟨v_14, hv_v_14, hx⟩ := hx
       refine jc (op_arU lb (.tmp rfl) (HasO.cU (x := (15 : UInt8)) rfl (by decide)) (congrArg some hv_v_14)) ?_
       refine JL.sub ⟨[(3, ov (PTR gb_2 0)), (6, ov (S (rL (rU UInt8)) b_1)), (7, ov (S (rI .i64) (List.length b_1 : Int))), (8, ov (S (rI .i64) x_4)), (17, ov (S (rU UInt8) v_14))], [cvarT 81 gb_2 (rP (rW (PTR gb_2 0)) (rP (rW (HDR go_12 0 (List.length v_11) gc_13)) r0)) ((), ((), ())), cownT 5 go_12 (rU UInt8) v_11 0 gc_13], []⟩ (.cons rfl (.cons rfl (.cons rfl (.cons rfl (.cons rfl .nil))))) rfl rfl ?_
       replace hx := bnd_inv hx
       obtain ⟨v_15, hv_v_15, hx⟩ := hx
       refine jc (op_indexStrUg lb tu9 (HasO.cS (l := [48, 49, 50, 51, 52, 53, 54, 55, 56, 57, 97, 98, 99, 100, 101, 102]) rfl) (.tmp rfl) hv_v_15) ?_
       replace hx := bnd_inv hx
       obtain ⟨v_16, hv_v_16, hx⟩ := hx
       refine jx (op_call (js := [0, 0]) ld cl51 (sim_strings_Builder_WriteByte'2 k v_15 v_11 gb_2 go_12 gc_13 v_16 hv_v_16) .func (.cons (.tmp rfl) (.cons (.tmp rfl) .nil)) rfl) (fun q => ?_)
       obtain ⟨go_17, gc_18⟩ := q
       refine JL.nil ?_
       refine JQ.outNB ?_
       refine JQ.then ?_
       refine JC.region ?_
       replace hx := lt1_inv hx
       obtain ⟨v_19, hv_v_19, hx⟩ := hx
       refine jc (op_arI lb (.tmp rfl) .cI (congrArg some hv_v_19)) ?_
       refine jc (op_move lb (.tmp rfl)) ?_
       refine JL.nil ?_
       replace hx := Option.some.inj hx
       first | subst hx | clear hx
       refine JQ.pre (Imp.varT (j := 0) (q := (rP (rW (PN gb_2)) (rP (rW (HDR go_17 0 (List.length v_16) gc_18)) r0))) (y := ((), ((), ()))) rfl (Wk.pair Wk.pn1 (Wk.pair Wk.refl Wk.refl))) ?_
       exact JQ.next (go_17, gc_18) rfl (Imp.norm (js := [0, 0]) rfl (.cons rfl (.cons rfl (.cons rfl (.cons rfl .nil)))))
     · refine JC.condF (.tmp rfl) hc3 ?_
       refine JC.exit ?_
       refine JQ.outX ?_
       replace hx := Option.some.inj hx
       first | subst hx | clear hx
       have ht := hr _ rfl
       have hq2 := congrArg some ht
       clear hr ht
       refine JQ.outX ?_
       refine JQ.here ?_
       replace hq2 := Option.some.inj hq2
       first | subst hq2 | clear hq2
       exact JQ.join (go_5, gc_6) (Imp.norm (js := [0, 0]) rfl (.cons rfl .nil))

theorem sim_ref01_Hex (k : Nat) (b_1 : (List UInt8)) (r : (List UInt8)) (hm : ref01_Hex k b_1 = some r) : Sim Try.prog 38 [S (rL (rU UInt8)) b_1] [] (γ := Unit) (fun q => []) (fun q => .one (.val (S rS r))) := by
 unfold ref01_Hex at hm
 refine Sim.of Try.func38 rfl rfl (Nat.le_of_ble_eq_true rfl) (fun e0 w0 => ?_)
 refine JC.at ⟨[(0, ov (S (rL (rU UInt8)) b_1))], [], []⟩ ?_
 refine JC.seq ?_
 refine JC.region ?_
 refine jc (op_assign lb (HasO.cS (l := []) rfl)) ?_
 refine JL.nil ?_
 refine JQ.then ?_
 refine JC.seq ?_
 refine JC.region ?_
 refine jc (op_assign lb (HasO.cS (l := [48, 49, 50, 51, 52, 53, 54, 55, 56, 57, 97, 98, 99, 100, 101, 102]) rfl)) ?_
 refine JL.nil ?_
 refine JQ.then ?_
 refine JC.seq ?_
 refine JC.region ?_
 refine jc (op_assign lb HasO.nilH) ?_
 refine JL.nil ?_
 refine JQ.then ?_
 replace hm := bnd_inv hm
 obtain ⟨o_17, hx1, hq1⟩ := hm
 refine JC.seqJ (γ := Option Nat × Nat) (stj := fun q => ⟨[(4, ov (HDR q.1 0 (List.length o_17) q.2))], [cown q.1 (rU UInt8) o_17 0 q.2], []⟩) (fun q => ?_) ?_
 · obtain ⟨go_18, gc_19⟩ := q
   refine JC.at ⟨[(4, ov (HDR go_18 0 (List.length o_17) gc_19))], [cown go_18 (rU UInt8) o_17 0 gc_19], []⟩ ?_
   refine JC.seq ?_
   refine JC.region ?_
   refine jc (op_move lb (.tmp rfl)) ?_
   refine jc (op_convOS (j := 0) lb tu23 tu5 tu9 rfl (.tmp rfl)) ?_
   refine jc (op_assign lb (.tmp rfl)) ?_
   refine JL.nil ?_
   refine JQ.then ?_
   refine JC.ret ?_
   replace hq1 := Option.some.inj hq1
   subst hq1
   exact JQ.done (js := []) (ss := [.val (S rS o_17)]) () (.inl rfl) (.nil rfl) rfl (.cons (.tmp rfl) .nil) rfl rfl rfl
 · refine JC.seq ?_
   refine JC.region ?_
   refine jc (op_assign lb .cI) ?_
   refine JL.nil ?_
   refine JQ.then ?_
   refine JC.block ?_
   refine JC.pre (Imp.nilown (rU UInt8)) ?_
   refine JC.pre ?_ (JC.loop (γ := Option Nat × Nat) (stf := fun s q => ⟨[(0, ov (S (rL (rU UInt8)) b_1)), (3, ov (S rS ([48, 49, 50, 51, 52, 53, 54, 55, 56, 57, 97, 98, 99, 100, 101, 102] : List UInt8))), (4, ov (HDR q.1 0 (List.length s.1) q.2)), (5, ov (S (rI .i64) s.2))], [cown q.1 (rU UInt8) s.1 0 q.2], []⟩) (q := (none, 0)) hx1 ?_)
   · exact (Imp.norm (js := [0]) rfl (.cons rfl (.cons rfl (.cons rfl (.cons rfl .nil)))))
   · intro s q x hx hr
     obtain ⟨o_2, i_3⟩ := s
     obtain ⟨go_4, gc_5⟩ := q
     change ref01_Hex.b1 k b_1 o_2 i_3 = some x at hx
     unfold ref01_Hex.b1 at hx
     refine JC.at ⟨[(0, ov (S (rL (rU UInt8)) b_1)), (3, ov (S rS ([48, 49, 50, 51, 52, 53, 54, 55, 56, 57, 97, 98, 99, 100, 101, 102] : List UInt8))), (4, ov (HDR go_4 0 (List.length o_2) gc_5)), (5, ov (S (rI .i64) i_3))], [cown go_4 (rU UInt8) o_2 0 gc_5], []⟩ ?_
     refine JC.seq ?_
     refine JC.seq ?_
     refine JC.region ?_
     refine jc (op_move lb (.tmp rfl)) ?_
     refine jc (op_move lb (.tmp rfl)) ?_
     refine jc (op_lenL lb tu23 (.tmp rfl)) ?_
     replace hx := lt1_inv hx
     obtain ⟨v_6, hv_v_6, hx⟩ := hx
     refine jc (op_cmpI lb (.tmp rfl) (.tmp rfl) (congrArg some hv_v_6)) ?_
     refine JL.nil ?_
     refine JQ.then ?_
     replace hx := iteB_inv hx
     rcases hx with ⟨hc3, hx⟩ | ⟨hc3, hx⟩
     · refine JC.condT (.tmp rfl) hc3 ?_
       refine JC.skip ?_
       refine JQ.then ?_
       refine JC.seq ?_
       refine JC.block ?_
       replace hx := bnd_inv hx
       obtain ⟨v_7, hv_v_7, hx⟩ := hx
       replace hx := bnd_inv hx
       obtain ⟨v_8, hv_v_8, hx⟩ := hx
       replace hx := bnd_inv hx
       obtain ⟨v_9, hv_v_9, hx⟩ := hx
       replace hx := bnd_inv hx
       obtain ⟨v_10, hv_v_10, hx⟩ := hx
       replace hx := bnd_inv hx
       obtain ⟨v_11, hv_v_11, hx⟩ := hx
       replace hx := bnd_inv hx
       obtain ⟨v_12, hv_v_12, hx⟩ := hx
       replace hx := bnd_inv hx
       obtain ⟨o_13, hv_o_13, hx⟩ := hx
       refine JC.anyE (kl := [4]) (kk := 17) (base := [(0, ov (S (rL (rU UInt8)) b_1)), (3, ov (S rS ([48, 49, 50, 51, 52, 53, 54, 55, 56, 57, 97, 98, 99, 100, 101, 102] : List UInt8))), (4, ov (HDR go_4 0 (List.length o_2) gc_5)), (5, ov (S (rI .i64) i_3))])
           (fs := fun γ => [⟨some 12, ov (HDR go_4 0 (List.length o_2) gc_5)⟩, ⟨some 13, ov (S rS ([48, 49, 50, 51, 52, 53, 54, 55, 56, 57, 97, 98, 99, 100, 101, 102] : List UInt8))⟩, ⟨some 14, ov (S (rL (rU UInt8)) b_1)⟩, ⟨some 15, ov (S (rI .i64) i_3)⟩, ⟨some 16, ov (PT (rU UInt8) v_7)⟩, ⟨some 17, ov (S (rU UInt8) v_7)⟩, ⟨some 18, ov (S (rU UInt8) v_8)⟩, ⟨some 19, ov (S (rU UInt8) v_9)⟩, ⟨some 20, ov (S rS ([48, 49, 50, 51, 52, 53, 54, 55, 56, 57, 97, 98, 99, 100, 101, 102] : List UInt8))⟩, ⟨some 21, ov (S (rL (rU UInt8)) b_1)⟩, ⟨some 22, ov (S (rI .i64) i_3)⟩, ⟨some 23, ov (PT (rU UInt8) v_10)⟩, ⟨some 24, ov (S (rU UInt8) v_10)⟩, ⟨some 25, ov (S (rU UInt8) v_11)⟩, ⟨some 26, ov (S (rU UInt8) v_12)⟩, ⟨some 27, ov (S (rL (rU UInt8)) ([v_9, v_12] : (List UInt8)))⟩, ⟨some 28, ov (HDR (deo (γ 16 0)) 0 (List.length o_13) (γ 16 1))⟩, ⟨some 4, ov (HDR (deo (γ 16 0)) 0 (List.length o_13) (γ 16 1))⟩])
           (rs := fun γ => [⟨cown go_4 (rU UInt8) o_2 0 gc_5, none, (some 16), []⟩, ⟨cown (deo (γ 16 0)) (rU UInt8) o_13 0 (γ 16 1), (some 16), none, []⟩])
           (ds := [12, 13, 14, 15, 16, 17, 18, 19, 20, 21, 22, 23, 24, 25, 26, 27, 28, 4]) (bs := [0, 3, 4, 5]) (afts := [[], [], [], [], [], [], [], [], [], [], [], [], [], [], [], [], [16, 17], []]) (js := [0]) mixed (.cons rfl (.cons rfl (.cons rfl (.cons rfl .nil)))) (fun _ => rfl)
           (by
      refine dS 1 (fun γ ρ B hb hd => op_move lb (.tmp (hb 4 _ rfl))) ?_
      refine dS 2 (fun γ ρ B hb hd => op_move lb (.tmp (hb 3 _ rfl))) ?_
      refine dS 3 (fun γ ρ B hb hd => op_move lb (.tmp (hb 0 _ rfl))) ?_
      refine dS 4 (fun γ ρ B hb hd => op_move lb (.tmp (hb 5 _ rfl))) ?_
      refine dS 5 (fun γ ρ B hb hd => op_indexAddrLg lb tu23 tz5 (.tmp (hl hd 2 14 rfl)) (.tmp (hl hd 3 15 rfl)) hv_v_7) ?_
      refine dS 6 (fun γ ρ B hb hd => op_loadPSg lb tS5 rfl (.tmp (hl hd 4 16 rfl)) rfl) ?_
      refine dS 7 (fun γ ρ B hb hd => op_arU lb (.tmp (hl hd 5 17 rfl)) (HasO.cU (x := (16 : UInt8)) rfl (by decide)) hv_v_8) ?_
      refine dS 8 (fun γ ρ B hb hd => op_indexStrUg lb tu9 (.tmp (hl hd 1 13 rfl)) (.tmp (hl hd 6 18 rfl)) hv_v_9) ?_
      refine dS 9 (fun γ ρ B hb hd => op_move lb (.tmp (hb 3 _ rfl))) ?_
      refine dS 10 (fun γ ρ B hb hd => op_move lb (.tmp (hb 0 _ rfl))) ?_
      refine dS 11 (fun γ ρ B hb hd => op_move lb (.tmp (hb 5 _ rfl))) ?_
      refine dS 12 (fun γ ρ B hb hd => op_indexAddrLg lb tu23 tz5 (.tmp (hl hd 9 21 rfl)) (.tmp (hl hd 10 22 rfl)) hv_v_10) ?_
      refine dS 13 (fun γ ρ B hb hd => op_loadPSg lb tS5 rfl (.tmp (hl hd 11 23 rfl)) rfl) ?_
      refine dS 14 (fun γ ρ B hb hd => op_arU lb (.tmp (hl hd 12 24 rfl)) (HasO.cU (x := (16 : UInt8)) rfl (by decide)) hv_v_11) ?_
      refine dS 15 (fun γ ρ B hb hd => op_indexStrUg lb tu9 (.tmp (hl hd 8 20 rfl)) (.tmp (hl hd 13 25 rfl)) hv_v_12) ?_
      refine dS 16 (fun γ ρ B hb hd => op_buildF (r := (rU UInt8)) lb tu23 tz5 tZ5 rfl (Nat.le_of_ble_eq_true rfl) (.S rfl (.tmp (hl hd 7 19 rfl)) (.S rfl (.tmp (hl hd 14 26 rfl)) .nil)) rfl) ?_
      refine DSteps.cons (j := 17) rfl (fun _ => rfl) (.runX (fun _ _ => rfl) (fun γ ρ B hb hd => ⟨.none, OpX.ghost (γ := Option Nat × Nat) (st' := fun q => setO ⟨ρ, (cown q.1 (rU UInt8) o_13 0 q.2) :: B, _⟩ (some 28) (ov (HDR q.1 0 (List.length o_13) q.2))) (fun q c => bif Nat.beq c 0 then eno q.1 else q.2) (op_appendL (j := 0) lb tu23 tu23 rfl tB5 rfl (Nat.lt_of_lt_of_le Nat.zero_lt_one (Nat.le_of_ble_eq_true rfl)) (Nat.lt_of_lt_of_le Nat.zero_lt_one (Nat.le_of_ble_eq_true rfl))  rfl (.tmp (hl hd 0 12 rfl)) (.tmp (hl hd 15 27 rfl)) hv_o_13) (fun q => by obtain ⟨q0, q1⟩ := q; cases q0 <;> exact Imp.refl)⟩) (fun _ _ => rfl) (fun _ _ => rfl)) ?_
      refine dS 18 (fun γ ρ B hb hd => op_assign lb (.tmp (hl hd 16 28 rfl))) ?_
      exact DSteps.nil)
           (by decide +kernel) (fun _ => rfl) rfl (fun _ => rfl) (fun _ => rfl) rfl (by decide) (by decide) (by decide +kernel) (fun _ d h => by simp at h; subst h; exact ⟨_, rfl, rfl⟩)
           (ρ' := fun γ => [(0, ov (S (rL (rU UInt8)) b_1)), (3, ov (S rS ([48, 49, 50, 51, 52, 53, 54, 55, 56, 57, 97, 98, 99, 100, 101, 102] : List UInt8))), (4, ov (HDR (deo (γ 16 0)) 0 (List.length o_13) (γ 16 1))), (5, ov (S (rI .i64) i_3))])
           (X' := fun γ => [cown (deo (γ 16 0)) (rU UInt8) o_13 0 (γ 16 1)])
           (fun γ ρ hb hd => (.cons (hb 0 _ rfl (by decide)) (.cons (hb 3 _ rfl (by decide)) (.cons (hdq hd 17 4 rfl) (.cons (hb 5 _ rfl (by decide)) .nil))))) (fun _ => rfl) (fun γ => ?_)
       generalize (deo (γ 16 0)) = go_14
       generalize (γ 16 1) = gc_15
       clear γ
       refine JQ.at ⟨[(0, ov (S (rL (rU UInt8)) b_1)), (3, ov (S rS ([48, 49, 50, 51, 52, 53, 54, 55, 56, 57, 97, 98, 99, 100, 101, 102] : List UInt8))), (4, ov (HDR go_14 0 (List.length o_13) gc_15)), (5, ov (S (rI .i64) i_3))], [cown go_14 (rU UInt8) o_13 0 gc_15], []⟩ ?_
       refine JQ.outNB ?_
       refine JQ.then ?_
       refine JC.region ?_
       refine jc (op_move lb (.tmp rfl)) ?_
       replace hx := lt1_inv hx
       obtain ⟨v_16, hv_v_16, hx⟩ := hx
       refine jc (op_arI lb (.tmp rfl) .cI (congrArg some hv_v_16)) ?_
       refine jc (op_assign lb (.tmp rfl)) ?_
       refine JL.nil ?_
       replace hx := Option.some.inj hx
       first | subst hx | clear hx
       exact JQ.next (go_14, gc_15) rfl (Imp.norm (js := [0]) rfl (.cons rfl (.cons rfl (.cons rfl (.cons rfl .nil)))))
     · refine JC.condF (.tmp rfl) hc3 ?_
       refine JC.exit ?_
       refine JQ.outX ?_
       replace hx := Option.some.inj hx
       first | subst hx | clear hx
       have ht := hr _ rfl
       have hq2 := congrArg some ht
       clear hr ht
       refine JQ.outX ?_
       refine JQ.here ?_
       replace hq2 := Option.some.inj hq2
       first | subst hq2 | clear hq2
       exact JQ.join (go_4, gc_5) (Imp.norm (js := [0]) rfl (.cons rfl .nil))

theorem sim_law01_WireHex (k : Nat) (b_1 : (List UInt8)) (s_2 : (List UInt8)) (r : Bool) (hm : law01_WireHex k b_1 s_2 = some r) : Sim Try.prog 7 [S (rL (rU UInt8)) b_1, S rS s_2] [] (γ := Unit) (fun q => []) (fun q => .one (.val (S rB r))) := by
 unfold law01_WireHex at hm
 refine Sim.of Try.func7 rfl rfl (Nat.le_of_ble_eq_true rfl) (fun e0 w0 => ?_)
 refine JC.at ⟨[(0, ov (S (rL (rU UInt8)) b_1)), (1, ov (S rS s_2))], [], []⟩ ?_
 refine JC.seq ?_
 refine JC.region ?_
 refine jc (op_assign lb .cB) ?_
 refine JL.nil ?_
 refine JQ.then ?_
 refine JC.seq ?_
 replace hm := bnd_inv hm
 obtain ⟨x_6, hx1, hq1⟩ := hm
 refine JC.seqJ (γ := Unit) (stj := fun q => ⟨[(0, ov (S (rL (rU UInt8)) b_1)), (1, ov (S rS s_2)), (16, ov (S rB x_6))], [], []⟩) (fun q => ?_) ?_
 · obtain _ := q
   refine JC.at ⟨[(0, ov (S (rL (rU UInt8)) b_1)), (1, ov (S rS s_2)), (16, ov (S rB x_6))], [], []⟩ ?_
   replace hq1 := iteB_inv hq1
   rcases hq1 with ⟨hc6, hq1⟩ | ⟨hc6, hq1⟩
   · refine JC.condT (.tmp rfl) hc6 ?_
     refine JC.seq ?_
     refine JC.region ?_
     replace hq1 := bnd_inv hq1
     obtain ⟨v_7, hv_v_7, hq1⟩ := hq1
     refine jx (op_call (js := []) ld cl9 (sim_law01_known k v_7 hv_v_7) .func .nil rfl) (fun _ => ?_)
     refine jc (op_assign lb (.tmp rfl)) ?_
     refine JL.nil ?_
     refine JQ.then ?_
     refine JC.ret ?_
     refine JQ.outR ?_
     replace hq1 := Option.some.inj hq1
     subst hq1
     exact JQ.done (js := []) (ss := [.val (S rB v_7)]) () (.inl rfl) (.nil rfl) rfl (.cons (.tmp rfl) .nil) rfl rfl rfl
   · refine JC.condF (.tmp rfl) hc6 ?_
     refine JC.skip ?_
     refine JQ.then ?_
     refine JC.seq ?_
     refine JC.region ?_
     refine jc (op_move lb (.tmp rfl)) ?_
     replace hq1 := bnd_inv hq1
     obtain ⟨⟨v_8, v_9⟩, hv_v_8, hq1⟩ := hq1
     refine jx (op_call (js := []) ld cl35 (sim_wire_Unhex k s_2 (v_8, v_9) hv_v_8) .func (.cons (.tmp rfl) .nil) rfl) (fun q => ?_)
     obtain ⟨go_10, gc_11⟩ := q
     refine jc (op_move lb (.tmp rfl)) ?_
     refine jc (op_extract (i := 0) lb (.tmp rfl) rfl) ?_
     refine jc (op_extract (i := 1) lb (.tmp rfl) rfl) ?_
     refine jc (op_assign lb (.tmp rfl)) ?_
     refine jc (op_assign lb (.tmp rfl)) ?_
     refine JL.nil ?_
     refine JQ.then ?_
     refine JC.seq ?_
     refine JC.region ?_
     refine jc (op_move lb (.tmp rfl)) ?_
     replace hq1 := bnd_inv hq1
     obtain ⟨⟨v_12, v_13⟩, hv_v_12, hq1⟩ := hq1
     refine jx (op_call (js := []) ld cl36 (sim_ref01_Unhex k s_2 (v_12, v_13) hv_v_12) .func (.cons (.tmp rfl) .nil) rfl) (fun q => ?_)
     obtain ⟨go_14, gc_15⟩ := q
     refine JL.sub ⟨[(0, ov (S (rL (rU UInt8)) b_1)), (5, ov (HDR go_10 0 (List.length v_8) gc_11)), (6, ov (S (rI .i64) v_9)), (25, .tup [.val (HDR go_14 0 (List.length v_12) gc_15), .val (S rB v_13)])], [cown go_14 (rU UInt8) v_12 0 gc_15, cown go_10 (rU UInt8) v_8 0 gc_11], []⟩ (.cons rfl (.cons rfl (.cons rfl (.cons rfl .nil)))) rfl rfl ?_
     refine jc (op_move lb (.tmp rfl)) ?_
     refine jc (op_extract (i := 0) lb (.tmp rfl) rfl) ?_
     refine jc (op_extract (i := 1) lb (.tmp rfl) rfl) ?_
     refine jc (op_assign lb (.tmp rfl)) ?_
     refine jc (op_assign lb (.tmp rfl)) ?_
     refine JL.nil ?_
     refine JQ.then ?_
     replace hq1 := bnd_inv hq1
     obtain ⟨x_30, hx7, hq7⟩ := hq1
     refine JC.seqJ (γ := Unit) (stj := fun q => ⟨[(4, ov (S rB x_30))], [], []⟩) (fun q => ?_) ?_
     · obtain _ := q
       refine JC.at ⟨[(4, ov (S rB x_30))], [], []⟩ ?_
       refine JC.ret ?_
       replace hq7 := Option.some.inj hq7
       subst hq7
       exact JQ.done (js := []) (ss := [.val (S rB x_30)]) () (.inl rfl) (.nil rfl) rfl (.cons (.tmp rfl) .nil) rfl rfl rfl
     · refine JC.region ?_
       refine jc (op_move lb (.tmp rfl)) ?_
       replace hx7 := bnd_inv hx7
       obtain ⟨v_16, hv_v_16, hx7⟩ := hx7
       refine jx (op_call (js := []) ld cl37 (sim_wire_Hex k b_1 v_16 hv_v_16) .func (.cons (.tmp rfl) .nil) rfl) (fun _ => ?_)
       refine jc (op_move lb (.tmp rfl)) ?_
       replace hx7 := bnd_inv hx7
       obtain ⟨v_17, hv_v_17, hx7⟩ := hx7
       refine jx (op_call (js := []) ld cl38 (sim_ref01_Hex k b_1 v_17 hv_v_17) .func (.cons (.tmp rfl) .nil) rfl) (fun _ => ?_)
       replace hx7 := lt1_inv hx7
       obtain ⟨v_18, hv_v_18, hx7⟩ := hx7
       refine jc (op_cmpS lb (.tmp rfl) (.tmp rfl) (congrArg some hv_v_18)) ?_
       refine jc (op_move lb (.tmp rfl)) ?_
       replace hx7 := iteB_inv hx7
       rcases hx7 with ⟨hc9, hx7⟩ | ⟨hc9, hx7⟩
       · refine JL.run (.yes rfl (ltB rfl) rfl hc9) (op_move lb (.tmp rfl)) ?_
         refine JL.sub ⟨[(6, ov (S (rI .i64) v_9)), (7, ov (HDR go_14 0 (List.length v_12) gc_15)), (8, ov (S rB v_13)), (33, ov (S rB v_18)), (34, ov (HDR go_10 0 (List.length v_8) gc_11))], [cown go_14 (rU UInt8) v_12 0 gc_15, cown go_10 (rU UInt8) v_8 0 gc_11], []⟩ (.cons rfl (.cons rfl (.cons rfl (.cons rfl (.cons rfl .nil))))) rfl rfl ?_
         refine JL.run (.yes rfl (ltB rfl) rfl hc9) (op_convOS (j := 1) lb tu23 tu5 tu9 rfl (.tmp rfl)) ?_
         refine JL.run (.yes rfl (ltB rfl) rfl hc9) (op_move lb (.tmp rfl)) ?_
         refine JL.run (.yes rfl (ltB rfl) rfl hc9) (op_convOS (j := 0) lb tu23 tu5 tu9 rfl (.tmp rfl)) ?_
         replace hx7 := lt1_inv hx7
         obtain ⟨v_19, hv_v_19, hx7⟩ := hx7
         refine JL.run (.yes rfl (ltB rfl) rfl hc9) (op_cmpS lb (.tmp rfl) (.tmp rfl) (congrArg some hv_v_19)) ?_
         refine jc (op_pickT lb (.tmp rfl) hc9 (.tmp rfl)) ?_
         refine jc (op_move lb (.tmp rfl)) ?_
         refine JL.cnd (sv := ov (S (rI .i64) v_9)) (Guard.isT (ltB rfl) rfl rfl) rfl (ltB rfl) (fun hq_10 => op_move lb (.tmp rfl)) ?_
         replace hx7 := bnd_inv hx7
         obtain ⟨_, hv_u_20, hx7⟩ := hx7
         refine JL.cnd (sv := ov (S (rI .i64) v_9)) (Guard.isT (ltB rfl) rfl rfl) rfl (ltB rfl) (fun hq_11 => (op_call (js := []) ld cl13 (sim_law01_num k v_9 () (ifT hv_u_20 hq_11)) .func (.cons (HasO.cnd (.tmp rfl) hq_11) .nil) rfl).post (fun _ => Imp.refl)) ?_
         replace hx7 := lt1_inv hx7
         obtain ⟨v_21, hv_v_21, hx7⟩ := hx7
         refine JL.cnd (sv := ov (S rB v_21)) (Guard.isT (ltB rfl) rfl rfl) rfl (ltB rfl) (fun hq_12 => op_cmpI lb (HasO.cnd (.tmp rfl) hq_12) .cI (congrArg some hv_v_21)) ?_
         refine JL.cnd (sv := ov (S rB v_13)) (Guard.isT (ltB rfl) rfl rfl) rfl (ltB rfl) (fun hq_13 => op_move lb (.tmp rfl)) ?_
         replace hx7 := lt1_inv hx7
         obtain ⟨v_22, hv_v_22, hx7⟩ := hx7
         refine JL.cnd (sv := ov (S rB v_22)) (Guard.isT (ltB rfl) rfl rfl) rfl (ltB rfl) (fun hq_14 => op_eqB lb tu4 (HasO.cnd (.tmp rfl) hq_14) (HasO.cnd (.tmp rfl) hq_14) hv_v_22) ?_
         replace hx7 := lt1_inv hx7
         obtain ⟨v_23, hv_v_23, hx7⟩ := hx7
         refine jc (op_pickCS lb (.tmp rfl) (fun hb15 => (HasO.cnd (.tmp rfl) hb15)) (fun hb15 => .cB) hv_v_23) ?_
         refine JL.nrm ⟨[(6, ov (S (rI .i64) v_9)), (8, ov (S rB v_13)), (46, ov (S rB v_23))], [], []⟩ [] rfl (.cons rfl (.cons rfl (.cons rfl .nil))) rfl ?_
         refine jc (op_move lb (.tmp rfl)) ?_
         refine JL.cnd (sv := ov (S rB v_13)) (Guard.isT (ltB rfl) rfl rfl) rfl (ltB rfl) (fun hq_16 => op_move lb (.tmp rfl)) ?_
         refine JL.cnd (sv := ov (S rB v_13)) (Guard.isT (ltB rfl) rfl rfl) rfl (ltB rfl) (fun hq_17 => op_move lb (HasO.cnd (.tmp rfl) hq_17)) ?_
         refine JL.cnd (sv := ov (S (rI .i64) v_9)) (Guard.cF (q := v_23) (ltB rfl) rfl rfl) rfl (ltB rfl) (fun hq_18 => op_move lb (.tmp rfl)) ?_
         replace hx7 := bnd_inv hx7
         obtain ⟨_, hv_u_24, hx7⟩ := hx7
         refine JL.cnd (sv := ov (S (rI .i64) v_9)) (Guard.cF (q := v_23) (ltB rfl) rfl rfl) rfl (ltB rfl) (fun hq_19 => (op_call (js := []) ld cl13 (sim_law01_num k v_9 () (ifT hv_u_24 hq_19)) .func (.cons (HasO.cnd (.tmp rfl) (andI (andL hq_19) (notT (notF (andR hq_19))))) .nil) rfl).post (fun _ => Imp.refl)) ?_
         replace hx7 := lt1_inv hx7
         obtain ⟨v_25, hv_v_25, hx7⟩ := hx7
         refine JL.cnd (sv := ov (S rB v_25)) (Guard.cF (q := v_23) (ltB rfl) rfl rfl) rfl (ltB rfl) (fun hq_20 => op_cmpI lb (HasO.cnd (.tmp rfl) (andI (andL hq_20) (notT (notF (andR hq_20))))) .cI (congrArg some hv_v_25)) ?_
         replace hx7 := lt1_inv hx7
         obtain ⟨v_26, hv_v_26, hx7⟩ := hx7
         refine JL.cnd (sv := ov (S rB v_26)) (Guard.isT (ltB rfl) rfl rfl) rfl (ltB rfl) (fun hq_21 => op_pickCS lb (HasO.cnd (.tmp rfl) hq_21) (fun hb22 => .cB) (fun hb22 => (HasO.cnd (.tmp rfl) (andI hq_21 (notT hb22)))) hv_v_26) ?_
         replace hx7 := lt1_inv hx7
         obtain ⟨v_27, hv_v_27, hx7⟩ := hx7
         refine jc (op_pickCS lb (.tmp rfl) (fun hb23 => (HasO.cnd (.tmp rfl) hb23)) (fun hb23 => .cB) hv_v_27) ?_
         refine jc (op_move lb (.tmp rfl)) ?_
         replace hx7 := bnd_inv hx7
         obtain ⟨v_28, hv_v_28, hx7⟩ := hx7
         refine JL.cnd (sv := ov (S rB v_28)) (Guard.isT (ltB rfl) rfl rfl) rfl (ltB rfl) (fun hq_24 => (op_call (js := []) ld cl9 (sim_law01_known k v_28 (ifT hv_v_28 hq_24)) .func .nil rfl).post (fun _ => Imp.refl)) ?_
         replace hx7 := lt1_inv hx7
         obtain ⟨v_29, hv_v_29, hx7⟩ := hx7
         refine jc (op_pickCS lb (.tmp rfl) (fun hb25 => (HasO.cnd (.tmp rfl) hb25)) (fun hb25 => .cB) hv_v_29) ?_
         refine jc (op_assign lb (.tmp rfl)) ?_
         refine JL.sub ⟨[(4, ov (S rB v_29))], [], []⟩ (.cons rfl .nil) rfl rfl ?_
         refine JL.nil ?_
         replace hx7 := Option.some.inj hx7
         first | subst hx7 | clear hx7
         exact JQ.join () (Imp.norm (js := []) rfl (.cons rfl .nil))
       · refine JL.skip (.no rfl (ltB rfl) rfl hc9) (fun d h => by cases h; exact ltB rfl) ?_
         refine JL.skip (.no rfl (ltB rfl) rfl hc9) (fun d h => by cases h; exact ltB rfl) ?_
         refine JL.skip (.no rfl (ltB rfl) rfl hc9) (fun d h => by cases h; exact ltB rfl) ?_
         refine JL.skip (.no rfl (ltB rfl) rfl hc9) (fun d h => by cases h; exact ltB rfl) ?_
         refine JL.skip (.no rfl (ltB rfl) rfl hc9) (fun d h => by cases h; exact ltB rfl) ?_
         refine jc (op_pickF lb (.tmp rfl) hc9 .cB) ?_
         refine JL.nrm ⟨[(6, ov (S (rI .i64) v_9)), (8, ov (S rB v_13)), (39, ov (S rB false))], [], []⟩ [] rfl (.cons rfl (.cons rfl (.cons rfl .nil))) rfl ?_
         refine jc (op_move lb (.tmp rfl)) ?_
         refine JL.skip (.no rfl (ltB rfl) rfl rfl) (fun d h => by cases h; exact ltB rfl) ?_
         refine JL.skip (.no rfl (ltB rfl) rfl rfl) (fun d h => by cases h; exact ltB rfl) ?_
         refine JL.skip (.no rfl (ltB rfl) rfl rfl) (fun d h => by cases h; exact ltB rfl) ?_
         refine JL.skip (.no rfl (ltB rfl) rfl rfl) (fun d h => by cases h; exact ltB rfl) ?_
         refine JL.skip (.no rfl (ltB rfl) rfl rfl) (fun d h => by cases h; exact ltB rfl) ?_
         refine jc (op_pickF lb (.tmp rfl) rfl .cB) ?_
         refine jc (op_move lb (.tmp rfl)) ?_
         refine JL.skip (.no rfl (ltB rfl) rfl rfl) (fun d h => by cases h; exact ltB rfl) ?_
         refine JL.skip (.no rfl (ltB rfl) rfl rfl) (fun d h => by cases h; exact ltB rfl) ?_
         refine JL.skip (.und rfl (ltB rfl) rfl) (fun d h => by cases h; exact ltB rfl) ?_
         refine JL.skip (.und rfl (ltB rfl) rfl) (fun d h => by cases h; exact ltB rfl) ?_
         refine JL.skip (.und rfl (ltB rfl) rfl) (fun d h => by cases h; exact ltB rfl) ?_
         refine JL.skip (.no rfl (ltB rfl) rfl rfl) (fun d h => by cases h; exact ltB rfl) ?_
         refine jc (op_pickF lb (.tmp rfl) rfl .cB) ?_
         refine jc (op_move lb (.tmp rfl)) ?_
         refine JL.skip (.no rfl (ltB rfl) rfl rfl) (fun d h => by cases h; exact ltB rfl) ?_
         refine jc (op_pickF lb (.tmp rfl) rfl .cB) ?_
         refine jc (op_assign lb (.tmp rfl)) ?_
         refine JL.nil ?_
         replace hx7 := Option.some.inj hx7
         first | subst hx7 | clear hx7
         exact JQ.join () (Imp.norm (js := []) rfl (.cons rfl .nil))
 · refine JC.region ?_
   refine jc (op_move lb (.tmp rfl)) ?_
   refine jc (op_lenL lb tu23 (.tmp rfl)) ?_
   replace hx1 := lt1_inv hx1
   obtain ⟨v_3, hv_v_3, hx1⟩ := hx1
   refine jc (op_cmpI lb (.tmp rfl) .cI (congrArg some hv_v_3)) ?_
   refine jc (op_move lb (.tmp rfl)) ?_
   refine JL.cnd (sv := ov (S rS s_2)) (Guard.isF (ltB rfl) rfl rfl) rfl (ltB rfl) (fun hq_2 => op_move lb (.tmp rfl)) ?_
   refine JL.cnd (sv := ov (S (rI .i64) (List.length s_2 : Int))) (Guard.isF (ltB rfl) rfl rfl) rfl (ltB rfl) (fun hq_3 => op_lenS lb tu9 (HasO.cnd (.tmp rfl) (notT (notF hq_3)))) ?_
   replace hx1 := lt1_inv hx1
   obtain ⟨v_4, hv_v_4, hx1⟩ := hx1
   refine JL.cnd (sv := ov (S rB v_4)) (Guard.isF (ltB rfl) rfl rfl) rfl (ltB rfl) (fun hq_4 => op_cmpI lb (HasO.cnd (.tmp rfl) (notT (notF hq_4))) .cI (congrArg some hv_v_4)) ?_
   replace hx1 := lt1_inv hx1
   obtain ⟨v_5, hv_v_5, hx1⟩ := hx1
   refine jc (op_pickCS lb (.tmp rfl) (fun hb5 => .cB) (fun hb5 => (HasO.cnd (.tmp rfl) (notT hb5))) hv_v_5) ?_
   refine JL.nil ?_
   replace hx1 := Option.some.inj hx1
   first | subst hx1 | clear hx1
   exact JQ.join () (Imp.norm (js := []) rfl (.cons rfl (.cons rfl (.cons rfl .nil))))

theorem sim_wire_Reader_Blob'2 (k : Nat) (r_1 : wire_Reader) (gb_2 : Nat) (r : (List UInt8) × wire_Reader) (hm : wire_Reader_Blob'2 k r_1 = some r) : Sim Try.prog 26 [PTR gb_2 0] [cvar gb_2 r_wire_Reader r_1] (γ := Unit) (fun q => [cvar gb_2 r_wire_Reader r.2]) (fun q => .one (.val (S (rL (rU UInt8)) r.1))) := by
 unfold wire_Reader_Blob'2 at hm
 refine Sim.of Try.func26 rfl rfl (Nat.le_of_ble_eq_true rfl) (fun e0 w0 => ?_)
 refine JC.at ⟨[(0, ov (PTR gb_2 0))], [cvar gb_2 r_wire_Reader r_1], []⟩ ?_
 refine JC.seq ?_
 refine JC.region ?_
 refine jc (op_assign lb HasO.nilH) ?_
 refine JL.nil ?_
 refine JQ.then ?_
 refine JC.seq ?_
 refine JC.region ?_
 refine jc (op_move lb (.tmp rfl)) ?_
 refine jc (op_move lb (.tmp rfl)) ?_
 replace hm := bnd_inv hm
 obtain ⟨⟨v_3, x_4⟩, hv_v_3, hm⟩ := hm
 refine jx (op_call (js := [0]) ld cl39 (sim_wire_Reader_Number'2 k (2 : Int) r_1 gb_2 (v_3, x_4) hv_v_3) .func (.cons (.tmp rfl) (.cons .cI .nil)) rfl) (fun _ => ?_)
 replace hm := lt1_inv hm
 obtain ⟨v_5, hv_v_5, hm⟩ := hm
 refine jc (op_convUI lb tu22 tu3 (.tmp rfl) hv_v_5) ?_
 replace hm := bnd_inv hm
 obtain ⟨⟨v_6, x_7⟩, hv_v_6, hm⟩ := hm
 refine jx (op_call (js := [0]) ld cl40 (sim_wire_Reader_Bytes k v_5 x_4 gb_2 (v_6, x_7) hv_v_6) .func (.cons (.tmp rfl) (.cons (.tmp rfl) .nil)) rfl) (fun _ => ?_)
 refine jc (op_assign lb (.tmp rfl)) ?_
 refine JL.nil ?_
 refine JQ.then ?_
 refine JC.ret ?_
 replace hm := Option.some.inj hm
 subst hm
 exact JQ.done (js := [0]) (ss := [.val (S (rL (rU UInt8)) v_6)]) () (.inl rfl) (.nil rfl) rfl (.cons (.tmp rfl) .nil) rfl rfl rfl

end Go.Proofs.Ytkbkdfcakpbojaa
