/- Walks. -/
import Derived.Test.YthoggbomakolkaaT
import Derived.Test.YthoggbomakolkaaW9
namespace Go.Proofs.Ythoggbomakolkaa
open Go Fw
set_option linter.unusedVariables false
set_option maxRecDepth 100000
set_option maxHeartbeats 4000000

theorem sim_wire_Reader_End (k : Nat) (o_1 : Nat) (n_2 : Nat) (is_3 : Bool) (made_4 : Bool) (x_6 : (List UInt8)) (gb_5 : Nat) (go_7 : Option Nat) (gc_8 : Nat) (r : Int) (hm : wire_Reader_End k o_1 n_2 is_3 made_4 x_6 = some r) : Sim Try.prog 44 [PTR gb_5 0] [cvar gb_5 (rP (rW (HDX go_7 (o_1 * 1) n_2)) (rP rB (rP rB r0))) ((), (is_3, (made_4, ()))), cown go_7 (rU UInt8) x_6 0 gc_8] (γ := Unit) (fun q => [cvar gb_5 (rP (rW (HDX go_7 (o_1 * 1) n_2)) (rP rB (rP rB r0))) ((), (is_3, (made_4, ()))), cown go_7 (rU UInt8) x_6 0 gc_8]) (fun q => .one (.val (S (rI .i64) r))) := by
 unfold wire_Reader_End at hm
 refine Sim.of Try.func44 rfl rfl (Nat.le_of_ble_eq_true rfl) (fun e0 w0 => ?_)
 refine JC.at ⟨[(0, ov (PTR gb_5 0))], [cvar gb_5 (rP (rW (HDX go_7 (o_1 * 1) n_2)) (rP rB (rP rB r0))) ((), (is_3, (made_4, ()))), cown go_7 (rU UInt8) x_6 0 gc_8], []⟩ ?_
 refine JC.seq ?_
 refine JC.region ?_
 refine jc (op_assign lb .cI) ?_
 refine JL.nil ?_
 refine JQ.then ?_
 refine JC.seq ?_
 refine JC.block ?_
 replace hm := bnd_inv hm
 obtain ⟨x_10, hx1, hq1⟩ := hm
 refine JC.seqJ (γ := Unit) (stj := fun q => ⟨[(0, ov (PTR gb_5 0)), (3, ov (S rB x_10))], [cvar gb_5 (rP (rW (HDX go_7 (o_1 * 1) n_2)) (rP rB (rP rB r0))) ((), (is_3, (made_4, ()))), cown go_7 (rU UInt8) x_6 0 gc_8], []⟩) (fun q => ?_) ?_
 · obtain _ := q
   refine JC.at ⟨[(0, ov (PTR gb_5 0)), (3, ov (S rB x_10))], [cvar gb_5 (rP (rW (HDX go_7 (o_1 * 1) n_2)) (rP rB (rP rB r0))) ((), (is_3, (made_4, ()))), cown go_7 (rU UInt8) x_6 0 gc_8], []⟩ ?_
   replace hq1 := iteB_inv hq1
   rcases hq1 with ⟨hc2, hq1⟩ | ⟨hc2, hq1⟩
   · refine JC.condT (.tmp rfl) hc2 ?_
     refine JC.seq ?_
     refine JC.region ?_
     refine jc (op_assign lb .cI) ?_
     refine JL.nil ?_
     refine JQ.then ?_
     refine JC.ret ?_
     refine JQ.outRB ?_
     refine JQ.outR ?_
     replace hq1 := Option.some.inj hq1
     subst hq1
     exact JQ.done (js := [0, 0]) (ss := [.val (S (rI .i64) (1 : Int))]) () (.inl rfl) (.nil rfl) rfl (.cons (.tmp rfl) .nil) rfl rfl rfl
   · refine JC.condF (.tmp rfl) hc2 ?_
     replace hq1 := bnd_inv hq1
     obtain ⟨x_13, hx3, hq3⟩ := hq1
     refine JC.seqJ (γ := Unit) (stj := fun q => ⟨[(13, ov (S rB x_13))], [cvar gb_5 (rP (rW (HDX go_7 (o_1 * 1) n_2)) (rP rB (rP rB r0))) ((), (is_3, (made_4, ()))), cown go_7 (rU UInt8) x_6 0 gc_8], []⟩) (fun q => ?_) ?_
     · obtain _ := q
       refine JC.at ⟨[(13, ov (S rB x_13))], [cvar gb_5 (rP (rW (HDX go_7 (o_1 * 1) n_2)) (rP rB (rP rB r0))) ((), (is_3, (made_4, ()))), cown go_7 (rU UInt8) x_6 0 gc_8], []⟩ ?_
       replace hq3 := iteB_inv hq3
       rcases hq3 with ⟨hc6, hq3⟩ | ⟨hc6, hq3⟩
       · refine JC.condT (.tmp rfl) hc6 ?_
         refine JC.seq ?_
         refine JC.region ?_
         refine jc (op_assign lb .cI) ?_
         refine JL.nil ?_
         refine JQ.then ?_
         refine JC.ret ?_
         refine JQ.outRB ?_
         refine JQ.outR ?_
         replace hq3 := Option.some.inj hq3
         subst hq3
         exact JQ.done (js := [0, 0]) (ss := [.val (S (rI .i64) (4 : Int))]) () (.inl rfl) (.nil rfl) rfl (.cons (.tmp rfl) .nil) rfl rfl rfl
       · refine JC.condF (.tmp rfl) hc6 ?_
         refine JC.skip ?_
         refine JQ.outNB ?_
         refine JQ.then ?_
         refine JC.seq ?_
         refine JC.region ?_
         refine jc (op_assign lb .cI) ?_
         refine JL.nil ?_
         refine JQ.then ?_
         refine JC.ret ?_
         replace hq3 := Option.some.inj hq3
         subst hq3
         exact JQ.done (js := [0, 0]) (ss := [.val (S (rI .i64) (0 : Int))]) () (.inl rfl) (.nil rfl) rfl (.cons (.tmp rfl) .nil) rfl rfl rfl
     · refine JC.region ?_
       refine jc (op_move lb (.tmp rfl)) ?_
       replace hx3 := bnd_inv hx3
       obtain ⟨v_11, hv_v_11, hx3⟩ := hx3
       refine jx (op_call (js := [0, 0]) ld cl65 (sim_wire_Reader_Failed k o_1 n_2 is_3 made_4 x_6 gb_5 go_7 gc_8 v_11 hv_v_11) .func (.cons (.tmp rfl) .nil) rfl) (fun _ => ?_)
       refine jc (op_move lb (.tmp rfl)) ?_
       replace hx3 := iteB_inv hx3
       rcases hx3 with ⟨hc5, hx3⟩ | ⟨hc5, hx3⟩
       · refine JL.skip (.no rfl (ltB rfl) rfl hc5) (fun d h => by cases h; exact ltB rfl) ?_
         refine JL.skip (.no rfl (ltB rfl) rfl hc5) (fun d h => by cases h; exact ltB rfl) ?_
         refine JL.skip (.no rfl (ltB rfl) rfl hc5) (fun d h => by cases h; exact ltB rfl) ?_
         refine JL.skip (.no rfl (ltB rfl) rfl hc5) (fun d h => by cases h; exact ltB rfl) ?_
         refine JL.skip (.no rfl (ltB rfl) rfl hc5) (fun d h => by cases h; exact ltB rfl) ?_
         refine JL.skip (.no rfl (ltB rfl) rfl hc5) (fun d h => by cases h; exact ltB rfl) ?_
         refine jc (op_pickT lb (.tmp rfl) hc5 .cB) ?_
         refine jc (op_assign lb (.tmp rfl)) ?_
         refine JL.nil ?_
         replace hx3 := Option.some.inj hx3
         first | subst hx3 | clear hx3
         exact JQ.join () (Imp.norm (js := [0, 0]) rfl (.cons rfl .nil))
       · refine JL.run (.yes rfl (ltB rfl) rfl hc5) (op_move lb (.tmp rfl)) ?_
         refine JL.run (.yes rfl (ltB rfl) rfl hc5) (op_nilCheck lb (.tmp rfl) (fun e v h => by subst h; rfl)) ?_
         refine JL.run (.yes rfl (ltB rfl) rfl hc5) (op_fieldAddr (off := 0) lb tf88_0 (.tmp rfl)) ?_
         refine JL.run (.yes rfl (ltB rfl) rfl hc5) (op_loadW (j := 0) lb tS35 (.tmp rfl) rfl (Comp.trans (Comp.self (rP (rW (HDX go_7 (o_1 * 1) n_2)) (rP rB (rP rB r0))) ((), (is_3, (made_4, ())))) (Comp.at' (Comp.inF (Comp.self (rW (HDX go_7 (o_1 * 1) n_2)) ()) (Nat.le_of_ble_eq_true rfl)) (by rfl : _ = 0)) (Nat.le_of_ble_eq_true rfl))) ?_
         refine JL.run (.yes rfl (ltB rfl) rfl hc5) (op_lenX lb tu35 (.tmp rfl)) ?_
         replace hx3 := lt1_inv hx3
         obtain ⟨v_12, hv_v_12, hx3⟩ := hx3
         refine JL.run (.yes rfl (ltB rfl) rfl hc5) (op_cmpI lb (.tmp rfl) .cI (congrArg some hv_v_12)) ?_
         refine jc (op_pickF lb (.tmp rfl) hc5 (.tmp rfl)) ?_
         refine jc (op_assign lb (.tmp rfl)) ?_
         refine JL.nil ?_
         replace hx3 := Option.some.inj hx3
         first | subst hx3 | clear hx3
         exact JQ.join () (Imp.norm (js := [0, 0]) rfl (.cons rfl .nil))
 · refine JC.region ?_
   refine jc (op_move lb (.tmp rfl)) ?_
   refine jc (op_nilP (neg := false) lb tu66 (.tmp rfl) (HasO.const (p := PTO none) fun _ => rfl)) ?_
   refine jc (op_move lb (.tmp rfl)) ?_
   refine JL.run (.yes rfl (ltB rfl) rfl rfl) (op_move lb (.tmp rfl)) ?_
   refine JL.run (.yes rfl (ltB rfl) rfl rfl) (op_nilCheck lb (.tmp rfl) (fun e v h => by subst h; rfl)) ?_
   refine JL.run (.yes rfl (ltB rfl) rfl rfl) (op_fieldAddr (off := 2) lb tf88_2 (.tmp rfl)) ?_
   refine JL.run (.yes rfl (ltB rfl) rfl rfl) (op_loadS (j := 0) lb tS4 (.tmp rfl) rfl (Comp.trans (Comp.self (rP (rW (HDX go_7 (o_1 * 1) n_2)) (rP rB (rP rB r0))) ((), (is_3, (made_4, ())))) (Comp.at' (Comp.inS (Comp.inS (Comp.inF (Comp.self rB made_4) (Nat.le_of_ble_eq_true rfl)))) (by rfl : _ = 2)) (Nat.le_of_ble_eq_true rfl)) rfl rfl) ?_
   replace hx1 := lt1_inv hx1
   obtain ⟨v_9, hv_v_9, hx1⟩ := hx1
   refine JL.run (.yes rfl (ltB rfl) rfl rfl) (op_not lb (.tmp rfl) hv_v_9) ?_
   refine jc (op_pickF lb (.tmp rfl) rfl (.tmp rfl)) ?_
   refine jc (op_assign lb (.tmp rfl)) ?_
   refine JL.nil ?_
   replace hx1 := Option.some.inj hx1
   first | subst hx1 | clear hx1
   refine JQ.pre (Imp.var (j := 0) (q := (rP (rW (HDX go_7 (o_1 * 1) n_2)) (rP rB (rP rB r0)))) (y := ((), (is_3, (made_4, ())))) rfl Wk.refl) ?_
   exact JQ.join () (Imp.norm (js := [0, 0]) rfl (.cons rfl (.cons rfl .nil)))

end Go.Proofs.Ythoggbomakolkaa
