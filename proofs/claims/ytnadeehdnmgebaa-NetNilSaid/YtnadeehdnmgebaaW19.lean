/- Walks. -/
import Derived.Test.YtnadeehdnmgebaaT
import Derived.Test.YtnadeehdnmgebaaW0
import Derived.Test.YtnadeehdnmgebaaW2
namespace Go.Proofs.Ytnadeehdnmgebaa
open Go Fw
set_option linter.unusedVariables false
set_option maxRecDepth 100000
set_option maxHeartbeats 4000000

theorem sim_net_Net_Lost (k : Nat) (ends_1 : Int) (lost_2 : Int) (x_4 : (List (net_pair × (List (List UInt8))))) (gb_3 : Nat) (go_5 : Option Nat) (r : Unit) (hm : net_Net_Lost k ends_1 lost_2 x_4 = some r) : Sim Try.prog 26 [PTR gb_3 0] [cvar gb_3 (rP (rW (MPV go_5)) (rP (rI .i64) (rP (rI .i64) r0))) ((), (ends_1, (lost_2, ()))), cmap go_5 (A r_net_pair) (S (rL (rL (rU UInt8)))) (some x_4)] (γ := Unit) (fun q => [cvar gb_3 (rP (rW (MPV go_5)) (rP (rI .i64) (rP (rI .i64) r0))) ((), (ends_1, (lost_2, ()))), cmap go_5 (A r_net_pair) (S (rL (rL (rU UInt8)))) (some x_4)]) (fun q => .one (.val (S (rI .i64) lost_2))) := by
 unfold net_Net_Lost at hm
 refine Sim.of Try.func26 rfl rfl (Nat.le_of_ble_eq_true rfl) (fun e0 w0 => ?_)
 refine JC.at ⟨[(0, ov (PTR gb_3 0))], [cvar gb_3 (rP (rW (MPV go_5)) (rP (rI .i64) (rP (rI .i64) r0))) ((), (ends_1, (lost_2, ()))), cmap go_5 (A r_net_pair) (S (rL (rL (rU UInt8)))) (some x_4)], []⟩ ?_
 refine JC.seq ?_
 refine JC.region ?_
 refine jc (op_assign lb .cI) ?_
 refine JL.nil ?_
 refine JQ.then ?_
 refine JC.seq ?_
 refine JC.seq ?_
 refine JC.region ?_
 refine jc (op_move lb (.tmp rfl)) ?_
 replace hm := bnd_inv hm
 obtain ⟨_, hv_u_6, hm⟩ := hm
 refine jx (op_call (js := [0, 0]) ld cl29 (sim_net_Net_there k ends_1 lost_2 x_4 gb_3 go_5 () hv_u_6) .func (.cons (.tmp rfl) .nil) rfl) (fun _ => ?_)
 refine jc (op_not lb (.tmp rfl) rfl) ?_
 refine JL.nil ?_
 refine JQ.then ?_
 refine JC.condF (.tmp rfl) rfl ?_
 refine JC.skip ?_
 refine JQ.then ?_
 refine JC.seq ?_
 refine JC.region ?_
 refine jc (op_move lb (.tmp rfl)) ?_
 refine jc (op_nilCheck lb (.tmp rfl) (fun e v h => by subst h; rfl)) ?_
 refine jc (op_fieldAddr (off := 2) lb tf57_2 (.tmp rfl)) ?_
 refine jc (op_loadS (j := 0) lb tS3 (.tmp rfl) rfl (Comp.trans (Comp.self (rP (rW (MPV go_5)) (rP (rI .i64) (rP (rI .i64) r0))) ((), (ends_1, (lost_2, ())))) (Comp.at' (Comp.inS (Comp.inS (Comp.inF (Comp.self (rI .i64) lost_2) (Nat.le_of_ble_eq_true rfl)))) (by rfl : _ = 2)) (Nat.le_of_ble_eq_true rfl)) rfl rfl) ?_
 refine jc (op_assign lb (.tmp rfl)) ?_
 refine JL.nil ?_
 refine JQ.then ?_
 refine JC.ret ?_
 exact JQ.done (js := [0, 0]) (ss := [.val (S (rI .i64) lost_2)]) () (.inl rfl) (.nil rfl) rfl (.cons (.tmp rfl) .nil) rfl rfl rfl

end Go.Proofs.Ytnadeehdnmgebaa
