/- Walks. -/
import Derived.Test.YtklnihlchhhhlaaT
import Derived.Test.YtklnihlchhhhlaaW3
namespace Go.Proofs.Ytklnihlchhhhlaa
open Go Fw
set_option linter.unusedVariables false
set_option maxRecDepth 100000
set_option maxHeartbeats 4000000

theorem sim_ctx_Less (k : Nat) (a_1 : api_Dot) (b_2 : api_Dot) (r : Bool) (hm : ctx_Less k a_1 b_2 = some r) : Sim Try.prog 29 [A r_api_Dot a_1, A r_api_Dot b_2] [] (γ := Unit) (fun q => []) (fun q => .one (.val (S rB r))) := by
 unfold ctx_Less at hm
 refine Sim.of Try.func29 rfl rfl (lE rfl) (fun e0 w0 => ?_)
 refine JC.at ⟨[(0, ov (A r_api_Dot a_1)), (1, ov (A r_api_Dot b_2))], [], []⟩ ?_
 refine jr ?_
 refine jx (op_boxA lb (.tmp rfl)) (fun q => ?_)
 obtain ⟨gb_3, hqq⟩ : ∃ z, z = q := ⟨_, rfl⟩
 subst hqq
 refine jx (op_boxA lb (.tmp rfl)) (fun q => ?_)
 obtain ⟨gb_4, hqq⟩ : ∃ z, z = q := ⟨_, rfl⟩
 subst hqq
 refine jc (op_assign lb .cB) <| jn <| jr <| jc (op_loadA (j := 0) lb tA29 (.tmp rfl) rfl (Comp.self r_api_Dot a_1) rfl) <| jc (op_loadA (j := 1) lb tA29 (.tmp rfl) rfl (Comp.self r_api_Dot b_2) rfl) ?_
 replace hm := bnd_inv hm
 obtain ⟨v_5, hv_v_5, hm⟩ := hm
 refine jx (op_call (js := []) ld cl66 (sim_ctx_order k a_1 b_2 v_5 hv_v_5) .func (.cons (.tmp rfl) (.cons (.tmp rfl) .nil)) rfl) (fun _ => ?_)
 replace hm := lt1_inv hm
 obtain ⟨v_6, hv_v_6, hm⟩ := hm
 refine jc (op_cmpI lb (.tmp rfl) .cI (congrArg some hv_v_6)) <| jc (op_assign lb (.tmp rfl)) ?_
 refine JL.nrm ⟨[(4, ov (S rB v_6))], [], []⟩ [] rfl (.cons rfl .nil) rfl ?_
 refine jn ?_
 refine JC.ret ?_
 replace hm := Option.some.inj hm
 subst hm
 exact JQ.done (js := []) (ss := [.val (S rB v_6)]) () (.inl rfl) (.nil rfl) rfl (.cons (.tmp rfl) .nil) rfl rfl rfl

theorem sim_slices_Cloneapi_Dot_api_Dot (k : Nat) (s_1 : (List api_Dot)) (r : (List api_Dot)) (hm : slices_Cloneapi_Dot_api_Dot k s_1 = some r) : Sim Try.prog 92 [S (rL r_api_Dot) s_1] [] (γ := Option Nat × Nat) (fun q => [cown q.1 r_api_Dot r 0 q.2]) (fun q => .one (.val (HDR q.1 0 (List.length r) q.2))) := by
 unfold slices_Cloneapi_Dot_api_Dot at hm
 refine Sim.of Try.func92 rfl rfl (lE rfl) (fun e0 w0 => ?_)
 refine JC.at ⟨[(0, ov (S (rL r_api_Dot) s_1))], [], []⟩ ?_
 refine jr <| jc (op_assign lb HasO.nilH) <| jn <| JC.seq <| jr ?_
 refine jmv rfl rfl ?_
 refine JL.consX rfl (op_isNil (neg := false) (ltB rfl) tu44 (.tmp rfl) HasO.nilH) (fun q => ?_)
 obtain ⟨hb1, hb1_⟩ := q
 cases hb1
 · refine jn ?_
   refine JC.condF (.tmp rfl) rfl ?_
   refine JC.skip ?_
   refine JQ.then <| jr ?_
   refine jx (op_buildO (r := r_api_Dot) lb tu44 tz29 tZ29 rfl (lE rfl) .nil rfl) (fun q => ?_)
   obtain ⟨gb_2, hqq⟩ : ∃ z, z = q := ⟨_, rfl⟩
   subst hqq
   refine jmv rfl rfl ?_
   replace hm := bnd_inv hm
   obtain ⟨x_3, hv_x_3, hm⟩ := hm
   refine jx (op_appendL (j := 0) lb tu44 tu44 rfl tB29 rfl (Nat.lt_of_lt_of_le Nat.zero_lt_one (lE rfl)) (Nat.lt_of_lt_of_le Nat.zero_lt_one (lE rfl))  rfl (.tmp rfl) (.tmp rfl) hv_x_3) (fun q => ?_)
   obtain ⟨go_4, gc_5⟩ := q
   refine jc (op_assign lb (.tmp rfl)) <| jn ?_
   refine JC.ret ?_
   replace hm := Option.some.inj hm
   subst hm
   exact JQ.done (js := [0]) (ss := [.val (HDR go_4 0 (List.length x_3) gc_5)]) (go_4, gc_5) (.inl rfl) (.nil rfl) rfl (.cons (.tmp rfl) .nil) rfl rfl rfl
 replace hm := nilK hm (show _ = (
       some ([] : (List api_Dot))
       ) by simp [hb1_ rfl, subL, apL])
 refine jn ?_
 refine JC.condT (.tmp rfl) rfl ?_
 refine jr <| jc (op_assign lb HasO.nilH) <| jn ?_
 refine JC.ret ?_
 refine JQ.outR ?_
 replace hm := Option.some.inj hm
 subst hm
 refine JQ.pre (Imp.nilown r_api_Dot) ?_
 exact JQ.done (js := [0]) (ss := [.val (HDR none 0 (List.length ([] : (List api_Dot))) (0))]) (none, 0) (.inl rfl) (.nil rfl) rfl (.cons (.tmp rfl) .nil) rfl rfl rfl

end Go.Proofs.Ytklnihlchhhhlaa
