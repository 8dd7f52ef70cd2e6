/- Walks. -/
import Derived.Test.YtklnihlchhhhlaaT
import Derived.Test.YtklnihlchhhhlaaW5
namespace Go.Proofs.Ytklnihlchhhhlaa
open Go Fw
set_option linter.unusedVariables false
set_option maxRecDepth 100000
set_option maxHeartbeats 4000000

theorem sim_frame_seen (k : Nat) (f_1 : api_Frame) (r : Bool) (hm : frame_seen k f_1 = some r) : Sim Try.prog 30 [A r_api_Frame f_1] [] (γ := Unit) (fun q => []) (fun q => .one (.val (S rB r))) := by
 unfold frame_seen at hm
 refine Sim.of Try.func30 rfl rfl (lE rfl) (fun e0 w0 => ?_)
 refine JC.at ⟨[(0, ov (A r_api_Frame f_1))], [], []⟩ ?_
 refine jr ?_
 refine jx (op_boxA lb (.tmp rfl)) (fun q => ?_)
 obtain ⟨gb_2, hqq⟩ : ∃ z, z = q := ⟨_, rfl⟩
 subst hqq
 refine jc (op_assign lb .cB) <| jn <| jr <| jc (op_fieldAddr (off := 41) lb tf50_6 (.tmp rfl)) <| jc (op_loadA (j := 0) lb tA40 (.tmp rfl) rfl (cT (comp_api_Frame_Seen f_1) rfl) rfl) ?_
 refine jc (op_fieldAddr (off := 57) lb tf50_7 (.tmp rfl)) <| jc (op_loadS (j := 0) lb tS44 (.tmp rfl) rfl (cT (comp_api_Frame_Extra f_1) rfl) rfl rfl) ?_
 replace hm := bnd_inv hm
 obtain ⟨ts1, hs1, hm⟩ := hm
 rcases ts1 with ts1 | ts1
 · obtain ⟨v_3, hvv⟩ : ∃ z, z = ts1 := ⟨_, rfl⟩
   subst hvv
   dsimp only at hm
   refine jx (op_call (js := []) ld cl67 (sim_ctx_Of_v0 k f_1.Seen f_1.Extra v_3 hs1) .func (.cons (.tmp rfl) (.cons (.tmp rfl) .nil)) rfl) (fun q => ?_)
   obtain ⟨gb_4, go_5, gc_6⟩ := q
   refine jmv rfl rfl ?_
   refine JL.nrm ⟨[(5, .tup [.val (PTR gb_4 0), .val (S (rI .i64) (0 : Int))])], [cvar gb_4 (zq18 go_5 v_3 gc_6) (f_1.Seen, ((), (true, ()))), cown go_5 r_api_Dot v_3 0 gc_6], []⟩ [0, 0] rfl (.cons rfl .nil) rfl ?_
   refine jc (op_extract (i := 0) lb (.tmp rfl) rfl) <| jc (op_extract (i := 1) lb (.tmp rfl) rfl) <| jc (op_assign lb (.tmp rfl)) <| jc (op_assign lb (.tmp rfl)) <| jn ?_
   refine jr <| jmv rfl rfl <| jc (op_cmpI lb (.tmp rfl) .cI (congrArg some (by decide : ((0 : Int) == (0 : Int)) = true))) <| jc (op_assign lb (.tmp rfl)) <| jn ?_
   refine JC.ret ?_
   replace hm := Option.some.inj hm
   subst hm
   exact JQ.done (js := []) (ss := [.val (S rB true)]) () (.inl rfl) (.nil rfl) rfl (.cons (.tmp rfl) .nil) rfl rfl rfl
 obtain ⟨v_7, hvv⟩ : ∃ z, z = ts1 := ⟨_, rfl⟩
 subst hvv
 dsimp only at hm
 refine jx (op_call (js := []) ld cl67 (sim_ctx_Of_v1 k f_1.Seen f_1.Extra v_7 hs1) .func (.cons (.tmp rfl) (.cons (.tmp rfl) .nil)) rfl) (fun _ => ?_)
 refine jmv rfl rfl ?_
 refine JL.nrm ⟨[(5, .tup [.val (PTO none), .val (S (rI .i64) v_7)])], [], []⟩ [] rfl (.cons rfl .nil) rfl ?_
 refine jc (op_extract (i := 0) lb (.tmp rfl) rfl) <| jc (op_extract (i := 1) lb (.tmp rfl) rfl) <| jc (op_assign lb (.tmp rfl)) <| jc (op_assign lb (.tmp rfl)) <| jn ?_
 refine jr <| jmv rfl rfl ?_
 replace hm := lt1_inv hm
 obtain ⟨v_8, hv_v_8, hm⟩ := hm
 refine jc (op_cmpI lb (.tmp rfl) .cI (congrArg some hv_v_8)) <| jc (op_assign lb (.tmp rfl)) <| jn ?_
 refine JC.ret ?_
 replace hm := Option.some.inj hm
 subst hm
 exact JQ.done (js := []) (ss := [.val (S rB v_8)]) () (.inl rfl) (.nil rfl) rfl (.cons (.tmp rfl) .nil) rfl rfl rfl

end Go.Proofs.Ytklnihlchhhhlaa
