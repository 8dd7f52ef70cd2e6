/- Walks. -/
import Derived.Test.YtbflmobpbjnekaaT
import Derived.Test.YtbflmobpbjnekaaW3
import Derived.Test.YtbflmobpbjnekaaW4
import Derived.Test.YtbflmobpbjnekaaW6
namespace Go.Proofs.Ytbflmobpbjnekaa
open Go Fw
set_option linter.unusedVariables false
set_option maxRecDepth 100000
set_option maxHeartbeats 4000000

theorem sim_law08_MerkleNil (k : Nat) (r : Bool) (hm : law08_MerkleNil k = some r) : Sim Try.prog 6 [] [] (γ := Unit) (fun q => []) (fun q => .one (.val (S rB r))) := by
 unfold law08_MerkleNil at hm
 refine Sim.of Try.func6 rfl rfl (lE rfl) (fun e0 w0 => ?_)
 refine JC.at ⟨[], [], []⟩ <| jr <| jc (op_assign lb .cB) <| jn <| bI hm fun x_7 hx1 hq1 => JC.seqJ (γ := Unit) (stj := fun _ => ⟨[(0, ov (S rB x_7))], [], []⟩) (fun _ => ?_) ?_
 · refine JC.ret ?_
   obtain rfl := so hq1
   exact jd (.val (S rB x_7)) rfl rfl rfl rfl rfl rfl
 refine JC.region <| bI hx1 fun v_1 hv_1 hx1 => jx (op_call (js := []) ld cl22 (sim_law08_nothing_n k v_1 hv_1) .func (.cons (HasO.const (p := PTO none) fun _ => rfl) .nil) rfl) fun _ => jmv rfl rfl <| jT (ov (A r_merkle_Tree (merkle_Tree.mk (Vector.replicate 128 (Vector.replicate 32 (0 : UInt8))) false))) rfl rfl rfl rfl (fun hq_2 => op_build lb tZ52 zv52 tp52 .nil rfl) ?_
 rcases iteB_inv hx1 with ⟨hc4, hx1⟩ | ⟨hc4, hx1⟩
 · refine JL.runX (.yes rfl (ltB rfl) rfl hc4) (op_boxA lb (HasO.cnd tR hc4)) (fun gb_2 => ?_)
   obtain ⟨⟨v_3, x_4⟩, hv_3, hx1⟩ := bnd_inv hx1
   refine JL.runX (.yes rfl (ltB rfl) rfl hc4) (op_call (js := [0]) ld cl22 (sim_law08_nothing k (merkle_Tree.mk (Vector.replicate 128 (Vector.replicate 32 (0 : UInt8))) false) gb_2 (v_3, x_4) hv_3) .func (.cons tR .nil) rfl) fun _ => jc (op_pickT lb tR hc4 tR) <| jmv rfl rfl <| JL.nrm ⟨[(0, ov (S rB false)), (7, ov (S rB v_3))], [], []⟩ [] rfl (.cons rfl (.cons rfl .nil)) rfl <| bI hx1 fun v_5 hv_5 hx1 => jT (ov (S rB v_5)) rfl rfl rfl rfl (fun hq_5 => (op_call (js := []) ld cl7 (sim_law08_known k v_5 (ifT hv_5 hq_5)) .func .nil rfl).post (fun _ => Imp.refl)) <| lI hx1 fun v_6 hv_6 hx1 => jc (op_pickCS lb tR (fun hb6 => (HasO.cnd tR hb6)) (fun hb6 => .cB) hv_6) <| jc (op_assign lb tR) <| JL.nil ?_
   try obtain rfl := so hx1
   exact jo rfl rfl rfl
 refine jk rfl hc4 <| jk rfl hc4 <| jc (op_pickF lb tR hc4 .cB) <| jmv rfl rfl <| jk rfl rfl <| jc (op_pickF lb tR rfl .cB) <| jc (op_assign lb tR) <| JL.nil ?_
 try obtain rfl := so hx1
 exact jo rfl rfl rfl

end Go.Proofs.Ytbflmobpbjnekaa
