/- The plain law MerkleNil. -/
import Derived.Test.YtbflmobpbjnekaaMc
namespace Go.Proofs.Ytbflmobpbjnekaa
open Go Fw
set_option linter.unusedVariables false
set_option linter.unusedSimpArgs false

theorem nothing_n {k : Nat} (hk : k = 4000) : law08_nothing_n k = some true := by
  obtain ⟨t, n1, n2, n3⟩ := new_eq hk
  have b1 : (false == true) = false := rfl
  have b2 : (false == false) = true := rfl
  have b3 : (true == false) = false := rfl
  simp only [law08_nothing_n, n1, Option.bind_some, merkle_Tree_Node_nv, merkle_Tree_there_n, merkle_Tree_Diff_np, merkle_Tree_Diff_pn, merkle_Tree_there, merkle_Tree_Set_nvv, law08_num, merkle_Tree_Root_n, merkle_Tree_Leaves_n, merkle_Tree_Copy_n, merkle_Tree_Same_nn, merkle_Tree_Same_np, merkle_Tree_Same_pn, lt1, n2, Bool.not_true, Bool.not_false, cond_false, cond_true, if_true, eqH, decide_true, Bool.false_eq_true, if_false, b1, b2, b3]
theorem nothing_z {k : Nat} (hk : k = 4000) (v : Vector HS 128) : law08_nothing k (merkle_Tree.mk v false) = some (true, merkle_Tree.mk v false) := by
  obtain ⟨t, n1, n2, n3⟩ := new_eq hk
  have b1 : (false == true) = false := rfl
  have b2 : (false == false) = true := rfl
  have b3 : (true == false) = false := rfl
  have c1 : ((1 : Int) == 1) = true := rfl
  have c2 : ((([] : List HS).length : Int) == 0) = true := rfl
  simp only [law08_nothing, n1, Option.bind_some, merkle_Tree_Node, merkle_Tree_there_n, merkle_Tree_Diff, merkle_Tree_there, merkle_Tree_Set, law08_num, merkle_Tree_Root, merkle_Tree_Leaves, merkle_Tree_Copy, merkle_Tree_Same, merkle_Tree_Same_pn, lt1, n2, Bool.not_true, Bool.not_false, cond_false, cond_true, if_true, eqH, decide_true, Bool.false_eq_true, if_false, b1, b2, b3, c1, c2]
theorem pure_MerkleNil   : ∃ k, law08_MerkleNil k  = some true := by
  obtain ⟨k, hk⟩ : ∃ k : Nat, k = 4000 := ⟨_, rfl⟩
  refine ⟨k, ?_⟩
  simp only [law08_MerkleNil, nothing_n hk, nothing_z hk, Option.bind_some, if_true, known8 hk, lt1, cond_true]
end Go.Proofs.Ytbflmobpbjnekaa
