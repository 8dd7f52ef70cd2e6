/- What a call leaves as long as it was. -/
import Derived.Test.YtbflmobpbjnekaaFp
namespace Go.Proofs.Ytbflmobpbjnekaa.Fw
/-- .. whose list is as long as before. -/
def keepL {α β : Type} (n : Nat) (p : β → List α) (o : Option β) : Option β := o.bind fun b => if (p b).length = n then some b else none
theorem keepL_some {α β : Type} {n : Nat} {p : β → List α} {o : Option β} {b : β} (h : keepL n p o = some b) : o = some b ∧ (p b).length = n := by
  unfold keepL at h
  cases o with
  | none => cases h
  | some c =>
    simp only [Option.bind_some] at h
    split at h
    · cases h; exact ⟨rfl, by assumption⟩
    · cases h
end Go.Proofs.Ytbflmobpbjnekaa.Fw
