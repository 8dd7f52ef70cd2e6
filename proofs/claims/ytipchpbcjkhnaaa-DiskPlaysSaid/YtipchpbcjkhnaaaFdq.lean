/- Maps of what pointers point to: what turns there. -/
import Derived.Test.YtipchpbcjkhnaaaFp
namespace Go.Proofs.Ytipchpbcjkhnaaa.Fw
def qupd {K V : Type} [DecidableEq K] (x : Option (List (K × V))) (k : K) (f : V → V) : Option (Option (List (K × V))) := Option.bind (ZbF x k) fun u => ZfF x k (f u)
def Zdz {K V : Type} [DecidableEq K] (l : List (K × V)) (k : K) (f : V → V) : Option (List (K × V)) := (mget k l).map fun u => mput k (f u) l
def andO {α β : Type} (a : Option α) (b : Option β) : Option β := a.bind fun _ => b
def setF {T : Type} (xs : List T) (i : Nat) (f : T → T) : Option (List T) := Option.bind xs[i]? fun u => ZfP xs i (f u)
def Zhs {V : Type} (x : Option (List (List UInt8 × V))) : Option (List (List UInt8)) := Option.bind x fun l => if l.length * 16 ≤ 140737488355328 ∧ (l.all fun p => decide (p.1.length ≤ 140737488355328)) = true then some ((l.map Prod.fst).mergeSort fun a b => decide (a ≤ b)) else none
end Go.Proofs.Ytipchpbcjkhnaaa.Fw
