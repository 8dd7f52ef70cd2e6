/- Rows that a call has made out of others: their head, if they have no room, is whatever it was. -/
import Derived.Test.YtnadeehdnmgebaaFw
namespace Go.Proofs.Ytnadeehdnmgebaa.Fw
open Go Go.RowKit
set_option linter.unusedVariables false
set_option linter.unusedSimpArgs false

/-- A row's head; without room it may point anywhere. -/
def HDE (ob : Option Nat) (n c : Nat) : VP := ⟨fun _ v => ∃ base : Option Addr, v = .slice base n c ∧ (c ≠ 0 → base = ob.map fun b => ⟨b, 0, none⟩), fun _ h => h⟩
instance (ob : Option Nat) (n c : Nat) : OneP (HDE ob n c) := ⟨fun _ _ ⟨_, h, _⟩ => by subst h; rfl⟩
theorem wkTE {ob : Option Nat} {n c : Nat} : ∀ e v, (HDR ob 0 n c).p e v → (HDE ob n c).p e v := fun e v h => ⟨_, h, fun _ => rfl⟩
theorem Wk.toE {K : Env → Prop} {ob : Option Nat} {n c : Nat} : Wk K (rW (HDR ob 0 n c)) () (rW (HDE ob n c)) () := fun e vs _ ⟨v, h, k, h1⟩ => ⟨v, h, wkTE e v k, h1⟩
theorem Wk.hde {T : Type} {r : Rep T} {xs : List T} {ob : Option Nat} {cap : Nat} : Wk (KL r xs ob cap) (rW (HDE ob xs.length cap)) () (rL r) xs := fun e vs hK ⟨v, h, ⟨base, hv, hb⟩, _⟩ => by
  subst h
  subst hv
  by_cases hc : cap = 0
  · obtain ⟨ad, c, h1, h2, h3, h4⟩ := hK
    have hc2 : c = cap := by cases h1; rfl
    have h0 : xs.length = 0 := by omega
    exact ⟨_, rfl, base, cap, rfl, by omega, fun _ => hc, fun h => by omega⟩
  · rw [hb hc]
    exact ⟨_, rfl, hK⟩

section
variable {P : Program} {Bs : Base} {st st' : St} {d : Nat} {ty t t' el : TypeId} {pos : String} {af : Array Edge} {g : Option (Nat × Bool)} {x y z : Operand} {Q : Exit → Act → World → Prop} {l : List Oper} {ops : Array Oper}
variable {e : Env} {a : Act} {w : World}
theorem op_lenE {ob : Option Nat} {n c : Nat} (hd : d < Bs.N) (hu : P.underlying t = some (.slice el)) (hx : HasO st x (.one (.val (HDE ob n c)))) :
    OpStep P Bs ⟨some d, .call { callee := .builtin .len, args := #[x], argTypes := #[t] }, ty, pos, af, g⟩ st (st.set d (.one (.val (S (rI .i64) n)))) :=
  .value hd fun e a w h => by
    obtain ⟨base, hv, _⟩ : ∃ base : Option Addr, a.eval x = .slice base n c ∧ _ := hx.get h
    exact ⟨.int .i64 n, by simp [execOp, resolve, invoke, builtin, Builtin.len_, hv, run_underlying hu, goInt], rfl⟩
theorem Imp.dropE {ρ : List (Nat × SV1)} {X : List Chunk} {df : List Nat} {d j : Nat} {T : Type} {r : Rep T} {xs : List T} {ob : Option Nat} {fz cap : Nat} (hX : X[j]? = some (cown ob r xs fz cap)) : Imp Bs ⟨(d, .one (.val (HDE ob xs.length cap))) :: ρ, X, df⟩ ⟨(d, .one (.val (S (rL r) xs))) :: ρ, X.eraseIdx j, df⟩ :=
  Imp.frz hX (ImpK.slotW (s := d) (look_cons_self ..) Wk.hde fun e a w hk hst => by
    have h1 := hst.weak (ρ' := (d, .one (.val (S (rL r) xs))) :: ρ) (fun t sv ht => by
      rcases look_cons ht with ⟨rfl, rfl⟩ | ⟨hne, h⟩
      · exact look_cons_self ..
      · rw [look_cons_ne _ _ (Ne.symm hne), look_cons_ne _ _ (Ne.symm hne)]; exact h)
    have h2 := perm_set (X := X.set j (cown ob r xs xs.length cap)) (j := j) (c := cown ob r xs xs.length cap) (by rw [List.getElem?_set_self (List.getElem?_eq_some_iff.1 hX).1])
    rw [erase_set] at h2
    have h3 := h1.perm h2
    exact h3.drop (A := X.eraseIdx j) (B := [cown ob r xs xs.length cap]) (List.perm_append_comm (l₁ := [cown ob r xs xs.length cap])))
end
end Go.Proofs.Ytnadeehdnmgebaa.Fw
