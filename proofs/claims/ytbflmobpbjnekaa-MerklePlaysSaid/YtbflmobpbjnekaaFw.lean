/- Courses over maps, in whatever order. -/
import Derived.Test.YtbflmobpbjnekaaFv
namespace Go.Proofs.Ytbflmobpbjnekaa.Fw
open Go Go.RowKit Go.MapKept
set_option linter.unusedVariables false
set_option linter.unusedSimpArgs false

section
variable {P : Program} {Bs : Base} {st : St} {e : Env} {a : Act} {w : World} {t kt et ty : TypeId} {d : Nat} {x y z : Operand} {pos : String} {af : Array Edge} {g : Option (Nat × Bool)} {K V : Type} {pk : K → VP} {pv : V → VP} {Q : Exit → Act → World → Prop}
/-- What is still to come: some entries, and what they are. -/
def Rem (pk : K → VP) (pv : V → VP) (e : Env) (rem : List (K × V)) (left : List MapEntry) : Prop := ∃ l', MRel pk pv e rem l' ∧ l'.Perm left
theorem Rem.pick {e : Env} : ∀ {rem : List (K × V)} {l' : List MapEntry} {en : MapEntry}, MRel pk pv e rem l' → en ∈ l' → ∃ kv rem' l'', rem.Perm (kv :: rem') ∧ l'.Perm (en :: l'') ∧ MRel pk pv e rem' l'' ∧ (pk kv.1).p e en.key ∧ (pv kv.2).p e en.val
  | [], [], en, _, hm => by cases hm
  | q :: rem, z :: l', en, ⟨a, b, c⟩, hm => by
    rcases List.mem_cons.1 hm with rfl | hm
    · exact ⟨q, rem, l', List.Perm.refl _, List.Perm.refl _, c, a, b⟩
    · obtain ⟨kv, rem', l'', h1, h2, h3, h4, h5⟩ := Rem.pick c hm
      exact ⟨kv, q :: rem', z :: l'', (h1.cons q).trans (List.Perm.swap _ _ _), (h2.cons z).trans (List.Perm.swap _ _ _), ⟨a, b, h3⟩, h4, h5⟩
  | [], _ :: _, _, h, _ => h.elim
  | _ :: _, [], _, h, _ => h.elim

theorem Rem.nil {e : Env} {rem : List (K × V)} {left : List MapEntry} (h : Rem pk pv e rem left) (h0 : left = []) : rem = [] := by
  obtain ⟨l', h1, h2⟩ := h
  subst h0
  have := h2.eq_nil
  subst this
  cases rem with
  | nil => rfl
  | cons q r => exact h1.elim
variable [DecidableEq K]
end
theorem Imp.pick {Bs : Base} {st : St} {A B Y : List Chunk} {js : List Nat} (hX : picks st.X js = some (A, B)) (hY : Y = A ++ B) : Imp Bs st { st with X := Y } := fun a w ⟨e, h⟩ => ⟨e, by rw [hY]; exact h.perm (picks_perm hX)⟩
end Go.Proofs.Ytbflmobpbjnekaa.Fw
