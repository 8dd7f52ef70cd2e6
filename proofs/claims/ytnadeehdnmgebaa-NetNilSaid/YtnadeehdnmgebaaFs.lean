/- Views: heads that point into the middle of a row. -/
import Derived.Test.YtnadeehdnmgebaaFz
namespace Go.Proofs.Ytnadeehdnmgebaa.Fw
open Go Go.RowKit
set_option linter.unusedVariables false
set_option linter.unusedSimpArgs false

/-- A head into a row: so many elements from there on; without elements it may point anywhere. -/
def HDX (ob : Option Nat) (off n : Nat) : VP := ⟨fun _ v => ∃ (base : Option Addr) (c : Nat), v = .slice base n c ∧ n ≤ c ∧ (n ≠ 0 → ∃ b, ob = some b ∧ base = some ⟨b, off, none⟩), fun _ h => h⟩
instance (ob : Option Nat) (off n : Nat) : OneP (HDX ob off n) := ⟨fun _ _ ⟨_, _, h, _⟩ => by subst h; rfl⟩
theorem viewL_some {T : Type} {xs ys : List T} {o n : Nat} (h : viewL xs o n = some ys) : ys.length = n ∧ (0 < n → o + n ≤ xs.length ∧ (xs.drop o).take n = ys) := by
  unfold viewL at h
  split at h
  · rename_i hn; cases h; exact ⟨hn.symm, fun h => by omega⟩
  · split at h
    · rename_i hc; cases h; exact ⟨by simp; omega, fun _ => ⟨hc, rfl⟩⟩
    · cases h

section
variable {P : Program} {Bs : Base} {st st' : St} {d : Nat} {ty t t' el : TypeId} {pos : String} {af : Array Edge} {g : Option (Nat × Bool)} {x y z : Operand} {Q : Exit → Act → World → Prop} {l : List Oper} {ops : Array Oper}
variable {e : Env} {a : Act} {w : World}
/-- What lies in a view. -/
theorem view_cells {T : Type} {r : Rep T} {xs ys : List T} {ob : Option Nat} {fz cap j o n : Nat} (hst : StE Bs st e a w) (hX : st.X[j]? = some (cown ob r xs fz cap)) (hr : viewL xs o n = some ys) (hpos : 0 < n) :
    ∃ (b : Nat) (cs : List Value) (el : TypeId) (fr : Nat × Nat), ob = some b ∧ w.heap[b]? = some (.cells cs.toArray el fr) ∧ ys.length = n ∧ (o + n) * r.sz ≤ cs.length ∧ ∀ i (h : i < ys.length), r.rel e ys[i] ((cs.drop ((o + i) * r.sz)).take r.sz) := by
  obtain ⟨hle, rfl⟩ := (viewL_some hr).2 hpos
  rcases hst.xs _ (List.mem_of_getElem? hX) with ⟨_, k2, _⟩ | ⟨b, cs, el, fr, hob, k1, k2, k0, k3, k4, _⟩
  · subst k2; simp at hle; omega
  · refine ⟨b, cs, el, fr, hob, k1, by simp; omega, Nat.le_trans (Nat.mul_le_mul_right _ (Nat.le_trans hle k0)) k3, fun i hi => ?_⟩
    have hi' : o + i < xs.length := by simp at hi; omega
    have := k4 (o + i) hi'
    simpa using this
theorem Src.view {T : Type} {r : Rep T} {xs ys : List T} {ob : Option Nat} {fz cap j o n : Nat} (hX : st.X[j]? = some (cown ob r xs fz cap)) (hr : viewL xs o n = some ys) (hst : StE Bs st e a w) (hy : HasO st y (.one (.val (HDX ob (o * r.sz) n)))) : ∃ fl, Src P e a w r ys y fl := by
  obtain ⟨aa, c, hv, hc, hn⟩ : ∃ (base : Option Addr) (c : Nat), a.eval y = .slice base n c ∧ n ≤ c ∧ (n ≠ 0 → ∃ b, ob = some b ∧ base = some ⟨b, o * r.sz, none⟩) := hy.get hst
  by_cases h0 : n = 0
  · subst h0
    have hys : ys = [] := List.eq_nil_of_length_eq_zero (viewL_some hr).1
    subst hys
    refine ⟨[], by simp, (fun v hv => nomatch hv), (fun i hi => absurd hi (Nat.not_lt_zero _)), (fun w => by rw [hv]; cases aa <;> simp [Builtin.lenOf]), fun w' _ => ?_⟩
    rw [hv]
    cases aa with
    | none => simp [Builtin.firstCells]
    | some ad => simp [Builtin.firstCells, loadCells, loadCellsFrom]
  · obtain ⟨b, cs, el, fr, hob, k1, k2, k3, k4⟩ := view_cells hst hX hr (by omega)
    obtain ⟨b', hob', haa⟩ := hn h0
    rw [hob] at hob'
    cases hob'
    subst haa
    have hfl : ((cs.drop (o * r.sz)).take (n * r.sz)).length = ys.length * r.sz := by
      rw [k2]; simp; rw [Nat.add_mul] at k3; omega
    have hrel : ∀ i (h : i < ys.length), r.rel e ys[i] ((((cs.drop (o * r.sz)).take (n * r.sz)).drop (i * r.sz)).take r.sz) := fun i hi => by
      have h1 := k4 i hi
      have hle2 : i * r.sz + r.sz ≤ n * r.sz := by
        have := Nat.mul_le_mul_right r.sz (show i + 1 ≤ n by omega)
        rw [Nat.add_mul] at this; omega
      rw [List.drop_take, List.take_take, Nat.min_eq_left (by omega), List.drop_drop, ← Nat.add_mul]
      exact h1
    refine ⟨(cs.drop (o * r.sz)).take (n * r.sz), hfl, flat_one hfl hrel, hrel, fun w => by rw [hv, k2]; simp [Builtin.lenOf], fun w' hw => ?_⟩
    rw [hv, k2]
    simp only [Builtin.firstCells]
    exact rloadCells P (by rw [hfl, k2]) (part_at (n := n * r.sz) (by rw [hw]; exact k1) rfl)
end
end Go.Proofs.Ytnadeehdnmgebaa.Fw
