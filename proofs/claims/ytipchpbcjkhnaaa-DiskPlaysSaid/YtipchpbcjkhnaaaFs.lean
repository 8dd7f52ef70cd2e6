/- Views: heads that point into the middle of a row. -/
import Derived.Test.YtipchpbcjkhnaaaFz
namespace Go.Proofs.Ytipchpbcjkhnaaa.Fw
open Go Go.RowKit
set_option linter.unusedVariables false
set_option linter.unusedSimpArgs false

def HDX (ob : Option Nat) (off n : Nat) : VP := ⟨fun _ v => ∃ (base : Option Addr) (c : Nat), v = .slice base n c ∧ n ≤ c ∧ (n ≠ 0 → ∃ b, ob = some b ∧ base = some ⟨b, off, none⟩), fun _ h => h⟩
instance (ob : Option Nat) (off n : Nat) : OneP (HDX ob off n) := ⟨fun _ _ ⟨_, _, h, _⟩ => by subst h; rfl⟩
theorem Zgi {T : Type} {xs ys : List T} {o n : Nat} (h : ZhF xs o n = some ys) : ys.length = n ∧ (0 < n → o + n ≤ xs.length ∧ (xs.drop o).take n = ys) := by
  unfold ZhF at h
  split at h
  · rename_i hn; cases h; exact ⟨hn.symm, fun h => by omega⟩
  · split at h
    · rename_i hc; cases h; exact ⟨by simp; omega, fun _ => ⟨hc, rfl⟩⟩
    · cases h

section
variable {P : Program} {Bs : Base} {st st' : St} {d : Nat} {ty t t' el : TypeId} {pos : String} {af : Array Edge} {g : Option (Nat × Bool)} {x y z : Operand} {Q : Exit → Act → World → Prop} {l : List Oper} {ops : Array Oper}
variable {e : Env} {a : Act} {w : World}
theorem ZhD {ob : Option Nat} {off n : Nat} (hd : d < Bs.N) (hu : P.underlying t = some (.slice el)) (hx : HasO st x (.one (.val (HDX ob off n)))) :
    Zag P Bs ⟨some d, .call { callee := .builtin .len, args := #[x], argTypes := #[t] }, ty, pos, af, g⟩ st (st.set d (.one (.val (S (rI .i64) n)))) :=
  .value hd fun e a w h => by
    obtain ⟨base, c, hv, _⟩ : ∃ (base : Option Addr) (c : Nat), a.eval x = .slice base n c ∧ _ := hx.get h
    exact ⟨.int .i64 n, by simp [execOp, resolve, invoke, builtin, Builtin.len_, hv, run_underlying hu, goInt], rfl⟩
theorem ZiB {T : Type} {r : Rep T} {xs ys : List T} {ob : Option Nat} {fz cap j o n : Nat} (hst : StE Bs st e a w) (hX : st.X[j]? = some (cown ob r xs fz cap)) (hr : ZhF xs o n = some ys) (hpos : 0 < n) :
    ∃ (b : Nat) (cs : List Value) (el : TypeId) (fr : Nat × Nat), ob = some b ∧ w.heap[b]? = some (.cells cs.toArray el fr) ∧ ys.length = n ∧ (o + n) * r.sz ≤ cs.length ∧ ∀ i (h : i < ys.length), r.rel e ys[i] ((cs.drop ((o + i) * r.sz)).take r.sz) := by
  obtain ⟨hle, rfl⟩ := (Zgi hr).2 hpos
  rcases hst.xs _ (List.mem_of_getElem? hX) with ⟨_, k2, _⟩ | ⟨b, cs, el, fr, hob, k1, k2, k0, k3, k4, _⟩
  · subst k2; simp at hle; omega
  · refine ⟨b, cs, el, fr, hob, k1, by simp; omega, Nat.le_trans (Nat.mul_le_mul_right _ (Nat.le_trans hle k0)) k3, fun i hi => ?_⟩
    have hi' : o + i < xs.length := by simp at hi; omega
    have := k4 (o + i) hi'
    simpa using this
theorem Src.view {T : Type} {r : Rep T} {xs ys : List T} {ob : Option Nat} {fz cap j o n : Nat} (hX : st.X[j]? = some (cown ob r xs fz cap)) (hr : ZhF xs o n = some ys) (hst : StE Bs st e a w) (hy : HasO st y (.one (.val (HDX ob (o * r.sz) n)))) : ∃ fl, Src P e a w r ys y fl := by
  obtain ⟨aa, c, hv, hc, hn⟩ : ∃ (base : Option Addr) (c : Nat), a.eval y = .slice base n c ∧ n ≤ c ∧ (n ≠ 0 → ∃ b, ob = some b ∧ base = some ⟨b, o * r.sz, none⟩) := hy.get hst
  by_cases h0 : n = 0
  · subst h0
    have hys : ys = [] := List.eq_nil_of_length_eq_zero (Zgi hr).1
    subst hys
    refine ⟨[], by simp, (fun v hv => nomatch hv), (fun i hi => absurd hi (Nat.not_lt_zero _)), (fun w => by rw [hv]; cases aa <;> simp [Builtin.lenOf]), fun w' _ => ?_⟩
    rw [hv]
    cases aa with
    | none => simp [Builtin.firstCells]
    | some ad => simp [Builtin.firstCells, loadCells, loadCellsFrom]
  · obtain ⟨b, cs, el, fr, hob, k1, k2, k3, k4⟩ := ZiB hst hX hr (by omega)
    obtain ⟨b', hob', haa⟩ := hn h0
    rw [hob] at hob'
    cases hob'
    subst haa
    have hfl : ((cs.drop (o * r.sz)).take (n * r.sz)).length = ys.length * r.sz := by
      rw [k2]; simp; rw [Nat.add_mul] at k3; omega
    have hrel : ∀ i (h : i < ys.length), r.rel e ys[i] ((((cs.drop (o * r.sz)).take (n * r.sz)).drop (i * r.sz)).take r.sz) := fun i hi => by
      have h1 := k4 i hi
      have hle2 : i * r.sz + r.sz ≤ n * r.sz := by
        have := Nat.mul_le_mul_right r.sz (show i + 1 ≤ n by omega)
        rw [Nat.add_mul] at this; omega
      rw [List.drop_take, List.take_take, Nat.min_eq_left (by omega), List.drop_drop, ← Nat.add_mul]
      exact h1
    refine ⟨(cs.drop (o * r.sz)).take (n * r.sz), hfl, Ze9 hfl hrel, hrel, fun w => by rw [hv, k2]; simp [Builtin.lenOf], fun w' hw => ?_⟩
    rw [hv, k2]
    simp only [Builtin.firstCells]
    exact ZcM P (by rw [hfl, k2]) (Zez (n := n * r.sz) (by rw [hw]; exact k1) rfl)
theorem ZhA {T : Type} {r : Rep T} {xs zs vs : List T} {ob ob' : Option Nat} {fz cap j fz' cap' j' o n bytes : Nat} {zv : Value} {dy : TypeDesc} (hd : d < Bs.N) (hu : P.underlying t = some (.slice el)) (hu' : P.underlying t' = some dy) (hni : Zee dy = true) (hel : tyB P el r.sz bytes zv) (hz : zv.cells.size = r.sz) (hsz : 0 < r.sz) (hb0 : 0 < bytes)
    (hX : st.X[j]? = some (cown ob r xs fz cap)) (hx : HasO st x (.one (.val (HDR ob 0 xs.length cap)))) (hX' : st.X[j']? = some (cown ob' r vs fz' cap')) (hy : HasO st y (.one (.val (HDX ob' (o * r.sz) n)))) (h : apV bytes xs vs o n = some zs) :
    OpX P Bs ⟨some d, .call { callee := .builtin .append, args := #[x, y], argTypes := #[t, t'] }, ty, pos, af, g⟩ st (fun q : Option Nat × Nat => St.set { st with X := st.X.set j (cown q.1 r zs fz q.2) } d (.one (.val (HDR q.1 0 zs.length q.2)))) := by
  obtain ⟨ys, hr, h⟩ := Zas h
  exact Zf1 hd hu hu' hni hel hz hsz hb0 hX hx (fun e a w hst => Src.view hX' hr hst hy) (Zek h)
end
end Go.Proofs.Ytipchpbcjkhnaaa.Fw
