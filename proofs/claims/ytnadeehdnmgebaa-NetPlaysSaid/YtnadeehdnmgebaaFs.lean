/- Views: heads that point into the middle of a row. -/
import Derived.Test.YtnadeehdnmgebaaFz
namespace Go.Proofs.Ytnadeehdnmgebaa.Fw
open Go Go.RowKit
set_option linter.unusedVariables false
set_option linter.unusedSimpArgs false

/-- A head into a row: so many elements from there on; without elements it may point anywhere. -/
def HDX (ob : Option Nat) (off n : Nat) : VP := ⟨fun _ v => ∃ (base : Option Addr) (c : Nat), v = .slice base n c ∧ n ≤ c ∧ (n ≠ 0 → ∃ b, ob = some b ∧ base = some ⟨b, off, none⟩), fun _ h => h⟩
instance (ob : Option Nat) (off n : Nat) : OneP (HDX ob off n) := ⟨fun _ _ ⟨_, _, h, _⟩ => by subst h; rfl⟩
theorem viewL_some {T : Type} {xs ys : List T} {o n : Nat} (h : viewL xs o n = some ys) : ys.length = n ∧ (0 < n → o + n ≤ xs.length ∧ (xs.drop o).take n = ys) := by
  unfold viewL at h
  split at h
  · rename_i hn; cases h; exact ⟨hn.symm, fun h => by omega⟩
  · split at h
    · rename_i hc; cases h; exact ⟨by simp; omega, fun _ => ⟨hc, rfl⟩⟩
    · cases h

section
variable {P : Program} {Bs : Base} {st st' : St} {d : Nat} {ty t t' el : TypeId} {pos : String} {af : Array Edge} {g : Option (Nat × Bool)} {x y z : Operand} {Q : Exit → Act → World → Prop} {l : List Oper} {ops : Array Oper}
variable {e : Env} {a : Act} {w : World}
theorem op_lenX {ob : Option Nat} {off n : Nat} (hd : d < Bs.N) (hu : P.underlying t = some (.slice el)) (hx : HasO st x (.one (.val (HDX ob off n)))) :
    OpStep P Bs ⟨some d, .call { callee := .builtin .len, args := #[x], argTypes := #[t] }, ty, pos, af, g⟩ st (st.set d (.one (.val (S (rI .i64) n)))) :=
  .value hd fun e a w h => by
    obtain ⟨base, c, hv, _⟩ : ∃ (base : Option Addr) (c : Nat), a.eval x = .slice base n c ∧ _ := hx.get h
    exact ⟨.int .i64 n, by simp [execOp, resolve, invoke, builtin, Builtin.len_, hv, run_underlying hu, goInt], rfl⟩
/-- An element of a view. -/
theorem op_indexAddrXF {T : Type} {r : Rep T} {ob : Option Nat} {o n m : Nat} {k : IntKind} {i : Int} (hd : d < Bs.N) (hu : P.underlying t = some (.slice el)) (hs : tySz P el r.sz = true)
    (hx : HasO st x (.one (.val (HDX ob (o * r.sz) n)))) (hy : HasO st y (.one (.val (S (rI k) i)))) (h : inX o n i = some m) :
    OpStep P Bs ⟨some d, .indexAddr t x y, ty, pos, af, g⟩ st (st.set d (.one (.val (EPT ob (m * r.sz))))) :=
  .value hd fun e a w hst => by
    obtain ⟨h0, h1, rfl⟩ : 0 ≤ i ∧ i < n ∧ o + i.toNat = m := by
      unfold inX at h
      split at h
      · rename_i hc; cases h; exact ⟨hc.1, hc.2, rfl⟩
      · cases h
    obtain ⟨aa, c, hv, hc, hn⟩ : ∃ (base : Option Addr) (c : Nat), a.eval x = .slice base n c ∧ n ≤ c ∧ (n ≠ 0 → ∃ b, ob = some b ∧ base = some ⟨b, o * r.sz, none⟩) := hx.get hst
    obtain ⟨b, rfl, rfl⟩ := hn (by omega)
    have hi : a.eval y = .int k i := by have := hy.get hst; simpa [SVR, SWR, S, rI] using this
    have hrun := rIndexSl (P := P) (w := w) (n := n) (c := c) (b := b) (off := o * r.sz) (k := k) hu hs h0 h1
    exact ⟨.pointer (some ⟨b, o * r.sz + i.toNat * r.sz, none⟩), by simp only [execOp, hv, hi, Sem.run_bind, hrun, Result.andThen, Sem.run_pure], b, rfl, by rw [Nat.add_mul]⟩
/-- What lies in a view. -/
theorem view_cells {T : Type} {r : Rep T} {xs ys : List T} {ob : Option Nat} {fz cap j o n : Nat} (hst : StE Bs st e a w) (hX : st.X[j]? = some (cown ob r xs fz cap)) (hr : viewL xs o n = some ys) (hpos : 0 < n) :
    ∃ (b : Nat) (cs : List Value) (el : TypeId) (fr : Nat × Nat), ob = some b ∧ w.heap[b]? = some (.cells cs.toArray el fr) ∧ ys.length = n ∧ (o + n) * r.sz ≤ cs.length ∧ ∀ i (h : i < ys.length), r.rel e ys[i] ((cs.drop ((o + i) * r.sz)).take r.sz) := by
  obtain ⟨hle, rfl⟩ := (viewL_some hr).2 hpos
  rcases hst.xs _ (List.mem_of_getElem? hX) with ⟨_, k2, _⟩ | ⟨b, cs, el, fr, hob, k1, k2, k0, k3, k4, _⟩
  · subst k2; simp at hle; omega
  · refine ⟨b, cs, el, fr, hob, k1, by simp; omega, Nat.le_trans (Nat.mul_le_mul_right _ (Nat.le_trans hle k0)) k3, fun i hi => ?_⟩
    have hi' : o + i < xs.length := by simp at hi; omega
    have := k4 (o + i) hi'
    simpa using this
theorem Src.view {T : Type} {r : Rep T} {xs ys : List T} {ob : Option Nat} {fz cap j o n : Nat} (hX : st.X[j]? = some (cown ob r xs fz cap)) (hr : viewL xs o n = some ys) (hst : StE Bs st e a w) (hy : HasO st y (.one (.val (HDX ob (o * r.sz) n)))) : ∃ fl, Src P e a w r ys y fl := by
  obtain ⟨aa, c, hv, hc, hn⟩ : ∃ (base : Option Addr) (c : Nat), a.eval y = .slice base n c ∧ n ≤ c ∧ (n ≠ 0 → ∃ b, ob = some b ∧ base = some ⟨b, o * r.sz, none⟩) := hy.get hst
  by_cases h0 : n = 0
  · subst h0
    have hys : ys = [] := List.eq_nil_of_length_eq_zero (viewL_some hr).1
    subst hys
    refine ⟨[], by simp, (fun v hv => nomatch hv), (fun i hi => absurd hi (Nat.not_lt_zero _)), (fun w => by rw [hv]; cases aa <;> simp [Builtin.lenOf]), fun w' _ => ?_⟩
    rw [hv]
    cases aa with
    | none => simp [Builtin.firstCells]
    | some ad => simp [Builtin.firstCells, loadCells, loadCellsFrom]
  · obtain ⟨b, cs, el, fr, hob, k1, k2, k3, k4⟩ := view_cells hst hX hr (by omega)
    obtain ⟨b', hob', haa⟩ := hn h0
    rw [hob] at hob'
    cases hob'
    subst haa
    have hfl : ((cs.drop (o * r.sz)).take (n * r.sz)).length = ys.length * r.sz := by
      rw [k2]; simp; rw [Nat.add_mul] at k3; omega
    have hrel : ∀ i (h : i < ys.length), r.rel e ys[i] ((((cs.drop (o * r.sz)).take (n * r.sz)).drop (i * r.sz)).take r.sz) := fun i hi => by
      have h1 := k4 i hi
      have hle2 : i * r.sz + r.sz ≤ n * r.sz := by
        have := Nat.mul_le_mul_right r.sz (show i + 1 ≤ n by omega)
        rw [Nat.add_mul] at this; omega
      rw [List.drop_take, List.take_take, Nat.min_eq_left (by omega), List.drop_drop, ← Nat.add_mul]
      exact h1
    refine ⟨(cs.drop (o * r.sz)).take (n * r.sz), hfl, flat_one hfl hrel, hrel, fun w => by rw [hv, k2]; simp [Builtin.lenOf], fun w' hw => ?_⟩
    rw [hv, k2]
    simp only [Builtin.firstCells]
    exact rloadCells P (by rw [hfl, k2]) (part_at (n := n * r.sz) (by rw [hw]; exact k1) rfl)
/-- The text of a view. -/
theorem op_convXS {src dst : TypeId} {xs ys : List UInt8} {ob : Option Nat} {fz cap j o n : Nat} (hd : d < Bs.N) (hs : P.underlying src = some (.slice el)) (he : P.underlying el = some (.int .u8)) (hu : P.underlying dst = some .string) (hX : st.X[j]? = some (cown ob (rU UInt8) xs fz cap)) (hx : HasO st x (.one (.val (HDX ob (o * (rU UInt8).sz) n)))) (hr : viewL xs o n = some ys) :
    OpStep P Bs ⟨some d, .convert src dst x, ty, pos, af, g⟩ st (st.set d (.one (.val (S rS ys)))) :=
  .value hd fun e a w h => by
    obtain ⟨aa, c, hv, hc, hn⟩ : ∃ (base : Option Addr) (c : Nat), a.eval x = .slice base n c ∧ n ≤ c ∧ (n ≠ 0 → ∃ b, ob = some b ∧ base = some ⟨b, o * (rU UInt8).sz, none⟩) := hx.get h
    have hlen : ys.length = n := (viewL_some hr).1
    refine ⟨.string (bs ys), ?_, rfl⟩
    have hrun := bytes_run (P := P) (w := w) (c := c) (xs := ys) (aa := aa) hs he hu fun h0 => by
      obtain ⟨b, cs, el', fr, hob, k1, k2, k3, k4⟩ := view_cells h hX hr (by omega)
      obtain ⟨b', hob', haa⟩ := hn (by omega)
      rw [hob] at hob'
      cases hob'
      refine ⟨b, o * (rU UInt8).sz, haa, fun i hi => ?_⟩
      have h1 : (cs.drop ((o + i) * 1)).take 1 = [.int .u8 (ys[i].toNat : Int)] := k4 i hi
      have hsz : (rU UInt8).sz = 1 := rfl
      rw [cell_of k1, hsz, Nat.mul_one]
      have : ((cs.drop ((o + i) * 1)).take 1)[0]? = some (.int .u8 (ys[i].toNat : Int)) := by rw [h1]; rfl
      rw [List.getElem?_take_of_lt (by omega), List.getElem?_drop] at this
      simpa using this
    rw [hlen] at hrun
    simp only [execOp, hv, Sem.run_bind, hrun, Result.andThen, Sem.run_pure]
/-- Is a view nil? If it is, it has no elements. -/
theorem op_isNilX {ob : Option Nat} {off n : Nat} {neg : Bool} (hd : d < Bs.N) (hu : P.underlying t = some (.slice el)) (hx : HasO st x (.one (.val (HDX ob off n)))) (hy : HasO st y (.one (.val (HDR none 0 0 0)))) :
    OpX P Bs ⟨some d, .binOp (if neg then .neq else .eql) t x y t', ty, pos, af, g⟩ st (fun q : { b : Bool // b = true → n = 0 } => st.set d (.one (.val (S rB (if neg then !q.1 else q.1))))) := fun a w hst K Q hK => by
  obtain ⟨e, h⟩ := hst
  obtain ⟨aa, c, hv, hc, hn⟩ : ∃ (base : Option Addr) (c : Nat), a.eval x = .slice base n c ∧ n ≤ c ∧ (n ≠ 0 → ∃ b, ob = some b ∧ base = some ⟨b, off, none⟩) := hx.get h
  have hvy : a.eval y = .slice none 0 0 := hy.get h
  have heq : ∀ d, (Op.equalIn (d + 1) t (.slice aa n c) (.slice none 0 0)).run P w = .ok aa.isNone w := fun d => by cases aa <;> simp [Op.equalIn, run_underlying hu]
  have heq' : (Op.equal t (.slice aa n c) (.slice none 0 0)).run P w = .ok aa.isNone w := heq 9999
  refine wpIn_calm (w' := w) (v := .bool (if neg then !aa.isNone else aa.isNone)) (fun _ _ => trivial) (nodefer_ne rfl) ?_ (hK ⟨aa.isNone, fun ha => ?_⟩ _ _ ⟨e, h.put hd (by cases neg <;> rfl)⟩)
  · have hg : (eqGuard (if neg then .neq else .eql) t x y (.slice aa n c) (.slice none 0 0)).run P w = .ok () w := by
      unfold eqGuard
      cases neg <;> simp
    have e4 : binOp .eql t (.slice aa n c) (.slice none 0 0) = (do let r ← Op.equal t (.slice aa n c) (.slice none 0 0); pure (.bool r)) := rfl
    have e5 : binOp .neq t (.slice aa n c) (.slice none 0 0) = (do let r ← Op.equal t (.slice aa n c) (.slice none 0 0); pure (.bool !r)) := rfl
    cases neg
    · simp only [Bool.false_eq_true, if_false] at hg ⊢
      simp only [execOp, hv, hvy, Sem.run_bind, hg, Result.andThen, e4, heq', Sem.run_pure]
    · simp only [if_true] at hg ⊢
      simp only [execOp, hv, hvy, Sem.run_bind, hg, Result.andThen, e5, heq', Sem.run_pure]
  · by_cases h0 : n = 0
    · exact h0
    · obtain ⟨b, _, haa⟩ := hn h0
      rw [haa] at ha
      simp at ha
theorem op_appendXV {T : Type} {r : Rep T} {xs zs vs : List T} {ob ob' : Option Nat} {fz cap j fz' cap' j' o n bytes : Nat} {zv : Value} {dy : TypeDesc} (hd : d < Bs.N) (hu : P.underlying t = some (.slice el)) (hu' : P.underlying t' = some dy) (hni : notInt dy = true) (hel : tyB P el r.sz bytes zv) (hz : zv.cells.size = r.sz) (hsz : 0 < r.sz) (hb0 : 0 < bytes)
    (hX : st.X[j]? = some (cown ob r xs fz cap)) (hx : HasO st x (.one (.val (HDR ob 0 xs.length cap)))) (hX' : st.X[j']? = some (cown ob' r vs fz' cap')) (hy : HasO st y (.one (.val (HDX ob' (o * r.sz) n)))) (h : apV bytes xs vs o n = some zs) :
    OpX P Bs ⟨some d, .call { callee := .builtin .append, args := #[x, y], argTypes := #[t, t'] }, ty, pos, af, g⟩ st (fun q : Option Nat × Nat => St.set { st with X := st.X.set j (cown q.1 r zs fz q.2) } d (.one (.val (HDR q.1 0 zs.length q.2)))) := by
  obtain ⟨ys, hr, h⟩ := bnd_inv h
  exact op_append hd hu hu' hni hel hz hsz hb0 hX hx (fun e a w hst => Src.view hX' hr hst hy) (apL_some h)
end
end Go.Proofs.Ytnadeehdnmgebaa.Fw
