/- Slices, the third part: literals, make, texts and bytes, elements of rows of the call's own, arrays cut. -/
import Derived.Test.YtbmimaabgclhjaaFg
import Derived.Lib.ConvBytes
namespace Go.Proofs.Ytbmimaabgclhjaa.Fw
open Go Go.RowKit
set_option linter.unusedVariables false
set_option linter.unusedSimpArgs false

section
variable {P : Program} {Bs : Base} {st st' : St} {d : Nat} {ty t t' el : TypeId} {pos : String} {af : Array Edge} {g : Option (Nat × Bool)} {x y z : Operand}
variable {e : Env} {a : Act} {w : World}

/-- A new block that is frozen at once. -/
theorem StE.fresh (h : StE Bs st e a w) {cs : List Value} {fr : Nat × Nat} {w1 : World} (hw : Kept w w1) (hb : w1.heap[w.heap.size]? = some (.cells cs.toArray el fr)) (hsz : w1.heap.size = w.heap.size + 1) :
    StE Bs st (e.add w.heap.size 0 cs) a w1 := by
  have hlt : ∀ ad v, e.mu ad = some v → ad.block = w.heap.size → ad.off < 0 := fun ad v hm hab => by have := mu_lt h hm; omega
  refine h.grow (Env.add_le hlt) (fun ad v hm => ?_) hw fun ad v hm => ?_
  · rcases Env.add_inv hm with h1 | ⟨h1, _⟩
    · exact .inl h1
    · exact .inr (by omega)
  · rcases Env.add_inv hm with h1 | ⟨h1, h2, _, _, h5⟩
    · exact frz_kept h.frz hw ad v h1
    · obtain ⟨ab, off, sp⟩ := ad
      simp only at h1 h2 h5
      subst h1; subst h2
      rw [cell_of hb]
      simpa using h5

theorem foldl_lay (vs : List Value) : ∀ (off k : Nat) (cs : Array Value), off + k + vs.length ≤ cs.size → (vs.zipIdx k).foldl (fun cs (x : Value × Nat) => cs.setIfInBounds (off + x.2) x.1) cs = (lay cs.toList (off + k) vs).toArray := by
  induction vs with
  | nil => intro off k cs h; simp [lay_nil]
  | cons v vs ih =>
    intro off k cs h
    simp only [List.length_cons] at h
    simp only [List.zipIdx_cons, List.foldl_cons]
    rw [ih off (k + 1) _ (by simp; omega)]
    have h1 : (cs.setIfInBounds (off + k) v).toList = cs.toList.set (off + k) v := by simp
    rw [h1, ← Nat.add_assoc, lay_cons (by simp; omega)]
theorem fill_step {place : Nat → Option (Nat × Nat)} {i off sz : Nat} {v : Value} {rest : List (Nat × Value)} {cs : Array Value} (hp : place i = some (off, sz)) (hv : v.cells.size = sz) (hl : off + sz ≤ cs.size) :
    Instr.fill place cs ((i, v) :: rest) = Instr.fill place (lay cs.toList off v.cells.toList).toArray rest := by
  have h1 := foldl_lay v.cells.toList off 0 cs (by simp; omega)
  simp only [Instr.fill, hp, hv]
  rw [if_neg (by simp; omega)]
  congr 1
  rw [← Array.foldl_toList]
  simpa [Array.toList_zipIdx] using h1
/-- The parts of a list that is written out, from place k on. -/
inductive Parts (st : St) {T : Type} (r : Rep T) : Nat → List (Nat × Operand) → List T → Prop
  | nil {k : Nat} : Parts st r k [] []
  | S {k : Nat} {o : Operand} {y : T} {ps : List (Nat × Operand)} {ys : List T} (hs : r.sz = 1) (h : HasO st o (.one (.val (S r y)))) (hr : Parts st r (k + 1) ps ys) : Parts st r k ((k, o) :: ps) (y :: ys)
  | A {k : Nat} {o : Operand} {y : T} {ps : List (Nat × Operand)} {ys : List T} (h : HasO st o (.one (.val (A r y)))) (hr : Parts st r (k + 1) ps ys) : Parts st r k ((k, o) :: ps) (y :: ys)
theorem Parts.fill {T : Type} {r : Rep T} {k : Nat} {ps : List (Nat × Operand)} {ys : List T} (hp : Parts st r k ps ys) (h : StE Bs st e a w) :
    ∃ fl : List Value, fl.length = ys.length * r.sz ∧ (∀ i (h : i < ys.length), r.rel e ys[i] ((fl.drop (i * r.sz)).take r.sz)) ∧
      ∀ cs : List Value, (k + ys.length) * r.sz ≤ cs.length → Instr.fill (fun i => some (i * r.sz, r.sz)) cs.toArray (ps.map fun p => (p.1, a.eval p.2)) = some (lay cs (k * r.sz) fl).toArray := by
  have key : ∀ {k : Nat} {o : Operand} {y : T} {ps : List (Nat × Operand)} {ys : List T} {vs : List Value}, (a.eval o).cells.toList = vs → r.rel e y vs →
      (∃ fl : List Value, fl.length = ys.length * r.sz ∧ (∀ i (h : i < ys.length), r.rel e ys[i] ((fl.drop (i * r.sz)).take r.sz)) ∧
      ∀ cs : List Value, (k + 1 + ys.length) * r.sz ≤ cs.length → Instr.fill (fun i => some (i * r.sz, r.sz)) cs.toArray (ps.map fun p => (p.1, a.eval p.2)) = some (lay cs ((k + 1) * r.sz) fl).toArray) →
      ∃ fl : List Value, fl.length = (y :: ys).length * r.sz ∧ (∀ i (h : i < (y :: ys).length), r.rel e (y :: ys)[i] ((fl.drop (i * r.sz)).take r.sz)) ∧
      ∀ cs : List Value, (k + (y :: ys).length) * r.sz ≤ cs.length → Instr.fill (fun i => some (i * r.sz, r.sz)) cs.toArray (((k, o) :: ps).map fun p => (p.1, a.eval p.2)) = some (lay cs (k * r.sz) fl).toArray := by
    intro k o y ps ys vs hvs hrel ⟨fl, h1, h2, h3⟩
    have hvl := r.len hrel
    refine ⟨vs ++ fl, by simp [h1, hvl, Nat.add_mul]; omega, fun i hi => ?_, fun cs hcs => ?_⟩
    · have := rel_append (r := r) (e := e) (xs := [y]) (ys := ys) (cs := vs) (fl := fl) (tl := []) (fun i hi => by
        have : i = 0 := by simp at hi; omega
        subst this
        simp only [Nat.zero_mul, List.drop_zero, ← hvl, List.take_length]
        exact hrel) h2 (cs' := vs ++ fl) (fun k hk => by simp at hk; rw [List.getElem?_append_left (by omega)]) (fun k hk => by
        simp only [List.length_cons, List.length_nil, Nat.zero_add, Nat.one_mul]
        rw [List.getElem?_append_right (by omega)]
        congr 1; omega)
      exact this i hi
    · simp only [List.length_cons] at hcs
      have hmul : k * r.sz + r.sz ≤ (k + (ys.length + 1)) * r.sz := by
        have := Nat.mul_le_mul_right r.sz (show k + 1 ≤ k + (ys.length + 1) by omega)
        rw [Nat.add_mul] at this; omega
      simp only [List.map_cons]
      rw [fill_step (off := k * r.sz) (sz := r.sz) rfl (by rw [← Array.length_toList, hvs, hvl]) (by simp; omega)]
      simp only [hvs]
      have hlay : (lay cs (k * r.sz) vs).length = cs.length := lay_length (by omega)
      rw [h3 _ (by rw [hlay]; rw [show k + 1 + ys.length = k + (ys.length + 1) from by omega]; exact hcs)]
      congr 2
      have e1 : (k + 1) * r.sz = k * r.sz + vs.length := by rw [Nat.add_mul, hvl]; omega
      rw [e1]
      apply List.ext_getElem?
      intro i
      have hfull : k * r.sz + vs.length + fl.length ≤ cs.length := by
        have : (k + (ys.length + 1)) * r.sz = k * r.sz + (ys.length * r.sz + r.sz) := by rw [Nat.add_mul, Nat.add_mul, Nat.one_mul]
        omega
      by_cases h4 : i < k * r.sz
      · rw [lay_get_lt (by omega) (by omega), lay_get_lt h4 (by omega), lay_get_lt h4 (by omega)]
      · obtain ⟨m, rfl⟩ : ∃ m, i = k * r.sz + m := ⟨i - k * r.sz, by omega⟩
        by_cases h5 : m < vs.length
        · rw [lay_get_lt (by omega) (by omega), lay_get_mid h5 (by omega), lay_get_mid (by simp; omega) (by omega), List.getElem?_append_left h5]
        · obtain ⟨q, rfl⟩ : ∃ q, m = vs.length + q := ⟨m - vs.length, by omega⟩
          by_cases h6 : q < fl.length
          · rw [← Nat.add_assoc, lay_get_mid h6 (by omega), Nat.add_assoc, lay_get_mid (by simp; omega) (by omega), List.getElem?_append_right (by omega)]
            congr 1; omega
          · rw [lay_get_ge (by omega) (by omega), lay_get_ge (by omega) (by omega), lay_get_ge (by simp; omega) (by simp; omega)]
  induction hp with
  | nil => exact ⟨[], by simp, fun i hi => by simp at hi, fun cs _ => by simp [Instr.fill, lay_nil]⟩
  | S hs ho _ ih =>
    obtain ⟨h1, h2⟩ := cells_S (ho.get h)
    exact key h1 h2 ih
  | A ho _ ih =>
    obtain ⟨vs, h1, h2⟩ := ho.get h
    exact key (by rw [h1]; simp [Value.cells]) h2 ih

theorem run_build {n sz : Nat} {zv : Value} {ps : List (Nat × Value)} {cs : List Value} (hu : P.underlying t = some (.slice el)) (hs : tySz P el sz = true) (hz : tyZ P el zv) (hzs : zv.cells.size = sz) (hn : n * sz ≤ 16777216)
    (hf : Instr.fill (fun i => some (i * sz, sz)) ((List.replicate n zv.cells.toList).flatten).toArray ps = some cs.toArray) :
    (Instr.buildSlice t n ps.toArray).run P w = .ok (.slice (some ⟨w.heap.size, 0, none⟩) n n) { w with heap := w.heap.push (.cells cs.toArray el (0, 0)) } := by
  have hzero : ((Array.range (n * sz)).map fun i => zv.cells[i % zv.cells.size]!) = ((List.replicate n zv.cells.toList).flatten).toArray := by
    apply Array.ext'
    simp only [Array.toList_map, Array.toList_range]
    apply List.ext_getElem
    · simp [hzs]
    · intro i h1 h2
      simp at h1
      have hsz : 0 < sz := by
        rcases Nat.eq_zero_or_pos sz with h | h
        · rw [h] at h1; simp at h1
        · exact h
      have hin : i / sz < n := (Nat.div_lt_iff_lt_mul hsz).2 h1
      have hlen : zv.cells.toList.length = sz := by simp [hzs]
      have := flat_drop_take (a := zv.cells.toList) hlen (i / sz) hin
      have h3 : ((((List.replicate n zv.cells.toList).flatten).drop (i / sz * sz)).take sz)[i % sz]? = zv.cells.toList[i % sz]? := by rw [this]
      have hmod := Nat.mod_lt i hsz
      rw [List.getElem?_take_of_lt hmod, List.getElem?_drop, Nat.mul_comm, Nat.div_add_mod] at h3
      have h4 : ((List.replicate n zv.cells.toList).flatten)[i]? = some (((List.replicate n zv.cells.toList).flatten)[i]'h2) := List.getElem?_eq_getElem h2
      rw [h4] at h3
      simp only [List.getElem_map, List.getElem_range, hzs]
      rw [getElem!_pos zv.cells (i % sz) (by omega)]
      rw [List.getElem?_eq_getElem (by simp; omega)] at h3
      simp at h3
      exact h3.symm
  unfold Instr.buildSlice
  simp only [Sem.run_bind, run_underlying hu, Result.andThen, rSize hs]
  rw [if_neg (by simp; omega)]
  by_cases hn0 : n * sz = 0
  · simp only [hn0, if_true, Sem.run_pure, Sem.run_bind, Result.andThen]
    have : ((List.replicate n zv.cells.toList).flatten).toArray = ((Array.range 0).map fun i => (#[] : Array Value)[i % (#[] : Array Value).size]!) := by
      apply Array.ext'
      simp
      rcases Nat.mul_eq_zero.1 hn0 with h1 | h1
      · exact fun h => absurd h1 h
      · exact fun _ => Array.eq_empty_of_size_eq_zero (by omega)
    rw [this] at hf
    simp only [hf]
    simp [newRow, newObj, Sem.run]
  · simp only [hn0, if_false, Sem.run_bind, rZero hz, Result.andThen, Sem.run_pure]
    rw [hzero]
    simp only [hf]
    simp [newRow, newObj, Sem.run]
/-- A list that is written out, frozen at once. -/
theorem op_buildF {T : Type} {r : Rep T} {n : Nat} {zv : Value} {ps : List (Nat × Operand)} {ys : List T} (hd : d < Bs.N) (hu : P.underlying t = some (.slice el)) (hs : tySz P el r.sz = true) (hz : tyZ P el zv) (hzs : zv.cells.size = r.sz) (hn : n * r.sz ≤ 16777216) (hp : Parts st r 0 ps ys) (hl : ys.length = n) :
    OpStep P Bs ⟨some d, .buildSlice t n ps.toArray, ty, pos, af, g⟩ st (st.set d (.one (.val (S (rL r) ys)))) :=
  .grows hd fun e a w h => by
    obtain ⟨fl, h1, h2, h3⟩ := hp.fill h
    subst hl
    have hzl : ((List.replicate ys.length zv.cells.toList).flatten).length = ys.length * r.sz := by simp [hzs]
    have hf := h3 ((List.replicate ys.length zv.cells.toList).flatten) (by simp [hzs])
    have hlay : lay ((List.replicate ys.length zv.cells.toList).flatten) (0 * r.sz) fl = fl := by
      unfold lay
      rw [Nat.zero_mul, List.drop_eq_nil_of_le (by omega)]
      simp
    rw [hlay] at hf
    have hrun := run_build (P := P) (w := w) hu hs hz hzs hn hf
    have hk := Kept.push w (.cells fl.toArray el (0, 0))
    have hst' := h.fresh (cs := fl) (fr := (0, 0)) (el := el) hk (by simp) (by simp)
    refine ⟨_, _, _, ?_, hst', _, rfl, LR.of_flat (fl := fl) (Nat.le_refl _) (fun i hi => r.mono (Env.add_le fun ad v hm hab => by have := mu_lt h hm; omega) (h2 i hi)) Env.add_mu⟩
    have hps : (ps.toArray.map fun (p : Nat × Operand) => (p.1, a.eval p.2)) = (ps.map fun p => (p.1, a.eval p.2)).toArray := by simp
    simp only [execOp, Sem.run_bind]
    rw [show (ps.toArray.map fun (x : Nat × Operand) => match x with | (i, x) => (i, a.eval x)) = (ps.map fun p => (p.1, a.eval p.2)).toArray from by simp]
    rw [hrun]
    simp
/-- A list that is written out, as a row of the call's own. -/
theorem op_buildO {T : Type} {r : Rep T} {n : Nat} {zv : Value} {ps : List (Nat × Operand)} {ys : List T} (hd : d < Bs.N) (hu : P.underlying t = some (.slice el)) (hs : tySz P el r.sz = true) (hz : tyZ P el zv) (hzs : zv.cells.size = r.sz) (hn : n * r.sz ≤ 16777216) (hp : Parts st r 0 ps ys) (hl : ys.length = n) :
    OpX P Bs ⟨some d, .buildSlice t n ps.toArray, ty, pos, af, g⟩ st (fun b => St.set { st with X := st.X ++ [cown (some b) r ys 0 n] } d (.one (.val (HDR (some b) 0 ys.length n)))) :=
  .grows hd fun e a w h => by
    obtain ⟨fl, h1, h2, h3⟩ := hp.fill h
    subst hl
    have hzl : ((List.replicate ys.length zv.cells.toList).flatten).length = ys.length * r.sz := by simp [hzs]
    have hf := h3 ((List.replicate ys.length zv.cells.toList).flatten) (by simp [hzs])
    have hlay : lay ((List.replicate ys.length zv.cells.toList).flatten) (0 * r.sz) fl = fl := by
      unfold lay
      rw [Nat.zero_mul, List.drop_eq_nil_of_le (by omega)]
      simp
    rw [hlay] at hf
    have hrun := run_build (P := P) (w := w) hu hs hz hzs hn hf
    have hk := Kept.push w (.cells fl.toArray el (0, 0))
    have hat : ({ w with heap := w.heap.push (.cells fl.toArray el (0, 0)) } : World).heap[w.heap.size]? = some (.cells fl.toArray el (0, 0)) := by simp
    refine ⟨.slice (some ⟨w.heap.size, 0, none⟩) ys.length ys.length, _, e, w.heap.size, ?_, h.newE hk (c := cown (some w.heap.size) r ys 0 ys.length) (.inr ⟨w.heap.size, fl, el, (0, 0), rfl, hat, thawed00 _, Nat.le_refl _, by omega, h2, fun ad v hm hab => by have := mu_lt h hm; omega, by omega, fun j u hj => by simp at hj⟩) (fun b hb => by cases hb; exact Nat.le_refl _), rfl⟩
    simp only [execOp, Sem.run_bind]
    rw [show (ps.toArray.map fun (x : Nat × Operand) => match x with | (i, x) => (i, a.eval x)) = (ps.map fun p => (p.1, a.eval p.2)).toArray from by simp]
    rw [hrun]
    simp
/-! ### texts and bytes -/
/-! ### elements of rows -/
/-- A row that is not empty has a block. -/
theorem ImpX.block {T : Type} {r : Rep T} {xs : List T} {ob : Option Nat} {fz cap j : Nat} (hX : st.X[j]? = some (cown ob r xs fz cap)) (h0 : 0 < xs.length) {Q : Prop} : (∀ a w, StR Bs st a w → ∃ b, ob = some b) := fun a w ⟨e, h⟩ => by
  rcases h.xs _ (List.mem_of_getElem? hX) with ⟨_, k2, _⟩ | ⟨b, cs, el', fr, hob, _⟩
  · rw [k2] at h0; simp at h0
  · exact ⟨b, hob⟩
/-- An element's address in a row: as a place of the row. -/
def EPT (ob : Option Nat) (off : Nat) : VP := ⟨fun _ v => ∃ b, ob = some b ∧ v = .pointer (some ⟨b, off, none⟩), fun _ h => h⟩
instance (ob : Option Nat) (off : Nat) : OneP (EPT ob off) := ⟨fun _ _ ⟨_, _, h⟩ => by subst h; rfl⟩
theorem op_indexAddrO {T : Type} {r : Rep T} {xs : List T} {ob : Option Nat} {fz cap j : Nat} {k : IntKind} {i : Int} (hd : d < Bs.N) (hu : P.underlying t = some (.slice el)) (hs : tySz P el r.sz = true) (hX : st.X[j]? = some (cown ob r xs fz cap)) (hx : HasO st x (.one (.val (HDR ob 0 xs.length cap)))) (hy : HasO st y (.one (.val (S (rI k) i)))) (h0 : 0 ≤ i) (h1 : i.toNat < xs.length) :
    OpStep P Bs ⟨some d, .indexAddr t x y, ty, pos, af, g⟩ st (st.set d (.one (.val (EPT ob (i.toNat * r.sz))))) :=
  .value hd fun e a w h => by
    rcases h.xs _ (List.mem_of_getElem? hX) with ⟨_, k2, _⟩ | ⟨b, cs, el', fr, hob, k1, k2, k0, k3, k4, _⟩
    · rw [k2] at h1; simp at h1
    · subst hob
      have hv : a.eval x = .slice (some ⟨b, 0, none⟩) xs.length cap := hx.get h
      have hi : a.eval y = .int k i := by have := hy.get h; simpa [SVR, SWR, S, rI] using this
      have hrun := rIndexSl (P := P) (w := w) (n := xs.length) (c := cap) (b := b) (off := 0) (k := k) hu hs h0 (show i < (xs.length : Int) by omega)
      rw [Nat.zero_add] at hrun
      exact ⟨.pointer (some ⟨b, i.toNat * r.sz, none⟩), by simp only [execOp, hv, hi, Sem.run_bind, hrun, Result.andThen, Sem.run_pure], b, rfl, rfl⟩
theorem op_fieldAddrE {ob : Option Nat} {f off o : Nat} (hd : d < Bs.N) (ht : tyF P t f off = true) (hx : HasO st x (.one (.val (EPT ob o)))) : OpStep P Bs ⟨some d, .fieldAddr t x f, ty, pos, af, g⟩ st (st.set d (.one (.val (EPT ob (o + off))))) :=
  .value hd fun e a w h => by
    obtain ⟨b, hob, hv⟩ : ∃ b, ob = some b ∧ a.eval x = .pointer (some ⟨b, o, none⟩) := hx.get h
    exact ⟨.pointer (some ⟨b, o + off, none⟩), by simp only [execOp, hv, Sem.run_bind, rFieldAt ht, Result.andThen, Sem.run_pure], b, hob, rfl⟩
theorem own_cell (h : StE Bs st e a w) {T : Type} {r : Rep T} {xs : List T} {ob : Option Nat} {fz cap j off : Nat} (hX : st.X[j]? = some (cown ob r xs fz cap)) (hx : HasO st x (.one (.val (EPT ob off)))) :
    ∃ (b : Nat) (cs : List Value) (el : TypeId) (fr : Nat × Nat), ob = some b ∧ a.eval x = .pointer (some ⟨b, off, none⟩) ∧ w.heap[b]? = some (.cells cs.toArray el fr) ∧ Thawed cs.length fr ∧ xs.length ≤ cap ∧ cap * r.sz ≤ cs.length ∧
      (∀ i (h : i < xs.length), r.rel e xs[i] ((cs.drop (i * r.sz)).take r.sz)) ∧ (∀ ad v, e.mu ad = some v → ad.block = b → ad.off < fz * r.sz) ∧ fz ≤ xs.length ∧ Mu e b 0 (cs.take (fz * r.sz)) := by
  obtain ⟨b, hob, hv⟩ : ∃ b, ob = some b ∧ a.eval x = .pointer (some ⟨b, off, none⟩) := hx.get h
  rcases h.xs _ (List.mem_of_getElem? hX) with ⟨k1, _⟩ | ⟨b', cs, el', fr, hob', k⟩
  · rw [hob] at k1; cases k1
  · rw [hob] at hob'; cases hob'
    exact ⟨b, cs, el', fr, hob, hv, k⟩
theorem op_loadOS {T U : Type} {r : Rep T} {xs : List T} {ob : Option Nat} {fz cap j i off : Nat} {u : T} {s : Rep U} {z : U} (hd : d < Bs.N) (ht : tyS P t = true) (hs : s.sz = 1) (hX : st.X[j]? = some (cown ob r xs fz cap)) (hx : HasO st x (.one (.val (EPT ob (i * r.sz + off))))) (h : xs[i]? = some u) (hc : Comp r u off s z) (hl : off + s.sz ≤ r.sz) :
    OpStep P Bs ⟨some d, .load t x, ty, pos, af, g⟩ st (st.set d (.one (.val (S s z)))) :=
  .value hd fun e a w hst => by
    obtain ⟨b, cs, el, fr, _, hv, k1, k2, k0, k3, k4, _⟩ := own_cell hst hX hx
    obtain ⟨hi, hu⟩ := List.getElem?_eq_some_iff.1 h
    have hrel := hc e _ (hu ▸ k4 i hi)
    rw [drop_take_sub hl, hs] at hrel
    have hlen := s.len hrel
    rw [hs] at hlen
    obtain ⟨c, hcv⟩ := List.length_eq_one_iff.1 hlen
    have hcell := part_at (w := w) (off := i * r.sz + off) k1 hcv.symm 0 c rfl
    simp only [add_none, Nat.add_zero] at hcell
    refine ⟨c, ?_, by rw [hcv] at hrel; exact hrel⟩
    simp [execOp, hv, Instr.loadAt, Instr.sureAddr, loadVar, rIsAggS ht, hcell]
theorem op_loadOA {T U : Type} {r : Rep T} {xs : List T} {ob : Option Nat} {fz cap j i off : Nat} {u : T} {s : Rep U} {z : U} (hd : d < Bs.N) (ht : tyA P t s.sz = true) (hX : st.X[j]? = some (cown ob r xs fz cap)) (hx : HasO st x (.one (.val (EPT ob (i * r.sz + off))))) (h : xs[i]? = some u) (hc : Comp r u off s z) (hl : off + s.sz ≤ r.sz) :
    OpStep P Bs ⟨some d, .load t x, ty, pos, af, g⟩ st (st.set d (.one (.val (A s z)))) :=
  .value hd fun e a w hst => by
    obtain ⟨b, cs, el, fr, _, hv, k1, k2, k0, k3, k4, _⟩ := own_cell hst hX hx
    obtain ⟨hi, hu⟩ := List.getElem?_eq_some_iff.1 h
    have hrel := hc e _ (hu ▸ k4 i hi)
    rw [drop_take_sub hl] at hrel
    refine ⟨.agg ((cs.drop (i * r.sz + off)).take s.sz).toArray, ?_, _, rfl, hrel⟩
    simp only [execOp, hv, Instr.loadAt, Instr.sureAddr, loadVar, Sem.run_bind, Sem.run_pure, Result.andThen, rIsAggA ht, if_true, rSize (tyA_sz ht)]
    rw [rloadCells P (s.len hrel) (part_at k1 rfl)]
theorem store_own {T U : Type} {r : Rep T} {xs : List T} {ob : Option Nat} {fz cap j i off : Nat} {u u' : T} {s : Rep U} {q : U} (ht : tySz P t s.sz = true) (hx : HasO st x (.one (.val (EPT ob (i * r.sz + off))))) (hX : st.X[j]? = some (cown ob r xs fz cap)) (hi : xs[i]? = some u) (hfz : fz ≤ i) (hu : Upd r u off s q u')
    {vs : List Value} {val : Value} (hval : val.cells.toList = vs) (h : StE Bs st e a w) (hrel : s.rel e q vs) :
    ∃ w', (Instr.storeAt t (a.eval x) val).run P w = .ok () w' ∧ StE Bs { st with X := st.X.set j (cown ob r (xs.set i u') fz cap) } e a w' := by
  obtain ⟨b, cs, el, fr, hob, hv, k1, k2, k0, k3, k4, k5, k6, k7⟩ := own_cell h hX hx
  subst hob
  obtain ⟨hix, hux⟩ := List.getElem?_eq_some_iff.1 hi
  have hl := s.len hrel
  have hu1 := hu.1
  have hmul : ∀ {p q : Nat}, p < q → p * r.sz + r.sz ≤ q * r.sz := fun {p q} hpq => by
    have := Nat.mul_le_mul_right r.sz (show p + 1 ≤ q by omega)
    rw [Nat.add_mul] at this; omega
  have hin : i * r.sz + r.sz ≤ cs.length := by
    have := hmul hix
    have h2 := Nat.mul_le_mul_right r.sz k0
    omega
  have hcs : val.cells.size = s.sz := by rw [← Array.length_toList, hval, hl]
  have hlay : (lay cs (i * r.sz + off) vs).length = cs.length := lay_length (by omega)
  have hlt := lt_of_block k1
  have hfzle : fz * r.sz ≤ i * r.sz := Nat.mul_le_mul_right _ hfz
  refine ⟨setB w b (lay cs (i * r.sz + off) vs) el fr, ?_, ?_⟩
  · simp only [hv, Instr.storeAt, Instr.sureAddr, storeVar, Sem.run_bind, Sem.run_pure, Result.andThen, rSize ht, hcs, ne_eq, not_true_eq_false, if_false, hval]
    have := rstoreCells P vs w b (i * r.sz + off) 0 cs el fr (s.one hrel) k1 (by omega) k2
    simpa using this
  · refine h.turn1 hX (Env.le.refl e) (fun ad v hm => .inl hm) ⟨rfl, rfl, rfl, by rw [setB_size]; exact Nat.le_refl _, fun c _ hc => setB_ne fun h => hc (by rw [h]; rfl)⟩ (fun ad v hm => ?_)
      (.inr ⟨b, lay cs (i * r.sz + off) vs, el, fr, rfl, setB_at hlt, by rw [hlay]; exact k2, by simpa using k0, by rw [hlay]; exact k3, fun n hn => ?_, k5, by simpa using k6, fun k u hk => ?_⟩) (fun c hc => .inl hc)
    · by_cases hab : ad.block = b
      · obtain ⟨ab, o, sp⟩ := ad
        simp only at hab
        subst hab
        have hsp := muspot h hm
        simp only at hsp
        subst hsp
        have h0 := h.frz _ v hm
        rw [cell_of k1] at h0
        have hoff := k5 _ v hm rfl
        simp only at hoff
        rw [cell_of (setB_at hlt), lay_get_lt (by omega) (by omega), h0]
      · rw [World.cell?_of_block (setB_ne hab)]; exact h.frz ad v hm
    · simp at hn
      by_cases hni : i = n
      · subst hni
        rw [List.getElem_set_self]
        have := hu.2 e _ vs (hux ▸ k4 i hix) hrel
        rw [← lay_sub (n := r.sz) hin (by omega)]
        have e2 : ((lay cs (i * r.sz) (lay ((cs.drop (i * r.sz)).take r.sz) off vs)).drop (i * r.sz)).take r.sz = lay ((cs.drop (i * r.sz)).take r.sz) off vs := by
          have hl3 : (lay ((cs.drop (i * r.sz)).take r.sz) off vs).length = r.sz := by rw [lay_length (by simp; omega)]; simp; omega
          apply List.ext_getElem?
          intro k
          by_cases hk : k < r.sz
          · rw [List.getElem?_take_of_lt hk, List.getElem?_drop, lay_get_mid (by omega) (by omega)]
          · rw [List.getElem?_eq_none (by simp; omega), List.getElem?_eq_none (by omega)]
        rw [e2]
        exact this
      · rw [List.getElem_set_ne hni]
        have : ((lay cs (i * r.sz + off) vs).drop (n * r.sz)).take r.sz = (cs.drop (n * r.sz)).take r.sz := by
          apply List.ext_getElem?
          intro k
          by_cases hk : k < r.sz
          · rw [List.getElem?_take_of_lt hk, List.getElem?_take_of_lt hk, List.getElem?_drop, List.getElem?_drop]
            rcases Nat.lt_or_gt_of_ne hni with hlt | hlt
            · have := hmul hlt
              rw [lay_get_ge (by omega) (by omega)]
            · have := hmul hlt
              rw [lay_get_lt (by omega) (by omega)]
          · rw [List.getElem?_eq_none (by simp; omega), List.getElem?_eq_none (by simp; omega)]
        rw [this]
        exact k4 n hn
    · have hkl : k < fz * r.sz := by
        rcases Nat.lt_or_ge k (fz * r.sz) with h | h
        · exact h
        · rw [List.getElem?_eq_none (by simp; omega)] at hk; cases hk
      refine k7 k u ?_
      rw [List.getElem?_take_of_lt hkl] at hk ⊢
      rwa [lay_get_lt (by omega) (by omega)] at hk
theorem op_storeOA {T U : Type} {r : Rep T} {xs ys : List T} {ob : Option Nat} {cap j i off : Nat} {u u' : T} {s : Rep U} {q : U} (ht : tyA P t s.sz = true) (hX : st.X[j]? = some (cown ob r xs 0 cap)) (hx : HasO st x (.one (.val (EPT ob (i * r.sz + off))))) (hy : HasO st y (.one (.val (A s q)))) (hi : xs[i]? = some u) (hu : Upd r u off s q u') (he : xs.set i u' = ys) :
    OpStep P Bs ⟨none, .store t x y, ty, pos, af, g⟩ st { st with X := st.X.set j (cown ob r ys 0 cap) } :=
  .act fun e a w h => by
    subst he
    obtain ⟨vs, hv, hrel⟩ : ∃ vs : List Value, a.eval y = .agg vs.toArray ∧ s.rel e q vs := hy.get h
    obtain ⟨w', hr, h'⟩ := store_own (tyA_sz ht) hx hX hi (Nat.zero_le _) hu (val := a.eval y) (by rw [hv]; simp [Value.cells]) h hrel
    exact ⟨w', e, by simp [execOp, hr], h'⟩

end
end Go.Proofs.Ytbmimaabgclhjaa.Fw
