/- Slices, the third part: literals, make, texts and bytes, elements of rows of the call's own, arrays cut. -/
import Derived.Test.YtipchpbcjkhnaaaFg
import Derived.Lib.ConvBytes
namespace Go.Proofs.Ytipchpbcjkhnaaa.Fw
open Go Go.RowKit
set_option linter.unusedVariables false
set_option linter.unusedSimpArgs false

section
variable {P : Program} {Bs : Base} {st st' : St} {d : Nat} {ty t t' el : TypeId} {pos : String} {af : Array Edge} {g : Option (Nat × Bool)} {x y z : Operand}
variable {e : Env} {a : Act} {w : World}

theorem StE.fresh (h : StE Bs st e a w) {cs : List Value} {fr : Nat × Nat} {w1 : World} (hw : Kept w w1) (hb : w1.heap[w.heap.size]? = some (.cells cs.toArray el fr)) (hsz : w1.heap.size = w.heap.size + 1) :
    StE Bs st (e.add w.heap.size 0 cs) a w1 := by
  have hlt : ∀ ad v, e.mu ad = some v → ad.block = w.heap.size → ad.off < 0 := fun ad v hm hab => by have := Zfo h hm; omega
  refine h.grow (Env.add_le hlt) (fun ad v hm => ?_) hw fun ad v hm => ?_
  · rcases Env.add_inv hm with h1 | ⟨h1, _⟩
    · exact .inl h1
    · exact .inr (by omega)
  · rcases Env.add_inv hm with h1 | ⟨h1, h2, _, _, h5⟩
    · exact Zfd h.frz hw ad v h1
    · obtain ⟨ab, off, sp⟩ := ad
      simp only at h1 h2 h5
      subst h1; subst h2
      rw [Zds hb]
      simpa using h5

theorem ZiP (vs : List Value) : ∀ (off k : Nat) (cs : Array Value), off + k + vs.length ≤ cs.size → (vs.zipIdx k).foldl (fun cs (x : Value × Nat) => cs.setIfInBounds (off + x.2) x.1) cs = (lay cs.toList (off + k) vs).toArray := by
  induction vs with
  | nil => intro off k cs h; simp [ZhR]
  | cons v vs ih =>
    intro off k cs h
    simp only [List.length_cons] at h
    simp only [List.zipIdx_cons, List.foldl_cons]
    rw [ih off (k + 1) _ (by simp; omega)]
    have h1 : (cs.setIfInBounds (off + k) v).toList = cs.toList.set (off + k) v := by simp
    rw [h1, ← Nat.add_assoc, Zh4 (by simp; omega)]
theorem ZfK {place : Nat → Option (Nat × Nat)} {i off sz : Nat} {v : Value} {rest : List (Nat × Value)} {cs : Array Value} (hp : place i = some (off, sz)) (hv : v.cells.size = sz) (hl : off + sz ≤ cs.size) :
    Instr.fill place cs ((i, v) :: rest) = Instr.fill place (lay cs.toList off v.cells.toList).toArray rest := by
  have h1 := ZiP v.cells.toList off 0 cs (by simp; omega)
  simp only [Instr.fill, hp, hv]
  rw [if_neg (by simp; omega)]
  congr 1
  rw [← Array.foldl_toList]
  simpa [Array.toList_zipIdx] using h1
inductive Zf3 (st : St) {T : Type} (r : Rep T) : Nat → List (Nat × Operand) → List T → Prop
  | nil {k : Nat} : Zf3 st r k [] []
  | S {k : Nat} {o : Operand} {y : T} {ps : List (Nat × Operand)} {ys : List T} (hs : r.sz = 1) (h : HasO st o (.one (.val (S r y)))) (hr : Zf3 st r (k + 1) ps ys) : Zf3 st r k ((k, o) :: ps) (y :: ys)
  | A {k : Nat} {o : Operand} {y : T} {ps : List (Nat × Operand)} {ys : List T} (h : HasO st o (.one (.val (A r y)))) (hr : Zf3 st r (k + 1) ps ys) : Zf3 st r k ((k, o) :: ps) (y :: ys)
theorem Zf3.fill {T : Type} {r : Rep T} {k : Nat} {ps : List (Nat × Operand)} {ys : List T} (hp : Zf3 st r k ps ys) (h : StE Bs st e a w) :
    ∃ fl : List Value, fl.length = ys.length * r.sz ∧ (∀ i (h : i < ys.length), r.rel e ys[i] ((fl.drop (i * r.sz)).take r.sz)) ∧
      ∀ cs : List Value, (k + ys.length) * r.sz ≤ cs.length → Instr.fill (fun i => some (i * r.sz, r.sz)) cs.toArray (ps.map fun p => (p.1, a.eval p.2)) = some (lay cs (k * r.sz) fl).toArray := by
  have key : ∀ {k : Nat} {o : Operand} {y : T} {ps : List (Nat × Operand)} {ys : List T} {vs : List Value}, (a.eval o).cells.toList = vs → r.rel e y vs →
      (∃ fl : List Value, fl.length = ys.length * r.sz ∧ (∀ i (h : i < ys.length), r.rel e ys[i] ((fl.drop (i * r.sz)).take r.sz)) ∧
      ∀ cs : List Value, (k + 1 + ys.length) * r.sz ≤ cs.length → Instr.fill (fun i => some (i * r.sz, r.sz)) cs.toArray (ps.map fun p => (p.1, a.eval p.2)) = some (lay cs ((k + 1) * r.sz) fl).toArray) →
      ∃ fl : List Value, fl.length = (y :: ys).length * r.sz ∧ (∀ i (h : i < (y :: ys).length), r.rel e (y :: ys)[i] ((fl.drop (i * r.sz)).take r.sz)) ∧
      ∀ cs : List Value, (k + (y :: ys).length) * r.sz ≤ cs.length → Instr.fill (fun i => some (i * r.sz, r.sz)) cs.toArray (((k, o) :: ps).map fun p => (p.1, a.eval p.2)) = some (lay cs (k * r.sz) fl).toArray := by
    intro k o y ps ys vs hvs hrel ⟨fl, h1, h2, h3⟩
    have hvl := r.len hrel
    refine ⟨vs ++ fl, by simp [h1, hvl, Nat.add_mul]; omega, fun i hi => ?_, fun cs hcs => ?_⟩
    · have := Zfl (r := r) (e := e) (xs := [y]) (ys := ys) (cs := vs) (fl := fl) (tl := []) (fun i hi => by
        have : i = 0 := by simp at hi; omega
        subst this
        simp only [Nat.zero_mul, List.drop_zero, ← hvl, List.take_length]
        exact hrel) h2 (cs' := vs ++ fl) (fun k hk => by simp at hk; rw [List.getElem?_append_left (by omega)]) (fun k hk => by
        simp only [List.length_cons, List.length_nil, Nat.zero_add, Nat.one_mul]
        rw [List.getElem?_append_right (by omega)]
        congr 1; omega)
      exact this i hi
    · simp only [List.length_cons] at hcs
      have hmul : k * r.sz + r.sz ≤ (k + (ys.length + 1)) * r.sz := by
        have := Nat.mul_le_mul_right r.sz (show k + 1 ≤ k + (ys.length + 1) by omega)
        rw [Nat.add_mul] at this; omega
      simp only [List.map_cons]
      rw [ZfK (off := k * r.sz) (sz := r.sz) rfl (by rw [← Array.length_toList, hvs, hvl]) (by simp; omega)]
      simp only [hvs]
      have hlay : (lay cs (k * r.sz) vs).length = cs.length := Zdq (by omega)
      rw [h3 _ (by rw [hlay]; rw [show k + 1 + ys.length = k + (ys.length + 1) from by omega]; exact hcs)]
      congr 2
      have e1 : (k + 1) * r.sz = k * r.sz + vs.length := by rw [Nat.add_mul, hvl]; omega
      rw [e1]
      apply List.ext_getElem?
      intro i
      have hfull : k * r.sz + vs.length + fl.length ≤ cs.length := by
        have : (k + (ys.length + 1)) * r.sz = k * r.sz + (ys.length * r.sz + r.sz) := by rw [Nat.add_mul, Nat.add_mul, Nat.one_mul]
        omega
      by_cases h4 : i < k * r.sz
      · rw [Zb7 (by omega) (by omega), Zb7 h4 (by omega), Zb7 h4 (by omega)]
      · obtain ⟨m, rfl⟩ : ∃ m, i = k * r.sz + m := ⟨i - k * r.sz, by omega⟩
        by_cases h5 : m < vs.length
        · rw [Zb7 (by omega) (by omega), Zcj h5 (by omega), Zcj (by simp; omega) (by omega), List.getElem?_append_left h5]
        · obtain ⟨q, rfl⟩ : ∃ q, m = vs.length + q := ⟨m - vs.length, by omega⟩
          by_cases h6 : q < fl.length
          · rw [← Nat.add_assoc, Zcj h6 (by omega), Nat.add_assoc, Zcj (by simp; omega) (by omega), List.getElem?_append_right (by omega)]
            congr 1; omega
          · rw [ZcK (by omega) (by omega), ZcK (by omega) (by omega), ZcK (by simp; omega) (by simp; omega)]
  induction hp with
  | nil => exact ⟨[], by simp, fun i hi => by simp at hi, fun cs _ => by simp [Instr.fill, ZhR]⟩
  | S hs ho _ ih =>
    obtain ⟨h1, h2⟩ := ZfL (ho.get h)
    exact key h1 h2 ih
  | A ho _ ih =>
    obtain ⟨vs, h1, h2⟩ := ho.get h
    exact key (by rw [h1]; simp [Value.cells]) h2 ih

theorem Zg3 {n sz : Nat} {zv : Value} {ps : List (Nat × Value)} {cs : List Value} (hu : P.underlying t = some (.slice el)) (hs : tySz P el sz = true) (hz : tyZ P el zv) (hzs : zv.cells.size = sz) (hn : n * sz ≤ 16777216)
    (hf : Instr.fill (fun i => some (i * sz, sz)) ((List.replicate n zv.cells.toList).flatten).toArray ps = some cs.toArray) :
    (Instr.buildSlice t n ps.toArray).run P w = .ok (.slice (some ⟨w.heap.size, 0, none⟩) n n) { w with heap := w.heap.push (.cells cs.toArray el (0, 0)) } := by
  have hzero : ((Array.range (n * sz)).map fun i => zv.cells[i % zv.cells.size]!) = ((List.replicate n zv.cells.toList).flatten).toArray := by
    apply Array.ext'
    simp only [Array.toList_map, Array.toList_range]
    apply List.ext_getElem
    · simp [hzs]
    · intro i h1 h2
      simp at h1
      have hsz : 0 < sz := by
        rcases Nat.eq_zero_or_pos sz with h | h
        · rw [h] at h1; simp at h1
        · exact h
      have hin : i / sz < n := (Nat.div_lt_iff_lt_mul hsz).2 h1
      have hlen : zv.cells.toList.length = sz := by simp [hzs]
      have := Zd3 (a := zv.cells.toList) hlen (i / sz) hin
      have h3 : ((((List.replicate n zv.cells.toList).flatten).drop (i / sz * sz)).take sz)[i % sz]? = zv.cells.toList[i % sz]? := by rw [this]
      have hmod := Nat.mod_lt i hsz
      rw [List.getElem?_take_of_lt hmod, List.getElem?_drop, Nat.mul_comm, Nat.div_add_mod] at h3
      have h4 : ((List.replicate n zv.cells.toList).flatten)[i]? = some (((List.replicate n zv.cells.toList).flatten)[i]'h2) := List.getElem?_eq_getElem h2
      rw [h4] at h3
      simp only [List.getElem_map, List.getElem_range, hzs]
      rw [getElem!_pos zv.cells (i % sz) (by omega)]
      rw [List.getElem?_eq_getElem (by simp; omega)] at h3
      simp at h3
      exact h3.symm
  unfold Instr.buildSlice
  simp only [Sem.run_bind, run_underlying hu, Result.andThen, Zf8 hs]
  rw [if_neg (by simp; omega)]
  by_cases hn0 : n * sz = 0
  · simp only [hn0, if_true, Sem.run_pure, Sem.run_bind, Result.andThen]
    have : ((List.replicate n zv.cells.toList).flatten).toArray = ((Array.range 0).map fun i => (#[] : Array Value)[i % (#[] : Array Value).size]!) := by
      apply Array.ext'
      simp
      rcases Nat.mul_eq_zero.1 hn0 with h1 | h1
      · exact fun h => absurd h1 h
      · exact fun _ => Array.eq_empty_of_size_eq_zero (by omega)
    rw [this] at hf
    simp only [hf]
    simp [newRow, newObj, Sem.run]
  · simp only [hn0, if_false, Sem.run_bind, ZiG hz, Result.andThen, Sem.run_pure]
    rw [hzero]
    simp only [hf]
    simp [newRow, newObj, Sem.run]
theorem Zd8 {T : Type} {r : Rep T} {n : Nat} {zv : Value} {ps : List (Nat × Operand)} {ys : List T} (hd : d < Bs.N) (hu : P.underlying t = some (.slice el)) (hs : tySz P el r.sz = true) (hz : tyZ P el zv) (hzs : zv.cells.size = r.sz) (hn : n * r.sz ≤ 16777216) (hp : Zf3 st r 0 ps ys) (hl : ys.length = n) :
    Zag P Bs ⟨some d, .buildSlice t n ps.toArray, ty, pos, af, g⟩ st (st.set d (.one (.val (S (rL r) ys)))) :=
  .grows hd fun e a w h => by
    obtain ⟨fl, h1, h2, h3⟩ := hp.fill h
    subst hl
    have hzl : ((List.replicate ys.length zv.cells.toList).flatten).length = ys.length * r.sz := by simp [hzs]
    have hf := h3 ((List.replicate ys.length zv.cells.toList).flatten) (by simp [hzs])
    have hlay : lay ((List.replicate ys.length zv.cells.toList).flatten) (0 * r.sz) fl = fl := by
      unfold lay
      rw [Nat.zero_mul, List.drop_eq_nil_of_le (by omega)]
      simp
    rw [hlay] at hf
    have hrun := Zg3 (P := P) (w := w) hu hs hz hzs hn hf
    have hk := Kept.push w (.cells fl.toArray el (0, 0))
    have hst' := h.fresh (cs := fl) (fr := (0, 0)) (el := el) hk (by simp) (by simp)
    refine ⟨_, _, _, ?_, hst', _, rfl, LR.of_flat (fl := fl) (Nat.le_refl _) (fun i hi => r.mono (Env.add_le fun ad v hm hab => by have := Zfo h hm; omega) (h2 i hi)) Env.add_mu⟩
    have hps : (ps.toArray.map fun (p : Nat × Operand) => (p.1, a.eval p.2)) = (ps.map fun p => (p.1, a.eval p.2)).toArray := by simp
    simp only [execOp, Sem.run_bind]
    rw [show (ps.toArray.map fun (x : Nat × Operand) => match x with | (i, x) => (i, a.eval x)) = (ps.map fun p => (p.1, a.eval p.2)).toArray from by simp]
    rw [hrun]
    simp
theorem ZeB {T : Type} {r : Rep T} {n : Nat} {zv : Value} {ps : List (Nat × Operand)} {ys : List T} (hd : d < Bs.N) (hu : P.underlying t = some (.slice el)) (hs : tySz P el r.sz = true) (hz : tyZ P el zv) (hzs : zv.cells.size = r.sz) (hn : n * r.sz ≤ 16777216) (hp : Zf3 st r 0 ps ys) (hl : ys.length = n) :
    OpX P Bs ⟨some d, .buildSlice t n ps.toArray, ty, pos, af, g⟩ st (fun b => St.set { st with X := st.X ++ [cown (some b) r ys 0 n] } d (.one (.val (HDR (some b) 0 ys.length n)))) :=
  .grows hd fun e a w h => by
    obtain ⟨fl, h1, h2, h3⟩ := hp.fill h
    subst hl
    have hzl : ((List.replicate ys.length zv.cells.toList).flatten).length = ys.length * r.sz := by simp [hzs]
    have hf := h3 ((List.replicate ys.length zv.cells.toList).flatten) (by simp [hzs])
    have hlay : lay ((List.replicate ys.length zv.cells.toList).flatten) (0 * r.sz) fl = fl := by
      unfold lay
      rw [Nat.zero_mul, List.drop_eq_nil_of_le (by omega)]
      simp
    rw [hlay] at hf
    have hrun := Zg3 (P := P) (w := w) hu hs hz hzs hn hf
    have hk := Kept.push w (.cells fl.toArray el (0, 0))
    have hat : ({ w with heap := w.heap.push (.cells fl.toArray el (0, 0)) } : World).heap[w.heap.size]? = some (.cells fl.toArray el (0, 0)) := by simp
    refine ⟨.slice (some ⟨w.heap.size, 0, none⟩) ys.length ys.length, _, e, w.heap.size, ?_, h.newE hk (c := cown (some w.heap.size) r ys 0 ys.length) (.inr ⟨w.heap.size, fl, el, (0, 0), rfl, hat, ZeP _, Nat.le_refl _, by omega, h2, fun ad v hm hab => by have := Zfo h hm; omega, by omega, fun j u hj => by simp at hj⟩) (fun b hb => by cases hb; exact Nat.le_refl _), rfl⟩
    simp only [execOp, Sem.run_bind]
    rw [show (ps.toArray.map fun (x : Nat × Operand) => match x with | (i, x) => (i, a.eval x)) = (ps.map fun p => (p.1, a.eval p.2)).toArray from by simp]
    rw [hrun]
    simp
theorem ZiM {src dst : TypeId} {s : List UInt8} (hd : d < Bs.N) (hs : P.underlying src = some .string) (hu : P.underlying dst = some (.slice el)) (he : P.underlying el = some (.int .u8)) (hx : HasO st x (.one (.val (S rS s)))) :
    Zag P Bs ⟨some d, .convert src dst x, ty, pos, af, g⟩ st (st.set d (.one (.val (S (rL (rU UInt8)) s)))) :=
  .grows hd fun e a w h => by
    have hv : a.eval x = .string (bs s) := by have := hx.get h; simpa [SVR, SWR, S, rS] using this
    have hrun := Lib.run_convert_string_bytes (P := P) w src dst el (bs s) hs hu he
    have hat := Lib.bytesWorld_at_new w el (bs s)
    have hk : Kept w (Lib.bytesWorld w el (bs s)) := by
      refine ⟨?_, ?_, ?_, by rw [Lib.bytesWorld_size]; omega, fun b hb => Lib.bytesWorld_at_old w el (bs s) b hb⟩ <;>
        (unfold Lib.bytesWorld World.freeze World.alloc World.drew; split <;> rfl)
    have hcells : (Lib.bytesCells w el (bs s)) = (((s.map fun b => Value.int .u8 (b.toNat : Int)) ++ List.replicate (grownCap w (bs s).size 0 el - (bs s).size) (.int .u8 0)) : List Value).toArray := by
      apply Array.ext'
      simp [Lib.bytesCells, bs]
    rw [hcells] at hat
    have hst := h.fresh hk hat (Lib.bytesWorld_size w el (bs s))
    refine ⟨.slice (some ⟨w.heap.size, 0, none⟩) s.length (grownCap w (bs s).size 0 el), _, _, ?_, hst, _, rfl, ?_⟩
    · simp only [execOp, hv, Sem.run_bind, hrun, Result.andThen, Sem.run_pure, ZfJ]
    · refine LR.of_flat (by have := grownCap_ge w (bs s).size 0 el; rw [ZfJ] at this ⊢; exact this) (fun i hi => ?_) Env.add_mu
      show _ = _
      apply List.ext_getElem?
      intro k
      simp only [rU, Nat.mul_one]
      by_cases hk : k < 1
      · have : k = 0 := by omega
        subst this
        rw [List.getElem?_take_of_lt (by omega), List.getElem?_drop, List.getElem?_append_left (by simp; exact hi)]
        simp [List.getElem?_eq_getElem hi, UN.toN, UK.k]
      · rw [List.getElem?_eq_none (by simp; omega), List.getElem?_eq_none (by simp; omega)]
theorem ZgW {src dst : TypeId} {xs : List UInt8} {aa : Option Addr} {c : Nat} (hs : P.underlying src = some (.slice el)) (he : P.underlying el = some (.int .u8)) (hu : P.underlying dst = some .string)
    (hc : 0 < xs.length → ∃ b off, aa = some ⟨b, off, none⟩ ∧ ∀ i (h : i < xs.length), w.cell? ⟨b, off + i, none⟩ = some (.int .u8 (xs[i].toNat : Int))) :
    (convert src dst (.slice aa xs.length c)).run P w = .ok (.string (bs xs)) w := by
  rcases Nat.eq_zero_or_pos xs.length with h0 | h0
  · have : xs = [] := List.eq_nil_of_length_eq_zero h0
    subst this
    cases aa with
    | none =>
      rw [run_convert_bytes_nil (P := P) w src el hs he _ _ dst hu]
      rfl
    | some ad =>
      simp [convert, run_underlying hs, run_underlying hu, run_underlying he, Conv.bytesToString, loadCells, loadCellsFrom]
      rfl
  · obtain ⟨b, off, haa, hc'⟩ := hc h0
    subst haa
    rw [run_convert_bytes_arg (P := P) w src el hs he b off xs.length c (xs.map fun b => (b.toNat : Int)) (by simp) (fun i hi => by rw [hc' i hi]; simp [List.getD_eq_getElem?_getD, List.getElem?_eq_getElem hi]) dst hu]
    have : strOfNums (xs.map fun b => (b.toNat : Int)) = bs xs := by
      apply ByteArray.ext
      simp [strOfNums, bs]
      exact List.map_id'' (fun b => by simp) xs
    rw [this]
theorem Zdb {src dst : TypeId} {xs : List UInt8} (hd : d < Bs.N) (hs : P.underlying src = some (.slice el)) (he : P.underlying el = some (.int .u8)) (hu : P.underlying dst = some .string) (hx : HasO st x (.one (.val (S (rL (rU UInt8)) xs)))) :
    Zag P Bs ⟨some d, .convert src dst x, ty, pos, af, g⟩ st (st.set d (.one (.val (S rS xs)))) :=
  .value hd fun e a w h => by
    obtain ⟨v, hv0, aa, c, hv, hc, hn, hm⟩ := hx.get h
    have hv0 : a.eval x = v := by simpa using hv0
    refine ⟨.string (bs xs), ?_, rfl⟩
    have hrun := ZgW (P := P) (w := w) (c := c) (xs := xs) (aa := aa) hs he hu fun h0 => by
      obtain ⟨b, off, haa, hm'⟩ := hm h0
      refine ⟨b, off, haa, fun i hi => ?_⟩
      obtain ⟨cs, h1, h2⟩ := hm' i hi
      have h1 : cs = [.int .u8 (xs[i].toNat : Int)] := h1
      subst h1
      have := h.frz _ _ (h2 0 _ rfl)
      simpa [rU] using this
    simp only [execOp, hv0, hv, Sem.run_bind, hrun, Result.andThen, Sem.run_pure]
theorem ZeI {src dst : TypeId} {xs : List UInt8} {ob : Option Nat} {fz cap j : Nat} (hd : d < Bs.N) (hs : P.underlying src = some (.slice el)) (he : P.underlying el = some (.int .u8)) (hu : P.underlying dst = some .string) (hX : st.X[j]? = some (cown ob (rU UInt8) xs fz cap)) (hx : HasO st x (.one (.val (HDR ob 0 xs.length cap)))) :
    Zag P Bs ⟨some d, .convert src dst x, ty, pos, af, g⟩ st (st.set d (.one (.val (S rS xs)))) :=
  .value hd fun e a w h => by
    have hv : a.eval x = .slice (ob.map fun b => ⟨b, 0, none⟩) xs.length cap := hx.get h
    refine ⟨.string (bs xs), ?_, rfl⟩
    have hrun := ZgW (P := P) (w := w) (c := cap) (xs := xs) (aa := ob.map fun b => ⟨b, 0, none⟩) hs he hu fun h0 => by
      rcases h.xs _ (List.mem_of_getElem? hX) with ⟨_, k2, _⟩ | ⟨b, cs, el', fr, hob, k1, k2, k0, k3, k4, _⟩
      · rw [k2] at h0; simp at h0
      · subst hob
        refine ⟨b, 0, rfl, fun i hi => ?_⟩
        have h1 := k4 i hi
        have h1 : (cs.drop (i * 1)).take 1 = [.int .u8 (xs[i].toNat : Int)] := h1
        rw [Zds k1]
        have : ((cs.drop (i * 1)).take 1)[0]? = some (.int .u8 (xs[i].toNat : Int)) := by rw [h1]; rfl
        rw [List.getElem?_take_of_lt (by omega), List.getElem?_drop] at this
        simpa using this
    simp only [execOp, hv, Sem.run_bind, hrun, Result.andThen, Sem.run_pure]

theorem ImpX.block {T : Type} {r : Rep T} {xs : List T} {ob : Option Nat} {fz cap j : Nat} (hX : st.X[j]? = some (cown ob r xs fz cap)) (h0 : 0 < xs.length) {Q : Prop} : (∀ a w, StR Bs st a w → ∃ b, ob = some b) := fun a w ⟨e, h⟩ => by
  rcases h.xs _ (List.mem_of_getElem? hX) with ⟨_, k2, _⟩ | ⟨b, cs, el', fr, hob, _⟩
  · rw [k2] at h0; simp at h0
  · exact ⟨b, hob⟩
def EPT (ob : Option Nat) (off : Nat) : VP := ⟨fun _ v => ∃ b, ob = some b ∧ v = .pointer (some ⟨b, off, none⟩), fun _ h => h⟩
instance (ob : Option Nat) (off : Nat) : OneP (EPT ob off) := ⟨fun _ _ ⟨_, _, h⟩ => by subst h; rfl⟩
theorem ZgI {T : Type} {r : Rep T} {xs : List T} {ob : Option Nat} {fz cap j : Nat} {k : IntKind} {i : Int} (hd : d < Bs.N) (hu : P.underlying t = some (.slice el)) (hs : tySz P el r.sz = true) (hX : st.X[j]? = some (cown ob r xs fz cap)) (hx : HasO st x (.one (.val (HDR ob 0 xs.length cap)))) (hy : HasO st y (.one (.val (S (rI k) i)))) (h0 : 0 ≤ i) (h1 : i.toNat < xs.length) :
    Zag P Bs ⟨some d, .indexAddr t x y, ty, pos, af, g⟩ st (st.set d (.one (.val (EPT ob (i.toNat * r.sz))))) :=
  .value hd fun e a w h => by
    rcases h.xs _ (List.mem_of_getElem? hX) with ⟨_, k2, _⟩ | ⟨b, cs, el', fr, hob, k1, k2, k0, k3, k4, _⟩
    · rw [k2] at h1; simp at h1
    · subst hob
      have hv : a.eval x = .slice (some ⟨b, 0, none⟩) xs.length cap := hx.get h
      have hi : a.eval y = .int k i := by have := hy.get h; simpa [SVR, SWR, S, rI] using this
      have hrun := ZhX (P := P) (w := w) (n := xs.length) (c := cap) (b := b) (off := 0) (k := k) hu hs h0 (show i < (xs.length : Int) by omega)
      rw [Nat.zero_add] at hrun
      exact ⟨.pointer (some ⟨b, i.toNat * r.sz, none⟩), by simp only [execOp, hv, hi, Sem.run_bind, hrun, Result.andThen, Sem.run_pure], b, rfl, rfl⟩
theorem ZaB {ob : Option Nat} {f off o : Nat} (hd : d < Bs.N) (ht : tyF P t f off = true) (hx : HasO st x (.one (.val (EPT ob o)))) : Zag P Bs ⟨some d, .fieldAddr t x f, ty, pos, af, g⟩ st (st.set d (.one (.val (EPT ob (o + off))))) :=
  .value hd fun e a w h => by
    obtain ⟨b, hob, hv⟩ : ∃ b, ob = some b ∧ a.eval x = .pointer (some ⟨b, o, none⟩) := hx.get h
    exact ⟨.pointer (some ⟨b, o + off, none⟩), by simp only [execOp, hv, Sem.run_bind, ZgO ht, Result.andThen, Sem.run_pure], b, hob, rfl⟩
theorem Zgx (h : StE Bs st e a w) {T : Type} {r : Rep T} {xs : List T} {ob : Option Nat} {fz cap j off : Nat} (hX : st.X[j]? = some (cown ob r xs fz cap)) (hx : HasO st x (.one (.val (EPT ob off)))) :
    ∃ (b : Nat) (cs : List Value) (el : TypeId) (fr : Nat × Nat), ob = some b ∧ a.eval x = .pointer (some ⟨b, off, none⟩) ∧ w.heap[b]? = some (.cells cs.toArray el fr) ∧ Zfb cs.length fr ∧ xs.length ≤ cap ∧ cap * r.sz ≤ cs.length ∧
      (∀ i (h : i < xs.length), r.rel e xs[i] ((cs.drop (i * r.sz)).take r.sz)) ∧ (∀ ad v, e.mu ad = some v → ad.block = b → ad.off < fz * r.sz) ∧ fz ≤ xs.length ∧ Mu e b 0 (cs.take (fz * r.sz)) := by
  obtain ⟨b, hob, hv⟩ : ∃ b, ob = some b ∧ a.eval x = .pointer (some ⟨b, off, none⟩) := hx.get h
  rcases h.xs _ (List.mem_of_getElem? hX) with ⟨k1, _⟩ | ⟨b', cs, el', fr, hob', k⟩
  · rw [hob] at k1; cases k1
  · rw [hob] at hob'; cases hob'
    exact ⟨b, cs, el', fr, hob, hv, k⟩
theorem Zbf {T U : Type} {r : Rep T} {xs : List T} {ob : Option Nat} {fz cap j i off : Nat} {u : T} {s : Rep U} {z : U} (hd : d < Bs.N) (ht : tyS P t = true) (hs : s.sz = 1) (hX : st.X[j]? = some (cown ob r xs fz cap)) (hx : HasO st x (.one (.val (EPT ob (i * r.sz + off))))) (h : xs[i]? = some u) (hc : Comp r u off s z) (hl : off + s.sz ≤ r.sz) :
    Zag P Bs ⟨some d, .load t x, ty, pos, af, g⟩ st (st.set d (.one (.val (S s z)))) :=
  .value hd fun e a w hst => by
    obtain ⟨b, cs, el, fr, _, hv, k1, k2, k0, k3, k4, _⟩ := Zgx hst hX hx
    obtain ⟨hi, hu⟩ := List.getElem?_eq_some_iff.1 h
    have hrel := hc e _ (hu ▸ k4 i hi)
    rw [Zej hl, hs] at hrel
    have hlen := s.len hrel
    rw [hs] at hlen
    obtain ⟨c, hcv⟩ := List.length_eq_one_iff.1 hlen
    have hcell := Zez (w := w) (off := i * r.sz + off) k1 hcv.symm 0 c rfl
    simp only [Zcw, Nat.add_zero] at hcell
    refine ⟨c, ?_, by rw [hcv] at hrel; exact hrel⟩
    simp [execOp, hv, Instr.loadAt, Instr.sureAddr, loadVar, ZfS ht, hcell]
theorem Zg6 {T U : Type} {r : Rep T} {xs : List T} {ob : Option Nat} {fz cap j i off : Nat} {u : T} {s : Rep U} {z : U} (hd : d < Bs.N) (ht : tyA P t s.sz = true) (hX : st.X[j]? = some (cown ob r xs fz cap)) (hx : HasO st x (.one (.val (EPT ob (i * r.sz + off))))) (h : xs[i]? = some u) (hc : Comp r u off s z) (hl : off + s.sz ≤ r.sz) :
    Zag P Bs ⟨some d, .load t x, ty, pos, af, g⟩ st (st.set d (.one (.val (A s z)))) :=
  .value hd fun e a w hst => by
    obtain ⟨b, cs, el, fr, _, hv, k1, k2, k0, k3, k4, _⟩ := Zgx hst hX hx
    obtain ⟨hi, hu⟩ := List.getElem?_eq_some_iff.1 h
    have hrel := hc e _ (hu ▸ k4 i hi)
    rw [Zej hl] at hrel
    refine ⟨.agg ((cs.drop (i * r.sz + off)).take s.sz).toArray, ?_, _, rfl, hrel⟩
    simp only [execOp, hv, Instr.loadAt, Instr.sureAddr, loadVar, Sem.run_bind, Sem.run_pure, Result.andThen, ZgK ht, if_true, Zf8 (Zhh ht)]
    rw [ZcM P (s.len hrel) (Zez k1 rfl)]
theorem ZiT {T U : Type} {r : Rep T} {xs : List T} {ob : Option Nat} {fz cap j i off : Nat} {u u' : T} {s : Rep U} {q : U} (ht : tySz P t s.sz = true) (hx : HasO st x (.one (.val (EPT ob (i * r.sz + off))))) (hX : st.X[j]? = some (cown ob r xs fz cap)) (hi : xs[i]? = some u) (hfz : fz ≤ i) (hu : Upd r u off s q u')
    {vs : List Value} {val : Value} (hval : val.cells.toList = vs) (h : StE Bs st e a w) (hrel : s.rel e q vs) :
    ∃ w', (Instr.storeAt t (a.eval x) val).run P w = .ok () w' ∧ StE Bs { st with X := st.X.set j (cown ob r (xs.set i u') fz cap) } e a w' := by
  obtain ⟨b, cs, el, fr, hob, hv, k1, k2, k0, k3, k4, k5, k6, k7⟩ := Zgx h hX hx
  subst hob
  obtain ⟨hix, hux⟩ := List.getElem?_eq_some_iff.1 hi
  have hl := s.len hrel
  have hu1 := hu.1
  have hmul : ∀ {p q : Nat}, p < q → p * r.sz + r.sz ≤ q * r.sz := fun {p q} hpq => by
    have := Nat.mul_le_mul_right r.sz (show p + 1 ≤ q by omega)
    rw [Nat.add_mul] at this; omega
  have hin : i * r.sz + r.sz ≤ cs.length := by
    have := hmul hix
    have h2 := Nat.mul_le_mul_right r.sz k0
    omega
  have hcs : val.cells.size = s.sz := by rw [← Array.length_toList, hval, hl]
  have hlay : (lay cs (i * r.sz + off) vs).length = cs.length := Zdq (by omega)
  have hlt := Zba k1
  have hfzle : fz * r.sz ≤ i * r.sz := Nat.mul_le_mul_right _ hfz
  refine ⟨setB w b (lay cs (i * r.sz + off) vs) el fr, ?_, ?_⟩
  · simp only [hv, Instr.storeAt, Instr.sureAddr, storeVar, Sem.run_bind, Sem.run_pure, Result.andThen, Zf8 ht, hcs, ne_eq, not_true_eq_false, if_false, hval]
    have := Ze4 P vs w b (i * r.sz + off) 0 cs el fr (s.one hrel) k1 (by omega) k2
    simpa using this
  · refine h.turn1 hX (Env.le.refl e) (fun ad v hm => .inl hm) ⟨rfl, rfl, rfl, by rw [Ze7]; exact Nat.le_refl _, fun c _ hc => Zew fun h => hc (by rw [h]; rfl)⟩ (fun ad v hm => ?_)
      (.inr ⟨b, lay cs (i * r.sz + off) vs, el, fr, rfl, ZeD hlt, by rw [hlay]; exact k2, by simpa using k0, by rw [hlay]; exact k3, fun n hn => ?_, k5, by simpa using k6, fun k u hk => ?_⟩) (fun c hc => .inl hc)
    · by_cases hab : ad.block = b
      · obtain ⟨ab, o, sp⟩ := ad
        simp only at hab
        subst hab
        have hsp := ZiH h hm
        simp only at hsp
        subst hsp
        have h0 := h.frz _ v hm
        rw [Zds k1] at h0
        have hoff := k5 _ v hm rfl
        simp only at hoff
        rw [Zds (ZeD hlt), Zb7 (by omega) (by omega), h0]
      · rw [World.cell?_of_block (Zew hab)]; exact h.frz ad v hm
    · simp at hn
      by_cases hni : i = n
      · subst hni
        rw [List.getElem_set_self]
        have := hu.2 e _ vs (hux ▸ k4 i hix) hrel
        rw [← Zjq (n := r.sz) hin (by omega)]
        have e2 : ((lay cs (i * r.sz) (lay ((cs.drop (i * r.sz)).take r.sz) off vs)).drop (i * r.sz)).take r.sz = lay ((cs.drop (i * r.sz)).take r.sz) off vs := by
          have hl3 : (lay ((cs.drop (i * r.sz)).take r.sz) off vs).length = r.sz := by rw [Zdq (by simp; omega)]; simp; omega
          apply List.ext_getElem?
          intro k
          by_cases hk : k < r.sz
          · rw [List.getElem?_take_of_lt hk, List.getElem?_drop, Zcj (by omega) (by omega)]
          · rw [List.getElem?_eq_none (by simp; omega), List.getElem?_eq_none (by omega)]
        rw [e2]
        exact this
      · rw [List.getElem_set_ne hni]
        have : ((lay cs (i * r.sz + off) vs).drop (n * r.sz)).take r.sz = (cs.drop (n * r.sz)).take r.sz := by
          apply List.ext_getElem?
          intro k
          by_cases hk : k < r.sz
          · rw [List.getElem?_take_of_lt hk, List.getElem?_take_of_lt hk, List.getElem?_drop, List.getElem?_drop]
            rcases Nat.lt_or_gt_of_ne hni with hlt | hlt
            · have := hmul hlt
              rw [ZcK (by omega) (by omega)]
            · have := hmul hlt
              rw [Zb7 (by omega) (by omega)]
          · rw [List.getElem?_eq_none (by simp; omega), List.getElem?_eq_none (by simp; omega)]
        rw [this]
        exact k4 n hn
    · have hkl : k < fz * r.sz := by
        rcases Nat.lt_or_ge k (fz * r.sz) with h | h
        · exact h
        · rw [List.getElem?_eq_none (by simp; omega)] at hk; cases hk
      refine k7 k u ?_
      rw [List.getElem?_take_of_lt hkl] at hk ⊢
      rwa [Zb7 (by omega) (by omega)] at hk
theorem Zgm {T U : Type} {r : Rep T} {xs ys : List T} {ob : Option Nat} {cap j i off : Nat} {u u' : T} {s : Rep U} {q : U} (ht : tyS P t = true) (hs : s.sz = 1) (hX : st.X[j]? = some (cown ob r xs 0 cap)) (hx : HasO st x (.one (.val (EPT ob (i * r.sz + off))))) (hy : HasO st y (.one (.val (S s q)))) (hi : xs[i]? = some u) (hu : Upd r u off s q u') (he : xs.set i u' = ys) :
    Zag P Bs ⟨none, .store t x y, ty, pos, af, g⟩ st { st with X := st.X.set j (cown ob r ys 0 cap) } :=
  .act fun e a w h => by
    subst he
    have hrel : s.rel e q [a.eval y] := hy.get h
    obtain ⟨w', hr, h'⟩ := ZiT (by rw [hs]; exact Zj5 ht) hx hX hi (Nat.zero_le _) hu (ZfL (r := s) (u := q) (v := a.eval y) (e := e) hrel).1 h hrel
    exact ⟨w', e, by simp [execOp, hr], h'⟩
theorem ZjU {T : Type} {r : Rep T} {x0 : T} {n : Int} {k : IntKind} {zv : Value} {bytes : Nat} (hd : d < Bs.N) (hu : P.underlying t = some (.slice el)) (hel : tyB P el r.sz bytes zv) (hz : Zr r x0 zv.cells.toList) (hk : k = .i64) (hx : HasO st x (.one (.val (S (rI k) n)))) (hy : HasO st y (.one (.val (S (rI k) n))))
    (h0 : 0 ≤ n) (h1 : n.toNat * bytes ≤ 281474976710656) (h2 : n ≤ 9223372036854775807) :
    OpX P Bs ⟨some d, .makeSlice t x y, ty, pos, af, g⟩ st (fun b => St.set { st with X := st.X ++ [cown (some b) r (List.replicate n.toNat x0) 0 n.toNat] } d (.one (.val (HDR (some b) 0 (List.replicate n.toNat x0).length n.toNat)))) :=
  .grows hd fun e a w h => by
    subst hk
    obtain ⟨m, rfl⟩ := Int.eq_ofNat_of_zero_le h0
    have hv1 : a.eval x = .int .i64 m := by have := hx.get h; simpa [SVR, SWR, S, rI] using this
    have hv2 : a.eval y = .int .i64 m := by have := hy.get h; simpa [SVR, SWR, S, rI] using this
    obtain ⟨i, hi, hi1, hi2, hi3⟩ := hel
    have hzl := r.len (hz e)
    let cs := (List.replicate m zv.cells.toList).flatten
    have hcsl : cs.length = m * r.sz := by simp [cs, ← hzl]
    have hat : ({ w with heap := w.heap.push (.cells cs.toArray el (0, 0)) } : World).heap[w.heap.size]? = some (.cells cs.toArray el (0, 0)) := by simp
    have hsize : ∀ w, (sizeOf el).run P w = .ok r.sz w := fun w => by simp [sizeOf, typeInfo, program, Sem.run, hi, hi1]
    have hinfo : ∀ w, (typeInfo el).run P w = .ok i w := fun w => by simp [typeInfo, program, Sem.run, hi]
    have hzz : ∀ w, (zeroValue el).run P w = .ok zv w := fun w => by simp [zeroValue, typeInfo, program, Sem.run, hi, hi3]
    have hask : ∀ n w, (askRoom n).run P w = .ok () w := fun n w => by unfold askRoom; split <;> simp [mark, Sem.run]
    have hwm : IntKind.i64.wrap (m : Int) = m := by rw [ZdK]; exact Zch (by omega) h2
    have hk := Kept.push w (.cells cs.toArray el (0, 0))
    have hrun : (Instr.makeSlice t (.int .i64 m) (.int .i64 m)).run P w = .ok (.slice (some ⟨w.heap.size, 0, none⟩) m m) { w with heap := w.heap.push (.cells cs.toArray el (0, 0)) } := by
      have hbig : ¬ (281474976710656 < (bytes : Int) * (m : Int)) := by
        simp only [Int.toNat_natCast] at h1
        rw [Nat.mul_comm] at h1
        have h3 : ((bytes * m : Nat) : Int) ≤ ((281474976710656 : Nat) : Int) := Int.ofNat_le.2 h1
        rw [Int.natCast_mul] at h3
        omega
      have hzero : ((Array.range (m * r.sz)).map fun i => zv.cells[i % zv.cells.size]!) = cs.toArray := by
        apply Array.ext'
        simp only [Array.toList_map, Array.toList_range]
        apply List.ext_getElem
        · simp [hcsl]
        · intro i h1 h2
          simp at h1
          have hsz : 0 < r.sz := by
            rcases Nat.eq_zero_or_pos r.sz with h | h
            · rw [h] at h1; simp at h1
            · exact h
          have hzs : zv.cells.size = r.sz := by rw [← Array.length_toList]; exact hzl
          have hin : i / r.sz < m := (Nat.div_lt_iff_lt_mul hsz).2 h1
          have := Zd3 (a := zv.cells.toList) hzl (i / r.sz) hin
          have h3 : ((cs.drop (i / r.sz * r.sz)).take r.sz)[i % r.sz]? = zv.cells.toList[i % r.sz]? := by rw [this]
          have hmod := Nat.mod_lt i hsz
          rw [List.getElem?_take_of_lt hmod, List.getElem?_drop, Nat.mul_comm, Nat.div_add_mod] at h3
          have h4 : cs[i]? = some (cs[i]'h2) := List.getElem?_eq_getElem h2
          rw [h4] at h3
          simp only [List.getElem_map, List.getElem_range, hzs]
          rw [getElem!_pos zv.cells (i % r.sz) (by omega)]
          rw [List.getElem?_eq_getElem (by simp; omega)] at h3
          simp at h3
          exact h3.symm
      unfold Instr.makeSlice
      simp only [Sem.run_bind, run_underlying hu, Result.andThen, asInt, asIntOf, Sem.run_pure, hinfo, hi2, hwm]
      rw [if_neg (by simp; omega)]
      simp only [Sem.run_bind, hask, Result.andThen, hsize, Sem.run_pure, Int.toNat_natCast]
      by_cases hn0 : m * r.sz = 0
      · have : cs = [] := List.eq_nil_of_length_eq_zero (by omega)
        have hr0 : (Array.map (fun i => (#[] : Array Value)[i % (#[] : Array Value).size]!) (Array.range 0)) = #[] := by simp
        simp only [hn0, if_true, Sem.run_pure, Sem.run_bind, Result.andThen, newRow, newObj, Sem.run, this, hr0, Sem.run_pure']
      · simp only [hn0, if_false, Sem.run_bind, hzz, Result.andThen, Sem.run_pure]
        rw [hzero]
        simp [newRow, newObj, Sem.run]
    refine ⟨.slice (some ⟨w.heap.size, 0, none⟩) m m, _, e, w.heap.size, ?_, h.newE hk (c := cown (some w.heap.size) r (List.replicate m x0) 0 m) (.inr ⟨w.heap.size, cs, el, (0, 0), rfl, hat, ZeP _, by simp, by omega, fun i hi => ?_, fun ad v hm hab => by have := Zfo h hm; omega, by omega, fun j u hj => by simp at hj⟩) (fun b hb => by cases hb; exact Nat.le_refl _), by simp [SVR, SWR, HDR]⟩
    · simp only [execOp, hv1, hv2, Sem.run_bind, hrun, Result.andThen, Sem.run_pure]
    · simp at hi
      rw [Zd3 hzl i hi]
      simpa using hz e
end
end Go.Proofs.Ytipchpbcjkhnaaa.Fw
