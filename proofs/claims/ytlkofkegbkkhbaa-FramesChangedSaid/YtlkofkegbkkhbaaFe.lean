/- Operations on boxes: variables in memory, fields, elements. -/
import Derived.Test.YtlkofkegbkkhbaaFd
namespace Go.Proofs.Ytlkofkegbkkhbaa.Fw
open Go Go.RowKit
set_option linter.unusedVariables false
set_option linter.unusedSimpArgs false

section
variable {M : HM} {P : Program} {Bs : Base} {st st' : St M} {d : Nat} {ty t t' : TypeId} {pos : String} {af : Array Edge} {g : Option (Nat × Bool)} {x y z : Operand}
variable {e : Env} {β : List (Option Nat)} {F : Nat → Prop} {a : Act} {w : World}

theorem mu_lt (h : StE Bs st e β F a w) {ad : Addr} {v : Value} (hm : e.mu ad = some v) : ad.block < w.heap.size := World.block_lt_of_cell? w ad (h.frz ad v hm)
theorem push_at (w : World) (o : Obj) : ({ w with heap := w.heap.push o } : World).heap[w.heap.size]? = some o := by simp
theorem thawed00 (n : Nat) : Thawed n (0, 0) := .inl rfl

/-- A new variable in memory. -/
theorem op_alloc {T : Type} {r : Rep T} {x0 : T} {zv : Value} (hd : d < Bs.N) (hz : tyZ P t zv) (hr : Zr r x0 zv.cells.toList) :
    OpStep P Bs ⟨some d, .alloc t, ty, pos, af, g⟩ st (St.set { st with X := st.X ++ [.var T r x0] } d (.one (.ptr st.X.length 0))) :=
  .grows hd fun e β F a w h => by
    have hk := Kept.push w (.cells zv.cells t)
    refine ⟨.pointer (some ⟨w.heap.size, 0, none⟩), { w with heap := w.heap.push (.cells zv.cells t) }, e, β ++ [some w.heap.size], F, ?_, ?_, ?_⟩
    · simp [execOp, Instr.alloc, rZero hz, newVar, newRow, newObj, Sem.run]
    · refine (h.keep hk).box (bx := .var T r x0) ⟨w.heap.size, zv.cells.toList, t, (0, 0), rfl, by simp, thawed00 _, hr e, fun ad v hm => ?_⟩ fun b hb => ?_
      · have := mu_lt h hm; omega
      · cases hb
        exact ⟨h.base.size, fun hF => by have := h.fsz _ hF; omega, fun j hj => by have := (h.bf j _ hj).2; omega⟩
    · exact ⟨w.heap.size, by rw [← h.bl]; simp, rfl⟩

/-- A box's block is laid anew. -/
theorem StE.relay (h : StE Bs st e β F a w) {j b : Nat} {cs cs' : List Value} {el : TypeId} {fr fr' : Nat × Nat} {bx' : BX} (hj : β[j]? = some (some b)) (hb : w.heap[b]? = some (.cells cs.toArray el fr)) (hlen : cs'.length = cs.length)
    (hm : ∀ off v, e.mu ⟨b, off, none⟩ = some v → cs'[off]? = cs[off]?) (hms : ∀ ad v, e.mu ad = some v → ad.block = b → ad.spot = none)
    (hbx : BoxR e (setB w b cs' el fr') bx' (some b)) (hown : ∀ (T : Type) (r : Rep T) xs fz, st.X[j]? = some (.own T r xs fz) → ∃ (xs' : List T) (fz' : Nat), bx' = .own T r xs' fz' ∧ xs'.length = xs.length) :
    StE Bs { st with X := st.X.set j bx' } e β F a (setB w b cs' el fr') := by
  have hlt := lt_of_block hb
  have hjl : j < st.X.length := by rw [← h.bl]; exact (List.getElem?_eq_some_iff.1 hj).1
  have hne : ∀ c, c ≠ b → (setB w b cs' el fr').heap[c]? = w.heap[c]? := fun c hc => setB_ne hc
  refine ⟨h.nt, h.df, fun ad v hmu => ?_, h.mus, M.stable h.hr (Env.le.refl e) fun c hc => hne c fun hcb => (h.bf j b hj).1 (hcb ▸ hc), fun c hc => by rw [setB_size]; exact h.fsz c hc, by simp [h.bl],
    fun i bx ob h1 h2 => ?_, fun i c hi => ⟨(h.bf i c hi).1, by rw [setB_size]; exact (h.bf i c hi).2⟩, h.bd, fun s sv hs => ?_, ?_⟩
  · by_cases hab : ad.block = b
    · obtain ⟨ab, off, sp⟩ := ad
      simp only at hab
      subst hab
      have hsp : sp = none := hms _ v hmu rfl
      subst hsp
      have h0 := h.frz _ v hmu
      rw [cell_of hb] at h0
      rw [cell_of (setB_at hlt), hm off v hmu, h0]
    · rw [World.cell?_of_block (hne ad.block hab)]
      exact h.frz ad v hmu
  · by_cases hij : i = j
    · subst hij
      rw [hj] at h2
      cases h2
      rw [List.getElem?_set_self hjl] at h1
      cases h1
      exact hbx
    · rw [List.getElem?_set_ne (Ne.symm hij)] at h1
      exact (h.bx i bx ob h1 h2).kept (Env.le.refl e) (MuNew.refl e _) fun c hc => hne c fun hcb => hij (h.bd i j b (by rw [h2, hc, hcb]) hj)
  · refine (h.sl s sv hs).map fun s v hv => ?_
    cases s with
    | any => trivial
    | und => exact hv
    | val p => exact hv
    | ptr i off => exact hv
    | fn f => exact hv
    | own i =>
      obtain ⟨T, r, xs, fz, h1, h2⟩ := hv
      by_cases hij : i = j
      · subst hij
        obtain ⟨xs', fz', rfl, hl⟩ := hown T r xs fz h1
        refine ⟨T, r, xs', fz', List.getElem?_set_self hjl, ?_⟩
        rcases h2 with ⟨h2, _⟩ | ⟨c, cap, cs0, el0, fr0, h2, h3, h4, h5, h6⟩
        · rw [hj] at h2; cases h2
        · rw [hj] at h2
          cases h2
          rw [hb] at h5
          injection h5 with h5
          injection h5 with h5 h5' h5''
          have h5 : cs = cs0 := by simpa using h5
          subst h5
          exact .inr ⟨b, cap, cs', el, fr', hj, by rw [hl]; exact h3, by rw [hl]; exact h4, setB_at hlt, by rw [hlen]; exact h6⟩
      · refine ⟨T, r, xs, fz, by rw [List.getElem?_set_ne (Ne.symm hij)]; exact h1, ?_⟩
        rcases h2 with h2 | ⟨c, cap, cs0, el0, fr0, h2, h3, h4, h5, h6⟩
        · exact .inl h2
        · exact .inr ⟨c, cap, cs0, el0, fr0, h2, h3, h4, by rw [hne c fun hcb => hij (h.bd i j b (hcb ▸ h2) hj)]; exact h5, h6⟩
  · exact { h.base with size := by rw [setB_size]; exact h.base.size, old := fun c hc hf => by rw [hne c fun hcb => by have := h.base.fresh j b hj; omega]; exact h.base.old c hc hf }

theorem eval_ptr (h : StE Bs st e β F a w) {j off : Nat} (hx : HasO st x (.one (.ptr j off))) : ∃ b, β[j]? = some (some b) ∧ a.eval x = .pointer (some ⟨b, off, none⟩) := hx.get h
theorem part_at {b off : Nat} {cs vs : List Value} {el : TypeId} {fr : Nat × Nat} {n : Nat} (h : w.heap[b]? = some (.cells cs.toArray el fr)) (hv : vs = (cs.drop off).take n) :
    ∀ j u, vs[j]? = some u → w.cell? ((⟨b, off, none⟩ : Addr).add j) = some u := by
  intro j u hj
  subst hv
  rw [add_none, cell_of h]
  by_cases hjn : j < n
  · rwa [List.getElem?_take_of_lt hjn, List.getElem?_drop] at hj
  · rw [List.getElem?_eq_none (by simp; omega)] at hj; cases hj

/-- A variable in memory, or a part of it, is read. -/
theorem op_loadS {T U : Type} {r : Rep T} {v : T} {s : Rep U} {u : U} {j off : Nat} (hd : d < Bs.N) (ht : tyS P t = true) (hx : HasO st x (.one (.ptr j off))) (hX : st.X[j]? = some (.var T r v)) (hc : Comp r v off s u) (hs : s.sz = 1) :
    OpStep P Bs ⟨some d, .load t x, ty, pos, af, g⟩ st (st.set d (.one (.val (S s u)))) :=
  .value hd fun e β F a w h => by
    obtain ⟨b, hb, hv⟩ := eval_ptr h hx
    obtain ⟨b', cs, el, fr, hb', h1, h2, h3, h4⟩ := h.bx j _ _ hX hb
    cases hb'
    have hrel := hc e cs h3
    have hl := s.len hrel
    rw [hs] at hrel hl
    obtain ⟨c, hcv⟩ := List.length_eq_one_iff.1 hl
    have hcell := part_at (w := w) (off := off) h1 hcv.symm 0 c rfl
    simp only [add_none, Nat.add_zero] at hcell
    refine ⟨c, ?_, by rw [hcv] at hrel; exact hrel⟩
    simp [execOp, hv, Instr.loadAt, Instr.sureAddr, loadVar, rIsAggS ht, hcell]
theorem op_loadA {T U : Type} {r : Rep T} {v : T} {s : Rep U} {u : U} {j off : Nat} (hd : d < Bs.N) (ht : tyA P t s.sz = true) (hx : HasO st x (.one (.ptr j off))) (hX : st.X[j]? = some (.var T r v)) (hc : Comp r v off s u) :
    OpStep P Bs ⟨some d, .load t x, ty, pos, af, g⟩ st (st.set d (.one (.val (A s u)))) :=
  .value hd fun e β F a w h => by
    obtain ⟨b, hb, hv⟩ := eval_ptr h hx
    obtain ⟨b', cs, el, fr, hb', h1, h2, h3, h4⟩ := h.bx j _ _ hX hb
    cases hb'
    have hrel := hc e cs h3
    have hl := s.len hrel
    refine ⟨.agg ((cs.drop off).take s.sz).toArray, ?_, _, rfl, hrel⟩
    simp only [execOp, hv, Instr.loadAt, Instr.sureAddr, loadVar, Sem.run_bind, Sem.run_pure, Result.andThen, rIsAggA ht, if_true, rSize (tyA_sz ht)]
    rw [rloadCells P hl (part_at h1 rfl)]

theorem muspot (h : StE Bs st e β F a w) {ad : Addr} {v : Value} (hm : e.mu ad = some v) : ad.spot = none := by
  have := h.frz ad v hm
  unfold World.cell? at this
  split at this
  · split at this
    · cases this
    · rename_i hs; simpa using hs
  · cases this

/-- A variable in memory, or a part of it, is written. -/
theorem store_core {T U : Type} {r : Rep T} {v v' : T} {s : Rep U} {u : U} {j off : Nat} (ht : tySz P t s.sz = true) (hx : HasO st x (.one (.ptr j off))) (hX : st.X[j]? = some (.var T r v)) (hu : Upd r v off s u v')
    {vs : List Value} {val : Value} (hval : val.cells.toList = vs) (h : StE Bs st e β F a w) (hrel : s.rel e u vs) :
    ∃ w', (Instr.storeAt t (a.eval x) val).run P w = .ok () w' ∧ StE Bs { st with X := st.X.set j (.var T r v') } e β F a w' := by
  obtain ⟨b, hb, hv⟩ := eval_ptr h hx
  obtain ⟨b', cs, el, fr, hb', h1, h2, h3, h4⟩ := h.bx j _ _ hX hb
  cases hb'
  have hl := s.len hrel
  have hcl := r.len h3
  have hu1 := hu.1
  have hcs : val.cells.size = s.sz := by rw [← Array.length_toList, hval, hl]
  have hlay : (lay cs off vs).length = cs.length := lay_length (by omega)
  refine ⟨setB w b (lay cs off vs) el fr, ?_, ?_⟩
  · simp only [hv, Instr.storeAt, Instr.sureAddr, storeVar, Sem.run_bind, Sem.run_pure, Result.andThen, rSize ht, hcs, ne_eq, not_true_eq_false, if_false, hval]
    have := rstoreCells P vs w b off 0 cs el fr (s.one hrel) h1 (by omega) h2
    simpa using this
  · refine h.relay hb h1 hlay (fun o u' hm => absurd rfl (h4 _ u' hm)) (fun ad u' hm _ => muspot h hm) ⟨b, lay cs off vs, el, fr, rfl, setB_at (lt_of_block h1), by rw [hlay]; exact h2, hu.2 e cs vs h3 hrel, h4⟩ fun T' r' xs fz hX' => ?_
    rw [hX] at hX'
    cases hX'
theorem op_storeS {T U : Type} {r : Rep T} {v v' : T} {s : Rep U} {u : U} {j off : Nat} (ht : tyS P t = true) (hx : HasO st x (.one (.ptr j off))) (hy : HasO st y (.one (.val (S s u)))) (hX : st.X[j]? = some (.var T r v)) (hs : s.sz = 1) (hu : Upd r v off s u v') :
    OpStep P Bs ⟨none, .store t x y, ty, pos, af, g⟩ st { st with X := st.X.set j (.var T r v') } := by
  intro a w ⟨e, β, F, h⟩ K Q hK
  have hrel : s.rel e u [a.eval y] := hy.get h
  have hone := s.one hrel (a.eval y) (by simp)
  have hcells : (a.eval y).cells.toList = [a.eval y] := by cases hv : a.eval y <;> rw [hv] at hone <;> simp [one1] at hone <;> simp [Value.cells]
  obtain ⟨w', hr, h'⟩ := store_core (by rw [hs]; exact tyS_sz ht) hx hX hu hcells h hrel
  unfold Oper.wp
  simp only [execOp, Sem.run_bind, hr, Result.andThen, Sem.run_pure, Oper.upon]
  exact hK _ _ ⟨e, β, F, h'⟩
theorem op_storeA {T U : Type} {r : Rep T} {v v' : T} {s : Rep U} {u : U} {j off : Nat} (ht : tyA P t s.sz = true) (hx : HasO st x (.one (.ptr j off))) (hy : HasO st y (.one (.val (A s u)))) (hX : st.X[j]? = some (.var T r v)) (hu : Upd r v off s u v') :
    OpStep P Bs ⟨none, .store t x y, ty, pos, af, g⟩ st { st with X := st.X.set j (.var T r v') } := by
  intro a w ⟨e, β, F, h⟩ K Q hK
  obtain ⟨vs, hv, hrel⟩ : ∃ vs : List Value, a.eval y = .agg vs.toArray ∧ s.rel e u vs := hy.get h
  obtain ⟨w', hr, h'⟩ := store_core (tyA_sz ht) hx hX hu (val := a.eval y) (by rw [hv]; simp [Value.cells]) h hrel
  unfold Oper.wp
  simp only [execOp, Sem.run_bind, hr, Result.andThen, Sem.run_pure, Oper.upon]
  exact hK _ _ ⟨e, β, F, h'⟩

/-! ### addresses of parts -/
def tyF (P : Program) (t : TypeId) (f off : Nat) : Bool :=
  match P.underlying t with
  | some (.struct fs) => match fs[f]? with | some fd => fd.offset == off && (match P.info? fd.type with | some i => i.size != 0 | none => false) | none => false
  | _ => false
theorem rFieldAt {f off : Nat} (h : tyF P t f off = true) {b o : Nat} : (Instr.fieldAt t (.pointer (some ⟨b, o, none⟩)) f).run P w = .ok (.pointer (some ⟨b, o + off, none⟩)) w := by
  unfold tyF at h
  split at h
  · rename_i fs hfs
    split at h
    · rename_i fd hfd
      simp only [Bool.and_eq_true, beq_iff_eq] at h
      obtain ⟨h1, h2⟩ := h
      split at h2
      · rename_i i hi
        simp only [bne_iff_ne, ne_eq] at h2
        subst h1
        simp [Instr.fieldAt, Instr.sureAddr, run_underlying hfs, hfd, fieldPlace, sizeOf, typeInfo, program, Sem.run, hi, h2, add_none]
      · cases h2
    · cases h
  · cases h
theorem op_fieldAddr {f off j o : Nat} (hd : d < Bs.N) (ht : tyF P t f off = true) (hx : HasO st x (.one (.ptr j o))) : OpStep P Bs ⟨some d, .fieldAddr t x f, ty, pos, af, g⟩ st (st.set d (.one (.ptr j (o + off)))) :=
  .value hd fun e β F a w h => by
    obtain ⟨b, hb, hv⟩ := eval_ptr h hx
    exact ⟨_, by simp only [execOp, hv, Sem.run_bind, rFieldAt ht, Result.andThen, Sem.run_pure], b, hb, rfl⟩

def tyAr (P : Program) (t : TypeId) (n sz : Nat) : Bool :=
  match P.underlying t with
  | some (.array len el) => len == n && tySz P el sz
  | _ => false
theorem rIndexAt {n sz : Nat} (h : tyAr P t n sz = true) {b o : Nat} {k : IntKind} {i : Int} (h0 : 0 ≤ i) (h1 : i < n) : (Instr.indexAt t (.pointer (some ⟨b, o, none⟩)) (.int k i)).run P w = .ok (.pointer (some ⟨b, o + i.toNat * sz, none⟩)) w := by
  unfold tyAr at h
  split at h
  · rename_i len el hu
    simp only [Bool.and_eq_true, beq_iff_eq] at h
    obtain ⟨rfl, h2⟩ := h
    simp [Instr.indexAt, asIntOf, Instr.sureAddr, run_underlying hu, h0, h1, rSize h2, add_none]
  · cases h
theorem op_indexAddrI {n sz j o : Nat} {k : IntKind} {i : Int} (hd : d < Bs.N) (ht : tyAr P t n sz = true) (hx : HasO st x (.one (.ptr j o))) (hy : HasO st y (.one (.val (S (rI k) i)))) (h0 : 0 ≤ i) (h1 : i < n) :
    OpStep P Bs ⟨some d, .indexAddr t x y, ty, pos, af, g⟩ st (st.set d (.one (.ptr j (o + i.toNat * sz)))) :=
  .value hd fun e β F a w h => by
    obtain ⟨b, hb, hv⟩ := eval_ptr h hx
    have hu : a.eval y = .int k i := by have := hy.get h; simpa [SVR, SWR, S, rI] using this
    exact ⟨_, by simp only [execOp, hv, hu, Sem.run_bind, rIndexAt ht h0 h1, Result.andThen, Sem.run_pure], b, hb, rfl⟩
theorem op_indexAddrU {U : Type} [UK U] {n sz j o : Nat} {i : U} (hd : d < Bs.N) (ht : tyAr P t n sz = true) (hx : HasO st x (.one (.ptr j o))) (hy : HasO st y (.one (.val (S (rU U) i)))) (h1 : UN.toN i < n) :
    OpStep P Bs ⟨some d, .indexAddr t x y, ty, pos, af, g⟩ st (st.set d (.one (.ptr j (o + UN.toN i * sz)))) :=
  .value hd fun e β F a w h => by
    obtain ⟨b, hb, hv⟩ := eval_ptr h hx
    have hu : a.eval y = .int (UK.k U) (UN.toN i) := by have := hy.get h; simpa [SVR, SWR, S, rU] using this
    exact ⟨_, by simp only [execOp, hv, hu, Sem.run_bind, rIndexAt ht (Int.natCast_nonneg _) (by exact_mod_cast h1), Result.andThen, Sem.run_pure, Int.toNat_natCast], b, hb, rfl⟩

/-! ### parts of values -/
theorem rPartS {b : Bool} {cs vs : List Value} {off : Nat} {v : Value} (ht : tyS P t = true) (h : (cs.drop off).take 1 = [v]) : (part t cs.toArray off).run P w = .ok v w := by
  have hv : cs[off]? = some v := by
    have : ((cs.drop off).take 1)[0]? = some v := by rw [h]; rfl
    rwa [List.getElem?_take_of_lt (by omega), List.getElem?_drop] at this
  simp [part, rIsAggS ht, hv]
theorem rPartA {cs : List Value} {off n : Nat} (ht : tyA P t n = true) : (part t cs.toArray off).run P w = .ok (.agg ((cs.drop off).take n).toArray) w := by
  simp [part, rIsAggA ht, rSize (tyA_sz ht), List.drop_take]
theorem op_fieldS {T U : Type} {r : Rep T} {v : T} {s : Rep U} {u : U} {f off : Nat} {fs : Array Field} {fd : Field} (hd : d < Bs.N) (hu : P.underlying t = some (.struct fs)) (hf : fs[f]? = some fd) (hoff : fd.offset = off) (ht : tyS P fd.type = true)
    (hx : HasO st x (.one (.val (A r v)))) (hc : Comp r v off s u) (hs : s.sz = 1) : OpStep P Bs ⟨some d, .field t x f, ty, pos, af, g⟩ st (st.set d (.one (.val (S s u)))) :=
  .value hd fun e β F a w h => by
    obtain ⟨vs, hv, hr⟩ : ∃ vs : List Value, a.eval x = .agg vs.toArray ∧ r.rel e v vs := hx.get h
    have hrel := hc e vs hr
    rw [hs] at hrel
    obtain ⟨c, hcv⟩ := List.length_eq_one_iff.1 (by have := s.len hrel; rw [hs] at this; exact this)
    subst hoff
    refine ⟨c, ?_, by rw [hcv] at hrel; exact hrel⟩
    simp only [execOp, hv, Instr.field, Sem.run_bind, run_underlying hu, Result.andThen, hf, asAgg, Sem.run_pure]
    rw [rPartS (b := true) (vs := []) ht hcv]
theorem op_fieldA {T U : Type} {r : Rep T} {v : T} {s : Rep U} {u : U} {f off : Nat} {fs : Array Field} {fd : Field} (hd : d < Bs.N) (hu : P.underlying t = some (.struct fs)) (hf : fs[f]? = some fd) (hoff : fd.offset = off) (ht : tyA P fd.type s.sz = true)
    (hx : HasO st x (.one (.val (A r v)))) (hc : Comp r v off s u) : OpStep P Bs ⟨some d, .field t x f, ty, pos, af, g⟩ st (st.set d (.one (.val (A s u)))) :=
  .value hd fun e β F a w h => by
    obtain ⟨vs, hv, hr⟩ : ∃ vs : List Value, a.eval x = .agg vs.toArray ∧ r.rel e v vs := hx.get h
    have hrel := hc e vs hr
    subst hoff
    refine ⟨_, ?_, _, rfl, hrel⟩
    simp only [execOp, hv, Instr.field, Sem.run_bind, run_underlying hu, Result.andThen, hf, asAgg, Sem.run_pure]
    rw [rPartA ht]

theorem rIndexArr {n sz : Nat} {el : TypeId} {cs : List Value} {k : IntKind} {i : Int} {v : Value} (hu : P.underlying t = some (.array n el)) (hsz : tySz P el sz = true) (h0 : 0 ≤ i) (h1 : i < n) (hp : (part el cs.toArray (i.toNat * sz)).run P w = .ok v w) :
    (Instr.index t (.agg cs.toArray) (.int k i)).run P w = .ok v w := by
  simp [Instr.index, asIntOf, run_underlying hu, h0, h1, rSize hsz, hp]
/-- An element of an array's value. -/
theorem op_indexS {T : Type} {r : Rep T} {n : Nat} {v : Vector T n} {k : IntKind} {i : Int} {el : TypeId} {u : T} (hd : d < Bs.N) (hu : P.underlying t = some (.array n el)) (ht : tyS P el = true) (hs : r.sz = 1)
    (hx : HasO st x (.one (.val (A (rV n r) v)))) (hy : HasO st y (.one (.val (S (rI k) i)))) (h0 : 0 ≤ i) (h1 : i.toNat < n) (hr : v[i.toNat] = u) : OpStep P Bs ⟨some d, .index t x y, ty, pos, af, g⟩ st (st.set d (.one (.val (S r u)))) :=
  .value hd fun e β F a w h => by
    obtain ⟨vs, hv, hrel⟩ : ∃ vs : List Value, a.eval x = .agg vs.toArray ∧ (rV n r).rel e v vs := hx.get h
    have hi : a.eval y = .int k i := by have := hy.get h; simpa [SVR, SWR, S, rI] using this
    have h2 := hrel.2.2 i.toNat h1
    have h3 := r.len h2
    rw [hs] at h3
    obtain ⟨c, hcv⟩ := List.length_eq_one_iff.1 h3
    rw [hs] at h2
    rw [hcv, hr] at h2
    refine ⟨c, ?_, h2⟩
    simp only [execOp, hv, hi, Sem.run_bind]
    rw [rIndexArr hu (tyS_sz ht) h0 (by omega) (rPartS (b := true) (vs := []) ht hcv)]
    rfl
theorem op_indexSU {T U : Type} [UK U] {r : Rep T} {n : Nat} {v : Vector T n} {i : U} {el : TypeId} {u : T} (hd : d < Bs.N) (hu : P.underlying t = some (.array n el)) (ht : tyS P el = true) (hs : r.sz = 1)
    (hx : HasO st x (.one (.val (A (rV n r) v)))) (hy : HasO st y (.one (.val (S (rU U) i)))) (h1 : UN.toN i < n) (hr : v[UN.toN i] = u) : OpStep P Bs ⟨some d, .index t x y, ty, pos, af, g⟩ st (st.set d (.one (.val (S r u)))) :=
  .value hd fun e β F a w h => by
    obtain ⟨vs, hv, hrel⟩ : ∃ vs : List Value, a.eval x = .agg vs.toArray ∧ (rV n r).rel e v vs := hx.get h
    have hi : a.eval y = .int (UK.k U) (UN.toN i) := by have := hy.get h; simpa [SVR, SWR, S, rU] using this
    have h2 := hrel.2.2 (UN.toN i) h1
    have h3 := r.len h2
    rw [hs] at h3
    obtain ⟨c, hcv⟩ := List.length_eq_one_iff.1 h3
    rw [hs] at h2
    rw [hcv, hr] at h2
    refine ⟨c, ?_, h2⟩
    simp only [execOp, hv, hi, Sem.run_bind]
    rw [rIndexArr hu (tyS_sz ht) (Int.natCast_nonneg _) (by exact_mod_cast h1) (rPartS (b := true) (vs := []) ht (by rw [Int.toNat_natCast]; exact hcv))]
    rfl
theorem op_indexA {T : Type} {r : Rep T} {n : Nat} {v : Vector T n} {k : IntKind} {i : Int} {el : TypeId} {u : T} (hd : d < Bs.N) (hu : P.underlying t = some (.array n el)) (ht : tyA P el r.sz = true)
    (hx : HasO st x (.one (.val (A (rV n r) v)))) (hy : HasO st y (.one (.val (S (rI k) i)))) (h0 : 0 ≤ i) (h1 : i.toNat < n) (hr : v[i.toNat] = u) : OpStep P Bs ⟨some d, .index t x y, ty, pos, af, g⟩ st (st.set d (.one (.val (A r u)))) :=
  .value hd fun e β F a w h => by
    obtain ⟨vs, hv, hrel⟩ : ∃ vs : List Value, a.eval x = .agg vs.toArray ∧ (rV n r).rel e v vs := hx.get h
    have hi : a.eval y = .int k i := by have := hy.get h; simpa [SVR, SWR, S, rI] using this
    have h2 := hrel.2.2 i.toNat h1
    rw [hr] at h2
    refine ⟨.agg ((vs.drop (i.toNat * r.sz)).take r.sz).toArray, ?_, _, rfl, h2⟩
    simp only [execOp, hv, hi, Sem.run_bind]
    rw [rIndexArr hu (tyA_sz ht) h0 (by omega) (rPartA ht)]
    rfl
/-- A byte of a text. -/
theorem op_indexStr {s : List UInt8} {k : IntKind} {i : Int} {u : UInt8} (hd : d < Bs.N) (hu : P.underlying t = some .string) (hx : HasO st x (.one (.val (S rS s)))) (hy : HasO st y (.one (.val (S (rI k) i)))) (h0 : 0 ≤ i) (h1 : i.toNat < s.length) (hr : s[i.toNat] = u) :
    OpStep P Bs ⟨some d, .index t x y, ty, pos, af, g⟩ st (st.set d (.one (.val (S (rU UInt8) u)))) :=
  .value hd fun e β F a w h => by
    have hv : a.eval x = .string (bs s) := by have := hx.get h; simpa [SVR, SWR, S, rS] using this
    have hi : a.eval y = .int k i := by have := hy.get h; simpa [SVR, SWR, S, rI] using this
    have hsz : (bs s).size = s.length := bs_size s
    refine ⟨.int .u8 u.toNat, ?_, rfl⟩
    have hb : (bs s)[i.toNat]? = some u := by
      rw [getElem?_pos (bs s) i.toNat (by rw [hsz]; exact h1)]
      subst hr
      simp [bs, ByteArray.getElem_eq_getElem_data]
    simp [execOp, hv, hi, Instr.index, asIntOf, run_underlying hu, h0, hb]
end
end Go.Proofs.Ytlkofkegbkkhbaa.Fw
