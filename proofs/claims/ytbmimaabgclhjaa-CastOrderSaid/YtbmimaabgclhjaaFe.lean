/- Operations on variables in memory, fields, elements. -/
import Derived.Test.YtbmimaabgclhjaaFd
namespace Go.Proofs.Ytbmimaabgclhjaa.Fw
open Go Go.RowKit
set_option linter.unusedVariables false
set_option linter.unusedSimpArgs false

/-- Values that lie in one cell. -/
class OneP (p : VP) : Prop where
  one : ∀ e v, p.p e v → one1 v = true
instance (b off : Nat) : OneP (PTR b off) := ⟨fun _ _ h => by subst h; rfl⟩
instance (ob : Option Nat) : OneP (PTO ob) := ⟨fun _ _ h => by subst h; rfl⟩
instance (ob : Option Nat) (off n c : Nat) : OneP (HDR ob off n c) := ⟨fun _ _ h => by subst h; rfl⟩
instance (ob : Option Nat) : OneP (MPV ob) := ⟨fun _ _ h => by subst h; rfl⟩
instance (f : FuncId) (ps : List VP) : OneP (CLO f ps) := ⟨fun _ _ ⟨_, h, _⟩ => by subst h; rfl⟩
instance : OneP NILF := ⟨fun _ _ h => by subst h; rfl⟩
instance (l : Nat) : OneP (YLD l) := ⟨fun _ _ h => by subst h; rfl⟩
theorem rW_iff {p : VP} [OneP p] {e : Env} {v : Value} : (rW p).rel e () [v] ↔ p.p e v := ⟨fun ⟨u, h, k, _⟩ => by cases h; exact k, fun h => ⟨v, rfl, h, OneP.one e v h⟩⟩
theorem wkW {p : VP} : ∀ e v, (S (rW p) ()).p e v → p.p e v := fun e v ⟨u, h, k, _⟩ => by cases h; exact k
theorem wkV {p : VP} [OneP p] : ∀ e v, p.p e v → (S (rW p) ()).p e v := fun e v h => rW_iff.2 h

section
variable {P : Program} {Bs : Base} {st st' : St} {d : Nat} {ty t t' : TypeId} {pos : String} {af : Array Edge} {g : Option (Nat × Bool)} {x y z : Operand}
variable {e : Env} {a : Act} {w : World}

theorem thawed00 (n : Nat) : Thawed n (0, 0) := .inl rfl
theorem cells_S {T : Type} {r : Rep T} {u : T} {v : Value} (h : (S r u).p e v) : v.cells.toList = [v] ∧ r.rel e u [v] := by
  have hone := r.one h v (by simp)
  refine ⟨?_, h⟩
  cases v <;> simp [one1] at hone <;> simp [Value.cells]
/-- A new piece, behind the others. -/
theorem StE.newE {w' : World} (h : StE Bs st e a w) (hk : Kept w w') {c : Chunk} (hc : c.R e w') (hf : ∀ b, c.foot b → w.heap.size ≤ b) : StE Bs { st with X := st.X ++ [c] } e a w' :=
  ((h.keep hk).new hc hk.size h hf).perm (List.perm_append_comm (l₁ := [c]) (l₂ := st.X))

/-- A new variable in memory. -/
theorem op_alloc {T : Type} {r : Rep T} {x0 : T} {zv : Value} (hd : d < Bs.N) (hz : tyZ P t zv) (hr : Zr r x0 zv.cells.toList) :
    OpX P Bs ⟨some d, .alloc t, ty, pos, af, g⟩ st (fun b => St.set { st with X := st.X ++ [cvar b r x0] } d (.one (.val (PTR b 0)))) :=
  .grows hd fun e a w h => by
    have hk := Kept.push w (.cells zv.cells t)
    refine ⟨.pointer (some ⟨w.heap.size, 0, none⟩), { w with heap := w.heap.push (.cells zv.cells t) }, e, w.heap.size, ?_, ?_, rfl⟩
    · simp [execOp, Instr.alloc, rZero hz, newVar, newRow, newObj, Sem.run]
    · exact h.newE hk ⟨zv.cells.toList, t, (0, 0), by simp, thawed00 _, hr e, fun ad v hm => by have := mu_lt h hm; omega⟩ fun b hb => by rw [show b = w.heap.size from hb]; exact Nat.le_refl _
theorem box_core {T : Type} {r : Rep T} {u : T} {val : Value} {vs : List Value} (hd : d < Bs.N) (h : StE Bs st e a w) (hv : a.eval x = val) (hc : val.cells.toList = vs) (hr : r.rel e u vs) :
    ∃ v w' e' b, (execOp a.eval ⟨some d, .box t x, ty, pos, af, g⟩).run P w = .ok (.value v) w' ∧ StE Bs { st with X := st.X ++ [cvar b r u] } e' a w' ∧ SVR e' (.one (.val (PTR b 0))) v := by
  have hk := Kept.push w (.cells val.cells t)
  refine ⟨.pointer (some ⟨w.heap.size, 0, none⟩), { w with heap := w.heap.push (.cells val.cells t) }, e, w.heap.size, ?_, ?_, rfl⟩
  · simp [execOp, Instr.box, newVar, newRow, newObj, Sem.run, hv]
  · exact h.newE hk ⟨val.cells.toList, t, (0, 0), by simp, thawed00 _, by rw [hc]; exact hr, fun ad v hm => by have := mu_lt h hm; omega⟩ fun b hb => by rw [show b = w.heap.size from hb]; exact Nat.le_refl _
/-- A variable in memory that has a value from the beginning. -/
theorem op_boxS {T : Type} {r : Rep T} {u : T} (hd : d < Bs.N) (hx : HasO st x (.one (.val (S r u)))) :
    OpX P Bs ⟨some d, .box t x, ty, pos, af, g⟩ st (fun b => St.set { st with X := st.X ++ [cvar b r u] } d (.one (.val (PTR b 0)))) :=
  .grows hd fun e a w h => by
    have hrel : r.rel e u [a.eval x] := hx.get h
    exact box_core hd h rfl (cells_S (r := r) (u := u) (v := a.eval x) (e := e) hrel).1 hrel
theorem op_boxW {p : VP} [OneP p] (hd : d < Bs.N) (hx : HasO st x (.one (.val p))) :
    OpX P Bs ⟨some d, .box t x, ty, pos, af, g⟩ st (fun b => St.set { st with X := st.X ++ [cvar b (rW p) ()] } d (.one (.val (PTR b 0)))) :=
  op_boxS hd (hx.wk wkV)
theorem op_boxA {T : Type} {r : Rep T} {u : T} (hd : d < Bs.N) (hx : HasO st x (.one (.val (A r u)))) :
    OpX P Bs ⟨some d, .box t x, ty, pos, af, g⟩ st (fun b => St.set { st with X := st.X ++ [cvar b r u] } d (.one (.val (PTR b 0)))) :=
  .grows hd fun e a w h => by
    obtain ⟨vs, hv, hrel⟩ : ∃ vs : List Value, a.eval x = .agg vs.toArray ∧ r.rel e u vs := hx.get h
    exact box_core hd h hv (by simp [Value.cells]) hrel

theorem eval_ptr {b off : Nat} (h : StE Bs st e a w) (hx : HasO st x (.one (.val (PTR b off)))) : a.eval x = .pointer (some ⟨b, off, none⟩) := hx.get h
theorem part_at {b off : Nat} {cs vs : List Value} {el : TypeId} {fr : Nat × Nat} {n : Nat} (h : w.heap[b]? = some (.cells cs.toArray el fr)) (hv : vs = (cs.drop off).take n) :
    ∀ j u, vs[j]? = some u → w.cell? ((⟨b, off, none⟩ : Addr).add j) = some u := by
  intro j u hj
  subst hv
  rw [add_none, cell_of h]
  by_cases hjn : j < n
  · rwa [List.getElem?_take_of_lt hjn, List.getElem?_drop] at hj
  · rw [List.getElem?_eq_none (by simp; omega)] at hj; cases hj

/-- A variable in memory, or a part of it, is read. -/
theorem op_loadS {T U : Type} {r : Rep T} {v : T} {s : Rep U} {u u' : U} {j b off : Nat} (hd : d < Bs.N) (ht : tyS P t = true) (hx : HasO st x (.one (.val (PTR b off)))) (hX : st.X[j]? = some (cvar b r v)) (hc : Comp r v off s u) (hs : s.sz = 1) (he : u = u') :
    OpStep P Bs ⟨some d, .load t x, ty, pos, af, g⟩ st (st.set d (.one (.val (S s u')))) :=
  .value hd fun e a w h => by
    subst he
    have hv := eval_ptr h hx
    obtain ⟨cs, el, fr, h1, h2, h3, h4⟩ := h.xs _ (List.mem_of_getElem? hX)
    have hrel := hc e cs h3
    have hl := s.len hrel
    rw [hs] at hrel hl
    obtain ⟨c, hcv⟩ := List.length_eq_one_iff.1 hl
    have hcell := part_at (w := w) (off := off) h1 hcv.symm 0 c rfl
    simp only [add_none, Nat.add_zero] at hcell
    refine ⟨c, ?_, by rw [hcv] at hrel; exact hrel⟩
    simp [execOp, hv, Instr.loadAt, Instr.sureAddr, loadVar, rIsAggS ht, hcell]
theorem OpStep.mono {o : Oper} {d : Nat} {p q : VP} (h : OpStep P Bs o st (st.set d (.one (.val p)))) (k : ∀ e v, p.p e v → q.p e v) : OpStep P Bs o st (st.set d (.one (.val q))) :=
  fun a w hst K Q hK => h a w hst K Q fun a' w' ⟨e, h'⟩ => hK a' w' ⟨e, h'.nt, h'.df, h'.frz, h'.xs, h'.dj, fun t sv ht => by
    rcases look_cons (show look ((d, .one (.val q)) :: st.ρ) t = some sv from ht) with ⟨rfl, rfl⟩ | ⟨hne, ht⟩
    · exact k e _ (h'.sl t (.one (.val p)) (look_cons_self ..))
    · exact h'.sl t sv (by rw [show look (st.set d (.one (.val p))).ρ t = look st.ρ t from look_cons_ne _ _ (Ne.symm hne)]; exact ht), h'.base⟩
theorem op_loadW {T : Type} {r : Rep T} {v : T} {p : VP} {j b off : Nat} (hd : d < Bs.N) (ht : tyS P t = true) (hx : HasO st x (.one (.val (PTR b off)))) (hX : st.X[j]? = some (cvar b r v)) (hc : Comp r v off (rW p) ()) :
    OpStep P Bs ⟨some d, .load t x, ty, pos, af, g⟩ st (st.set d (.one (.val p))) := (op_loadS hd ht hx hX hc rfl rfl).mono wkW
theorem op_loadA {T U : Type} {r : Rep T} {v : T} {s : Rep U} {u u' : U} {j b off : Nat} (hd : d < Bs.N) (ht : tyA P t s.sz = true) (hx : HasO st x (.one (.val (PTR b off)))) (hX : st.X[j]? = some (cvar b r v)) (hc : Comp r v off s u) (he : u = u') :
    OpStep P Bs ⟨some d, .load t x, ty, pos, af, g⟩ st (st.set d (.one (.val (A s u')))) :=
  .value hd fun e a w h => by
    subst he
    have hv := eval_ptr h hx
    obtain ⟨cs, el, fr, h1, h2, h3, h4⟩ := h.xs _ (List.mem_of_getElem? hX)
    have hrel := hc e cs h3
    have hl := s.len hrel
    refine ⟨.agg ((cs.drop off).take s.sz).toArray, ?_, _, rfl, hrel⟩
    simp only [execOp, hv, Instr.loadAt, Instr.sureAddr, loadVar, Sem.run_bind, Sem.run_pure, Result.andThen, rIsAggA ht, if_true, rSize (tyA_sz ht)]
    rw [rloadCells P hl (part_at h1 rfl)]

/-- A variable in memory, or a part of it, is written. -/
theorem store_core {T T' U : Type} {r : Rep T} {v : T} {r' : Rep T'} {v' : T'} {s : Rep U} {u : U} {j b off : Nat} (ht : tySz P t s.sz = true) (hx : HasO st x (.one (.val (PTR b off)))) (hX : st.X[j]? = some (cvar b r v)) (hu : UpdR r v off s u r' v')
    {vs : List Value} {val : Value} (hval : val.cells.toList = vs) (h : StE Bs st e a w) (hrel : s.rel e u vs) :
    ∃ w', (Instr.storeAt t (a.eval x) val).run P w = .ok () w' ∧ StE Bs { st with X := st.X.set j (cvar b r' v') } e a w' := by
  have hv := eval_ptr h hx
  obtain ⟨cs, el, fr, h1, h2, h3, h4⟩ := h.xs _ (List.mem_of_getElem? hX)
  have hl := s.len hrel
  have hcl := r.len h3
  have hu1 := hu.1
  have hcs : val.cells.size = s.sz := by rw [← Array.length_toList, hval, hl]
  have hlay : (lay cs off vs).length = cs.length := lay_length (by omega)
  have hlt := lt_of_block h1
  refine ⟨setB w b (lay cs off vs) el fr, ?_, ?_⟩
  · simp only [hv, Instr.storeAt, Instr.sureAddr, storeVar, Sem.run_bind, Sem.run_pure, Result.andThen, rSize ht, hcs, ne_eq, not_true_eq_false, if_false, hval]
    have := rstoreCells P vs w b off 0 cs el fr (s.one hrel) h1 (by omega) h2
    simpa using this
  · refine h.turn1 hX (Env.le.refl e) (fun ad v hm => .inl hm) KeptX.setB (fun ad v hm => ?_) ⟨lay cs off vs, el, fr, setB_at hlt, by rw [hlay]; exact h2, hu.2.2 e cs vs h3 hrel, h4⟩ fun c hc => .inl hc
    rw [World.cell?_of_block (setB_ne (h4 ad v hm))]
    exact h.frz ad v hm
theorem op_storeS {T T' U : Type} {r : Rep T} {v : T} {r' : Rep T'} {v' v'' : T'} {s : Rep U} {u : U} {j b off : Nat} (ht : tyS P t = true) (hx : HasO st x (.one (.val (PTR b off)))) (hy : HasO st y (.one (.val (S s u)))) (hX : st.X[j]? = some (cvar b r v)) (hs : s.sz = 1) (hu : UpdR r v off s u r' v') (he : v' = v'') :
    OpStep P Bs ⟨none, .store t x y, ty, pos, af, g⟩ st { st with X := st.X.set j (cvar b r' v'') } :=
  .act fun e a w h => by
    subst he
    have hrel : s.rel e u [a.eval y] := hy.get h
    obtain ⟨w', hr, h'⟩ := store_core (by rw [hs]; exact tyS_sz ht) hx hX hu (cells_S (r := s) (u := u) (v := a.eval y) (e := e) hrel).1 h hrel
    exact ⟨w', e, by simp [execOp, hr], h'⟩
theorem op_storeW {T T' : Type} {r : Rep T} {v : T} {r' : Rep T'} {v' v'' : T'} {p : VP} [OneP p] {j b off : Nat} (ht : tyS P t = true) (hx : HasO st x (.one (.val (PTR b off)))) (hy : HasO st y (.one (.val p))) (hX : st.X[j]? = some (cvar b r v)) (hu : UpdR r v off (rW p) () r' v') (he : v' = v'') :
    OpStep P Bs ⟨none, .store t x y, ty, pos, af, g⟩ st { st with X := st.X.set j (cvar b r' v'') } := op_storeS ht hx (hy.wk wkV) hX rfl hu he
theorem op_storeA {T T' U : Type} {r : Rep T} {v : T} {r' : Rep T'} {v' v'' : T'} {s : Rep U} {u : U} {j b off : Nat} (ht : tyA P t s.sz = true) (hx : HasO st x (.one (.val (PTR b off)))) (hy : HasO st y (.one (.val (A s u)))) (hX : st.X[j]? = some (cvar b r v)) (hu : UpdR r v off s u r' v') (he : v' = v'') :
    OpStep P Bs ⟨none, .store t x y, ty, pos, af, g⟩ st { st with X := st.X.set j (cvar b r' v'') } :=
  .act fun e a w h => by
    subst he
    obtain ⟨vs, hv, hrel⟩ : ∃ vs : List Value, a.eval y = .agg vs.toArray ∧ s.rel e u vs := hy.get h
    obtain ⟨w', hr, h'⟩ := store_core (tyA_sz ht) hx hX hu (val := a.eval y) (by rw [hv]; simp [Value.cells]) h hrel
    exact ⟨w', e, by simp [execOp, hr], h'⟩

/-! ### addresses of parts -/
def tyF (P : Program) (t : TypeId) (f off : Nat) : Bool :=
  match P.underlying t with
  | some (.struct fs) => match fs[f]? with | some fd => fd.offset == off && (match P.info? fd.type with | some i => i.size != 0 | none => false) | none => false
  | _ => false
theorem rFieldAt {f off : Nat} (h : tyF P t f off = true) {b o : Nat} : (Instr.fieldAt t (.pointer (some ⟨b, o, none⟩)) f).run P w = .ok (.pointer (some ⟨b, o + off, none⟩)) w := by
  unfold tyF at h
  split at h
  · rename_i fs hfs
    split at h
    · rename_i fd hfd
      simp only [Bool.and_eq_true, beq_iff_eq] at h
      obtain ⟨h1, h2⟩ := h
      split at h2
      · rename_i i hi
        simp only [bne_iff_ne, ne_eq] at h2
        subst h1
        simp [Instr.fieldAt, Instr.sureAddr, run_underlying hfs, hfd, fieldPlace, sizeOf, typeInfo, program, Sem.run, hi, h2, add_none]
      · cases h2
    · cases h
  · cases h
theorem op_fieldAddr {f off b o : Nat} (hd : d < Bs.N) (ht : tyF P t f off = true) (hx : HasO st x (.one (.val (PTR b o)))) : OpStep P Bs ⟨some d, .fieldAddr t x f, ty, pos, af, g⟩ st (st.set d (.one (.val (PTR b (o + off))))) :=
  .value hd fun e a w h => by
    have hv := eval_ptr h hx
    exact ⟨_, by simp only [execOp, hv, Sem.run_bind, rFieldAt ht, Result.andThen, Sem.run_pure], rfl⟩

def tyAr (P : Program) (t : TypeId) (n sz : Nat) : Bool :=
  match P.underlying t with
  | some (.array len el) => len == n && tySz P el sz
  | _ => false
theorem rIndexAt {n sz : Nat} (h : tyAr P t n sz = true) {b o : Nat} {k : IntKind} {i : Int} (h0 : 0 ≤ i) (h1 : i < n) : (Instr.indexAt t (.pointer (some ⟨b, o, none⟩)) (.int k i)).run P w = .ok (.pointer (some ⟨b, o + i.toNat * sz, none⟩)) w := by
  unfold tyAr at h
  split at h
  · rename_i len el hu
    simp only [Bool.and_eq_true, beq_iff_eq] at h
    obtain ⟨rfl, h2⟩ := h
    simp [Instr.indexAt, asIntOf, Instr.sureAddr, run_underlying hu, h0, h1, rSize h2, add_none]
  · cases h
theorem op_indexAddrI {n sz b o : Nat} {k : IntKind} {i : Int} (hd : d < Bs.N) (ht : tyAr P t n sz = true) (hx : HasO st x (.one (.val (PTR b o)))) (hy : HasO st y (.one (.val (S (rI k) i)))) (h0 : 0 ≤ i) (h1 : i < n) :
    OpStep P Bs ⟨some d, .indexAddr t x y, ty, pos, af, g⟩ st (st.set d (.one (.val (PTR b (o + i.toNat * sz))))) :=
  .value hd fun e a w h => by
    have hv := eval_ptr h hx
    have hu : a.eval y = .int k i := by have := hy.get h; simpa [SVR, SWR, S, rI] using this
    exact ⟨_, by simp only [execOp, hv, hu, Sem.run_bind, rIndexAt ht h0 h1, Result.andThen, Sem.run_pure], rfl⟩
/-! ### parts of values -/
theorem rPartS {b : Bool} {cs vs : List Value} {off : Nat} {v : Value} (ht : tyS P t = true) (h : (cs.drop off).take 1 = [v]) : (part t cs.toArray off).run P w = .ok v w := by
  have hv : cs[off]? = some v := by
    have : ((cs.drop off).take 1)[0]? = some v := by rw [h]; rfl
    rwa [List.getElem?_take_of_lt (by omega), List.getElem?_drop] at this
  simp [part, rIsAggS ht, hv]
theorem rIndexArr {n sz : Nat} {el : TypeId} {cs : List Value} {k : IntKind} {i : Int} {v : Value} (hu : P.underlying t = some (.array n el)) (hsz : tySz P el sz = true) (h0 : 0 ≤ i) (h1 : i < n) (hp : (part el cs.toArray (i.toNat * sz)).run P w = .ok v w) :
    (Instr.index t (.agg cs.toArray) (.int k i)).run P w = .ok v w := by
  simp [Instr.index, asIntOf, run_underlying hu, h0, h1, rSize hsz, hp]
/-- An element of an array's value. -/
theorem op_indexS {T : Type} {r : Rep T} {n : Nat} {v : Vector T n} {k : IntKind} {i : Int} {el : TypeId} {u : T} (hd : d < Bs.N) (hu : P.underlying t = some (.array n el)) (ht : tyS P el = true) (hs : r.sz = 1)
    (hx : HasO st x (.one (.val (A (rV n r) v)))) (hy : HasO st y (.one (.val (S (rI k) i)))) (h0 : 0 ≤ i) (h1 : i.toNat < n) (hr : v[i.toNat] = u) : OpStep P Bs ⟨some d, .index t x y, ty, pos, af, g⟩ st (st.set d (.one (.val (S r u)))) :=
  .value hd fun e a w h => by
    obtain ⟨vs, hv, hrel⟩ : ∃ vs : List Value, a.eval x = .agg vs.toArray ∧ (rV n r).rel e v vs := hx.get h
    have hi : a.eval y = .int k i := by have := hy.get h; simpa [SVR, SWR, S, rI] using this
    have h2 := hrel.2.2 i.toNat h1
    have h3 := r.len h2
    rw [hs] at h3
    obtain ⟨c, hcv⟩ := List.length_eq_one_iff.1 h3
    rw [hs] at h2
    rw [hcv, hr] at h2
    refine ⟨c, ?_, h2⟩
    simp only [execOp, hv, hi, Sem.run_bind]
    rw [rIndexArr hu (tyS_sz ht) h0 (by omega) (rPartS (b := true) (vs := []) ht hcv)]
    rfl
/-- A byte of a text. -/
theorem op_indexStr {s : List UInt8} {k : IntKind} {i : Int} {u : UInt8} (hd : d < Bs.N) (hu : P.underlying t = some .string) (hx : HasO st x (.one (.val (S rS s)))) (hy : HasO st y (.one (.val (S (rI k) i)))) (h0 : 0 ≤ i) (h1 : i.toNat < s.length) (hr : s[i.toNat] = u) :
    OpStep P Bs ⟨some d, .index t x y, ty, pos, af, g⟩ st (st.set d (.one (.val (S (rU UInt8) u)))) :=
  .value hd fun e a w h => by
    have hv : a.eval x = .string (bs s) := by have := hx.get h; simpa [SVR, SWR, S, rS] using this
    have hi : a.eval y = .int k i := by have := hy.get h; simpa [SVR, SWR, S, rI] using this
    have hsz : (bs s).size = s.length := bs_size s
    refine ⟨.int .u8 u.toNat, ?_, rfl⟩
    have hb : (bs s)[i.toNat]? = some u := by
      rw [getElem?_pos (bs s) i.toNat (by rw [hsz]; exact h1)]
      subst hr
      simp [bs, ByteArray.getElem_eq_getElem_data]
    simp [execOp, hv, hi, Instr.index, asIntOf, run_underlying hu, h0, hb]
end
end Go.Proofs.Ytbmimaabgclhjaa.Fw
