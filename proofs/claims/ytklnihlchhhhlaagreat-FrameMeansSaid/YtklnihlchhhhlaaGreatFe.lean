/- Operations on variables in memory, fields, elements. -/
import Derived.Test.YtklnihlchhhhlaaGreatFd
namespace Go.Proofs.YtklnihlchhhhlaaGreat.Fw
open Go Go.RowKit
set_option linter.unusedVariables false
set_option linter.unusedSimpArgs false

class OneP (p : VP) : Prop where
  one : ∀ e v, p.p e v → one1 v = true
instance (b off : Nat) : OneP (PTR b off) := ⟨fun _ _ h => by subst h; rfl⟩
instance (ob : Option Nat) : OneP (PTO ob) := ⟨fun _ _ h => by subst h; rfl⟩
instance (ob : Option Nat) (off n c : Nat) : OneP (HDR ob off n c) := ⟨fun _ _ h => by subst h; rfl⟩
instance (ob : Option Nat) : OneP (MPV ob) := ⟨fun _ _ h => by subst h; rfl⟩
instance (f : FuncId) (ps : List VP) : OneP (CLO f ps) := ⟨fun _ _ ⟨_, h, _⟩ => by subst h; rfl⟩
instance : OneP NILF := ⟨fun _ _ h => by subst h; rfl⟩
instance (l : Nat) : OneP (YLD l) := ⟨fun _ _ h => by subst h; rfl⟩
theorem Zor {p : VP} [OneP p] {e : Env} {v : Value} : (rW p).rel e () [v] ↔ p.p e v := ⟨fun ⟨u, h, k, _⟩ => by cases h; exact k, fun h => ⟨v, rfl, h, OneP.one e v h⟩⟩
theorem wkW {p : VP} : ∀ e v, (S (rW p) ()).p e v → p.p e v := fun e v ⟨u, h, k, _⟩ => by cases h; exact k
theorem wkV {p : VP} [OneP p] : ∀ e v, p.p e v → (S (rW p) ()).p e v := fun e v h => Zor.2 h

section
variable {P : Program} {Bs : Base} {st st' : St} {d : Nat} {ty t t' : TypeId} {pos : String} {af : Array Edge} {g : Option (Nat × Bool)} {x y z : Operand}
variable {e : Env} {a : Act} {w : World}

theorem ZhA (n : Nat) : Zhq n (0, 0) := .inl rfl
theorem Zh9 {T : Type} {r : Rep T} {u : T} {v : Value} (h : (S r u).p e v) : v.cells.toList = [v] ∧ r.rel e u [v] := by
  have hone := r.one h v (by simp)
  refine ⟨?_, h⟩
  cases v <;> simp [one1] at hone <;> simp [Value.cells]
theorem StE.newE {w' : World} (h : StE Bs st e a w) (hk : Kept w w') {c : ZbE} (hc : c.R e w') (hf : ∀ b, c.foot b → w.heap.size ≤ b) : StE Bs { st with X := st.X ++ [c] } e a w' :=
  ((h.keep hk).new hc hk.size h hf).perm (List.perm_append_comm (l₁ := [c]) (l₂ := st.X))

theorem Za8 {T : Type} {r : Rep T} {x0 : T} {zv : Value} (hd : d < Bs.N) (hz : tyZ P t zv) (hr : Zr r x0 zv.cells.toList) :
    OpX P Bs ⟨some d, .alloc t, ty, pos, af, g⟩ st (fun b => St.set { st with X := st.X ++ [cvar b r x0] } d (.one (.val (PTR b 0)))) :=
  .grows hd fun e a w h => by
    have hk := Kept.push w (.cells zv.cells t)
    refine ⟨.pointer (some ⟨w.heap.size, 0, none⟩), { w with heap := w.heap.push (.cells zv.cells t) }, e, w.heap.size, ?_, ?_, rfl⟩
    · simp [execOp, Instr.alloc, ZkX hz, newVar, newRow, newObj, Sem.run]
    · exact h.newE hk ⟨zv.cells.toList, t, (0, 0), by simp, ZhA _, hr e, fun ad v hm => by have := ZiQ h hm; omega⟩ fun b hb => by rw [show b = w.heap.size from hb]; exact Nat.le_refl _
theorem Zj5 {T : Type} {r : Rep T} {u : T} {val : Value} {vs : List Value} (hd : d < Bs.N) (h : StE Bs st e a w) (hv : a.eval x = val) (hc : val.cells.toList = vs) (hr : r.rel e u vs) :
    ∃ v w' e' b, (execOp a.eval ⟨some d, .box t x, ty, pos, af, g⟩).run P w = .ok (.value v) w' ∧ StE Bs { st with X := st.X ++ [cvar b r u] } e' a w' ∧ SVR e' (.one (.val (PTR b 0))) v := by
  have hk := Kept.push w (.cells val.cells t)
  refine ⟨.pointer (some ⟨w.heap.size, 0, none⟩), { w with heap := w.heap.push (.cells val.cells t) }, e, w.heap.size, ?_, ?_, rfl⟩
  · simp [execOp, Instr.box, newVar, newRow, newObj, Sem.run, hv]
  · exact h.newE hk ⟨val.cells.toList, t, (0, 0), by simp, ZhA _, by rw [hc]; exact hr, fun ad v hm => by have := ZiQ h hm; omega⟩ fun b hb => by rw [show b = w.heap.size from hb]; exact Nat.le_refl _
theorem Znh {T : Type} {r : Rep T} {u : T} (hd : d < Bs.N) (hx : HasO st x (.one (.val (S r u)))) :
    OpX P Bs ⟨some d, .box t x, ty, pos, af, g⟩ st (fun b => St.set { st with X := st.X ++ [cvar b r u] } d (.one (.val (PTR b 0)))) :=
  .grows hd fun e a w h => by
    have hrel : r.rel e u [a.eval x] := hx.get h
    exact Zj5 hd h rfl (Zh9 (r := r) (u := u) (v := a.eval x) (e := e) hrel).1 hrel
theorem ZnC {p : VP} [OneP p] (hd : d < Bs.N) (hx : HasO st x (.one (.val p))) :
    OpX P Bs ⟨some d, .box t x, ty, pos, af, g⟩ st (fun b => St.set { st with X := st.X ++ [cvar b (rW p) ()] } d (.one (.val (PTR b 0)))) :=
  Znh hd (hx.wk wkV)
theorem ZaZ {T : Type} {r : Rep T} {u : T} (hd : d < Bs.N) (hx : HasO st x (.one (.val (A r u)))) :
    OpX P Bs ⟨some d, .box t x, ty, pos, af, g⟩ st (fun b => St.set { st with X := st.X ++ [cvar b r u] } d (.one (.val (PTR b 0)))) :=
  .grows hd fun e a w h => by
    obtain ⟨vs, hv, hrel⟩ : ∃ vs : List Value, a.eval x = .agg vs.toArray ∧ r.rel e u vs := hx.get h
    exact Zj5 hd h hv (by simp [Value.cells]) hrel

theorem Zf8 {b off : Nat} (h : StE Bs st e a w) (hx : HasO st x (.one (.val (PTR b off)))) : a.eval x = .pointer (some ⟨b, off, none⟩) := hx.get h
theorem Zg5 {b off : Nat} {cs vs : List Value} {el : TypeId} {fr : Nat × Nat} {n : Nat} (h : w.heap[b]? = some (.cells cs.toArray el fr)) (hv : vs = (cs.drop off).take n) :
    ∀ j u, vs[j]? = some u → w.cell? ((⟨b, off, none⟩ : Addr).add j) = some u := by
  intro j u hj
  subst hv
  rw [Zcr, Zd7 h]
  by_cases hjn : j < n
  · rwa [List.getElem?_take_of_lt hjn, List.getElem?_drop] at hj
  · rw [List.getElem?_eq_none (by simp; omega)] at hj; cases hj

theorem Zam {T U : Type} {r : Rep T} {v : T} {s : Rep U} {u u' : U} {j b off : Nat} (hd : d < Bs.N) (ht : tyS P t = true) (hx : HasO st x (.one (.val (PTR b off)))) (hX : st.X[j]? = some (cvar b r v)) (hc : Comp r v off s u) (hs : s.sz = 1) (he : u = u') :
    Zao P Bs ⟨some d, .load t x, ty, pos, af, g⟩ st (st.set d (.one (.val (S s u')))) :=
  .value hd fun e a w h => by
    subst he
    have hv := Zf8 h hx
    obtain ⟨cs, el, fr, h1, h2, h3, h4⟩ := h.xs _ (List.mem_of_getElem? hX)
    have hrel := hc e cs h3
    have hl := s.len hrel
    rw [hs] at hrel hl
    obtain ⟨c, hcv⟩ := List.length_eq_one_iff.1 hl
    have hcell := Zg5 (w := w) (off := off) h1 hcv.symm 0 c rfl
    simp only [Zcr, Nat.add_zero] at hcell
    refine ⟨c, ?_, by rw [hcv] at hrel; exact hrel⟩
    simp [execOp, hv, Instr.loadAt, Instr.sureAddr, loadVar, ZhO ht, hcell]
theorem Zao.mono {o : Oper} {d : Nat} {p q : VP} (h : Zao P Bs o st (st.set d (.one (.val p)))) (k : ∀ e v, p.p e v → q.p e v) : Zao P Bs o st (st.set d (.one (.val q))) :=
  fun a w hst K Q hK => h a w hst K Q fun a' w' ⟨e, h'⟩ => hK a' w' ⟨e, h'.nt, h'.df, h'.frz, h'.xs, h'.dj, fun t sv ht => by
    rcases Ze4 (show look ((d, .one (.val q)) :: st.ρ) t = some sv from ht) with ⟨rfl, rfl⟩ | ⟨hne, ht⟩
    · exact k e _ (h'.sl t (.one (.val p)) (ZdT ..))
    · exact h'.sl t sv (by rw [show look (st.set d (.one (.val p))).ρ t = look st.ρ t from Zds _ _ (Ne.symm hne)]; exact ht), h'.base⟩
theorem ZaJ {T : Type} {r : Rep T} {v : T} {p : VP} {j b off : Nat} (hd : d < Bs.N) (ht : tyS P t = true) (hx : HasO st x (.one (.val (PTR b off)))) (hX : st.X[j]? = some (cvar b r v)) (hc : Comp r v off (rW p) ()) :
    Zao P Bs ⟨some d, .load t x, ty, pos, af, g⟩ st (st.set d (.one (.val p))) := (Zam hd ht hx hX hc rfl rfl).mono wkW
theorem ZaB {T U : Type} {r : Rep T} {v : T} {s : Rep U} {u u' : U} {j b off : Nat} (hd : d < Bs.N) (ht : tyA P t s.sz = true) (hx : HasO st x (.one (.val (PTR b off)))) (hX : st.X[j]? = some (cvar b r v)) (hc : Comp r v off s u) (he : u = u') :
    Zao P Bs ⟨some d, .load t x, ty, pos, af, g⟩ st (st.set d (.one (.val (A s u')))) :=
  .value hd fun e a w h => by
    subst he
    have hv := Zf8 h hx
    obtain ⟨cs, el, fr, h1, h2, h3, h4⟩ := h.xs _ (List.mem_of_getElem? hX)
    have hrel := hc e cs h3
    have hl := s.len hrel
    refine ⟨.agg ((cs.drop off).take s.sz).toArray, ?_, _, rfl, hrel⟩
    simp only [execOp, hv, Instr.loadAt, Instr.sureAddr, loadVar, Sem.run_bind, Sem.run_pure, Result.andThen, ZiN ht, if_true, ZgX (Zjg ht)]
    rw [ZdS P hl (Zg5 h1 rfl)]

theorem Zix {T T' U : Type} {r : Rep T} {v : T} {r' : Rep T'} {v' : T'} {s : Rep U} {u : U} {j b off : Nat} (ht : tySz P t s.sz = true) (hx : HasO st x (.one (.val (PTR b off)))) (hX : st.X[j]? = some (cvar b r v)) (hu : UpdR r v off s u r' v')
    {vs : List Value} {val : Value} (hval : val.cells.toList = vs) (h : StE Bs st e a w) (hrel : s.rel e u vs) :
    ∃ w', (Instr.storeAt t (a.eval x) val).run P w = .ok () w' ∧ StE Bs { st with X := st.X.set j (cvar b r' v') } e a w' := by
  have hv := Zf8 h hx
  obtain ⟨cs, el, fr, h1, h2, h3, h4⟩ := h.xs _ (List.mem_of_getElem? hX)
  have hl := s.len hrel
  have hcl := r.len h3
  have hu1 := hu.1
  have hcs : val.cells.size = s.sz := by rw [← Array.length_toList, hval, hl]
  have hlay : (lay cs off vs).length = cs.length := Zdc (by omega)
  have hlt := Zbg h1
  refine ⟨setB w b (lay cs off vs) el fr, ?_, ?_⟩
  · simp only [hv, Instr.storeAt, Instr.sureAddr, storeVar, Sem.run_bind, Sem.run_pure, Result.andThen, ZgX ht, hcs, ne_eq, not_true_eq_false, if_false, hval]
    have := Zfh P vs w b off 0 cs el fr (s.one hrel) h1 (by omega) h2
    simpa using this
  · refine h.turn1 hX (Env.le.refl e) (fun ad v hm => .inl hm) Zgk.setB (fun ad v hm => ?_) ⟨lay cs off vs, el, fr, Zgo hlt, by rw [hlay]; exact h2, hu.2.2 e cs vs h3 hrel, h4⟩ fun c hc => .inl hc
    rw [World.cell?_of_block (Zgs (h4 ad v hm))]
    exact h.frz ad v hm
theorem Zck {T T' U : Type} {r : Rep T} {v : T} {r' : Rep T'} {v' v'' : T'} {s : Rep U} {u : U} {j b off : Nat} (ht : tyS P t = true) (hx : HasO st x (.one (.val (PTR b off)))) (hy : HasO st y (.one (.val (S s u)))) (hX : st.X[j]? = some (cvar b r v)) (hs : s.sz = 1) (hu : UpdR r v off s u r' v') (he : v' = v'') :
    Zao P Bs ⟨none, .store t x y, ty, pos, af, g⟩ st { st with X := st.X.set j (cvar b r' v'') } :=
  .act fun e a w h => by
    subst he
    have hrel : s.rel e u [a.eval y] := hy.get h
    obtain ⟨w', hr, h'⟩ := Zix (by rw [hs]; exact Zkd ht) hx hX hu (Zh9 (r := s) (u := u) (v := a.eval y) (e := e) hrel).1 h hrel
    exact ⟨w', e, by simp [execOp, hr], h'⟩
theorem ZbN {T T' : Type} {r : Rep T} {v : T} {r' : Rep T'} {v' v'' : T'} {p : VP} [OneP p] {j b off : Nat} (ht : tyS P t = true) (hx : HasO st x (.one (.val (PTR b off)))) (hy : HasO st y (.one (.val p))) (hX : st.X[j]? = some (cvar b r v)) (hu : UpdR r v off (rW p) () r' v') (he : v' = v'') :
    Zao P Bs ⟨none, .store t x y, ty, pos, af, g⟩ st { st with X := st.X.set j (cvar b r' v'') } := Zck ht hx (hy.wk wkV) hX rfl hu he
theorem ZaM {T T' U : Type} {r : Rep T} {v : T} {r' : Rep T'} {v' v'' : T'} {s : Rep U} {u : U} {j b off : Nat} (ht : tyA P t s.sz = true) (hx : HasO st x (.one (.val (PTR b off)))) (hy : HasO st y (.one (.val (A s u)))) (hX : st.X[j]? = some (cvar b r v)) (hu : UpdR r v off s u r' v') (he : v' = v'') :
    Zao P Bs ⟨none, .store t x y, ty, pos, af, g⟩ st { st with X := st.X.set j (cvar b r' v'') } :=
  .act fun e a w h => by
    subst he
    obtain ⟨vs, hv, hrel⟩ : ∃ vs : List Value, a.eval y = .agg vs.toArray ∧ s.rel e u vs := hy.get h
    obtain ⟨w', hr, h'⟩ := Zix (Zjg ht) hx hX hu (val := a.eval y) (by rw [hv]; simp [Value.cells]) h hrel
    exact ⟨w', e, by simp [execOp, hr], h'⟩

def tyF (P : Program) (t : TypeId) (f off : Nat) : Bool :=
  match P.underlying t with
  | some (.struct fs) => match fs[f]? with | some fd => fd.offset == off && (match P.info? fd.type with | some i => i.size != 0 | none => false) | none => false
  | _ => false
theorem Zj9 {f off : Nat} (h : tyF P t f off = true) {b o : Nat} : (Instr.fieldAt t (.pointer (some ⟨b, o, none⟩)) f).run P w = .ok (.pointer (some ⟨b, o + off, none⟩)) w := by
  unfold tyF at h
  split at h
  · rename_i fs hfs
    split at h
    · rename_i fd hfd
      simp only [Bool.and_eq_true, beq_iff_eq] at h
      obtain ⟨h1, h2⟩ := h
      split at h2
      · rename_i i hi
        simp only [bne_iff_ne, ne_eq] at h2
        subst h1
        simp [Instr.fieldAt, Instr.sureAddr, run_underlying hfs, hfd, fieldPlace, sizeOf, typeInfo, program, Sem.run, hi, h2, Zcr]
      · cases h2
    · cases h
  · cases h
theorem Zaa {f off b o : Nat} (hd : d < Bs.N) (ht : tyF P t f off = true) (hx : HasO st x (.one (.val (PTR b o)))) : Zao P Bs ⟨some d, .fieldAddr t x f, ty, pos, af, g⟩ st (st.set d (.one (.val (PTR b (o + off))))) :=
  .value hd fun e a w h => by
    have hv := Zf8 h hx
    exact ⟨_, by simp only [execOp, hv, Sem.run_bind, Zj9 ht, Result.andThen, Sem.run_pure], rfl⟩

def tyAr (P : Program) (t : TypeId) (n sz : Nat) : Bool :=
  match P.underlying t with
  | some (.array len el) => len == n && tySz P el sz
  | _ => false
theorem Zko {n sz : Nat} (h : tyAr P t n sz = true) {b o : Nat} {k : IntKind} {i : Int} (h0 : 0 ≤ i) (h1 : i < n) : (Instr.indexAt t (.pointer (some ⟨b, o, none⟩)) (.int k i)).run P w = .ok (.pointer (some ⟨b, o + i.toNat * sz, none⟩)) w := by
  unfold tyAr at h
  split at h
  · rename_i len el hu
    simp only [Bool.and_eq_true, beq_iff_eq] at h
    obtain ⟨rfl, h2⟩ := h
    simp [Instr.indexAt, asIntOf, Instr.sureAddr, run_underlying hu, h0, h1, ZgX h2, Zcr]
  · cases h
theorem ZiX {n sz b o : Nat} {k : IntKind} {i : Int} (hd : d < Bs.N) (ht : tyAr P t n sz = true) (hx : HasO st x (.one (.val (PTR b o)))) (hy : HasO st y (.one (.val (S (rI k) i)))) (h0 : 0 ≤ i) (h1 : i < n) :
    Zao P Bs ⟨some d, .indexAddr t x y, ty, pos, af, g⟩ st (st.set d (.one (.val (PTR b (o + i.toNat * sz))))) :=
  .value hd fun e a w h => by
    have hv := Zf8 h hx
    have hu : a.eval y = .int k i := by have := hy.get h; simpa [SVR, SWR, S, rI] using this
    exact ⟨_, by simp only [execOp, hv, hu, Sem.run_bind, Zko ht h0 h1, Result.andThen, Sem.run_pure], rfl⟩
theorem ZiP {U : Type} [UK U] {n sz b o : Nat} {i : U} (hd : d < Bs.N) (ht : tyAr P t n sz = true) (hx : HasO st x (.one (.val (PTR b o)))) (hy : HasO st y (.one (.val (S (rU U) i)))) (h1 : UN.toN i < n) :
    Zao P Bs ⟨some d, .indexAddr t x y, ty, pos, af, g⟩ st (st.set d (.one (.val (PTR b (o + UN.toN i * sz))))) :=
  .value hd fun e a w h => by
    have hv := Zf8 h hx
    have hu : a.eval y = .int (UK.k U) (UN.toN i) := by have := hy.get h; simpa [SVR, SWR, S, rU] using this
    exact ⟨_, by simp only [execOp, hv, hu, Sem.run_bind, Zko ht (Int.natCast_nonneg _) (by exact_mod_cast h1), Result.andThen, Sem.run_pure, Int.toNat_natCast], rfl⟩

theorem ZhN {b : Bool} {cs vs : List Value} {off : Nat} {v : Value} (ht : tyS P t = true) (h : (cs.drop off).take 1 = [v]) : (part t cs.toArray off).run P w = .ok v w := by
  have hv : cs[off]? = some v := by
    have : ((cs.drop off).take 1)[0]? = some v := by rw [h]; rfl
    rwa [List.getElem?_take_of_lt (by omega), List.getElem?_drop] at this
  simp [part, ZhO ht, hv]
theorem Zn6 {cs : List Value} {off n : Nat} (ht : tyA P t n = true) : (part t cs.toArray off).run P w = .ok (.agg ((cs.drop off).take n).toArray) w := by
  simp [part, ZiN ht, ZgX (Zjg ht), List.drop_take]
theorem ZkW {T U : Type} {r : Rep T} {v : T} {s : Rep U} {u : U} {f off : Nat} {fs : Array Field} {fd : Field} (hd : d < Bs.N) (hu : P.underlying t = some (.struct fs)) (hf : fs[f]? = some fd) (hoff : fd.offset = off) (ht : tyS P fd.type = true)
    (hx : HasO st x (.one (.val (A r v)))) (hc : Comp r v off s u) (hs : s.sz = 1) : Zao P Bs ⟨some d, .field t x f, ty, pos, af, g⟩ st (st.set d (.one (.val (S s u)))) :=
  .value hd fun e a w h => by
    obtain ⟨vs, hv, hr⟩ : ∃ vs : List Value, a.eval x = .agg vs.toArray ∧ r.rel e v vs := hx.get h
    have hrel := hc e vs hr
    rw [hs] at hrel
    obtain ⟨c, hcv⟩ := List.length_eq_one_iff.1 (by have := s.len hrel; rw [hs] at this; exact this)
    subst hoff
    refine ⟨c, ?_, by rw [hcv] at hrel; exact hrel⟩
    simp only [execOp, hv, Instr.field, Sem.run_bind, run_underlying hu, Result.andThen, hf, asAgg, Sem.run_pure]
    rw [ZhN (b := true) (vs := []) ht hcv]
theorem ZlJ {n sz : Nat} {el : TypeId} {cs : List Value} {k : IntKind} {i : Int} {v : Value} (hu : P.underlying t = some (.array n el)) (hsz : tySz P el sz = true) (h0 : 0 ≤ i) (h1 : i < n) (hp : (part el cs.toArray (i.toNat * sz)).run P w = .ok v w) :
    (Instr.index t (.agg cs.toArray) (.int k i)).run P w = .ok v w := by
  simp [Instr.index, asIntOf, run_underlying hu, h0, h1, ZgX hsz, hp]
theorem ZlH {T : Type} {r : Rep T} {n : Nat} {v : Vector T n} {k : IntKind} {i : Int} {el : TypeId} {u : T} (hd : d < Bs.N) (hu : P.underlying t = some (.array n el)) (ht : tyS P el = true) (hs : r.sz = 1)
    (hx : HasO st x (.one (.val (A (rV n r) v)))) (hy : HasO st y (.one (.val (S (rI k) i)))) (h0 : 0 ≤ i) (h1 : i.toNat < n) (hr : v[i.toNat] = u) : Zao P Bs ⟨some d, .index t x y, ty, pos, af, g⟩ st (st.set d (.one (.val (S r u)))) :=
  .value hd fun e a w h => by
    obtain ⟨vs, hv, hrel⟩ : ∃ vs : List Value, a.eval x = .agg vs.toArray ∧ (rV n r).rel e v vs := hx.get h
    have hi : a.eval y = .int k i := by have := hy.get h; simpa [SVR, SWR, S, rI] using this
    have h2 := hrel.2.2 i.toNat h1
    have h3 := r.len h2
    rw [hs] at h3
    obtain ⟨c, hcv⟩ := List.length_eq_one_iff.1 h3
    rw [hs] at h2
    rw [hcv, hr] at h2
    refine ⟨c, ?_, h2⟩
    simp only [execOp, hv, hi, Sem.run_bind]
    rw [ZlJ hu (Zkd ht) h0 (by omega) (ZhN (b := true) (vs := []) ht hcv)]
    rfl
def tyFd (P : Program) (t : TypeId) (f off : Nat) (k : TypeId → Bool) : Bool :=
  match P.underlying t with
  | some (.struct fs) => match fs[f]? with | some fd => fd.offset == off && k fd.type | none => false
  | _ => false
theorem Zk3 {f off : Nat} {k : TypeId → Bool} (h : tyFd P t f off k = true) : ∃ fs fd, P.underlying t = some (.struct fs) ∧ fs[f]? = some fd ∧ fd.offset = off ∧ k fd.type = true := by
  unfold tyFd at h
  split at h
  · rename_i fs hfs
    split at h
    · rename_i fd hfd
      simp only [Bool.and_eq_true, beq_iff_eq] at h
      exact ⟨fs, fd, hfs, hfd, h.1, h.2⟩
    · cases h
  · cases h
theorem ZkI {T U : Type} {r : Rep T} {v : T} {s : Rep U} {u u' : U} {f off : Nat} (hd : d < Bs.N) (ht : tyFd P t f off (tyS P) = true)
    (hx : HasO st x (.one (.val (A r v)))) (hc : Comp r v off s u) (hs : s.sz = 1) (he : u = u') : Zao P Bs ⟨some d, .field t x f, ty, pos, af, g⟩ st (st.set d (.one (.val (S s u')))) := by
  obtain ⟨fs, fd, h1, h2, h3, h4⟩ := Zk3 ht
  subst he
  exact ZkW hd h1 h2 h3 h4 hx hc hs
end
end Go.Proofs.YtklnihlchhhhlaaGreat.Fw
