/- Operations on variables in memory, fields, elements. -/
import Derived.Test.YtipchpbcjkhnaaaFd
namespace Go.Proofs.Ytipchpbcjkhnaaa.Fw
open Go Go.RowKit
set_option linter.unusedVariables false
set_option linter.unusedSimpArgs false

class OneP (p : VP) : Prop where
  one : ∀ e v, p.p e v → one1 v = true
instance (b off : Nat) : OneP (PTR b off) := ⟨fun _ _ h => by subst h; rfl⟩
instance (ob : Option Nat) : OneP (PTO ob) := ⟨fun _ _ h => by subst h; rfl⟩
instance (ob : Option Nat) (off n c : Nat) : OneP (HDR ob off n c) := ⟨fun _ _ h => by subst h; rfl⟩
instance (ob : Option Nat) : OneP (MPV ob) := ⟨fun _ _ h => by subst h; rfl⟩
instance (f : FuncId) (ps : List VP) : OneP (CLO f ps) := ⟨fun _ _ ⟨_, h, _⟩ => by subst h; rfl⟩
instance : OneP NILF := ⟨fun _ _ h => by subst h; rfl⟩
instance (l : Nat) : OneP (YLD l) := ⟨fun _ _ h => by subst h; rfl⟩
theorem Zka {p : VP} [OneP p] {e : Env} {v : Value} : (rW p).rel e () [v] ↔ p.p e v := ⟨fun ⟨u, h, k, _⟩ => by cases h; exact k, fun h => ⟨v, rfl, h, OneP.one e v h⟩⟩
theorem wkW {p : VP} : ∀ e v, (S (rW p) ()).p e v → p.p e v := fun e v ⟨u, h, k, _⟩ => by cases h; exact k
theorem wkV {p : VP} [OneP p] : ∀ e v, p.p e v → (S (rW p) ()).p e v := fun e v h => Zka.2 h

section
variable {P : Program} {Bs : Base} {st st' : St} {d : Nat} {ty t t' : TypeId} {pos : String} {af : Array Edge} {g : Option (Nat × Bool)} {x y z : Operand}
variable {e : Env} {a : Act} {w : World}

theorem ZeP (n : Nat) : Zfb n (0, 0) := .inl rfl
theorem ZfL {T : Type} {r : Rep T} {u : T} {v : Value} (h : (S r u).p e v) : v.cells.toList = [v] ∧ r.rel e u [v] := by
  have hone := r.one h v (by simp)
  refine ⟨?_, h⟩
  cases v <;> simp [one1] at hone <;> simp [Value.cells]
theorem StE.newE {w' : World} (h : StE Bs st e a w) (hk : Kept w w') {c : ZaQ} (hc : c.R e w') (hf : ∀ b, c.foot b → w.heap.size ≤ b) : StE Bs { st with X := st.X ++ [c] } e a w' :=
  ((h.keep hk).new hc hk.size h hf).perm (List.perm_append_comm (l₁ := [c]) (l₂ := st.X))

theorem Zcd {T : Type} {r : Rep T} {x0 : T} {zv : Value} (hd : d < Bs.N) (hz : tyZ P t zv) (hr : Zr r x0 zv.cells.toList) :
    OpX P Bs ⟨some d, .alloc t, ty, pos, af, g⟩ st (fun b => St.set { st with X := st.X ++ [cvar b r x0] } d (.one (.val (PTR b 0)))) :=
  .grows hd fun e a w h => by
    have hk := Kept.push w (.cells zv.cells t)
    refine ⟨.pointer (some ⟨w.heap.size, 0, none⟩), { w with heap := w.heap.push (.cells zv.cells t) }, e, w.heap.size, ?_, ?_, rfl⟩
    · simp [execOp, Instr.alloc, ZiG hz, newVar, newRow, newObj, Sem.run]
    · exact h.newE hk ⟨zv.cells.toList, t, (0, 0), by simp, ZeP _, hr e, fun ad v hm => by have := Zfo h hm; omega⟩ fun b hb => by rw [show b = w.heap.size from hb]; exact Nat.le_refl _
theorem ZhU {T : Type} {r : Rep T} {u : T} {val : Value} {vs : List Value} (hd : d < Bs.N) (h : StE Bs st e a w) (hv : a.eval x = val) (hc : val.cells.toList = vs) (hr : r.rel e u vs) :
    ∃ v w' e' b, (execOp a.eval ⟨some d, .box t x, ty, pos, af, g⟩).run P w = .ok (.value v) w' ∧ StE Bs { st with X := st.X ++ [cvar b r u] } e' a w' ∧ SVR e' (.one (.val (PTR b 0))) v := by
  have hk := Kept.push w (.cells val.cells t)
  refine ⟨.pointer (some ⟨w.heap.size, 0, none⟩), { w with heap := w.heap.push (.cells val.cells t) }, e, w.heap.size, ?_, ?_, rfl⟩
  · simp [execOp, Instr.box, newVar, newRow, newObj, Sem.run, hv]
  · exact h.newE hk ⟨val.cells.toList, t, (0, 0), by simp, ZeP _, by rw [hc]; exact hr, fun ad v hm => by have := Zfo h hm; omega⟩ fun b hb => by rw [show b = w.heap.size from hb]; exact Nat.le_refl _
theorem ZdT {T : Type} {r : Rep T} {u : T} (hd : d < Bs.N) (hx : HasO st x (.one (.val (S r u)))) :
    OpX P Bs ⟨some d, .box t x, ty, pos, af, g⟩ st (fun b => St.set { st with X := st.X ++ [cvar b r u] } d (.one (.val (PTR b 0)))) :=
  .grows hd fun e a w h => by
    have hrel : r.rel e u [a.eval x] := hx.get h
    exact ZhU hd h rfl (ZfL (r := r) (u := u) (v := a.eval x) (e := e) hrel).1 hrel
theorem Zd6 {p : VP} [OneP p] (hd : d < Bs.N) (hx : HasO st x (.one (.val p))) :
    OpX P Bs ⟨some d, .box t x, ty, pos, af, g⟩ st (fun b => St.set { st with X := st.X ++ [cvar b (rW p) ()] } d (.one (.val (PTR b 0)))) :=
  ZdT hd (hx.wk wkV)
theorem Zd4 {T : Type} {r : Rep T} {u : T} (hd : d < Bs.N) (hx : HasO st x (.one (.val (A r u)))) :
    OpX P Bs ⟨some d, .box t x, ty, pos, af, g⟩ st (fun b => St.set { st with X := st.X ++ [cvar b r u] } d (.one (.val (PTR b 0)))) :=
  .grows hd fun e a w h => by
    obtain ⟨vs, hv, hrel⟩ : ∃ vs : List Value, a.eval x = .agg vs.toArray ∧ r.rel e u vs := hx.get h
    exact ZhU hd h hv (by simp [Value.cells]) hrel

theorem Zfv {b off : Nat} (h : StE Bs st e a w) (hx : HasO st x (.one (.val (PTR b off)))) : a.eval x = .pointer (some ⟨b, off, none⟩) := hx.get h
theorem Zez {b off : Nat} {cs vs : List Value} {el : TypeId} {fr : Nat × Nat} {n : Nat} (h : w.heap[b]? = some (.cells cs.toArray el fr)) (hv : vs = (cs.drop off).take n) :
    ∀ j u, vs[j]? = some u → w.cell? ((⟨b, off, none⟩ : Addr).add j) = some u := by
  intro j u hj
  subst hv
  rw [Zcw, Zds h]
  by_cases hjn : j < n
  · rwa [List.getElem?_take_of_lt hjn, List.getElem?_drop] at hj
  · rw [List.getElem?_eq_none (by simp; omega)] at hj; cases hj

theorem Zam {T U : Type} {r : Rep T} {v : T} {s : Rep U} {u u' : U} {j b off : Nat} (hd : d < Bs.N) (ht : tyS P t = true) (hx : HasO st x (.one (.val (PTR b off)))) (hX : st.X[j]? = some (cvar b r v)) (hc : Comp r v off s u) (hs : s.sz = 1) (he : u = u') :
    Zag P Bs ⟨some d, .load t x, ty, pos, af, g⟩ st (st.set d (.one (.val (S s u')))) :=
  .value hd fun e a w h => by
    subst he
    have hv := Zfv h hx
    obtain ⟨cs, el, fr, h1, h2, h3, h4⟩ := h.xs _ (List.mem_of_getElem? hX)
    have hrel := hc e cs h3
    have hl := s.len hrel
    rw [hs] at hrel hl
    obtain ⟨c, hcv⟩ := List.length_eq_one_iff.1 hl
    have hcell := Zez (w := w) (off := off) h1 hcv.symm 0 c rfl
    simp only [Zcw, Nat.add_zero] at hcell
    refine ⟨c, ?_, by rw [hcv] at hrel; exact hrel⟩
    simp [execOp, hv, Instr.loadAt, Instr.sureAddr, loadVar, ZfS ht, hcell]
theorem Zag.mono {o : Oper} {d : Nat} {p q : VP} (h : Zag P Bs o st (st.set d (.one (.val p)))) (k : ∀ e v, p.p e v → q.p e v) : Zag P Bs o st (st.set d (.one (.val q))) :=
  fun a w hst K Q hK => h a w hst K Q fun a' w' ⟨e, h'⟩ => hK a' w' ⟨e, h'.nt, h'.df, h'.frz, h'.xs, h'.dj, fun t sv ht => by
    rcases ZdW (show look ((d, .one (.val q)) :: st.ρ) t = some sv from ht) with ⟨rfl, rfl⟩ | ⟨hne, ht⟩
    · exact k e _ (h'.sl t (.one (.val p)) (ZbO ..))
    · exact h'.sl t sv (by rw [show look (st.set d (.one (.val p))).ρ t = look st.ρ t from ZbM _ _ (Ne.symm hne)]; exact ht), h'.base⟩
theorem Zal {T : Type} {r : Rep T} {v : T} {p : VP} {j b off : Nat} (hd : d < Bs.N) (ht : tyS P t = true) (hx : HasO st x (.one (.val (PTR b off)))) (hX : st.X[j]? = some (cvar b r v)) (hc : Comp r v off (rW p) ()) :
    Zag P Bs ⟨some d, .load t x, ty, pos, af, g⟩ st (st.set d (.one (.val p))) := (Zam hd ht hx hX hc rfl rfl).mono wkW
theorem Zfy {T U : Type} {r : Rep T} {v : T} {s : Rep U} {u u' : U} {j b off : Nat} (hd : d < Bs.N) (ht : tyA P t s.sz = true) (hx : HasO st x (.one (.val (PTR b off)))) (hX : st.X[j]? = some (cvar b r v)) (hc : Comp r v off s u) (he : u = u') :
    Zag P Bs ⟨some d, .load t x, ty, pos, af, g⟩ st (st.set d (.one (.val (A s u')))) :=
  .value hd fun e a w h => by
    subst he
    have hv := Zfv h hx
    obtain ⟨cs, el, fr, h1, h2, h3, h4⟩ := h.xs _ (List.mem_of_getElem? hX)
    have hrel := hc e cs h3
    have hl := s.len hrel
    refine ⟨.agg ((cs.drop off).take s.sz).toArray, ?_, _, rfl, hrel⟩
    simp only [execOp, hv, Instr.loadAt, Instr.sureAddr, loadVar, Sem.run_bind, Sem.run_pure, Result.andThen, ZgK ht, if_true, Zf8 (Zhh ht)]
    rw [ZcM P hl (Zez h1 rfl)]

theorem Zgk {T T' U : Type} {r : Rep T} {v : T} {r' : Rep T'} {v' : T'} {s : Rep U} {u : U} {j b off : Nat} (ht : tySz P t s.sz = true) (hx : HasO st x (.one (.val (PTR b off)))) (hX : st.X[j]? = some (cvar b r v)) (hu : UpdR r v off s u r' v')
    {vs : List Value} {val : Value} (hval : val.cells.toList = vs) (h : StE Bs st e a w) (hrel : s.rel e u vs) :
    ∃ w', (Instr.storeAt t (a.eval x) val).run P w = .ok () w' ∧ StE Bs { st with X := st.X.set j (cvar b r' v') } e a w' := by
  have hv := Zfv h hx
  obtain ⟨cs, el, fr, h1, h2, h3, h4⟩ := h.xs _ (List.mem_of_getElem? hX)
  have hl := s.len hrel
  have hcl := r.len h3
  have hu1 := hu.1
  have hcs : val.cells.size = s.sz := by rw [← Array.length_toList, hval, hl]
  have hlay : (lay cs off vs).length = cs.length := Zdq (by omega)
  have hlt := Zba h1
  refine ⟨setB w b (lay cs off vs) el fr, ?_, ?_⟩
  · simp only [hv, Instr.storeAt, Instr.sureAddr, storeVar, Sem.run_bind, Sem.run_pure, Result.andThen, Zf8 ht, hcs, ne_eq, not_true_eq_false, if_false, hval]
    have := Ze4 P vs w b off 0 cs el fr (s.one hrel) h1 (by omega) h2
    simpa using this
  · refine h.turn1 hX (Env.le.refl e) (fun ad v hm => .inl hm) ZeZ.setB (fun ad v hm => ?_) ⟨lay cs off vs, el, fr, ZeD hlt, by rw [hlay]; exact h2, hu.2.2 e cs vs h3 hrel, h4⟩ fun c hc => .inl hc
    rw [World.cell?_of_block (Zew (h4 ad v hm))]
    exact h.frz ad v hm
theorem ZaL {T T' U : Type} {r : Rep T} {v : T} {r' : Rep T'} {v' v'' : T'} {s : Rep U} {u : U} {j b off : Nat} (ht : tyS P t = true) (hx : HasO st x (.one (.val (PTR b off)))) (hy : HasO st y (.one (.val (S s u)))) (hX : st.X[j]? = some (cvar b r v)) (hs : s.sz = 1) (hu : UpdR r v off s u r' v') (he : v' = v'') :
    Zag P Bs ⟨none, .store t x y, ty, pos, af, g⟩ st { st with X := st.X.set j (cvar b r' v'') } :=
  .act fun e a w h => by
    subst he
    have hrel : s.rel e u [a.eval y] := hy.get h
    obtain ⟨w', hr, h'⟩ := Zgk (by rw [hs]; exact Zj5 ht) hx hX hu (ZfL (r := s) (u := u) (v := a.eval y) (e := e) hrel).1 h hrel
    exact ⟨w', e, by simp [execOp, hr], h'⟩
theorem Zb4 {T T' : Type} {r : Rep T} {v : T} {r' : Rep T'} {v' v'' : T'} {p : VP} [OneP p] {j b off : Nat} (ht : tyS P t = true) (hx : HasO st x (.one (.val (PTR b off)))) (hy : HasO st y (.one (.val p))) (hX : st.X[j]? = some (cvar b r v)) (hu : UpdR r v off (rW p) () r' v') (he : v' = v'') :
    Zag P Bs ⟨none, .store t x y, ty, pos, af, g⟩ st { st with X := st.X.set j (cvar b r' v'') } := ZaL ht hx (hy.wk wkV) hX rfl hu he
theorem Zfe {T T' U : Type} {r : Rep T} {v : T} {r' : Rep T'} {v' v'' : T'} {s : Rep U} {u : U} {j b off : Nat} (ht : tyA P t s.sz = true) (hx : HasO st x (.one (.val (PTR b off)))) (hy : HasO st y (.one (.val (A s u)))) (hX : st.X[j]? = some (cvar b r v)) (hu : UpdR r v off s u r' v') (he : v' = v'') :
    Zag P Bs ⟨none, .store t x y, ty, pos, af, g⟩ st { st with X := st.X.set j (cvar b r' v'') } :=
  .act fun e a w h => by
    subst he
    obtain ⟨vs, hv, hrel⟩ : ∃ vs : List Value, a.eval y = .agg vs.toArray ∧ s.rel e u vs := hy.get h
    obtain ⟨w', hr, h'⟩ := Zgk (Zhh ht) hx hX hu (val := a.eval y) (by rw [hv]; simp [Value.cells]) h hrel
    exact ⟨w', e, by simp [execOp, hr], h'⟩

def tyF (P : Program) (t : TypeId) (f off : Nat) : Bool :=
  match P.underlying t with
  | some (.struct fs) => match fs[f]? with | some fd => fd.offset == off && (match P.info? fd.type with | some i => i.size != 0 | none => false) | none => false
  | _ => false
theorem ZgO {f off : Nat} (h : tyF P t f off = true) {b o : Nat} : (Instr.fieldAt t (.pointer (some ⟨b, o, none⟩)) f).run P w = .ok (.pointer (some ⟨b, o + off, none⟩)) w := by
  unfold tyF at h
  split at h
  · rename_i fs hfs
    split at h
    · rename_i fd hfd
      simp only [Bool.and_eq_true, beq_iff_eq] at h
      obtain ⟨h1, h2⟩ := h
      split at h2
      · rename_i i hi
        simp only [bne_iff_ne, ne_eq] at h2
        subst h1
        simp [Instr.fieldAt, Instr.sureAddr, run_underlying hfs, hfd, fieldPlace, sizeOf, typeInfo, program, Sem.run, hi, h2, Zcw]
      · cases h2
    · cases h
  · cases h
theorem Zad {f off b o : Nat} (hd : d < Bs.N) (ht : tyF P t f off = true) (hx : HasO st x (.one (.val (PTR b o)))) : Zag P Bs ⟨some d, .fieldAddr t x f, ty, pos, af, g⟩ st (st.set d (.one (.val (PTR b (o + off))))) :=
  .value hd fun e a w h => by
    have hv := Zfv h hx
    exact ⟨_, by simp only [execOp, hv, Sem.run_bind, ZgO ht, Result.andThen, Sem.run_pure], rfl⟩

theorem ZkY {b : Bool} {cs vs : List Value} {off : Nat} {v : Value} (ht : tyS P t = true) (h : (cs.drop off).take 1 = [v]) : (part t cs.toArray off).run P w = .ok v w := by
  have hv : cs[off]? = some v := by
    have : ((cs.drop off).take 1)[0]? = some v := by rw [h]; rfl
    rwa [List.getElem?_take_of_lt (by omega), List.getElem?_drop] at this
  simp [part, ZfS ht, hv]
theorem ZhN {s : List UInt8} {k : IntKind} {i : Int} {u : UInt8} (hd : d < Bs.N) (hu : P.underlying t = some .string) (hx : HasO st x (.one (.val (S rS s)))) (hy : HasO st y (.one (.val (S (rI k) i)))) (h0 : 0 ≤ i) (h1 : i.toNat < s.length) (hr : s[i.toNat] = u) :
    Zag P Bs ⟨some d, .index t x y, ty, pos, af, g⟩ st (st.set d (.one (.val (S (rU UInt8) u)))) :=
  .value hd fun e a w h => by
    have hv : a.eval x = .string (bs s) := by have := hx.get h; simpa [SVR, SWR, S, rS] using this
    have hi : a.eval y = .int k i := by have := hy.get h; simpa [SVR, SWR, S, rI] using this
    have hsz : (bs s).size = s.length := ZfJ s
    refine ⟨.int .u8 u.toNat, ?_, rfl⟩
    have hb : (bs s)[i.toNat]? = some u := by
      rw [getElem?_pos (bs s) i.toNat (by rw [hsz]; exact h1)]
      subst hr
      simp [bs, ByteArray.getElem_eq_getElem_data]
    simp [execOp, hv, hi, Instr.index, asIntOf, run_underlying hu, h0, hb]
end
end Go.Proofs.Ytipchpbcjkhnaaa.Fw
