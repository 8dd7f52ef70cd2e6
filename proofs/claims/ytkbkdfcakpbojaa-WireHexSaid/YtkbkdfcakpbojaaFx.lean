/- Pieces of memory whose variables' type is told as well: strings.Builder and its bytes. -/
import Derived.Test.YtkbkdfcakpbojaaFw
import Derived.Lib.UnsafeStr
import Derived.Lib.Builder
namespace Go.Proofs.Ytkbkdfcakpbojaa.Fw
open Go Go.RowKit
set_option linter.unusedVariables false
set_option linter.unusedSimpArgs false

/-- A nil interface. -/
def NILI : VP := ⟨fun _ v => v = .nilIface, fun _ h => h⟩
instance : OneP NILI := ⟨fun _ _ h => by subst h; rfl⟩
/-- A pointer that is nil, or to a block's first cell. -/
def PN (b : Nat) : VP := ⟨fun _ v => v = .pointer none ∨ v = .pointer (some ⟨b, 0, none⟩), fun _ h => h⟩
instance (b : Nat) : OneP (PN b) := ⟨fun _ _ h => by rcases h with h | h <;> (subst h; rfl)⟩
/-- Where a row's elements begin, as far as it has room. -/
def SDP (ob : Option Nat) (c : Nat) : VP := ⟨fun _ v => ∃ q : Option Addr, v = .pointer q ∧ (c ≠ 0 → q = ob.map fun b => ⟨b, 0, none⟩), fun _ h => h⟩
theorem Wk.pn0 {K : Env → Prop} {b : Nat} : Wk K (rW (PTO none)) () (rW (PN b)) () := fun e vs _ ⟨v, h, k, h1⟩ => ⟨v, h, .inl k, h1⟩
theorem Wk.pn1 {K : Env → Prop} {b : Nat} : Wk K (rW (PTR b 0)) () (rW (PN b)) () := fun e vs _ ⟨v, h, k, h1⟩ => ⟨v, h, .inr k, h1⟩

/-- A variable in memory, of this type. -/
def cvarT (t : TypeId) (b : Nat) {T : Type} (r : Rep T) (x : T) : Chunk where
  foot c := c = b
  R e w := ∃ (cs : List Value) (fr : Nat × Nat), w.heap[b]? = some (.cells cs.toArray t fr) ∧ Thawed cs.length fr ∧ r.rel e x cs ∧ ∀ ad v, e.mu ad = some v → ad.block ≠ b
  lt := fun ⟨cs, fr, h, _⟩ c hc => by subst hc; exact lt_of_block h
  kept := fun ⟨cs, fr, h1, h2, h3, h4⟩ he hmu hk => ⟨cs, fr, (hk b rfl).trans h1, h2, r.mono he h3, fun ad v hm hb => h4 ad v (hmu ad v hm hb) hb⟩
/-- A row whose elements are of this type. -/
def cownT (t : TypeId) (ob : Option Nat) {T : Type} (r : Rep T) (xs : List T) (fz cap : Nat) : Chunk where
  foot c := ob = some c
  R e w := (ob = none ∧ xs = [] ∧ fz = 0 ∧ cap = 0) ∨ ∃ (b : Nat) (cs : List Value) (fr : Nat × Nat), ob = some b ∧ w.heap[b]? = some (.cells cs.toArray t fr) ∧ Thawed cs.length fr ∧ xs.length ≤ cap ∧ cap * r.sz ≤ cs.length ∧
      (∀ i (h : i < xs.length), r.rel e xs[i] ((cs.drop (i * r.sz)).take r.sz)) ∧ (∀ ad v, e.mu ad = some v → ad.block = b → ad.off < fz * r.sz) ∧ fz ≤ xs.length ∧ Mu e b 0 (cs.take (fz * r.sz))
  lt := fun h c hc => by
    rcases h with ⟨h, _⟩ | ⟨b, cs, fr, hb, h, _⟩
    · rw [h] at hc; cases hc
    · rw [hb] at hc; cases hc; exact lt_of_block h
  kept := fun h he hmu hk => by
    rcases h with h | ⟨b, cs, fr, hb, h1, h2, h0, h3, h4, h5, h6, h7⟩
    · exact .inl h
    · exact .inr ⟨b, cs, fr, hb, (hk b hb).trans h1, h2, h0, h3, fun i hi => r.mono he (h4 i hi), fun ad v hm hbl => h5 ad v (hmu ad v hm (by rw [hbl]; exact hb)) hbl, h6, h7.mono he⟩

section
variable {P : Program} {Bs : Base} {st st' : St} {d : Nat} {ty t t' el : TypeId} {pos : String} {af : Array Edge} {g : Option (Nat × Bool)} {x y z : Operand} {Q : Exit → Act → World → Prop} {l : List Oper} {ops : Array Oper}
variable {e : Env} {a : Act} {w : World}
theorem op_allocT {T : Type} {r : Rep T} {x0 : T} {zv : Value} (hd : d < Bs.N) (hz : tyZ P t zv) (hr : Zr r x0 zv.cells.toList) :
    OpX P Bs ⟨some d, .alloc t, ty, pos, af, g⟩ st (fun b => St.set { st with X := st.X ++ [cvarT t b r x0] } d (.one (.val (PTR b 0)))) :=
  .grows hd fun e a w h => by
    have hk := Kept.push w (.cells zv.cells t)
    refine ⟨.pointer (some ⟨w.heap.size, 0, none⟩), { w with heap := w.heap.push (.cells zv.cells t) }, e, w.heap.size, ?_, ?_, rfl⟩
    · simp [execOp, Instr.alloc, rZero hz, newVar, newRow, newObj, Sem.run]
    · exact h.newE hk ⟨zv.cells.toList, (0, 0), by simp, thawed00 _, hr e, fun ad v hm => by have := mu_lt h hm; omega⟩ fun b hb => by rw [show b = w.heap.size from hb]; exact Nat.le_refl _
theorem op_loadST {T U : Type} {r : Rep T} {v : T} {s : Rep U} {u u' : U} {tv : TypeId} {j b off : Nat} (hd : d < Bs.N) (ht : tyS P t = true) (hx : HasO st x (.one (.val (PTR b off)))) (hX : st.X[j]? = some (cvarT tv b r v)) (hc : Comp r v off s u) (hs : s.sz = 1) (he : u = u') :
    OpStep P Bs ⟨some d, .load t x, ty, pos, af, g⟩ st (st.set d (.one (.val (S s u')))) :=
  .value hd fun e a w h => by
    subst he
    have hv := eval_ptr h hx
    obtain ⟨cs, fr, h1, h2, h3, h4⟩ := h.xs _ (List.mem_of_getElem? hX)
    have hrel := hc e cs h3
    have hl := s.len hrel
    rw [hs] at hrel hl
    obtain ⟨c, hcv⟩ := List.length_eq_one_iff.1 hl
    have hcell := part_at (w := w) (off := off) h1 hcv.symm 0 c rfl
    simp only [add_none, Nat.add_zero] at hcell
    refine ⟨c, ?_, by rw [hcv] at hrel; exact hrel⟩
    simp [execOp, hv, Instr.loadAt, Instr.sureAddr, loadVar, rIsAggS ht, hcell]
theorem op_loadWT {T : Type} {r : Rep T} {v : T} {p : VP} {tv : TypeId} {j b off : Nat} (hd : d < Bs.N) (ht : tyS P t = true) (hx : HasO st x (.one (.val (PTR b off)))) (hX : st.X[j]? = some (cvarT tv b r v)) (hc : Comp r v off (rW p) ()) :
    OpStep P Bs ⟨some d, .load t x, ty, pos, af, g⟩ st (st.set d (.one (.val p))) := (op_loadST hd ht hx hX hc rfl rfl).mono wkW
theorem op_storeST {T T' U : Type} {r : Rep T} {v : T} {r' : Rep T'} {v' v'' : T'} {s : Rep U} {u : U} {tv : TypeId} {j b off : Nat} (ht : tyS P t = true) (hx : HasO st x (.one (.val (PTR b off)))) (hy : HasO st y (.one (.val (S s u)))) (hX : st.X[j]? = some (cvarT tv b r v)) (hs : s.sz = 1) (hu : UpdR r v off s u r' v') (he : v' = v'') :
    OpStep P Bs ⟨none, .store t x y, ty, pos, af, g⟩ st { st with X := st.X.set j (cvarT tv b r' v'') } :=
  .act fun e a w h => by
    subst he
    have hrel : s.rel e u [a.eval y] := hy.get h
    have hval := (cells_S (r := s) (u := u) (v := a.eval y) (e := e) hrel).1
    have hv := eval_ptr h hx
    obtain ⟨cs, fr, h1, h2, h3, h4⟩ := h.xs _ (List.mem_of_getElem? hX)
    have hl := s.len hrel
    have hcl := r.len h3
    have hu1 := hu.1
    have hcs : (a.eval y).cells.size = s.sz := by rw [← Array.length_toList, hval, hl]
    have hlay : (lay cs off [a.eval y]).length = cs.length := lay_length (by omega)
    have hlt := lt_of_block h1
    refine ⟨setB w b (lay cs off [a.eval y]) tv fr, e, ?_, ?_⟩
    · have ht' : tySz P t s.sz = true := by rw [hs]; exact tyS_sz ht
      have := rstoreCells P [a.eval y] w b off 0 cs tv fr (s.one hrel) h1 (by omega) h2
      have h5 : (Instr.storeAt t (a.eval x) (a.eval y)).run P w = .ok () (setB w b (lay cs off [a.eval y]) tv fr) := by
        simp only [hv, Instr.storeAt, Instr.sureAddr, storeVar, Sem.run_bind, Sem.run_pure, Result.andThen, rSize ht', hcs, ne_eq, not_true_eq_false, if_false, hval]
        simpa using this
      simp [execOp, h5]
    · refine h.turn1 hX (Env.le.refl e) (fun ad v hm => .inl hm) KeptX.setB (fun ad v hm => ?_) ⟨lay cs off [a.eval y], fr, setB_at hlt, by rw [hlay]; exact h2, hu.2.2 e cs _ h3 hrel, h4⟩ fun c hc => .inl hc
      rw [World.cell?_of_block (setB_ne (h4 ad v hm))]
      exact h.frz ad v hm
theorem op_storeWT {T T' : Type} {r : Rep T} {v : T} {r' : Rep T'} {v' v'' : T'} {p : VP} [OneP p] {tv : TypeId} {j b off : Nat} (ht : tyS P t = true) (hx : HasO st x (.one (.val (PTR b off)))) (hy : HasO st y (.one (.val p))) (hX : st.X[j]? = some (cvarT tv b r v)) (hu : UpdR r v off (rW p) () r' v') (he : v' = v'') :
    OpStep P Bs ⟨none, .store t x y, ty, pos, af, g⟩ st { st with X := st.X.set j (cvarT tv b r' v'') } := op_storeST ht hx (hy.wk wkV) hX rfl hu he
theorem Imp.varT {T U : Type} {tv : TypeId} {j b : Nat} {r : Rep T} {x : T} {q : Rep U} {y : U} (hX : st.X[j]? = some (cvarT tv b r x)) (k : Wk KT r x q y) : Imp Bs st { st with X := st.X.set j (cvarT tv b q y) } :=
  Imp.chunk hX (fun e w ⟨cs, fr, h1, h2, h3, h4⟩ => ⟨cs, fr, h1, h2, k e cs trivial h3, h4⟩) fun _ h => h
/-- Has the builder been written to? -/
theorem JL.self {T : Type} {r : Rep T} {v : T} {tv : TypeId} {j b : Nat} (hX : st.X[j]? = some (cvarT tv b (rP (rW (PN b)) r) ((), v)))
    (h0 : JL P Bs ops l { st with X := st.X.set j (cvarT tv b (rP (rW (PTO none)) r) ((), v)) } Q) (h1 : JL P Bs ops l { st with X := st.X.set j (cvarT tv b (rP (rW (PTR b 0)) r) ((), v)) } Q) : JL P Bs ops l st Q := by
  intro a w ⟨e, h⟩
  obtain ⟨cs, fr, k1, k2, ⟨x, y, hxy, ⟨u, hu, hp, ho⟩, hb⟩, k4⟩ := h.xs _ (List.mem_of_getElem? hX)
  rcases hp with hp | hp
  · exact h0 a w ⟨e, h.turn1 hX (Env.le.refl e) (fun ad v hm => .inl hm) ((Kept.refl w).x _) h.frz ⟨cs, fr, k1, k2, ⟨x, y, hxy, ⟨u, hu, hp, ho⟩, hb⟩, k4⟩ fun b hb => .inl hb⟩
  · exact h1 a w ⟨e, h.turn1 hX (Env.le.refl e) (fun ad v hm => .inl hm) ((Kept.refl w).x _) h.frz ⟨cs, fr, k1, k2, ⟨x, y, hxy, ⟨u, hu, hp, ho⟩, hb⟩, k4⟩ fun b hb => .inl hb⟩
/-- A pointer to a variable as an unsafe.Pointer, and back. -/
theorem op_toUnsafe {T : Type} {r : Rep T} {v : T} {tv : TypeId} {j b n : Nat} (hd : d < Bs.N) (hs : P.underlying t = some (.pointer tv)) (hs' : P.underlying t' = some .unsafePointer) (hz : tySz P tv n = true) (hn : n = r.sz) (h0 : 0 < n)
    (hX : st.X[j]? = some (cvarT tv b r v)) (hx : HasO st x (.one (.val (PTR b 0)))) : OpStep P Bs ⟨some d, .convert t t' x, ty, pos, af, g⟩ st (st.set d (.one (.val (PTR b 0)))) :=
  .value hd fun e a w h => by
    have hv := eval_ptr h hx
    obtain ⟨cs, fr, k1, k2, k3, k4⟩ := h.xs _ (List.mem_of_getElem? hX)
    have hl := r.len k3
    refine ⟨.pointer (some ⟨b, 0, none⟩), ?_, rfl⟩
    have hsz : (sizeOf tv).run P w = .ok n w := rSize hz
    have hsh : w.shape? b = some (tv, cs.length) := by simp [World.shape?, k1]
    have : (convert t t' (.pointer (some ⟨b, 0, none⟩))).run P w = .ok (.pointer (some ⟨b, 0, none⟩)) w := by
      simp [convert, run_underlying hs, run_underlying hs', Conv.unsafePointer, Conv.seenAt, viewAt, cellsIn, hsh, hsz]
      intro hh
      rcases hh with hh | hh
      · omega
      · have : cs = [] := hh
        subst this; simp at hl; omega
    simp [execOp, hv, this]
theorem op_fromUnsafe {T : Type} {r : Rep T} {v : T} {tv : TypeId} {j b n : Nat} (hd : d < Bs.N) (hs : P.underlying t = some .unsafePointer) (hs' : P.underlying t' = some (.pointer tv)) (hz : tySz P tv n = true) (hn : n = r.sz)
    (hli : liesAt P P.depth tv (n / P.cellsOf tv) 0 tv 1 = true)
    (hX : st.X[j]? = some (cvarT tv b r v)) (hx : HasO st x (.one (.val (PTR b 0)))) : OpStep P Bs ⟨some d, .convert t t' x, ty, pos, af, g⟩ st (st.set d (.one (.val (PTR b 0)))) :=
  .value hd fun e a w h => by
    have hv := eval_ptr h hx
    obtain ⟨cs, fr, k1, k2, k3, k4⟩ := h.xs _ (List.mem_of_getElem? hX)
    have hl := r.len k3
    refine ⟨.pointer (some ⟨b, 0, none⟩), ?_, rfl⟩
    have hsz : (sizeOf tv).run P w = .ok n w := rSize hz
    have hsh : w.shape? b = some (tv, n) := by rw [hn, ← hl]; simp [World.shape?, k1]
    have : (convert t t' (.pointer (some ⟨b, 0, none⟩))).run P w = .ok (.pointer (some ⟨b, 0, none⟩)) w := by
      simp [convert, run_underlying hs, run_underlying hs', Conv.unsafePointer, Conv.seenAt, viewAt, hsh, variablesAt, hli, hsz]
    simp [execOp, hv, this]
theorem op_noEscape {f : FuncId} {fo : Operand} {b : Nat} {ats : Array TypeId} (hd : d < Bs.N) (hc : isExt P f Extern.AbiNoEscape.same) (hf : HasO st fo (.one (.val (CLO f [])))) (hx : HasO st x (.one (.val (PTR b 0)))) :
    OpStep P Bs ⟨some d, .call { callee := .value fo, args := #[x], argTypes := ats }, ty, pos, af, g⟩ st (st.set d (.one (.val (PTR b 0)))) :=
  op_ext (xs := [x]) hd hc hf (.cons hx .nil) fun e vs w hvs => by
    obtain ⟨h1, h2⟩ := hvs
    match vs, h1 with
    | [u], _ => exact ⟨u, rfl, h2 0 _ rfl⟩
/-- A pointer against itself. -/
theorem op_samePT {tv : TypeId} {b n : Nat} {neg : Bool} (hd : d < Bs.N) (hu : P.underlying t = some (.pointer tv)) (hs : tySz P tv n = true) (hn : n ≠ 0) (hx : HasO st x (.one (.val (PTR b 0)))) (hy : HasO st y (.one (.val (PTR b 0)))) :
    OpStep P Bs ⟨some d, .binOp (if neg then .neq else .eql) t x y t', ty, pos, af, g⟩ st (st.set d (.one (.val (S rB (!neg))))) :=
  op_samePtr (c := cdef 0) (j := 0) hd hu hs hn hx hy fun w => run_sameAddr_same w _

/-! ### the bytes -/
theorem untypedT {tv : TypeId} {T : Type} {r : Rep T} {xs : List T} {ob : Option Nat} {fz cap : Nat} {e : Env} {w : World} (h : (cownT tv ob r xs fz cap).R e w) : (cown ob r xs fz cap).R e w := by
  rcases h with h | ⟨b, cs, fr, h⟩
  · exact .inl h
  · exact .inr ⟨b, cs, tv, fr, h⟩
theorem own_headT (hst : StE Bs st e a w) {T : Type} {r : Rep T} {xs : List T} {tv : TypeId} {ob : Option Nat} {fz cap j : Nat} (hX : st.X[j]? = some (cownT tv ob r xs fz cap)) :
    ∃ cs, Head P e w r xs (ob.map fun b => ⟨b, 0, none⟩) cap cs := by
  obtain ⟨hlt, he⟩ := List.getElem?_eq_some_iff.1 hX
  have h' : StE Bs { st with X := st.X.set j (cown ob r xs fz cap) } e a w := hst.turn1 hX (Env.le.refl e) (fun ad v hm => .inl hm) ((Kept.refl w).x _) hst.frz (untypedT (hst.xs _ (List.mem_of_getElem? hX))) fun b hb => .inl hb
  exact own_head (P := P) (fz := fz) h' (j := j) (by simp [hlt])
set_option maxHeartbeats 800000 in
theorem append_runT {T : Type} {r : Rep T} {xs ys : List T} {ob : Option Nat} {fz cap j bytes : Nat} {zv : Value} {dy : TypeDesc} (hu : P.underlying t = some (.slice el)) (hu' : P.underlying t' = some dy) (hni : notInt dy = true) (hel : tyB P el r.sz bytes zv) (hz : zv.cells.size = r.sz) (hsz : 0 < r.sz) (hb0 : 0 < bytes)
    (hX : st.X[j]? = some (cownT el ob r xs fz cap)) (hst : StE Bs st e a w) (hv : a.eval x = .slice (ob.map fun b => ⟨b, 0, none⟩) xs.length cap) (hsrc : ∃ fl, Src P e a w r ys y fl) (hb : (xs.length + ys.length) * bytes ≤ 140737488355328) :
    ∃ (v : Value) (w' : World) (e' : Env) (q : Option Nat × Nat), (execOp a.eval ⟨some d, .call { callee := .builtin .append, args := #[x, y], argTypes := #[t, t'] }, ty, pos, af, g⟩).run P w = .ok (.value v) w' ∧
      StE Bs { st with X := st.X.set j (cownT el q.1 r (xs ++ ys) fz q.2) } e' a w' ∧ SVR e' (.one (.val (HDR q.1 0 (xs ++ ys).length q.2))) v := by
  have hR := hst.xs _ (List.mem_of_getElem? hX)
  have hcap : xs.length ≤ cap := by
    rcases hR with ⟨h1, h2, h3, h4⟩ | ⟨b, cs, fr, hb, h5, h6, h0, _⟩
    · subst h2; simp
    · exact h0
  by_cases hroom : xs.length + ys.length ≤ cap
  · obtain ⟨fl, hs⟩ := hsrc
    obtain ⟨i, hi, hi1, hi2, hi3⟩ := hel
    have hsize : ∀ w, (sizeOf el).run P w = .ok r.sz w := fun w => by simp [sizeOf, typeInfo, program, Sem.run, hi, hi1]
    rcases hR with ⟨h1, h2, h3, h4⟩ | ⟨b, cs, fr, hob, h5, h6, h0, h7, h8, h9, h10, h11⟩
    · subst h1; subst h2; subst h3; subst h4
      have hys : ys = [] := List.eq_nil_of_length_eq_zero (by simpa using hroom)
      subst hys
      refine ⟨.slice none 0 0, w, e, (none, 0), ?_, ?_, rfl⟩
      · have hrun := run_append_none (P := P) (t := t) (t' := t') (ty := ty) (w := w) hu hu' hni (hsize w) (hs.lenOf w) (show 0 + ([] : List T).length ≤ 0 by simp) (hs.cells w rfl)
        simp only [execOp, resolve, invoke, builtin, List.map_toArray, List.map_cons, List.map_nil, hv, Sem.run_bind, Sem.run_bind', Sem.run_pure, Result.andThen]
        simp only [List.length_nil] at hrun ⊢
        simp only [Option.map_none]
        rw [hrun]
      · exact hst.perm ((perm_set hX).trans (set_perm (d := cownT el none r ([] ++ []) 0 0) hX))
    · subst hob
      have hfl := hs.len
      have hmul : (xs.length + ys.length) * r.sz ≤ cs.length := Nat.le_trans (Nat.mul_le_mul_right _ hroom) h7
      rw [Nat.add_mul] at hmul
      have hlay : (lay cs (xs.length * r.sz) fl).length = cs.length := lay_length (by omega)
      have hlt := lt_of_block h5
      refine ⟨.slice (some ⟨b, 0, none⟩) (xs.length + ys.length) cap, setB w b (lay cs (xs.length * r.sz) fl) el fr, e, (some b, cap), ?_, ?_, ?_⟩
      · have hst2 := rstoreCells P fl w b (xs.length * r.sz) 0 cs el fr hs.one h5 (by omega) h6
        simp only [Nat.add_zero] at hst2
        have hrun := run_append_room (P := P) (t := t) (t' := t') (ty := ty) (w := w) hu hu' hni (hsize w) (hs.lenOf w) hroom (hs.cells w rfl) (ad := ⟨b, 0, none⟩) (by rw [add_none, Nat.zero_add]; simpa using hst2)
        simp only [execOp, resolve, invoke, builtin, List.map_toArray, List.map_cons, List.map_nil, hv, Sem.run_bind, Sem.run_bind', Sem.run_pure, Result.andThen, Option.map_some, hrun]
      · have hfzle : fz * r.sz ≤ xs.length * r.sz := Nat.mul_le_mul_right _ h10
        have hkeep : ∀ k, k < xs.length * r.sz → (lay cs (xs.length * r.sz) fl)[k]? = cs[k]? := fun k hk => lay_get_lt hk (by omega)
        refine hst.turn1 hX (Env.le.refl e) (fun ad v hm => .inl hm) ⟨rfl, rfl, rfl, by rw [setB_size]; exact Nat.le_refl _, fun c _ hc => setB_ne fun h => hc (by rw [h]; rfl)⟩ (fun ad v hm => ?_) (.inr ⟨b, lay cs (xs.length * r.sz) fl, fr, rfl, setB_at hlt, by rw [hlay]; exact h6, by simpa using hroom, by rw [hlay]; exact h7,
          rel_append (tl := []) h8 hs.rel hkeep fun k hk => lay_get_mid (by omega) (by omega), h9, by simp; omega, fun k u hk => ?_⟩) (fun c hc => .inl hc)
        · by_cases hab : ad.block = b
          · obtain ⟨ab, off, sp⟩ := ad
            simp only at hab
            subst hab
            have hsp := muspot hst hm
            simp only at hsp
            subst hsp
            have h0 := hst.frz _ v hm
            rw [cell_of h5] at h0
            have hoff := h9 _ v hm rfl
            simp only at hoff
            rw [cell_of (setB_at hlt), hkeep off (by omega), h0]
          · rw [World.cell?_of_block (setB_ne hab)]; exact hst.frz ad v hm
        · have hkl : k < fz * r.sz := by
            rcases Nat.lt_or_ge k (fz * r.sz) with h | h
            · exact h
            · rw [List.getElem?_eq_none (by simp; omega)] at hk; cases hk
          refine h11 k u ?_
          rw [List.getElem?_take_of_lt hkl] at hk ⊢
          rwa [hkeep k (by omega)] at hk
      · simp [SVR, SWR, HDR]
  · obtain ⟨cs, hh⟩ := own_headT (P := P) hst hX
    obtain ⟨nc, cells, hrun, h1, h2, h3, h4⟩ := grow_run (d := d) (ty := ty) (pos := pos) (af := af) (g := g) hu hu' hni hel hz hb0 hst hv hcap hh hsrc hb hroom
    have hfz : fz ≤ xs.length := by
      rcases hR with ⟨_, k2, k3, _⟩ | ⟨b, cs, fr, hb, h5, h6, h0, _, _, _, h10, _⟩
      · rw [k3]; omega
      · exact h10
    have hfzle : fz * r.sz ≤ xs.length * r.sz := Nat.mul_le_mul_right _ hfz
    have hk := drewalloc_kept w (.cells cells.toArray el (0, 0))
    have hat := drewalloc_at w (.cells cells.toArray el (0, 0))
    let e' := e.add w.heap.size 0 (cells.take (fz * r.sz))
    have hle : e.le e' := Env.add_le fun ad v hm hab => by have := mu_lt hst hm; omega
    have hinv : ∀ ad v, e'.mu ad = some v → e.mu ad = some v ∨ (ad.block = w.heap.size ∧ ad.spot = none ∧ ad.off < fz * r.sz ∧ cells[ad.off]? = some v) := fun ad v hm => by
      rcases Env.add_inv hm with h | ⟨h1, h2, h3, h4, h5⟩
      · exact .inl h
      · have : ad.off < fz * r.sz := by simp at h4; omega
        rw [Nat.sub_zero, List.getElem?_take_of_lt this] at h5
        exact .inr ⟨h1, h2, this, h5⟩
    refine ⟨_, _, e', (some w.heap.size, nc), hrun, ?_, by simp [SVR, SWR, HDR]⟩
    refine hst.turn1 hX hle (fun ad v hm => ?_) (hk.x _) (fun ad v hm => ?_) (.inr ⟨w.heap.size, cells, (0, 0), rfl, hat, thawed00 _, h1, by rw [h2]; exact Nat.le_refl _, fun i hi => r.mono hle (h3 i hi), fun ad v hm hab => ?_, by simp; omega, Env.add_mu⟩) (fun c hc => .inr (by cases hc; exact Nat.le_refl _))
    · rcases hinv ad v hm with h | ⟨h, _⟩
      · exact .inl h
      · exact .inr (.inl (by rw [h]; exact Nat.le_refl _))
    · rcases hinv ad v hm with h | ⟨h1, h2, _, h4⟩
      · rw [World.cell?_of_block (hk.old _ (mu_lt hst h))]; exact hst.frz ad v h
      · obtain ⟨ab, off, sp⟩ := ad
        simp only at h1 h2 h4
        subst h1; subst h2
        rw [cell_of hat]; exact h4
    · rcases hinv ad v hm with h | ⟨_, _, h, _⟩
      · have := mu_lt hst h; omega
      · exact h

theorem op_appendT {T : Type} {r : Rep T} {xs ys zs : List T} {ob : Option Nat} {fz cap j bytes : Nat} {zv : Value} {dy : TypeDesc} (hd : d < Bs.N) (hu : P.underlying t = some (.slice el)) (hu' : P.underlying t' = some dy) (hni : notInt dy = true) (hel : tyB P el r.sz bytes zv) (hz : zv.cells.size = r.sz) (hsz : 0 < r.sz) (hb0 : 0 < bytes)
    (hX : st.X[j]? = some (cownT el ob r xs fz cap)) (hx : HasO st x (.one (.val (HDR ob 0 xs.length cap)))) (hsrc : ∀ e a w, StE Bs st e a w → ∃ fl, Src P e a w r ys y fl) (hb : (xs.length + ys.length) * bytes ≤ 140737488355328 ∧ xs ++ ys = zs) :
    OpX P Bs ⟨some d, .call { callee := .builtin .append, args := #[x, y], argTypes := #[t, t'] }, ty, pos, af, g⟩ st (fun q : Option Nat × Nat => St.set { st with X := st.X.set j (cownT el q.1 r zs fz q.2) } d (.one (.val (HDR q.1 0 zs.length q.2)))) := by
  obtain ⟨hb, rfl⟩ := hb
  exact .grows hd fun e a w hst => append_runT hu hu' hni hel hz hsz hb0 hX hst (hx.get hst) (hsrc e a w hst) hb
theorem op_appendLT {T : Type} {r : Rep T} {xs ys zs : List T} {ob : Option Nat} {fz cap j bytes : Nat} {zv : Value} {dy : TypeDesc} (hd : d < Bs.N) (hu : P.underlying t = some (.slice el)) (hu' : P.underlying t' = some dy) (hni : notInt dy = true) (hel : tyB P el r.sz bytes zv) (hz : zv.cells.size = r.sz) (hsz : 0 < r.sz) (hb0 : 0 < bytes)
    (hX : st.X[j]? = some (cownT el ob r xs fz cap)) (hx : HasO st x (.one (.val (HDR ob 0 xs.length cap)))) (hy : HasO st y (.one (.val (S (rL r) ys)))) (h : apL bytes xs ys = some zs) :
    OpX P Bs ⟨some d, .call { callee := .builtin .append, args := #[x, y], argTypes := #[t, t'] }, ty, pos, af, g⟩ st (fun q : Option Nat × Nat => St.set { st with X := st.X.set j (cownT el q.1 r zs fz q.2) } d (.one (.val (HDR q.1 0 zs.length q.2)))) :=
  op_appendT hd hu hu' hni hel hz hsz hb0 hX hx (fun e a w hst => Src.list hst hy) (apL_some h)
theorem op_appendST {xs ys zs : List UInt8} {ob : Option Nat} {fz cap j bytes : Nat} {zv : Value} {dy : TypeDesc} (hd : d < Bs.N) (hu : P.underlying t = some (.slice el)) (hu' : P.underlying t' = some dy) (hni : notInt dy = true) (hel : tyB P el (rU UInt8).sz bytes zv) (hz : zv.cells.size = (rU UInt8).sz) (hb0 : 0 < bytes)
    (hX : st.X[j]? = some (cownT el ob (rU UInt8) xs fz cap)) (hx : HasO st x (.one (.val (HDR ob 0 xs.length cap)))) (hy : HasO st y (.one (.val (S rS ys)))) (h : apL bytes xs ys = some zs) :
    OpX P Bs ⟨some d, .call { callee := .builtin .append, args := #[x, y], argTypes := #[t, t'] }, ty, pos, af, g⟩ st (fun q : Option Nat × Nat => St.set { st with X := st.X.set j (cownT el q.1 (rU UInt8) zs fz q.2) } d (.one (.val (HDR q.1 0 zs.length q.2)))) :=
  op_appendT hd hu hu' hni hel hz Nat.one_pos hb0 hX hx (fun e a w hst => Src.str hst hy) (apL_some h)
theorem Imp.nilownT {T : Type} (tv : TypeId) (r : Rep T) : Imp Bs st { st with X := st.X ++ [cownT tv none r ([] : List T) 0 0] } := fun a w ⟨e, h⟩ =>
  ⟨e, h.newE (Kept.refl w) (c := cownT tv none r ([] : List T) 0 0) (.inl ⟨rfl, rfl, rfl, rfl⟩) (fun b hb => by cases hb)⟩
theorem op_sliceData {T : Type} {r : Rep T} {xs : List T} {tv pe : TypeId} {ob : Option Nat} {fz cap j : Nat} (hd : d < Bs.N) (hp : P.underlying ty = some (.pointer pe)) (hX : st.X[j]? = some (cownT tv ob r xs fz cap)) (hx : HasO st x (.one (.val (HDR ob 0 xs.length cap)))) :
    OpStep P Bs ⟨some d, .call { callee := .builtin .unsafeSliceData, args := #[x], argTypes := #[t] }, ty, pos, af, g⟩ st (st.set d (.one (.val (SDP ob cap)))) :=
  .grows hd fun e a w h => by
    have hv : a.eval x = .slice (ob.map fun b => ⟨b, 0, none⟩) xs.length cap := hx.get h
    have hR := h.xs _ (List.mem_of_getElem? hX)
    by_cases hc : cap = 0
    · cases ob with
      | none =>
        have := Lib.run_unsafeSliceData_nil (P := P) w #[t] ty xs.length cap
        exact ⟨_, w, e, by simp only [execOp, resolve, invoke, builtin, List.map_toArray, List.map_cons, List.map_nil, hv, Sem.run_bind, Sem.run_bind', Sem.run_pure, Result.andThen, Option.map_none, this], h, none, rfl, fun _ => rfl⟩
      | some b =>
        rcases hR with ⟨h0, _⟩ | ⟨b', cs, fr, hb, k1, _⟩
        · cases h0
        · cases hb
          subst hc
          have := Lib.run_unsafeSliceData_zero (P := P) w #[t] ty pe hp ⟨b, 0, none⟩ xs.length (tv, cs.length) (by simp [World.shape?, k1])
          exact ⟨.pointer (some ⟨w.heap.size, 0, none⟩), w.alloc (.view ⟨b, 0, none⟩ pe), e, by simp only [execOp, resolve, invoke, builtin, List.map_toArray, List.map_cons, List.map_nil, hv, Sem.run_bind, Sem.run_bind', Sem.run_pure, Result.andThen, Option.map_some, this], h.keep (Kept.push w _), _, rfl, fun hh => absurd rfl hh⟩
    · cases ob with
      | none =>
        have := Lib.run_unsafeSliceData_nil (P := P) w #[t] ty xs.length cap
        exact ⟨_, w, e, by simp only [execOp, resolve, invoke, builtin, List.map_toArray, List.map_cons, List.map_nil, hv, Sem.run_bind, Sem.run_bind', Sem.run_pure, Result.andThen, Option.map_none, this], h, none, rfl, fun _ => rfl⟩
      | some b =>
        have := Lib.run_unsafeSliceData_row (P := P) w #[t] ty ⟨b, 0, none⟩ xs.length cap hc
        exact ⟨_, w, e, by simp only [execOp, resolve, invoke, builtin, List.map_toArray, List.map_cons, List.map_nil, hv, Sem.run_bind, Sem.run_bind', Sem.run_pure, Result.andThen, Option.map_some, this], h, _, rfl, fun _ => rfl⟩
theorem op_sliceData0 {n c : Nat} (hd : d < Bs.N) (hx : HasO st x (.one (.val (HDR none 0 n c)))) :
    OpStep P Bs ⟨some d, .call { callee := .builtin .unsafeSliceData, args := #[x], argTypes := #[t] }, ty, pos, af, g⟩ st (st.set d (.one (.val (SDP none c)))) :=
  .value hd fun e a w h => by
    have hv : a.eval x = .slice none n c := hx.get h
    have := Lib.run_unsafeSliceData_nil (P := P) w #[t] ty n c
    exact ⟨_, by simp only [execOp, resolve, invoke, builtin, List.map_toArray, List.map_cons, List.map_nil, hv, Sem.run_bind, Sem.run_bind', Sem.run_pure, Result.andThen, this], none, rfl, fun _ => rfl⟩
theorem op_unsafeStr0 {ob : Option Nat} {c : Nat} (hd : d < Bs.N) (hx : HasO st x (.one (.val (SDP ob c)))) (hy : HasO st y (.one (.val (S (rI .i64) 0)))) :
    OpStep P Bs ⟨some d, .call { callee := .builtin .unsafeString, args := #[x, y], argTypes := #[t, t'] }, ty, pos, af, g⟩ st (st.set d (.one (.val (S rS [])))) :=
  .value hd fun e a w h => by
    obtain ⟨q, hq, _⟩ := hx.get h
    have hv1 : [a.eval y] = [Value.int .i64 0] := hy.get h
    have hv : a.eval y = .int .i64 0 := (List.cons.inj hv1).1
    have := Lib.run_unsafeString_none (P := P) w t t' ty q
    refine ⟨.string .empty, ?_, by show [Value.string _] = [Value.string _]; rfl⟩
    simp only [execOp, resolve, invoke, builtin, List.map_toArray, List.map_cons, List.map_nil, hq, hv, Sem.run_bind, Sem.run_bind', Sem.run_pure, Result.andThen, this]
theorem freeze_cell {ad p : Addr} {n : Nat} : (w.freeze p n).cell? ad = w.cell? ad := by
  unfold World.freeze
  split
  · rfl
  · unfold World.cell?
    simp only [Array.getElem?_modify]
    by_cases hb : p.block = ad.block
    · rw [if_pos hb]
      cases w.heap[ad.block]? with
      | none => rfl
      | some o => cases o <;> rfl
    · rw [if_neg hb]
theorem op_unsafeStr {xs ys : List UInt8} {ob : Option Nat} {fz cap j : Nat} (hd : d < Bs.N) (hp : P.underlying t = some (.pointer el)) (hc : P.cellsOf el = 1) (hX : st.X[j]? = some (cownT el ob (rU UInt8) xs fz cap)) (hx : HasO st x (.one (.val (SDP ob cap)))) (hy : HasO st y (.one (.val (S (rI .i64) (xs.length : Int)))))
    (hs : toStr xs = some ys) :
    OpStep P Bs ⟨some d, .call { callee := .builtin .unsafeString, args := #[x, y], argTypes := #[t, t'] }, ty, pos, af, g⟩ st (St.set { st with X := st.X.eraseIdx j } d (.one (.val (S rS ys)))) :=
  .grows hd fun e a w h => by
    obtain ⟨hlen, rfl⟩ : xs.length ≤ 140737488355328 ∧ xs = ys := by
      unfold toStr at hs
      split at hs
      · rename_i hh; exact ⟨hh, Option.some.inj hs⟩
      · cases hs
    obtain ⟨q, hq, hqc⟩ := hx.get h
    have hv1 : [a.eval y] = [Value.int .i64 (xs.length : Int)] := hy.get h
    have hv : a.eval y = .int .i64 (xs.length : Int) := (List.cons.inj hv1).1
    have hdrop : StE Bs { st with X := st.X.eraseIdx j } e a w := h.drop (A := st.X.eraseIdx j) (B := [cownT el ob (rU UInt8) xs fz cap]) ((perm_set hX).trans List.perm_append_comm)
    rcases h.xs _ (List.mem_of_getElem? hX) with ⟨k1, k2, k3, k4⟩ | ⟨b, cs, fr, hb, k1, k2, k0, k3, k4, k5, k6, k7⟩
    · subst k2
      have := Lib.run_unsafeString_none (P := P) w t t' ty q
      refine ⟨.string .empty, w, e, ?_, hdrop, by show [Value.string _] = [Value.string _]; rfl⟩
      simp only [execOp, resolve, invoke, builtin, List.map_toArray, List.map_cons, List.map_nil, hq, hv, Sem.run_bind, Sem.run_bind', Sem.run_pure, Result.andThen, List.length_nil]
      simp only [Int.ofNat_zero] at this ⊢
      rw [this]
    · subst hb
      by_cases hxs : xs = []
      · subst hxs
        have := Lib.run_unsafeString_none (P := P) w t t' ty q
        refine ⟨.string .empty, w, e, ?_, hdrop, by show [Value.string _] = [Value.string _]; rfl⟩
        simp only [execOp, resolve, invoke, builtin, List.map_toArray, List.map_cons, List.map_nil, hq, hv, Sem.run_bind, Sem.run_bind', Sem.run_pure, Result.andThen, List.length_nil]
        simp only [Int.ofNat_zero] at this ⊢
        rw [this]
      · have hpos : xs.length ≠ 0 := by simpa using hxs
        have hq2 := hqc (by omega)
        simp only [Option.map_some] at hq2
        subst hq2
        have hsz : (rU UInt8).sz = 1 := rfl
        rw [hsz, Nat.mul_one] at k3
        have := Lib.run_unsafeString_row (P := P) w t t' ty el hp hc b cs.length (by simp [World.shape?, k1]) xs hxs (by omega) (by omega) fun i u hu => by
          rw [add_none, Nat.zero_add, cell_of k1]
          obtain ⟨hi, rfl⟩ := List.getElem?_eq_some_iff.1 hu
          have h4 := k4 i hi
          rw [hsz, Nat.mul_one] at h4
          have h4 : (cs.drop i).take 1 = [.int .u8 (xs[i].toNat : Int)] := h4
          have h5 : ((cs.drop i).take 1)[0]? = some (.int .u8 (xs[i].toNat : Int)) := by rw [h4]; rfl
          rw [List.getElem?_take_of_lt (by omega), List.getElem?_drop, Nat.add_zero] at h5
          exact h5
        refine ⟨.string ⟨xs.toArray⟩, w.freeze ⟨b, 0, none⟩ xs.length, e, ?_, ?_, by show [Value.string _] = [Value.string _]; rfl⟩
        · simp only [execOp, resolve, invoke, builtin, List.map_toArray, List.map_cons, List.map_nil, hq, hv, Sem.run_bind, Sem.run_bind', Sem.run_pure, Result.andThen, this]
        · have hbel := Lib.below_freeze (Below.refl 0 w) (p := ⟨b, 0, none⟩) (Nat.zero_le _) xs.length
          have := h.turn (A := [cownT el (some b) (rU UInt8) xs fz cap]) (B := st.X.eraseIdx j) (C := []) (perm_set hX) (Env.le.refl e) (w' := w.freeze ⟨b, 0, none⟩ xs.length) (fun ad v hm => .inl hm)
            ⟨hbel.os, hbel.tape, hbel.output, hbel.size, fun c hc hf => ?_⟩ (fun ad v hm => by rw [freeze_cell]; exact h.frz ad v hm) (fun c hc => by cases hc) List.Pairwise.nil (fun c hc => by cases hc)
          · exact this
          · have hcb : b ≠ c := fun hh => hf ⟨_, List.mem_singleton.2 rfl, by subst hh; rfl⟩
            unfold World.freeze
            split
            · rfl
            · simp only [Array.getElem?_modify]
              rw [if_neg (by simpa using hcb)]
end
end Go.Proofs.Ytkbkdfcakpbojaa.Fw
