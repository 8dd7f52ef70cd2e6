/- More operations: comparing, structs made, the least and the greatest. -/
import Derived.Test.YtbmimaabgclhjaaFk
import Derived.DeepKeys
namespace Go.Proofs.Ytbmimaabgclhjaa.Fw
open Go Go.RowKit
set_option linter.unusedVariables false
set_option linter.unusedSimpArgs false

/-! ### comparing -/
/-- How values of a type are compared: those of one cell; those of several. -/
def EqS (P : Program) (n : Nat) (t : TypeId) {T : Type} (r : Rep T) (f : T → T → Bool) : Prop := ∀ d e x y u v w, r.rel e x [u] → r.rel e y [v] → (Op.equalIn (d + n) t u v).run P w = .ok (f x y) w
def EqA (P : Program) (n : Nat) (t : TypeId) {T : Type} (r : Rep T) (f : T → T → Bool) : Prop := ∀ d e x y (us vs : List Value) w, r.rel e x us → r.rel e y vs → (Op.equalIn (d + n) t (.agg us.toArray) (.agg vs.toArray)).run P w = .ok (f x y) w
def EqF (P : Program) (n : Nat) (fs : List Field) (off : Nat) {T : Type} (r : Rep T) (f : T → T → Bool) : Prop := ∀ d e x y (us vs : List Value) w, r.rel e x (us.drop off) → r.rel e y (vs.drop off) → (Op.eqFields (d + n) us.toArray vs.toArray fs).run P w = .ok (f x y) w
section
variable {P : Program} {t el : TypeId}
theorem EqS.int {k : IntKind} (h : P.underlying t = some (.int k)) : EqS P 1 t (rI k) (fun x y => x == y) := fun d e x y u v w hu hv => by
  obtain rfl : u = .int k x := by simpa [rI] using hu
  obtain rfl : v = .int k y := by simpa [rI] using hv
  simp [Op.equalIn, run_underlying h]
theorem EqS.u {U : Type} [UK U] [BEq U] [LawfulBEq U] (h : P.underlying t = some (.int (UK.k U))) : EqS P 1 t (rU U) (fun x y => x == y) := fun d e x y u v w hu hv => by
  obtain rfl : u = .int (UK.k U) (UN.toN x) := by simpa [rU] using hu
  obtain rfl : v = .int (UK.k U) (UN.toN y) := by simpa [rU] using hv
  simp only [Op.equalIn, Sem.run_bind, run_underlying h, Result.andThen, if_true, Sem.run_pure]
  congr 1
  rw [Bool.eq_iff_iff]
  simp only [beq_iff_eq]
  exact ⟨fun h => UN.inj (by exact_mod_cast h), fun h => by rw [h]⟩
theorem EqS.bool (h : P.underlying t = some .bool) : EqS P 1 t rB (fun x y => x == y) := fun d e x y u v w hu hv => by
  obtain rfl : u = .bool x := by simpa [rB] using hu
  obtain rfl : v = .bool y := by simpa [rB] using hv
  simp [Op.equalIn, run_underlying h]
theorem EqS.mono {n m : Nat} {T : Type} {r : Rep T} {f : T → T → Bool} (h : EqS P n t r f) (hm : n ≤ m) : EqS P m t r f := fun d e x y u v w hu hv => by
  have := h (d + (m - n)) e x y u v w hu hv
  rwa [show d + (m - n) + n = d + m from by omega] at this
theorem EqA.mono {n m : Nat} {T : Type} {r : Rep T} {f : T → T → Bool} (h : EqA P n t r f) (hm : n ≤ m) : EqA P m t r f := fun d e x y u v w hu hv => by
  have := h (d + (m - n)) e x y u v w hu hv
  rwa [show d + (m - n) + n = d + m from by omega] at this
theorem EqF.nil {n off : Nat} : EqF P n [] off r0 (fun _ _ => true) := fun d e x y us vs w _ _ => by simp [Op.eqFields]
theorem drop_app {a b l : List Value} {off n : Nat} (h : l.drop off = a ++ b) (hn : a.length = n) : (l.drop off).take n = a ∧ l.drop (off + n) = b := by
  subst hn
  refine ⟨by rw [h]; simp, ?_⟩
  rw [← List.drop_drop, h]; simp
theorem EqF.consS {n off : Nat} {f : Field} {fs : List Field} {T U : Type} {r : Rep T} {s : Rep U} {p : T → T → Bool} {q : U → U → Bool} (hnm : f.name ≠ "_") (ho : f.offset = off) (ht : tyS P f.type = true) (hs : r.sz = 1) (h : EqS P n f.type r p) (k : EqF P n fs (off + 1) s q) :
    EqF P n (f :: fs) off (rP r s) (fun x y => p x.1 y.1 && q x.2 y.2) := fun d e x y us vs w hu hv => by
  obtain ⟨a, b, hab, ha, hb⟩ := hu
  obtain ⟨a', b', hab', ha', hb'⟩ := hv
  obtain ⟨k1, k2⟩ := drop_app hab ((r.len ha).trans hs)
  obtain ⟨k3, k4⟩ := drop_app hab' ((r.len ha').trans hs)
  obtain ⟨u, rfl⟩ := List.length_eq_one_iff.1 ((r.len ha).trans hs)
  obtain ⟨v, rfl⟩ := List.length_eq_one_iff.1 ((r.len ha').trans hs)
  have h1 := h d e x.1 y.1 u v w ha ha'
  have h2 := k d e x.2 y.2 us vs w (k2 ▸ hb) (k4 ▸ hb')
  simp only [Op.eqFields, hnm, ne_eq, not_false_eq_true, if_true, Sem.run_bind, ho, rPartS (b := true) (vs := []) ht k1, rPartS (b := true) (vs := []) ht k3, Result.andThen, h1]
  cases p x.1 y.1
  · simp
  · simpa using h2
def notHeld (P : Program) (t : TypeId) : Bool := !P.stoodInHeld t
theorem EqA.struct {n : Nat} {fs : Array Field} {T U : Type} {r : Rep T} {p : T → T → Bool} {g : U → T} {q : U → U → Bool} (hu : P.underlying t = some (.struct fs)) (hh : notHeld P t = true) (h : EqF P n fs.toList 0 r p) (hq : ∀ x y, q x y = p (g x) (g y)) : EqA P (n + 1) t (rM g r) q := fun d e x y us vs w hx hy => by
  have h1 := h d e (g x) (g y) us vs w (show r.rel e (g x) us from hx) (show r.rel e (g y) vs from hy)
  have hfs : P.fieldsOf t = fs := by simp [Program.fieldsOf, hu]
  have h2 := run_equalIn_struct (P := P) w (d + n) t us.toArray vs.toArray (by rw [hfs]; exact hu) (by simpa [notHeld] using hh)
  rw [hq, ← h1, ← hfs, ← h2]
  rfl
theorem eqItems_run {n sz d m : Nat} {w : World} {e : Env} {T : Type} {r : Rep T} {f : T → T → Bool} {x y : Vector T m} {us vs : List Value} (hx : (rV m r).rel e x us) (hy : (rV m r).rel e y vs)
    (hstep : ∀ i (h : i < m), ∃ a b, (part el us.toArray (i * r.sz)).run P w = .ok a w ∧ (part el vs.toArray (i * r.sz)).run P w = .ok b w ∧ (Op.equalIn d el a b).run P w = .ok (f x[i] y[i]) w) :
    ∀ (is : List Nat), (∀ i ∈ is, i < m) → (Op.eqItems d el r.sz us.toArray vs.toArray is).run P w = .ok (is.all fun i => if h : i < m then f x[i] y[i] else true) w
  | [], _ => by simp [Op.eqItems]
  | i :: is, h => by
    have hi := h i (by simp)
    obtain ⟨a, b, h1, h2, h3⟩ := hstep i hi
    have ih := eqItems_run hx hy hstep is (fun j hj => h j (by simp [hj])) (n := n) (sz := sz)
    simp only [Op.eqItems, Sem.run_bind, h1, h2, h3, Result.andThen, List.all_cons, dif_pos hi]
    cases f x[i] y[i]
    · simp
    · simpa using ih
theorem cellsOf_sz {n : Nat} (h : tySz P t n = true) : P.cellsOf t = n ∧ ∃ i, P.info? t = some i := by
  unfold tySz at h
  split at h
  · rename_i i hi
    refine ⟨?_, i, hi⟩
    simp only [beq_iff_eq] at h
    simp [Program.cellsOf, hi, h]
  · cases h
theorem EqA.arrS {n m : Nat} {T : Type} {r : Rep T} {f : T → T → Bool} (hu : P.underlying t = some (.array m el)) (ht : tyS P el = true) (hs : r.sz = 1) (h : EqS P n el r f) : EqA P (n + 1) t (rV m r) (eqV f) := fun d e x y us vs w hx hy => by
  obtain ⟨hc, i0, hi0⟩ := cellsOf_sz (tyS_sz ht)
  rw [show d + (n + 1) = (d + n) + 1 from rfl, run_equalIn_array w (d + n) us.toArray vs.toArray hu hi0, hc, ← hs]
  refine eqItems_run (n := 0) (sz := 0) hx hy (fun i hi => ?_) (List.range m) (fun i hi => by simpa using hi)
  have h1 := hx.2.2 i hi
  have h2 := hy.2.2 i hi
  obtain ⟨u, hu'⟩ := List.length_eq_one_iff.1 ((r.len h1).trans hs)
  obtain ⟨v, hv'⟩ := List.length_eq_one_iff.1 ((r.len h2).trans hs)
  have e1 := hu'
  have e2 := hv'
  rw [hs] at e1 e2
  exact ⟨u, v, by rw [hs]; exact rPartS (b := true) (vs := []) ht e1, by rw [hs]; exact rPartS (b := true) (vs := []) ht e2, h d e _ _ u v w (hu' ▸ h1) (hv' ▸ h2)⟩
def noGuard (P : Program) (t : TypeId) : Bool := !P.eqGuardType P.depth t
end

section
variable {P : Program} {Bs : Base} {st st' : St} {d : Nat} {ty t t' el : TypeId} {pos : String} {af : Array Edge} {g : Option (Nat × Bool)} {x y z : Operand}
variable {e : Env} {a : Act} {w : World} {Q : Exit → Act → World → Prop}
theorem bin_eqA {n : Nat} {T : Type} {r : Rep T} {f : T → T → Bool} {m k : T} {neg b : Bool} (hd : d < Bs.N) (hq : EqA P n t r f) (hn : n ≤ 10000) (hg : noGuard P t = true) (hx : HasO st x (.one (.val (A r m)))) (hy : HasO st y (.one (.val (A r k)))) (hr : (if neg then !(f m k) else f m k) = b) :
    OpStep P Bs ⟨some d, .binOp (if neg then .neq else .eql) t x y t', ty, pos, af, g⟩ st (st.set d (.one (.val (S rB b)))) :=
  .value hd fun e a w hst => by
    obtain ⟨us, hu, hru⟩ : ∃ vs : List Value, a.eval x = .agg vs.toArray ∧ r.rel e m vs := hx.get hst
    obtain ⟨vs, hv, hrv⟩ : ∃ vs : List Value, a.eval y = .agg vs.toArray ∧ r.rel e k vs := hy.get hst
    have hgt : P.eqGuardType P.depth t = false := by simpa [noGuard] using hg
    have h1 := hq (10000 - n) e m k us vs w hru hrv
    rw [show 10000 - n + n = 10000 from by omega] at h1
    have h2 : (Op.equal t (.agg us.toArray) (.agg vs.toArray)).run P w = .ok (f m k) w := h1
    have h3 : (eqGuard (if neg then .neq else .eql) t x y (.agg us.toArray) (.agg vs.toArray)).run P w = .ok () w := by
      cases neg <;> simp [eqGuard, program, Sem.run, hgt]
    refine ⟨.bool b, ?_, rfl⟩
    subst hr
    cases neg
    · simp only [Bool.false_eq_true, if_false] at h3 ⊢
      simp only [execOp, hu, hv, Sem.run_bind, h3, Result.andThen]
      show (match (Op.equal t (.agg us.toArray) (.agg vs.toArray) >>= fun r => pure (Value.bool r)).run P w with | _ => _) = _
      simp [Sem.run_bind, h2, Result.andThen]
      rw [show (binOp .eql t (.agg us.toArray) (.agg vs.toArray)) = (Op.equal t (.agg us.toArray) (.agg vs.toArray) >>= fun r => pure (Value.bool r)) from rfl]
      simp [Sem.run_bind, h2, Result.andThen]
    · simp only [if_true] at h3 ⊢
      simp only [execOp, hu, hv, Sem.run_bind, h3, Result.andThen]
      rw [show (binOp .neq t (.agg us.toArray) (.agg vs.toArray)) = (Op.equal t (.agg us.toArray) (.agg vs.toArray) >>= fun r => pure (Value.bool (!r))) from rfl]
      simp [Sem.run_bind, h2, Result.andThen]
theorem op_eqA {n : Nat} {T : Type} {r : Rep T} {f : T → T → Bool} {m k : T} {b : Bool} (hd : d < Bs.N) (hq : EqA P n t r f) (hn : n ≤ 10000) (hg : noGuard P t = true) (hx : HasO st x (.one (.val (A r m)))) (hy : HasO st y (.one (.val (A r k)))) (hr : f m k = b) :
    OpStep P Bs ⟨some d, .binOp .eql t x y t', ty, pos, af, g⟩ st (st.set d (.one (.val (S rB b)))) := bin_eqA (neg := false) hd hq hn hg hx hy hr
/-- Comparing with nil, and the like: of values that are compared at once. -/
theorem bin_eqv {p q : VP} {neg b r : Bool} (hd : d < Bs.N) (hx : HasO st x (.one (.val p))) (hy : HasO st y (.one (.val q))) (h : ∀ e u v w, p.p e u → q.p e v → one1 u = true ∧ (u ≠ .nilIface) ∧ (Op.equal t u v).run P w = .ok r w ∧ (binOp .eql t u v = do let r ← Op.equal t u v; pure (.bool r)) ∧ (binOp .neq t u v = do let r ← Op.equal t u v; pure (.bool !r)))
    (hr : (if neg then !r else r) = b) : OpStep P Bs ⟨some d, .binOp (if neg then .neq else .eql) t x y t', ty, pos, af, g⟩ st (st.set d (.one (.val (S rB b)))) :=
  .value hd fun e a w hst => by
    obtain ⟨h1, h2, h3, h4, h5⟩ := h e _ _ w (hx.get hst) (hy.get hst)
    have hg : (eqGuard (if neg then .neq else .eql) t x y (a.eval x) (a.eval y)).run P w = .ok () w := by
      unfold eqGuard
      cases neg <;> (cases hu : a.eval x <;> rw [hu] at h1 h2 <;> simp [one1] at h1 h2 <;> simp)
    refine ⟨.bool b, ?_, rfl⟩
    subst hr
    cases neg
    · simp only [Bool.false_eq_true, if_false] at hg ⊢
      simp only [execOp, Sem.run_bind, hg, Result.andThen, h4, h3, Sem.run_pure]
    · simp only [if_true] at hg ⊢
      simp only [execOp, Sem.run_bind, hg, Result.andThen, h5, h3, Sem.run_pure]
theorem eqv_ptr {elm : TypeId} {a : Option Addr} {w : World} (hu : P.underlying t = some (.pointer elm)) : (Op.equal t (.pointer a) (.pointer none)).run P w = .ok a.isNone w := by
  have : ∀ d, (Op.equalIn (d + 1) t (.pointer a) (.pointer none)).run P w = .ok a.isNone w := fun d => by cases a <;> simp [Op.equalIn, run_underlying hu]
  exact this 9999
theorem eqv_map {k elm : TypeId} {a : Option Nat} {w : World} (hu : P.underlying t = some (.map k elm)) : (Op.equal t (.map a) (.map none)).run P w = .ok a.isNone w := by
  have : ∀ d, (Op.equalIn (d + 1) t (.map a) (.map none)).run P w = .ok a.isNone w := fun d => by cases a <;> simp [Op.equalIn, run_underlying hu]
  exact this 9999
theorem op_nilP {elm : TypeId} {b off : Nat} {neg : Bool} (hd : d < Bs.N) (hu : P.underlying t = some (.pointer elm)) (hx : HasO st x (.one (.val (PTR b off)))) (hy : HasO st y (.one (.val (PTO none)))) :
    OpStep P Bs ⟨some d, .binOp (if neg then .neq else .eql) t x y t', ty, pos, af, g⟩ st (st.set d (.one (.val (S rB neg)))) :=
  bin_eqv (r := false) hd hx hy (fun e u v w hp hq => by subst hp; subst hq; exact ⟨rfl, by simp, eqv_ptr hu, rfl, rfl⟩) (by cases neg <;> rfl)
theorem op_nilO {elm : TypeId} {ob : Option Nat} {neg b : Bool} (hd : d < Bs.N) (hu : P.underlying t = some (.pointer elm)) (hx : HasO st x (.one (.val (PTO ob)))) (hy : HasO st y (.one (.val (PTO none)))) (hr : (if neg then !ob.isNone else ob.isNone) = b) :
    OpStep P Bs ⟨some d, .binOp (if neg then .neq else .eql) t x y t', ty, pos, af, g⟩ st (st.set d (.one (.val (S rB b)))) :=
  bin_eqv (r := ob.isNone) hd hx hy (fun e u v w hp hq => by subst hp; subst hq; exact ⟨rfl, by simp, by rw [show ((none : Option Nat).map fun b => (⟨b, 0, none⟩ : Addr)) = none from rfl, eqv_ptr hu]; cases ob <;> rfl, rfl, rfl⟩) hr
theorem op_nilM {k elm : TypeId} {ob : Option Nat} {neg b : Bool} (hd : d < Bs.N) (hu : P.underlying t = some (.map k elm)) (hx : HasO st x (.one (.val (MPV ob)))) (hy : HasO st y (.one (.val (MPV none)))) (hr : (if neg then !ob.isNone else ob.isNone) = b) :
    OpStep P Bs ⟨some d, .binOp (if neg then .neq else .eql) t x y t', ty, pos, af, g⟩ st (st.set d (.one (.val (S rB b)))) :=
  bin_eqv (r := ob.isNone) hd hx hy (fun e u v w hp hq => by subst hp; subst hq; exact ⟨rfl, by simp, eqv_map hu, rfl, rfl⟩) hr
/-! ### the least, the greatest -/
/-! ### structs and arrays, made -/
/-- The places of a struct's fields; of an array's elements. -/
def tyPl (P : Program) (t : TypeId) (pl : List (Nat × Nat)) : Prop :=
  (match P.underlying t with
    | some (.struct fs) => fs.toList.mapM fun f => (P.info? f.type).map fun i => (f.offset, i.size)
    | some (.array n e) => (P.info? e).map fun i => (List.range n).map fun k => (k * i.size, i.size)
    | _ => none) = some pl
inductive BParts (st : St) (pl : List (Nat × Nat)) : (T : Type) → Rep T → T → List (Nat × Operand) → (T' : Type) → Rep T' → T' → Prop
  | nil {T : Type} {r : Rep T} {x : T} : BParts st pl T r x [] T r x
  | S {T T1 T' U : Type} {r : Rep T} {x : T} {i off : Nat} {y : Operand} {ps : List (Nat × Operand)} {s : Rep U} {u : U} {r1 : Rep T1} {x1 : T1} {r' : Rep T'} {x' : T'} (hp : pl[i]? = some (off, s.sz)) (hy : HasO st y (.one (.val (S s u)))) (hs : s.sz = 1) (hu : UpdR r x off s u r1 x1) (t : BParts st pl T1 r1 x1 ps T' r' x') : BParts st pl T r x ((i, y) :: ps) T' r' x'
  | A {T T1 T' U : Type} {r : Rep T} {x : T} {i off : Nat} {y : Operand} {ps : List (Nat × Operand)} {s : Rep U} {u : U} {r1 : Rep T1} {x1 : T1} {r' : Rep T'} {x' : T'} (hp : pl[i]? = some (off, s.sz)) (hy : HasO st y (.one (.val (A s u)))) (hu : UpdR r x off s u r1 x1) (t : BParts st pl T1 r1 x1 ps T' r' x') : BParts st pl T r x ((i, y) :: ps) T' r' x'
theorem BParts.W {pl : List (Nat × Nat)} {T T1 T' : Type} {r : Rep T} {x : T} {i off : Nat} {y : Operand} {ps : List (Nat × Operand)} {p : VP} [OneP p] {r1 : Rep T1} {x1 : T1} {r' : Rep T'} {x' : T'} (hp : pl[i]? = some (off, 1)) (hy : HasO st y (.one (.val p))) (hu : UpdR r x off (rW p) () r1 x1) (t : BParts st pl T1 r1 x1 ps T' r' x') : BParts st pl T r x ((i, y) :: ps) T' r' x' :=
  .S hp (hy.wk wkV) rfl hu t
theorem BParts.fill {pl : List (Nat × Nat)} {T T' : Type} {r : Rep T} {x : T} {ps : List (Nat × Operand)} {r' : Rep T'} {x' : T'} (h : BParts st pl T r x ps T' r' x') (hst : StE Bs st e a w) :
    ∀ cs : List Value, r.rel e x cs → ∃ cs', Instr.fill (pl[·]?) cs.toArray (ps.map fun p => (p.1, a.eval p.2)) = some cs'.toArray ∧ r'.rel e x' cs' := by
  induction h with
  | nil => exact fun cs hc => ⟨cs, by simp [Instr.fill], hc⟩
  | S hp hy hs hu t ih =>
    intro cs hc
    rename_i T T1 T' U r x i off y ps s u r1 x1 r' x'
    have hrel : s.rel e u [a.eval y] := hy.get hst
    have hcell := (cells_S (r := s) (u := u) (v := a.eval y) (e := e) hrel).1
    have hl := r.len hc
    have hu1 := hu.1
    obtain ⟨cs', h1, h2⟩ := ih _ (hu.2.2 e cs _ hc hrel)
    refine ⟨cs', ?_, h2⟩
    simp only [List.map_cons]
    rw [fill_step (off := off) (sz := s.sz) hp (by rw [← Array.length_toList, hcell, hs]; rfl) (by simp; omega)]
    rw [hcell]
    simpa using h1
  | A hp hy hu t ih =>
    intro cs hc
    rename_i T T1 T' U r x i off y ps s u r1 x1 r' x'
    obtain ⟨vs, hv, hrel⟩ : ∃ vs : List Value, a.eval y = .agg vs.toArray ∧ s.rel e u vs := hy.get hst
    have hl := r.len hc
    have hu1 := hu.1
    have hsl := s.len hrel
    obtain ⟨cs', h1, h2⟩ := ih _ (hu.2.2 e cs _ hc hrel)
    refine ⟨cs', ?_, h2⟩
    simp only [List.map_cons, hv]
    rw [fill_step (off := off) (sz := s.sz) hp (by simp [Value.cells, hsl]) (by simp; omega)]
    simpa [Value.cells] using h1
theorem mapM_places {fs : List Field} {pl : List (Nat × Nat)} {w : World} (h : (fs.mapM fun f => (P.info? f.type).map fun i => (f.offset, i.size)) = some pl) :
    (fs.mapM fun f => (do pure (f.offset, ← sizeOf f.type) : Sem (Nat × Nat))).run P w = .ok pl w := by
  induction fs generalizing pl with
  | nil => simp at h; subst h; simp
  | cons f fs ih =>
    rw [List.mapM_cons] at h
    simp only [bind, Option.bind_eq_some_iff, Option.map_eq_some_iff, pure, Option.some.injEq] at h
    obtain ⟨p, ⟨i, hi, rfl⟩, pl', h2, rfl⟩ := h
    have hs : (sizeOf f.type).run P w = .ok i.size w := by simp [sizeOf, typeInfo, program, Sem.run, hi]
    rw [List.mapM_cons]
    simp only [Sem.run_bind, hs, Result.andThen, Sem.run_pure, ih h2]
theorem op_build {pl : List (Nat × Nat)} {T T' : Type} {r : Rep T} {x0 : T} {ps : List (Nat × Operand)} {r' : Rep T'} {x' x'' : T'} {zv : Value} (hd : d < Bs.N) (hz : tyZ P t zv) (hr : Zr r x0 zv.cells.toList) (hpl : tyPl P t pl) (hb : BParts st pl T r x0 ps T' r' x') (he : x' = x'') :
    OpStep P Bs ⟨some d, .build t ps.toArray, ty, pos, af, g⟩ st (st.set d (.one (.val (A r' x'')))) :=
  .value hd fun e a w h => by
    subst he
    obtain ⟨cs', h1, h2⟩ := hb.fill h zv.cells.toList (hr e)
    refine ⟨.agg cs'.toArray, ?_, cs', rfl, h2⟩
    have h1 : Instr.fill (pl[·]?) zv.cells (ps.map fun p => (p.1, a.eval p.2)) = some cs'.toArray := by simpa using h1
    have hps : (ps.toArray.map fun (x : Nat × Operand) => match x with | (i, x) => (i, a.eval x)) = (ps.map fun p => (p.1, a.eval p.2)).toArray := by simp
    have hrun : (Instr.build t (ps.map fun p => (p.1, a.eval p.2)).toArray).run P w = .ok (.agg cs'.toArray) w := by
      unfold tyPl at hpl
      unfold Instr.build
      simp only [Sem.run_bind, rZero hz, Result.andThen]
      split at hpl
      · rename_i fs hfs
        have hm := mapM_places (w := w) hpl
        simp only [run_underlying hfs]
        rw [show fs = fs.toList.toArray from rfl, List.mapM_toArray]
        simp only [Sem.run_bind, Sem.run_map, hm, Result.andThen, Sem.run_pure]
        simp [h1]
      · rename_i n el hfs
        simp only [Option.map_eq_some_iff] at hpl
        obtain ⟨i, hi, hpl⟩ := hpl
        have hs : (sizeOf el).run P w = .ok i.size w := by simp [sizeOf, typeInfo, program, Sem.run, hi]
        simp only [run_underlying hfs, hs]
        have : ∀ (l : List (Nat × Value)) (cs : Array Value) (out : Array Value), Instr.fill (pl[·]?) cs l = some out → Instr.fill (fun i_1 => some (i_1 * i.size, i.size)) cs l = some out := by
          intro l
          induction l with
          | nil => intro cs out h; exact h
          | cons p l ih =>
            intro cs out h
            obtain ⟨k, v⟩ := p
            simp only [Instr.fill] at h ⊢
            cases hk : pl[k]? with
            | none => rw [hk] at h; cases h
            | some q =>
              rw [hk] at h
              obtain ⟨o, z⟩ := q
              rw [← hpl, List.getElem?_map] at hk
              obtain ⟨m, hm, hq⟩ := Option.map_eq_some_iff.1 hk
              have := (List.getElem?_eq_some_iff.1 hm)
              obtain ⟨hlt, hme⟩ := this
              simp at hme
              subst hme
              simp only [Prod.mk.injEq] at hq
              obtain ⟨rfl, rfl⟩ := hq
              simp only at h ⊢
              split at h
              · cases h
              · rename_i hc
                rw [if_neg hc]
                exact ih _ _ h
        simp only [Sem.run_bind, hs, Result.andThen, this _ _ _ h1, Sem.run_pure]
      · cases hpl
    simp only [execOp, Sem.run_bind]
    rw [hps, hrun]
    rfl
/-- A value's part of one cell, or a text's: of a frozen pointer. -/
theorem op_loadPSg {T : Type} {r : Rep T} {u u' : T} (hd : d < Bs.N) (ht : tyS P t = true) (hs : r.sz = 1) (hx : HasO st x (.one (.val (PT r u)))) (he : u = u') : OpStep P Bs ⟨some d, .load t x, ty, pos, af, g⟩ st (st.set d (.one (.val (S r u')))) := by subst he; exact op_loadPS hd ht hs hx
theorem op_loadPAg {T : Type} {r : Rep T} {u u' : T} (hd : d < Bs.N) (ht : tyA P t r.sz = true) (hx : HasO st x (.one (.val (PT r u)))) (he : u = u') : OpStep P Bs ⟨some d, .load t x, ty, pos, af, g⟩ st (st.set d (.one (.val (A r u')))) := by subst he; exact op_loadPA hd ht hx
end
end Go.Proofs.Ytbmimaabgclhjaa.Fw
