/- The frame of the machine side: knowledge of frozen memory ('Env'), typed readings of cells ('Rep'), what a slot holds ('VP'). -/
import Derived.Test.YtbmimaabgclhjaaFp
import Derived.WalkKit
import Derived.Orders
import Derived.KernelRfl
namespace Go.Proofs.Ytbmimaabgclhjaa.Fw
open Go Go.RowKit
set_option linter.unusedVariables false
set_option linter.unusedSimpArgs false

/-- What is known of memory: cells that never turn any more. -/
structure Env where
  mu : Addr → Option Value
structure Env.le (e e' : Env) : Prop where
  mu : ∀ {a v}, e.mu a = some v → e'.mu a = some v
theorem Env.le.refl (e : Env) : e.le e := ⟨id⟩
theorem Env.le.trans {a b c : Env} (h : a.le b) (k : b.le c) : a.le c := ⟨fun x => k.mu (h.mu x)⟩

/-- What a value in a slot is. -/
structure VP where
  p : Env → Value → Prop
  mono : ∀ {e e' v}, e.le e' → p e v → p e' v

def one1 : Value → Bool
  | .agg _ | .tuple _ => false
  | _ => true
/-- How a Lean value lies in cells. -/
structure Rep (T : Type) where
  sz : Nat
  rel : Env → T → List Value → Prop
  len : ∀ {e x vs}, rel e x vs → vs.length = sz
  one : ∀ {e x vs}, rel e x vs → ∀ v ∈ vs, one1 v = true
  mono : ∀ {e e' x vs}, e.le e' → rel e x vs → rel e' x vs

/-- One cell. -/
def S {T : Type} (r : Rep T) (x : T) : VP := ⟨fun e v => r.rel e x [v], fun h k => r.mono h k⟩
/-- A struct or an array. -/
def A {T : Type} (r : Rep T) (x : T) : VP := ⟨fun e v => ∃ vs : List Value, v = .agg vs.toArray ∧ r.rel e x vs, fun h ⟨vs, a, b⟩ => ⟨vs, a, r.mono h b⟩⟩

/-- An unsigned number kind of Go's. -/
class UK (U : Type) extends UN U where
  k : IntKind
  hbits : k.bits = bits
  hsign : k.signed = false
instance : UK UInt8 := { k := .u8, hbits := rfl, hsign := rfl }
instance : UK UInt16 := { k := .u16, hbits := rfl, hsign := rfl }
instance : UK UInt32 := { k := .u32, hbits := rfl, hsign := rfl }
instance : UK UInt64 := { k := .u64, hbits := rfl, hsign := rfl }

/-! ### readings -/
def rI (k : IntKind) : Rep Int := ⟨1, fun _ x vs => vs = [.int k x], fun h => by simp [h], fun h => by subst h; simp [one1], fun _ h => h⟩
def rU (U : Type) [UK U] : Rep U := ⟨1, fun _ x vs => vs = [.int (UK.k U) (UN.toN x)], fun h => by simp [h], fun h => by subst h; simp [one1], fun _ h => h⟩
def rB : Rep Bool := ⟨1, fun _ x vs => vs = [.bool x], fun h => by simp [h], fun h => by subst h; simp [one1], fun _ h => h⟩
/-- The bytes of a text. -/
def bs (l : List UInt8) : ByteArray := ⟨l.toArray⟩
theorem bs_size (l : List UInt8) : (bs l).size = l.length := by simp [bs, ByteArray.size]
def rS : Rep (List UInt8) := ⟨1, fun _ x vs => vs = [.string (bs x)], fun h => by simp [h], fun h => by subst h; simp [one1], fun _ h => h⟩

/-- The frozen cells at an address are these. -/
def Mu (e : Env) (b off : Nat) (cs : List Value) : Prop := ∀ j u, cs[j]? = some u → e.mu ⟨b, off + j, none⟩ = some u
theorem Mu.mono {e e' : Env} {b off : Nat} {cs : List Value} (h : e.le e') (k : Mu e b off cs) : Mu e' b off cs := fun j u hj => h.mu (k j u hj)

/-- A list that lies in frozen memory. -/
def LR {T : Type} (r : Rep T) (e : Env) (xs : List T) (v : Value) : Prop :=
  ∃ (a : Option Addr) (c : Nat), v = .slice a xs.length c ∧ xs.length ≤ c ∧ (a = none → c = 0) ∧
    (0 < xs.length → ∃ b off, a = some ⟨b, off, none⟩ ∧ ∀ i (h : i < xs.length), ∃ cs, r.rel e xs[i] cs ∧ Mu e b (off + i * r.sz) cs)
theorem LR.mono {T : Type} {r : Rep T} {e e' : Env} {xs : List T} {v : Value} (h : e.le e') : LR r e xs v → LR r e' xs v
  | ⟨a, c, h1, h2, h3, h4⟩ => ⟨a, c, h1, h2, h3, fun h0 => let ⟨b, off, ha, h5⟩ := h4 h0; ⟨b, off, ha, fun i hi => let ⟨cs, x, y⟩ := h5 i hi; ⟨cs, r.mono h x, y.mono h⟩⟩⟩
def rL {T : Type} (r : Rep T) : Rep (List T) :=
  ⟨1, fun e xs vs => ∃ v, vs = [v] ∧ LR r e xs v, fun ⟨v, h, _⟩ => by simp [h], fun ⟨v, h, a, c, h1, _⟩ => by subst h; subst h1; simp [one1],
    fun h ⟨v, a, b⟩ => ⟨v, a, b.mono h⟩⟩

/-- An array. -/
def rV {T : Type} (n : Nat) (r : Rep T) : Rep (Vector T n) :=
  ⟨n * r.sz, fun e x vs => vs.length = n * r.sz ∧ (∀ v ∈ vs, one1 v = true) ∧ ∀ i (h : i < n), r.rel e x[i] ((vs.drop (i * r.sz)).take r.sz), fun h => h.1, fun h => h.2.1,
    fun h ⟨a, b, c⟩ => ⟨a, b, fun i hi => r.mono h (c i hi)⟩⟩
/-- Two, side by side. -/
def rP {T U : Type} (r : Rep T) (s : Rep U) : Rep (T × U) :=
  ⟨r.sz + s.sz, fun e x vs => ∃ a b, vs = a ++ b ∧ r.rel e x.1 a ∧ s.rel e x.2 b, fun ⟨a, b, h, ha, hb⟩ => by simp [h, r.len ha, s.len hb],
    fun ⟨a, b, h, ha, hb⟩ v hv => by subst h; exact (List.mem_append.1 hv).elim (r.one ha v) (s.one hb v),
    fun h ⟨a, b, c, d, f⟩ => ⟨a, b, c, r.mono h d, s.mono h f⟩⟩
def r0 : Rep Unit := ⟨0, fun _ _ vs => vs = [], fun h => by simp [h], fun h => by simp [h], fun _ h => h⟩
/-- By another name. -/
def rM {T U : Type} (f : U → T) (r : Rep T) : Rep U := ⟨r.sz, fun e x vs => r.rel e (f x) vs, fun h => r.len h, fun h => r.one h, fun h k => r.mono h k⟩

/-! ### numbers -/
theorem wrap_i64 (n : Int) : IntKind.i64.wrap n = w64 n := by
  simp only [IntKind.wrap, IntKind.bits, IntKind.signed, w64_eq, Bool.true_and]
  split <;> rename_i h <;> simp at h <;> omega
theorem wrap_u {U : Type} [UK U] (n : Int) : (UK.k U).wrap n = n % (2 ^ UN.bits U : Nat) := by
  simp only [IntKind.wrap, UK.hbits, UK.hsign, Bool.false_and]
  simp

/-! ### the world -/
theorem add_none (b off n : Nat) : (⟨b, off, none⟩ : Addr).add n = ⟨b, off + n, none⟩ := by unfold Addr.add; split <;> simp_all
theorem cell_of {w : World} {b off : Nat} {cs : List Value} {el : TypeId} {fr : Nat × Nat} (h : w.heap[b]? = some (.cells cs.toArray el fr)) : w.cell? ⟨b, off, none⟩ = cs[off]? := by
  simp [World.cell?, h]
theorem frozen_of {w : World} {b off : Nat} {cs : List Value} {el : TypeId} {fr : Nat × Nat} (h : w.heap[b]? = some (.cells cs.toArray el fr)) : w.frozen? ⟨b, off, none⟩ = (decide (fr.1 ≤ off) && decide (off < fr.2)) := by
  simp [World.frozen?, h]
/-- No cell of these is frozen by a string. -/
def Thawed (n : Nat) (fr : Nat × Nat) : Prop := fr.1 = fr.2 ∨ n ≤ fr.1
theorem Thawed.free {n : Nat} {fr : Nat × Nat} (h : Thawed n fr) : ∀ i, i < n → ¬ (fr.1 ≤ i ∧ i < fr.2) := fun i hi => by rcases h with h | h <;> omega
/-- The world with a block laid anew. -/
def setB (w : World) (b : Nat) (cs : List Value) (el : TypeId) (fr : Nat × Nat) : World := { w with heap := w.heap.setIfInBounds b (.cells cs.toArray el fr) }
theorem setB_at {w : World} {b : Nat} {cs : List Value} {el : TypeId} {fr : Nat × Nat} (h : b < w.heap.size) : (setB w b cs el fr).heap[b]? = some (.cells cs.toArray el fr) := by
  simp [setB, h]
theorem setB_ne {w : World} {b c : Nat} {cs : List Value} {el : TypeId} {fr : Nat × Nat} (h : c ≠ b) : (setB w b cs el fr).heap[c]? = w.heap[c]? := by
  simp [setB, Array.getElem?_setIfInBounds_ne (Ne.symm h)]
theorem setB_size {w : World} {b : Nat} {cs : List Value} {el : TypeId} {fr : Nat × Nat} : (setB w b cs el fr).heap.size = w.heap.size := by simp [setB]
theorem lt_of_block {w : World} {b : Nat} {o : Obj} (h : w.heap[b]? = some o) : b < w.heap.size := (Array.getElem?_eq_some_iff.1 h).1

section
variable (P : Program)
theorem rload {w : World} {a : Addr} {v : Value} (h : w.cell? a = some v) : (load a).run P w = .ok v w := by simp [h]
theorem rstore {w : World} {b off : Nat} {cs : List Value} {el : TypeId} {fr : Nat × Nat} {v : Value} (hv : one1 v = true) (h : w.heap[b]? = some (.cells cs.toArray el fr)) (ho : off < cs.length) (ht : Thawed cs.length fr) :
    (store ⟨b, off, none⟩ v).run P w = .ok () (setB w b (cs.set off v) el fr) := by
  have hc : w.cell? ⟨b, off, none⟩ = some cs[off] := by rw [cell_of h, List.getElem?_eq_getElem ho]
  have hf : w.frozen? ⟨b, off, none⟩ = false := by
    rw [frozen_of h]
    have := ht.free off ho
    simp only [Bool.and_eq_false_iff, decide_eq_false_iff_not]
    omega
  have hw : w.setCell ⟨b, off, none⟩ v = setB w b (cs.set off v) el fr := by
    have hb := lt_of_block h
    have hget : w.heap[b] = .cells cs.toArray el fr := by rw [Array.getElem?_eq_getElem hb] at h; simpa using h
    simp only [World.setCell, setB]
    congr 1
    apply Array.ext
    · simp
    · intro i h1 h2
      simp only [Array.getElem_modify, Array.getElem_setIfInBounds]
      by_cases hi : b = i
      · subst hi; simp [hget]
      · rw [Array.getElem_setIfInBounds_ne (hj := by simpa using h1) (h := hi)]
        simp [hi]
  cases v <;> simp [one1] at hv <;> simp [store, Sem.run, hc, hf, hw]
theorem rloadCellsFrom {w : World} {a : Addr} : ∀ (n i : Nat) (acc : Array Value) (vs : List Value), vs.length = n → (∀ j u, vs[j]? = some u → w.cell? (a.add (i + j)) = some u) →
    (loadCellsFrom a i n acc).run P w = .ok (acc ++ vs.toArray) w := by
  intro n
  induction n with
  | zero => intro i acc vs hl _; simp [loadCellsFrom, List.eq_nil_of_length_eq_zero hl]
  | succ n ih =>
    intro i acc vs hl h
    obtain _ | ⟨v, vs⟩ := vs
    · simp at hl
    have h0 := h 0 v rfl
    simp only [loadCellsFrom, Sem.run_bind]
    rw [rload P (by simpa using h0)]
    simp only [Result.andThen]
    rw [ih (i + 1) (acc.push v) vs (by simpa using hl) (fun j u hj => by have := h (j + 1) u (by simpa using hj); rwa [show i + 1 + j = i + (j + 1) from by omega])]
    simp
theorem rloadCells {w : World} {a : Addr} {vs : List Value} {n : Nat} (hl : vs.length = n) (h : ∀ j u, vs[j]? = some u → w.cell? (a.add j) = some u) :
    (loadCells a n).run P w = .ok vs.toArray w := by
  have := rloadCellsFrom P (w := w) (a := a) n 0 #[] vs hl (by simpa using h)
  simpa [loadCells] using this

/-- A run of values laid over a list. -/
def lay (cs : List Value) (off : Nat) (vs : List Value) : List Value := cs.take off ++ vs ++ cs.drop (off + vs.length)
theorem lay_length {cs : List Value} {off : Nat} {vs : List Value} (h : off + vs.length ≤ cs.length) : (lay cs off vs).length = cs.length := by
  simp [lay]; omega
theorem lay_nil (cs : List Value) (off : Nat) : lay cs off [] = cs := by simp [lay]
theorem lay_cons {cs : List Value} {off : Nat} {v : Value} {vs : List Value} (h : off < cs.length) : lay (cs.set off v) (off + 1) vs = lay cs off (v :: vs) := by
  unfold lay
  have e1 : (cs.set off v).take (off + 1) = cs.take off ++ [v] := by
    rw [List.take_succ_eq_append_getElem (by simpa using h)]
    simp [List.take_set_of_le]
  have e2 : (cs.set off v).drop (off + 1 + vs.length) = cs.drop (off + (v :: vs).length) := by
    rw [List.drop_set_of_lt (by omega)]
    simp only [List.length_cons]
    congr 1
    omega
  rw [e1, e2]
  simp
theorem lay_get_lt {cs : List Value} {off i : Nat} {vs : List Value} (h : i < off) (ho : off ≤ cs.length) : (lay cs off vs)[i]? = cs[i]? := by
  unfold lay
  rw [List.append_assoc, List.getElem?_append_left (by simp; omega), List.getElem?_take_of_lt h]
theorem lay_get_mid {cs : List Value} {off i : Nat} {vs : List Value} (h : i < vs.length) (ho : off ≤ cs.length) : (lay cs off vs)[off + i]? = vs[i]? := by
  unfold lay
  rw [List.append_assoc, List.getElem?_append_right (by simp; omega), List.getElem?_append_left (by simp; omega)]
  congr 1
  simp
  omega
theorem lay_get_ge {cs : List Value} {off i : Nat} {vs : List Value} (h : off + vs.length ≤ i) (ho : off + vs.length ≤ cs.length) : (lay cs off vs)[i]? = cs[i]? := by
  unfold lay
  rw [List.getElem?_append_right (by simp; omega)]
  simp
  congr 1
  omega

theorem rstoreCells : ∀ (vs : List Value) (w : World) (b off i : Nat) (cs : List Value) (el : TypeId) (fr : Nat × Nat), (∀ v ∈ vs, one1 v = true) → w.heap[b]? = some (.cells cs.toArray el fr) →
    off + i + vs.length ≤ cs.length → Thawed cs.length fr → (storeCells ⟨b, off, none⟩ vs i).run P w = .ok () (setB w b (lay cs (off + i) vs) el fr) := by
  intro vs
  induction vs with
  | nil =>
    intro w b off i cs el fr _ h _ _
    have hb := lt_of_block h
    have hget : w.heap[b] = .cells cs.toArray el fr := by rw [Array.getElem?_eq_getElem hb] at h; simpa using h
    have : setB w b cs el fr = w := by
      unfold setB
      rw [Array.setIfInBounds_def, dif_pos hb, ← hget, Array.set_getElem_self]
    simp [storeCells, lay_nil, this]
  | cons v vs ih =>
    intro w b off i cs el fr h1 h hl ht
    simp only [List.length_cons] at hl
    simp only [storeCells, Sem.run_bind, add_none]
    rw [rstore P (h1 v (by simp)) h (by omega) ht]
    simp only [Result.andThen]
    have hb := lt_of_block h
    rw [ih (setB w b (cs.set (off + i) v) el fr) b off (i + 1) (cs.set (off + i) v) el fr (fun u hu => h1 u (by simp [hu])) (setB_at hb) (by simp; omega) (by simpa using ht)]
    have e : lay (cs.set (off + i) v) (off + (i + 1)) vs = lay cs (off + i) (v :: vs) := by
      rw [← lay_cons (show off + i < cs.length by omega)]; congr 1
    rw [e]
    congr 1
    simp [setB]
end
end Go.Proofs.Ytbmimaabgclhjaa.Fw
