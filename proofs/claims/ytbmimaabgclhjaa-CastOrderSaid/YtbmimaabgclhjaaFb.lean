/- The frame of the machine side: pieces of memory that a walk has to itself ('Chunk'), the state of a walk, its steps. -/
import Derived.Test.YtbmimaabgclhjaaFa
import Derived.TacticsIn
import Derived.OrdersIn
import Derived.RangeFuncLeaves
namespace Go.Proofs.Ytbmimaabgclhjaa.Fw
open Go Go.RowKit
set_option linter.unusedVariables false
set_option linter.unusedSimpArgs false

/-- What a slot is told to be. -/
inductive SW where
  | any
  | und
  | val (p : VP)
inductive SV1 where
  | one (s : SW)
  | tup (l : List SW)

/-- A piece of memory that a walk has to itself: its blocks; what lies there. -/
structure Chunk where
  foot : Nat → Prop
  R : Env → World → Prop
  lt : ∀ {e w}, R e w → ∀ b, foot b → b < w.heap.size
  kept : ∀ {e e' w w'}, R e w → e.le e' → (∀ ad v, e'.mu ad = some v → foot ad.block → e.mu ad = some v) → (∀ b, foot b → w'.heap[b]? = w.heap[b]?) → R e' w'

/-- A pointer. -/
def PTR (b off : Nat) : VP := ⟨fun _ v => v = .pointer (some ⟨b, off, none⟩), fun _ h => h⟩
/-- A pointer that may be nil. -/
def PTO (ob : Option Nat) : VP := ⟨fun _ v => v = .pointer (ob.map fun b => ⟨b, 0, none⟩), fun _ h => h⟩
/-- A row's head. -/
def HDR (ob : Option Nat) (off n c : Nat) : VP := ⟨fun _ v => v = .slice (ob.map fun b => ⟨b, off, none⟩) n c, fun _ h => h⟩
/-- A map. -/
def MPV (ob : Option Nat) : VP := ⟨fun _ v => v = .map ob, fun _ h => h⟩
def ArgsR (e : Env) (ps : List VP) (vs : List Value) : Prop := vs.length = ps.length ∧ ∀ (i : Nat) (p : VP), ps[i]? = some p → p.p e (vs.getD i undef)
theorem ArgsR.mono {e e' : Env} {ps : List VP} {vs : List Value} (he : e.le e') (h : ArgsR e ps vs) : ArgsR e' ps vs := ⟨h.1, fun i p hp => p.mono he (h.2 i p hp)⟩
/-- A function value. -/
def CLO (f : FuncId) (ps : List VP) : VP := ⟨fun e v => ∃ vs : List Value, v = .func (.func f) #[] vs.toArray ∧ ArgsR e ps vs, fun he ⟨vs, a, b⟩ => ⟨vs, a, b.mono he⟩⟩
def NILF : VP := ⟨fun _ v => v = .nilFunc, fun _ h => h⟩
def YLD (l : Nat) : VP := ⟨fun _ v => v = .func (.yield l) #[] #[], fun _ h => h⟩
/-- A value of one cell, as it lies in memory. -/
def rW (p : VP) : Rep Unit := ⟨1, fun e _ vs => ∃ v, vs = [v] ∧ p.p e v ∧ one1 v = true, fun ⟨v, h, _⟩ => by simp [h], fun ⟨v, h, _, h1⟩ => by subst h; simp [h1], fun he ⟨v, h, k, h1⟩ => ⟨v, h, p.mono he k, h1⟩⟩

/-- A variable in memory. -/
def cvar (b : Nat) {T : Type} (r : Rep T) (x : T) : Chunk where
  foot c := c = b
  R e w := ∃ (cs : List Value) (el : TypeId) (fr : Nat × Nat), w.heap[b]? = some (.cells cs.toArray el fr) ∧ Thawed cs.length fr ∧ r.rel e x cs ∧ ∀ ad v, e.mu ad = some v → ad.block ≠ b
  lt := fun ⟨cs, el, fr, h, _⟩ c hc => by subst hc; exact lt_of_block h
  kept := fun ⟨cs, el, fr, h1, h2, h3, h4⟩ he hmu hk => ⟨cs, el, fr, (hk b rfl).trans h1, h2, r.mono he h3, fun ad v hm hb => h4 ad v (hmu ad v hm hb) hb⟩
/-- A row: its block (none: it is nil); how many of its elements are frozen; how many it has room for. -/
def cown (ob : Option Nat) {T : Type} (r : Rep T) (xs : List T) (fz cap : Nat) : Chunk where
  foot c := ob = some c
  R e w := (ob = none ∧ xs = [] ∧ fz = 0 ∧ cap = 0) ∨ ∃ (b : Nat) (cs : List Value) (el : TypeId) (fr : Nat × Nat), ob = some b ∧ w.heap[b]? = some (.cells cs.toArray el fr) ∧ Thawed cs.length fr ∧ xs.length ≤ cap ∧ cap * r.sz ≤ cs.length ∧
      (∀ i (h : i < xs.length), r.rel e xs[i] ((cs.drop (i * r.sz)).take r.sz)) ∧ (∀ ad v, e.mu ad = some v → ad.block = b → ad.off < fz * r.sz) ∧ fz ≤ xs.length ∧ Mu e b 0 (cs.take (fz * r.sz))
  lt := fun h c hc => by
    rcases h with ⟨h, _⟩ | ⟨b, cs, el, fr, hb, h, _⟩
    · rw [h] at hc; cases hc
    · rw [hb] at hc; cases hc; exact lt_of_block h
  kept := fun h he hmu hk => by
    rcases h with h | ⟨b, cs, el, fr, hb, h1, h2, h0, h3, h4, h5, h6, h7⟩
    · exact .inl h
    · exact .inr ⟨b, cs, el, fr, hb, (hk b hb).trans h1, h2, h0, h3, fun i hi => r.mono he (h4 i hi), fun ad v hm hbl => h5 ad v (hmu ad v hm (by rw [hbl]; exact hb)) hbl, h6, h7.mono he⟩
/-- The block of a loop's deferred calls. -/
def cdef (r : Nat) : Chunk where
  foot c := c = r
  R e w := w.heap[r]? = some (.deferred (some [])) ∧ ∀ ad v, e.mu ad = some v → ad.block ≠ r
  lt := fun h c hc => by subst hc; exact lt_of_block h.1
  kept := fun h he hmu hk => ⟨(hk r rfl).trans h.1, fun ad v hm hb => h.2 ad v (hmu ad v hm hb) hb⟩

def SWR (e : Env) : SW → Value → Prop
  | .any, _ => True
  | .und, v => v = undef
  | .val p, v => p.p e v
def SVR (e : Env) : SV1 → Value → Prop
  | .one s, v => SWR e s v
  | .tup l, v => ∃ vs : List Value, v = .tuple vs.toArray ∧ vs.length = l.length ∧ ∀ i s, l[i]? = some s → SWR e s (vs.getD i undef)
theorem SWR.mono {e e' : Env} {s : SW} {v : Value} (he : e.le e') (h : SWR e s v) : SWR e' s v := by
  cases s with
  | any => trivial
  | und => exact h
  | val p => exact p.mono he h
theorem SVR.mono {e e' : Env} {s : SV1} {v : Value} (he : e.le e') (h : SVR e s v) : SVR e' s v := by
  cases s with
  | one s => exact SWR.mono he h
  | tup l => obtain ⟨vs, h1, h2, h3⟩ := h; exact ⟨vs, h1, h2, fun i s hs => (h3 i s hs).mono he⟩

def look : List (Nat × SV1) → Nat → Option SV1
  | [], _ => none
  | (s, v) :: r, t => bif Nat.beq s t then some v else look r t
theorem look_cons_self (t : Nat) (v : SV1) (r : List (Nat × SV1)) : look ((t, v) :: r) t = some v := by simp [look]
theorem look_cons_ne {s t : Nat} (v : SV1) (r : List (Nat × SV1)) (h : s ≠ t) : look ((s, v) :: r) t = look r t := by
  have : Nat.beq s t = false := by rw [← Bool.not_eq_true, Nat.beq_eq]; exact h
  simp [look, this]
theorem look_cons {s t : Nat} {sv sv' : SV1} {ρ : List (Nat × SV1)} (h : look ((s, sv) :: ρ) t = some sv') : (t = s ∧ sv' = sv) ∨ (t ≠ s ∧ look ρ t = some sv') := by
  by_cases e : s = t
  · subst e; rw [look_cons_self] at h; cases h; exact .inl ⟨rfl, rfl⟩
  · rw [look_cons_ne _ _ e] at h; exact .inr ⟨Ne.symm e, h⟩

structure St where
  ρ : List (Nat × SV1)
  X : List Chunk
  df : List Nat
def St.set (st : St) (d : Nat) (sv : SV1) : St := { st with ρ := (d, sv) :: st.ρ }
def mark (r : Nat) : Deferred := { target := .collected r, args := #[] }

/-- Where the call began. -/
structure Base where
  N : Nat
  ro : Option Nat
  e0 : Env
  F0 : Nat → Prop
  w0 : World
def Dj (c d : Chunk) : Prop := ∀ b, c.foot b → ¬ d.foot b
structure Base.ok (Bs : Base) (e : Env) (X : List Chunk) (w : World) : Prop where
  le : Bs.e0.le e
  os : w.os = Bs.w0.os
  tape : w.tape = Bs.w0.tape
  output : w.output = Bs.w0.output
  size : Bs.w0.heap.size ≤ w.heap.size
  old : ∀ b, b < Bs.w0.heap.size → ¬ Bs.F0 b → w.heap[b]? = Bs.w0.heap[b]?
  foot : ∀ c ∈ X, ∀ b, c.foot b → Bs.F0 b ∨ Bs.w0.heap.size ≤ b
  mu : ∀ ad v, e.mu ad = some v → Bs.e0.mu ad = some v ∨ Bs.w0.heap.size ≤ ad.block ∨ Bs.F0 ad.block

structure StE (Bs : Base) (st : St) (e : Env) (a : Act) (w : World) : Prop where
  nt : a.tmps.size = Bs.N
  df : a.defers = st.df.map mark
  frz : ∀ ad v, e.mu ad = some v → w.cell? ad = some v
  xs : ∀ c ∈ st.X, c.R e w
  dj : st.X.Pairwise Dj
  sl : ∀ t sv, look st.ρ t = some sv → SVR e sv (a.tmps.getD t undef)
  base : Bs.ok e st.X w

def StR (Bs : Base) (st : St) (a : Act) (w : World) : Prop := ∃ e, StE Bs st e a w

theorem Dj.symm {c d : Chunk} (h : Dj c d) : Dj d c := fun b hb hc => h b hc hb
/-- New knowledge is of new blocks alone. -/
def MuNew (e e' : Env) (n : Nat) : Prop := ∀ ad v, e'.mu ad = some v → e.mu ad = some v ∨ n ≤ ad.block
theorem MuNew.refl (e : Env) (n : Nat) : MuNew e e n := fun _ _ h => .inl h
/-- No old block has turned. -/
structure Kept (w w' : World) : Prop where
  os : w'.os = w.os
  tape : w'.tape = w.tape
  output : w'.output = w.output
  size : w.heap.size ≤ w'.heap.size
  old : ∀ b, b < w.heap.size → w'.heap[b]? = w.heap[b]?
theorem Kept.refl (w : World) : Kept w w := ⟨rfl, rfl, rfl, Nat.le_refl _, fun _ _ => rfl⟩
theorem Kept.trans {a b c : World} (h : Kept a b) (k : Kept b c) : Kept a c :=
  ⟨k.os.trans h.os, k.tape.trans h.tape, k.output.trans h.output, Nat.le_trans h.size k.size, fun i hi => (k.old i (Nat.lt_of_lt_of_le hi h.size)).trans (h.old i hi)⟩
theorem Kept.of_below {w w' : World} (h : Below w.heap.size w w') : Kept w w' := ⟨h.os, h.tape, h.output, h.size, h.block⟩
theorem Kept.below {w w' : World} (h : Kept w w') : Below w.heap.size w w' := ⟨h.os, h.tape, h.output, h.size, h.old⟩
theorem Kept.push (w : World) (o : Obj) : Kept w { w with heap := w.heap.push o } :=
  ⟨rfl, rfl, rfl, by simp, fun b hb => by simp only [Array.getElem?_push]; rw [if_neg (by omega)]⟩
/-- No block has turned but those of a footprint. -/
structure KeptX (f : Nat → Prop) (w w' : World) : Prop where
  os : w'.os = w.os
  tape : w'.tape = w.tape
  output : w'.output = w.output
  size : w.heap.size ≤ w'.heap.size
  old : ∀ b, b < w.heap.size → ¬ f b → w'.heap[b]? = w.heap[b]?
theorem Kept.x {w w' : World} (h : Kept w w') (f : Nat → Prop) : KeptX f w w' := ⟨h.os, h.tape, h.output, h.size, fun b hb _ => h.old b hb⟩
theorem KeptX.setB {w : World} {b : Nat} {cs : List Value} {el : TypeId} {fr : Nat × Nat} : KeptX (· = b) w (setB w b cs el fr) :=
  ⟨rfl, rfl, rfl, by rw [setB_size]; exact Nat.le_refl _, fun c _ hc => setB_ne hc⟩

theorem frz_kept {e : Env} {w w' : World} (h : ∀ ad v, e.mu ad = some v → w.cell? ad = some v) (hk : Kept w w') : ∀ ad v, e.mu ad = some v → w'.cell? ad = some v := fun ad v hm => by
  have h1 := h ad v hm
  have hb : ad.block < w.heap.size := World.block_lt_of_cell? w ad h1
  rw [World.cell?_of_block (hk.old ad.block hb)]
  exact h1

section
variable {Bs : Base} {st : St} {e : Env} {a : Act} {w : World}

theorem mu_lt (h : StE Bs st e a w) {ad : Addr} {v : Value} (hm : e.mu ad = some v) : ad.block < w.heap.size := World.block_lt_of_cell? w ad (h.frz ad v hm)
theorem muspot (h : StE Bs st e a w) {ad : Addr} {v : Value} (hm : e.mu ad = some v) : ad.spot = none := by
  have := h.frz ad v hm
  unfold World.cell? at this
  split at this
  · split at this
    · cases this
    · rename_i hs; simpa using hs
  · cases this

/-- THE LAW OF ALL STEPS: some of the pieces ('A') are turned into others ('C'); the rest ('B') stays. -/
theorem StE.turn (h : StE Bs st e a w) {A B C : List Chunk} {e' : Env} {w' : World} (hX : st.X.Perm (A ++ B)) (he : e.le e') (hmu : ∀ ad v, e'.mu ad = some v → e.mu ad = some v ∨ w.heap.size ≤ ad.block ∨ ∃ c ∈ A, c.foot ad.block)
    (hk : KeptX (fun b => ∃ c ∈ A, c.foot b) w w') (hfrz : ∀ ad v, e'.mu ad = some v → w'.cell? ad = some v)
    (hC : ∀ c ∈ C, c.R e' w') (hdC : C.Pairwise Dj) (hf : ∀ c ∈ C, ∀ b, c.foot b → (∃ d ∈ A, d.foot b) ∨ w.heap.size ≤ b) : StE Bs { st with X := C ++ B } e' a w' := by
  have hP : (A ++ B).Pairwise Dj := hX.pairwise h.dj (fun {_ _} h => Dj.symm h)
  obtain ⟨hPA, hPB, hAB⟩ := List.pairwise_append.1 hP
  have hmB : ∀ c ∈ B, c ∈ st.X := fun c hc => hX.mem_iff.2 (List.mem_append_right _ hc)
  have hmA : ∀ c ∈ A, c ∈ st.X := fun c hc => hX.mem_iff.2 (List.mem_append_left _ hc)
  have hBlt : ∀ c ∈ B, ∀ b, c.foot b → b < w.heap.size := fun c hc b hb => c.lt (h.xs c (hmB c hc)) b hb
  refine ⟨h.nt, h.df, hfrz, fun c hc => ?_, ?_, fun t sv ht => (h.sl t sv ht).mono he, ?_⟩
  · rcases List.mem_append.1 hc with hc | hc
    · exact hC c hc
    · refine c.kept (h.xs c (hmB c hc)) he (fun ad v hm hb => ?_) (fun b hb => ?_)
      · rcases hmu ad v hm with h1 | h1 | ⟨d, hd, h1⟩
        · exact h1
        · have := hBlt c hc _ hb; omega
        · exact absurd hb (hAB d hd c hc _ h1)
      · exact hk.old b (hBlt c hc b hb) fun ⟨d, hd, h1⟩ => hAB d hd c hc b h1 hb
  · refine List.pairwise_append.2 ⟨hdC, hPB, fun c hc d hd b hb hb' => ?_⟩
    rcases hf c hc b hb with ⟨x, hx, h1⟩ | h1
    · exact hAB x hx d hd b h1 hb'
    · have := hBlt d hd b hb'; omega
  · have hb0 := h.base
    refine ⟨hb0.le.trans he, hk.os.trans hb0.os, hk.tape.trans hb0.tape, hk.output.trans hb0.output, Nat.le_trans hb0.size hk.size, fun b hb hF => ?_, fun c hc b hb => ?_, fun ad v hm => ?_⟩
    · have hlt : b < w.heap.size := Nat.lt_of_lt_of_le hb hb0.size
      refine (hk.old b hlt fun ⟨d, hd, h1⟩ => ?_).trans (hb0.old b hb hF)
      rcases hb0.foot d (hmA d hd) b h1 with h2 | h2
      · exact hF h2
      · omega
    · rcases List.mem_append.1 hc with hc | hc
      · rcases hf c hc b hb with ⟨x, hx, h1⟩ | h1
        · exact hb0.foot x (hmA x hx) b h1
        · exact .inr (Nat.le_trans hb0.size h1)
      · exact hb0.foot c (hmB c hc) b hb
    · rcases hmu ad v hm with h1 | h1 | ⟨d, hd, h1⟩
      · exact hb0.mu ad v h1
      · exact .inr (.inl (Nat.le_trans hb0.size h1))
      · rcases hb0.foot d (hmA d hd) _ h1 with h2 | h2
        · exact .inr (.inr h2)
        · exact .inr (.inl h2)

/-- A world that has grown; more is known. -/
theorem StE.grow (h : StE Bs st e a w) {e' : Env} {w' : World} (he : e.le e') (hn : MuNew e e' w.heap.size) (hk : Kept w w') (hf : ∀ ad v, e'.mu ad = some v → w'.cell? ad = some v) : StE Bs st e' a w' := by
  have := h.turn (A := []) (B := st.X) (C := []) (List.Perm.refl _) he (fun ad v hm => (hn ad v hm).elim .inl fun h => .inr (.inl h)) (hk.x _) hf (fun c hc => by cases hc) List.Pairwise.nil (fun c hc => by cases hc)
  exact this
theorem StE.keep (h : StE Bs st e a w) {w' : World} (hk : Kept w w') : StE Bs st e a w' := h.grow (Env.le.refl e) (MuNew.refl e _) hk (frz_kept h.frz hk)
/-- A new piece. -/
theorem StE.new (h : StE Bs st e a w) {c : Chunk} (hc : c.R e w) {w0 : World} (hw : w0.heap.size ≤ w.heap.size) (hst : StE Bs st e a w0) (hf : ∀ b, c.foot b → w0.heap.size ≤ b) : StE Bs { st with X := c :: st.X } e a w := by
  refine ⟨h.nt, h.df, h.frz, fun d hd => ?_, ?_, h.sl, ?_⟩
  · rcases List.mem_cons.1 hd with rfl | hd
    · exact hc
    · exact h.xs d hd
  · refine List.pairwise_cons.2 ⟨fun d hd b hb hb' => ?_, h.dj⟩
    have h1 := d.lt (hst.xs d hd) b hb'
    have h2 := hf b hb
    omega
  · have hb0 := h.base
    refine ⟨hb0.le, hb0.os, hb0.tape, hb0.output, hb0.size, hb0.old, fun d hd b hb => ?_, hb0.mu⟩
    rcases List.mem_cons.1 hd with rfl | hd
    · exact .inr (Nat.le_trans hst.base.size (hf b hb))
    · exact hb0.foot d hd b hb

/-- One piece is told anew. -/
theorem perm_split {X : List Chunk} {j : Nat} (hlt : j < X.length) : X.Perm (X[j] :: X.eraseIdx j) := by
  induction X generalizing j with
  | nil => simp at hlt
  | cons x X ih =>
    obtain _ | j := j
    · simp
    · simp only [List.getElem_cons_succ, List.eraseIdx_cons_succ]
      exact ((ih (by simpa using hlt)).cons x).trans (List.Perm.swap _ _ _)
theorem perm_set {X : List Chunk} {j : Nat} {c : Chunk} (hj : X[j]? = some c) : X.Perm ([c] ++ X.eraseIdx j) := by
  obtain ⟨hlt, h1⟩ := List.getElem?_eq_some_iff.1 hj
  have := perm_split hlt
  rw [h1] at this
  exact this
theorem erase_set {X : List Chunk} {j : Nat} {d : Chunk} : (X.set j d).eraseIdx j = X.eraseIdx j := by
  induction X generalizing j with
  | nil => rfl
  | cons x X ih => cases j with
    | zero => rfl
    | succ j => simp [ih]
theorem set_perm {X : List Chunk} {j : Nat} {c d : Chunk} (hj : X[j]? = some c) : ([d] ++ X.eraseIdx j).Perm (X.set j d) := by
  have hlt := (List.getElem?_eq_some_iff.1 hj).1
  have := perm_split (X := X.set j d) (j := j) (by simpa using hlt)
  rw [List.getElem_set_self, erase_set] at this
  exact this.symm
theorem StE.perm (h : StE Bs st e a w) {X : List Chunk} (hX : st.X.Perm X) : StE Bs { st with X := X } e a w :=
  ⟨h.nt, h.df, h.frz, fun c hc => h.xs c (hX.mem_iff.2 hc), hX.pairwise h.dj (fun {_ _} h => Dj.symm h), h.sl, ⟨h.base.le, h.base.os, h.base.tape, h.base.output, h.base.size, h.base.old, fun c hc => h.base.foot c (hX.mem_iff.2 hc), h.base.mu⟩⟩
theorem StE.turn1 (h : StE Bs st e a w) {j : Nat} {c c' : Chunk} {e' : Env} {w' : World} (hj : st.X[j]? = some c) (he : e.le e') (hmu : ∀ ad v, e'.mu ad = some v → e.mu ad = some v ∨ w.heap.size ≤ ad.block ∨ c.foot ad.block)
    (hk : KeptX c.foot w w') (hfrz : ∀ ad v, e'.mu ad = some v → w'.cell? ad = some v) (hc : c'.R e' w') (hf : ∀ b, c'.foot b → c.foot b ∨ w.heap.size ≤ b) : StE Bs { st with X := st.X.set j c' } e' a w' := by
  have := h.turn (A := [c]) (B := st.X.eraseIdx j) (C := [c']) (e' := e') (w' := w') (perm_set hj) he (fun ad v hm => (hmu ad v hm).imp id fun h => h.imp id fun h => ⟨c, by simp, h⟩)
    ⟨hk.os, hk.tape, hk.output, hk.size, fun b hb hn => hk.old b hb fun hf => hn ⟨c, by simp, hf⟩⟩ hfrz (fun d hd => by simp at hd; subst hd; exact hc) (List.pairwise_singleton _ _) (fun d hd b hb => by simp at hd; subst hd; exact (hf b hb).imp (fun h => ⟨c, by simp, h⟩) id)
  exact this.perm (set_perm hj)

theorem getD_put_self {a : Act} {d : Nat} {v : Value} (h : d < a.tmps.size) : (a.put (some d) v).tmps.getD d undef = v := by
  simp [Act.put, h]
theorem getD_put_ne {a : Act} {d t : Nat} {v : Value} (h : d ≠ t) : (a.put (some d) v).tmps.getD t undef = a.tmps.getD t undef := by
  simp [Act.put, Array.getElem?_setIfInBounds_ne h]
/-- A slot is written. -/
theorem StE.put (h : StE Bs st e a w) {d : Nat} {sv : SV1} {v : Value} (hd : d < Bs.N) (hv : SVR e sv v) : StE Bs (st.set d sv) e (a.put (some d) v) w :=
  ⟨by simp [Act.put, h.nt], h.df, h.frz, h.xs, h.dj, fun t s ht => by
    by_cases e : d = t
    · subst e
      rw [show look (st.set d sv).ρ d = some sv from look_cons_self ..] at ht
      cases ht
      rw [getD_put_self (by rw [h.nt]; exact hd)]
      exact hv
    · rw [show look (st.set d sv).ρ t = look st.ρ t from look_cons_ne _ _ e] at ht
      rw [getD_put_ne e]
      exact h.sl t s ht, h.base⟩
/-- Less is told of the slots. -/
theorem StE.weak (h : StE Bs st e a w) {ρ' : List (Nat × SV1)} (hw : ∀ t sv, look ρ' t = some sv → look st.ρ t = some sv) : StE Bs { st with ρ := ρ' } e a w :=
  { h with sl := fun t sv ht => h.sl t sv (hw t sv ht) }
end

/-! ### judgements -/
/-- The fence: none. -/
abbrev WF (ro : Option Nat) : Fence := { fn := fun _ => True, depth := none, alive := false, round := ro }
/-- An operation takes one state to another. -/
def OpStep (P : Program) (Bs : Base) (o : Oper) (st st' : St) : Prop :=
  ∀ a w, StR Bs st a w → ∀ (K : Act → World → Prop) (Q : Exit → Act → World → Prop), (∀ a' w', StR Bs st' a' w' → K a' w') → o.wpIn (WF Bs.ro) 0 P a w K Q
/-- .. to some one of several. -/
def OpX (P : Program) (Bs : Base) (o : Oper) (st : St) {γ : Type} (st' : γ → St) : Prop :=
  ∀ a w, StR Bs st a w → ∀ (K : Act → World → Prop) (Q : Exit → Act → World → Prop), (∀ g a' w', StR Bs (st' g) a' w' → K a' w') → o.wpIn (WF Bs.ro) 0 P a w K Q
def JL (P : Program) (Bs : Base) (ops : Array Oper) (os : List Oper) (st : St) (Q : Exit → Act → World → Prop) : Prop := ∀ a w, StR Bs st a w → wpListIn (WF Bs.ro) 0 P ops Q os a w
def JC (P : Program) (Bs : Base) (c : Code) (st : St) (Q : Exit → Act → World → Prop) : Prop := ∀ a w, StR Bs st a w → c.wpIn (WF Bs.ro) 0 P Q a w
/-- What lies behind a piece of code. -/
def JQ (Bs : Base) (ex : Exit) (st : St) (Q : Exit → Act → World → Prop) : Prop := ∀ a w, StR Bs st a w → Q ex a w

section
variable {P : Program} {Bs : Base} {st st' : St} {Q : Exit → Act → World → Prop} {ops : Array Oper} {os : List Oper} {o : Oper}
theorem OpStep.x (h : OpStep P Bs o st st') : OpX P Bs o st (fun _ : Unit => st') := fun a w hst K Q hK => h a w hst K Q (hK ())
theorem JL.nil (h : JQ Bs .normal st Q) : JL P Bs ops [] st Q := fun a w hst => wpListIn_nil (h a w hst)
/-- The state is told anew. -/
def Imp (Bs : Base) (st st' : St) : Prop := ∀ a w, StR Bs st a w → StR Bs st' a w
def ImpX (Bs : Base) (st : St) {γ : Type} (st' : γ → St) : Prop := ∀ a w, StR Bs st a w → ∃ g, StR Bs (st' g) a w
theorem JL.pre (i : Imp Bs st st') (h : JL P Bs ops os st' Q) : JL P Bs ops os st Q := fun a w hst => h a w (i a w hst)
theorem JC.pre {c : Code} (i : Imp Bs st st') (h : JC P Bs c st' Q) : JC P Bs c st Q := fun a w hst => h a w (i a w hst)
theorem JQ.pre {ex : Exit} (i : Imp Bs st st') (h : JQ Bs ex st' Q) : JQ Bs ex st Q := fun a w hst => h a w (i a w hst)
theorem Imp.refl : Imp Bs st st := fun _ _ h => h
theorem Imp.trans {st'' : St} (h : Imp Bs st st') (k : Imp Bs st' st'') : Imp Bs st st'' := fun a w hs => k a w (h a w hs)

theorem JC.seq {x y : Code} (h : JC P Bs x st (Exit.then (fun a w => y.wpIn (WF Bs.ro) 0 P Q a w) Q)) : JC P Bs (.seq x y) st Q := fun a w hst => wpIn_seq (h a w hst)
theorem JQ.then {y : Code} (h : JC P Bs y st Q) : JQ Bs .normal st (Exit.then (fun a w => y.wpIn (WF Bs.ro) 0 P Q a w) Q) := fun a w hst => h a w hst
theorem JC.skip (h : JQ Bs .normal st Q) : JC P Bs .skip st Q := fun a w hst => wpIn_skip (h a w hst)
theorem JC.label {l : Nat} (h : JQ Bs .normal st Q) : JC P Bs (.label l) st Q := fun a w hst => wpIn_label (h a w hst)
theorem JC.ret (h : JQ Bs .ret st Q) : JC P Bs .ret st Q := fun a w hst => wpIn_ret (h a w hst)
theorem JC.exit {id : Nat} (h : JQ Bs (.exit id) st Q) : JC P Bs (.exit id) st Q := fun a w hst => wpIn_exit (h a w hst)
theorem JC.block {id : Nat} {c : Code} (h : JC P Bs c st (Exit.inBlock id Q)) : JC P Bs (.block id c) st Q := fun a w hst => wpIn_block (h a w hst)
theorem JC.region {id : Nat} {l : List Oper} (h : JL P Bs l.toArray l st Q) : JC P Bs (.region id l.toArray false) st Q := fun a w hst => wpIn_region_lit (h a w hst)
/-- Out of a sequence. -/
theorem JQ.out {N : Act → World → Prop} {ex : Exit} (hex : ex ≠ .normal) (h : JQ Bs ex st Q) : JQ Bs ex st (Exit.then N Q) := fun a w hst => by
  have := h a w hst
  cases ex <;> first | exact absurd rfl hex | exact this
theorem JQ.outB {id : Nat} {ex : Exit} (hex : ∀ i, ex ≠ .exit i) (h : JQ Bs ex st Q) : JQ Bs ex st (Exit.inBlock id Q) := fun a w hst => by
  have := h a w hst
  cases ex <;> first | exact absurd rfl (hex _) | exact this
theorem JQ.outE {id id' : Nat} (hne : id' ≠ id) (h : JQ Bs (.exit id') st Q) : JQ Bs (.exit id') st (Exit.inBlock id Q) := fun a w hst => by
  have := h a w hst
  simp only [Exit.inBlock, if_neg hne]
  exact this
theorem JQ.here {id : Nat} (h : JQ Bs .normal st Q) : JQ Bs (.exit id) st (Exit.inBlock id Q) := fun a w hst => by
  have := h a w hst
  simp only [Exit.inBlock, if_true]
  exact this
theorem JQ.outX {N : Act → World → Prop} {i : Nat} (h : JQ Bs (.exit i) st Q) : JQ Bs (.exit i) st (Exit.then N Q) := JQ.out (fun h => by cases h) h
theorem JQ.outR {N : Act → World → Prop} (h : JQ Bs .ret st Q) : JQ Bs .ret st (Exit.then N Q) := JQ.out (fun h => by cases h) h
theorem JQ.outRB {id : Nat} (h : JQ Bs .ret st Q) : JQ Bs .ret st (Exit.inBlock id Q) := JQ.outB (fun _ h => by cases h) h
theorem JQ.outNB {id : Nat} (h : JQ Bs .normal st Q) : JQ Bs .normal st (Exit.inBlock id Q) := JQ.outB (fun _ h => by cases h) h

/-- An operand. -/
inductive HasO (st : St) : Operand → SV1 → Prop
  | tmp {t : Nat} {sv : SV1} (h : look st.ρ t = some sv) : HasO st (.tmp t) sv
  | const {c : Value} {p : VP} (h : ∀ e, p.p e c) : HasO st (.const c) (.one (.val p))
  | func {f : FuncId} : HasO st (.func f) (.one (.val (CLO f [])))
  | global {g : Nat} : HasO st (.global g) (.one (.val (PTR g 0)))
  | wk {x : Operand} {p q : VP} (h : HasO st x (.one (.val p))) (k : ∀ e v, p.p e v → q.p e v) : HasO st x (.one (.val q))
theorem HasO.get {x : Operand} {sv : SV1} (h : HasO st x sv) {e : Env} {a : Act} {w : World} (hst : StE Bs st e a w) : SVR e sv (a.eval x) := by
  induction h with
  | tmp h => exact hst.sl _ _ h
  | const h => exact h e
  | func => exact ⟨[], rfl, rfl, fun i p hp => by simp at hp⟩
  | global => rfl
  | wk h k ih => exact k e _ ih
theorem HasO.cI {k : IntKind} {n : Int} : HasO st (.const (.int k n)) (.one (.val (S (rI k) n))) := .const fun _ => rfl
theorem HasO.cU {U : Type} [UK U] {k : IntKind} {n : Int} {x : U} (h : k = UK.k U) (hn : n = (UN.toN x : Int)) : HasO st (.const (.int k n)) (.one (.val (S (rU U) x))) := .const fun _ => by subst h; subst hn; rfl
theorem HasO.cB {b : Bool} : HasO st (.const (.bool b)) (.one (.val (S rB b))) := .const fun _ => rfl
theorem HasO.cS {s : ByteArray} {l : List UInt8} (h : s = bs l) : HasO st (.const (.string s)) (.one (.val (S rS l))) := .const fun _ => by subst h; rfl

theorem JC.cond {c : Operand} {x y : Code} {b : Bool} (hc : HasO st c (.one (.val (S rB b)))) (ht : b = true → JC P Bs x st Q) (hf : b = false → JC P Bs y st Q) : JC P Bs (.cond c x y) st Q := fun a w hst => by
  obtain ⟨e, h⟩ := hst
  have hb : a.eval c = .bool b := by
    have := hc.get h
    simp only [SVR, SWR, S, rB] at this
    simpa using this
  cases b
  · exact wpIn_cond_false hb (hf rfl a w ⟨e, h⟩)
  · exact wpIn_cond_true hb (ht rfl a w ⟨e, h⟩)

theorem wpIn_calm {a : Act} {w w' : World} {v : Value} {K : Act → World → Prop} (hc : ∀ f, o.about P w a.eval = some f → True) (hd : ∀ c, o.op ≠ .defer c) (hr : (execOp a.eval o).run P w = .ok (.value v) w') (hK : K (a.put o.dst v) w') : o.wpIn (WF Bs.ro) 0 P a w K Q := by
  refine ⟨fun _ _ => trivial, ?_⟩
  rw [Oper.semAt_eq _ _ _ hd, hr]
  exact hK
theorem wpIn_skip' {a : Act} {w w' : World} {K : Act → World → Prop} (hd : ∀ c, o.op ≠ .defer c) (hr : (execOp a.eval o).run P w = .ok .skip w') (hK : K (a.put o.dst undef) w') : o.wpIn (WF Bs.ro) 0 P a w K Q := by
  refine ⟨fun _ _ => trivial, ?_⟩
  rw [Oper.semAt_eq _ _ _ hd, hr]
  exact hK
def nodefer : Op → Bool
  | .defer _ => false
  | _ => true
theorem nodefer_ne {op : Op} (h : nodefer op = true) : ∀ c, op ≠ .defer c := fun c e => by subst e; cases h
/-- An operation that computes a value and leaves the world. -/
theorem OpStep.value {d : Nat} {op : Op} {ty : TypeId} {pos : String} {af : Array Edge} {g : Option (Nat × Bool)} {sv : SV1} (hd : d < Bs.N)
    (h : ∀ e a w, StE Bs st e a w → ∃ v, (execOp a.eval ⟨some d, op, ty, pos, af, g⟩).run P w = .ok (.value v) w ∧ SVR e sv v) (hn : nodefer op = true := by rfl) :
    OpStep P Bs ⟨some d, op, ty, pos, af, g⟩ st (st.set d sv) := by
  intro a w ⟨e, hst⟩ K Q hK
  obtain ⟨v, hr, hv⟩ := h e a w hst
  exact wpIn_calm (fun _ _ => trivial) (nodefer_ne hn) hr (hK _ _ ⟨e, hst.put hd hv⟩)
/-- An operation that computes a value; the world grows. -/
theorem OpStep.grows {d : Nat} {op : Op} {ty : TypeId} {pos : String} {af : Array Edge} {g : Option (Nat × Bool)} {st' : St} {sv : SV1} (hd : d < Bs.N)
    (h : ∀ e a w, StE Bs st e a w → ∃ v w' e', (execOp a.eval ⟨some d, op, ty, pos, af, g⟩).run P w = .ok (.value v) w' ∧ StE Bs st' e' a w' ∧ SVR e' sv v) (hn : nodefer op = true := by rfl) :
    OpStep P Bs ⟨some d, op, ty, pos, af, g⟩ st (st'.set d sv) := by
  intro a w ⟨e, hst⟩ K Q hK
  obtain ⟨v, w', e', hr, hst', hv⟩ := h e a w hst
  exact wpIn_calm (fun _ _ => trivial) (nodefer_ne hn) hr (hK _ _ ⟨e', hst'.put hd hv⟩)
theorem OpX.grows {d : Nat} {op : Op} {ty : TypeId} {pos : String} {af : Array Edge} {g : Option (Nat × Bool)} {γ : Type} {st' : γ → St} {sv : γ → SV1} (hd : d < Bs.N)
    (h : ∀ e a w, StE Bs st e a w → ∃ v w' e' x, (execOp a.eval ⟨some d, op, ty, pos, af, g⟩).run P w = .ok (.value v) w' ∧ StE Bs (st' x) e' a w' ∧ SVR e' (sv x) v) (hn : nodefer op = true := by rfl) :
    OpX P Bs ⟨some d, op, ty, pos, af, g⟩ st (fun x => (st' x).set d (sv x)) := by
  intro a w ⟨e, hst⟩ K Q hK
  obtain ⟨v, w', e', x, hr, hst', hv⟩ := h e a w hst
  exact wpIn_calm (fun _ _ => trivial) (nodefer_ne hn) hr (hK x _ _ ⟨e', hst'.put hd hv⟩)
/-- An operation without a value. -/
theorem OpStep.act {op : Op} {ty : TypeId} {pos : String} {af : Array Edge} {g : Option (Nat × Bool)} {st' : St}
    (h : ∀ e a w, StE Bs st e a w → ∃ w' e', (execOp a.eval ⟨none, op, ty, pos, af, g⟩).run P w = .ok .skip w' ∧ StE Bs st' e' a w') (hn : nodefer op = true := by rfl) :
    OpStep P Bs ⟨none, op, ty, pos, af, g⟩ st st' := by
  intro a w ⟨e, hst⟩ K Q hK
  obtain ⟨w', e', hr, hst'⟩ := h e a w hst
  exact wpIn_skip' (nodefer_ne hn) hr (hK _ _ ⟨e', hst'⟩)
end
end Go.Proofs.Ytbmimaabgclhjaa.Fw
