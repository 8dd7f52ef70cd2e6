/- The frame of the machine side: boxes (blocks that the call has to itself), the state of a walk, its steps. -/
import Derived.Test.YtlkofkegbkkhbaaFa
namespace Go.Proofs.Ytlkofkegbkkhbaa.Fw
open Go Go.RowKit
set_option linter.unusedVariables false
set_option linter.unusedSimpArgs false

/-- What a slot is told to be. -/
inductive SW where
  | any
  | und
  | val (p : VP)
  | ptr (j off : Nat)
  | own (j : Nat)
  | fn (f : FuncId)
inductive SV1 where
  | one (s : SW)
  | tup (l : List SW)

/-- A block that the call has to itself. -/
inductive BX : Type 1 where
  | gone
  | var (T : Type) (r : Rep T) (x : T)
  | own (T : Type) (r : Rep T) (xs : List T) (fz : Nat)

def BoxR (e : Env) (w : World) : BX → Option Nat → Prop
  | .gone, ob => ob = none
  | .var _ r x, ob => ∃ (b : Nat) (cs : List Value) (el : TypeId) (fr : Nat × Nat), ob = some b ∧ w.heap[b]? = some (.cells cs.toArray el fr) ∧ Thawed cs.length fr ∧ r.rel e x cs ∧ ∀ ad v, e.mu ad = some v → ad.block ≠ b
  | .own _ r xs fz, ob => (ob = none ∧ xs = [] ∧ fz = 0) ∨ ∃ (b : Nat) (cs : List Value) (el : TypeId) (fr : Nat × Nat), ob = some b ∧ w.heap[b]? = some (.cells cs.toArray el fr) ∧ Thawed cs.length fr ∧ xs.length * r.sz ≤ cs.length ∧
      (∀ i (h : i < xs.length), r.rel e xs[i] ((cs.drop (i * r.sz)).take r.sz)) ∧ (∀ ad v, e.mu ad = some v → ad.block = b → ad.off < fz * r.sz) ∧ fz ≤ xs.length ∧ Mu e b 0 (cs.take (fz * r.sz))

def SWR (e : Env) (β : List (Option Nat)) (X : List BX) (w : World) : SW → Value → Prop
  | .any, _ => True
  | .und, v => v = undef
  | .val p, v => p.p e v
  | .ptr j off, v => ∃ b, β[j]? = some (some b) ∧ v = .pointer (some ⟨b, off, none⟩)
  | .own j, v => ∃ (T : Type) (r : Rep T) (xs : List T) (fz : Nat), X[j]? = some (.own T r xs fz) ∧ ((β[j]? = some none ∧ v = .slice none 0 0) ∨
      ∃ (b c : Nat) (cs : List Value) (el : TypeId) (fr : Nat × Nat), β[j]? = some (some b) ∧ v = .slice (some ⟨b, 0, none⟩) xs.length c ∧ xs.length ≤ c ∧ w.heap[b]? = some (.cells cs.toArray el fr) ∧ c * r.sz ≤ cs.length)
  | .fn f, v => v = .func (.func f) #[] #[]
def SVR (e : Env) (β : List (Option Nat)) (X : List BX) (w : World) : SV1 → Value → Prop
  | .one s, v => SWR e β X w s v
  | .tup l, v => ∃ vs : List Value, v = .tuple vs.toArray ∧ vs.length = l.length ∧ ∀ i s, l[i]? = some s → SWR e β X w s (vs.getD i undef)

def look : List (Nat × SV1) → Nat → Option SV1
  | [], _ => none
  | (s, v) :: r, t => bif Nat.beq s t then some v else look r t
theorem look_cons_self (t : Nat) (v : SV1) (r : List (Nat × SV1)) : look ((t, v) :: r) t = some v := by simp [look]
theorem look_cons_ne {s t : Nat} (v : SV1) (r : List (Nat × SV1)) (h : s ≠ t) : look ((s, v) :: r) t = look r t := by
  have : Nat.beq s t = false := by rw [← Bool.not_eq_true, Nat.beq_eq]; exact h
  simp [look, this]

/-- The objects that a function is let to turn. -/
structure HM where
  H : Type
  R : Env → H → (Nat → Prop) → World → Prop
  stable : ∀ {e e' h F w w'}, R e h F w → e.le e' → (∀ b, F b → w'.heap[b]? = w.heap[b]?) → R e' h F w'
def HM.none : HM := ⟨Unit, fun _ _ F _ => ∀ b, ¬ F b, fun h _ _ => h⟩

structure St (M : HM) where
  ρ : List (Nat × SV1)
  X : List BX
  h : M.H
def St.set {M : HM} (st : St M) (d : Nat) (sv : SV1) : St M := { st with ρ := (d, sv) :: st.ρ }

/-- Where the call began. -/
structure Base where
  N : Nat
  e0 : Env
  F0 : Nat → Prop
  w0 : World
structure Base.ok (Bs : Base) (e : Env) (F : Nat → Prop) (β : List (Option Nat)) (w : World) : Prop where
  le : Bs.e0.le e
  os : w.os = Bs.w0.os
  tape : w.tape = Bs.w0.tape
  output : w.output = Bs.w0.output
  size : Bs.w0.heap.size ≤ w.heap.size
  old : ∀ b, b < Bs.w0.heap.size → ¬ Bs.F0 b → w.heap[b]? = Bs.w0.heap[b]?
  foot : ∀ b, F b → Bs.F0 b ∨ Bs.w0.heap.size ≤ b
  mu : ∀ ad v, e.mu ad = some v → Bs.e0.mu ad = some v ∨ Bs.w0.heap.size ≤ ad.block
  fresh : ∀ (j b : Nat), β[j]? = some (some b) → Bs.w0.heap.size ≤ b
  e0lt : ∀ ad v, Bs.e0.mu ad = some v → ad.block < Bs.w0.heap.size

structure StE {M : HM} (Bs : Base) (st : St M) (e : Env) (β : List (Option Nat)) (F : Nat → Prop) (a : Act) (w : World) : Prop where
  nt : a.tmps.size = Bs.N
  df : a.defers = []
  frz : ∀ ad v, e.mu ad = some v → w.cell? ad = some v
  mus : ∀ ad v, e.mu ad = some v → ¬ F ad.block
  hr : M.R e st.h F w
  fsz : ∀ b, F b → b < w.heap.size
  bl : β.length = st.X.length
  bx : ∀ (j : Nat) (bx : BX) (ob : Option Nat), st.X[j]? = some bx → β[j]? = some ob → BoxR e w bx ob
  bf : ∀ (j b : Nat), β[j]? = some (some b) → ¬ F b ∧ b < w.heap.size
  bd : ∀ (i j b : Nat), β[i]? = some (some b) → β[j]? = some (some b) → i = j
  sl : ∀ t sv, look st.ρ t = some sv → SVR e β st.X w sv (a.tmps.getD t undef)
  base : Bs.ok e F β w

def StR {M : HM} (Bs : Base) (st : St M) (a : Act) (w : World) : Prop := ∃ e β F, StE Bs st e β F a w

/-! ### what stays -/
theorem BoxR.lt {e : Env} {w : World} {bx : BX} {b : Nat} (h : BoxR e w bx (some b)) : b < w.heap.size := by
  cases bx with
  | gone => simp [BoxR] at h
  | var T r x => obtain ⟨b', cs, el, fr, hb, h, _⟩ := h; cases hb; exact lt_of_block h
  | own T r xs fz => obtain ⟨h, _⟩ | ⟨b', cs, el, fr, hb, h, _⟩ := h; (simp at h); cases hb; exact lt_of_block h

/-- New knowledge is of new blocks alone. -/
def MuNew (e e' : Env) (n : Nat) : Prop := ∀ ad v, e'.mu ad = some v → e.mu ad = some v ∨ n ≤ ad.block
theorem MuNew.refl (e : Env) (n : Nat) : MuNew e e n := fun _ _ h => .inl h
/-- No old block has turned. -/
structure Kept (w w' : World) : Prop where
  os : w'.os = w.os
  tape : w'.tape = w.tape
  output : w'.output = w.output
  size : w.heap.size ≤ w'.heap.size
  old : ∀ b, b < w.heap.size → w'.heap[b]? = w.heap[b]?
theorem Kept.refl (w : World) : Kept w w := ⟨rfl, rfl, rfl, Nat.le_refl _, fun _ _ => rfl⟩
theorem Kept.trans {a b c : World} (h : Kept a b) (k : Kept b c) : Kept a c :=
  ⟨k.os.trans h.os, k.tape.trans h.tape, k.output.trans h.output, Nat.le_trans h.size k.size, fun i hi => (k.old i (Nat.lt_of_lt_of_le hi h.size)).trans (h.old i hi)⟩
theorem Kept.of_below {w w' : World} (h : Below w.heap.size w w') : Kept w w' := ⟨h.os, h.tape, h.output, h.size, h.block⟩
theorem Kept.below {w w' : World} (h : Kept w w') : Below w.heap.size w w' := ⟨h.os, h.tape, h.output, h.size, h.old⟩
theorem Kept.push (w : World) (o : Obj) : Kept w { w with heap := w.heap.push o } :=
  ⟨rfl, rfl, rfl, by simp, fun b hb => by simp only [Array.getElem?_push]; rw [if_neg (by omega)]⟩

theorem BoxR.kept {e e' : Env} {w w' : World} {bx : BX} {ob : Option Nat} (h : BoxR e w bx ob) (he : e.le e') (hn : MuNew e e' w.heap.size) (hk : ∀ b, ob = some b → w'.heap[b]? = w.heap[b]?) : BoxR e' w' bx ob := by
  cases bx with
  | gone => exact h
  | var T r x =>
    obtain ⟨b, cs, el, fr, hb, h1, h2, h3, h4⟩ := h
    exact ⟨b, cs, el, fr, hb, (hk b hb).trans h1, h2, r.mono he h3, fun ad v hm => (hn ad v hm).elim (h4 ad v) (fun hlt e => by have := lt_of_block h1; omega)⟩
  | own T r xs fz =>
    obtain h | ⟨b, cs, el, fr, hb, h1, h2, h3, h4, h5, h6, h7⟩ := h
    · exact .inl h
    · exact .inr ⟨b, cs, el, fr, hb, (hk b hb).trans h1, h2, h3, fun i hi => r.mono he (h4 i hi), fun ad v hm hbl => (hn ad v hm).elim (fun h => h5 ad v h hbl) (fun hlt => by have := lt_of_block h1; omega), h6, h7.mono he⟩

theorem SWR.kept {e e' : Env} {β β' : List (Option Nat)} {X X' : List BX} {w w' : World} {s : SW} {v : Value} (h : SWR e β X w s v) (he : e.le e') (hβ : ∀ (j : Nat) (ob : Option Nat), β[j]? = some ob → β'[j]? = some ob)
    (hX : ∀ (j : Nat) (bx : BX), X[j]? = some bx → X'[j]? = some bx) (hk : ∀ (j : Nat) (b : Nat), β[j]? = some (some b) → w'.heap[b]? = w.heap[b]?) : SWR e' β' X' w' s v := by
  cases s with
  | any => trivial
  | und => exact h
  | val p => exact p.mono he h
  | ptr j off => obtain ⟨b, h1, h2⟩ := h; exact ⟨b, hβ _ _ h1, h2⟩
  | own j =>
    obtain ⟨T, r, xs, fz, h1, h | ⟨b, c, cs, el, fr, h2, h3, h4, h5, h6⟩⟩ := h
    · exact ⟨T, r, xs, fz, hX _ _ h1, .inl ⟨hβ _ _ h.1, h.2⟩⟩
    · exact ⟨T, r, xs, fz, hX _ _ h1, .inr ⟨b, c, cs, el, fr, hβ _ _ h2, h3, h4, (hk j b h2).trans h5, h6⟩⟩
  | fn f => exact h
theorem SVR.map {e e' : Env} {β β' : List (Option Nat)} {X X' : List BX} {w w' : World} {s : SV1} {v : Value} (h : SVR e β X w s v) (k : ∀ s v, SWR e β X w s v → SWR e' β' X' w' s v) : SVR e' β' X' w' s v := by
  cases s with
  | one s => exact k _ _ h
  | tup l => obtain ⟨vs, h1, h2, h3⟩ := h; exact ⟨vs, h1, h2, fun i s hs => k _ _ (h3 i s hs)⟩
theorem SVR.kept {e e' : Env} {β β' : List (Option Nat)} {X X' : List BX} {w w' : World} {s : SV1} {v : Value} (h : SVR e β X w s v) (he : e.le e') (hβ : ∀ (j : Nat) (ob : Option Nat), β[j]? = some ob → β'[j]? = some ob)
    (hX : ∀ (j : Nat) (bx : BX), X[j]? = some bx → X'[j]? = some bx) (hk : ∀ (j : Nat) (b : Nat), β[j]? = some (some b) → w'.heap[b]? = w.heap[b]?) : SVR e' β' X' w' s v :=
  h.map fun s v h => SWR.kept h he hβ hX hk

theorem Base.ok.kept {Bs : Base} {e e' : Env} {F : Nat → Prop} {β : List (Option Nat)} {w w' : World} (h : Bs.ok e F β w) (he : e.le e') (hn : MuNew e e' w.heap.size) (hk : Kept w w') : Bs.ok e' F β w' where
  le := h.le.trans he
  os := hk.os.trans h.os
  tape := hk.tape.trans h.tape
  output := hk.output.trans h.output
  size := Nat.le_trans h.size hk.size
  old := fun b hb hf => (hk.old b (Nat.lt_of_lt_of_le hb h.size)).trans (h.old b hb hf)
  foot := h.foot
  mu := fun ad v hm => (hn ad v hm).elim (h.mu ad v) (fun hlt => .inr (Nat.le_trans h.size hlt))
  fresh := h.fresh
  e0lt := h.e0lt

theorem frz_kept {e : Env} {w w' : World} (h : ∀ ad v, e.mu ad = some v → w.cell? ad = some v) (hk : Kept w w') : ∀ ad v, e.mu ad = some v → w'.cell? ad = some v := fun ad v hm => by
  have h1 := h ad v hm
  have hb : ad.block < w.heap.size := World.block_lt_of_cell? w ad h1
  rw [World.cell?_of_block (hk.old ad.block hb)]
  exact h1

section
variable {M : HM} {Bs : Base} {st : St M} {e : Env} {β : List (Option Nat)} {F : Nat → Prop} {a : Act} {w : World}

/-- A world that has grown; more is known. -/
theorem StE.grow (h : StE Bs st e β F a w) {e' : Env} {w' : World} (he : e.le e') (hn : MuNew e e' w.heap.size) (hk : Kept w w') (hf : ∀ ad v, e'.mu ad = some v → w'.cell? ad = some v) : StE Bs st e' β F a w' where
  nt := h.nt
  df := h.df
  frz := hf
  mus := fun ad v hm => (hn ad v hm).elim (h.mus ad v) (fun hlt hF => by have := h.fsz _ hF; omega)
  hr := M.stable h.hr he fun b hb => hk.old b (h.fsz b hb)
  fsz := fun b hb => Nat.lt_of_lt_of_le (h.fsz b hb) hk.size
  bl := h.bl
  bx := fun j bx ob h1 h2 => (h.bx j bx ob h1 h2).kept he hn fun b hb => hk.old b (h.bf j b (by rw [h2, hb])).2
  bf := fun j b hj => ⟨(h.bf j b hj).1, Nat.lt_of_lt_of_le (h.bf j b hj).2 hk.size⟩
  bd := h.bd
  sl := fun t sv ht => (h.sl t sv ht).kept he (fun _ _ h => h) (fun _ _ h => h) fun j b hj => hk.old b (h.bf j b hj).2
  base := h.base.kept he hn hk
theorem StE.keep (h : StE Bs st e β F a w) {w' : World} (hk : Kept w w') : StE Bs st e β F a w' := h.grow (Env.le.refl e) (MuNew.refl e _) hk (frz_kept h.frz hk)

theorem getD_put_self {a : Act} {d : Nat} {v : Value} (h : d < a.tmps.size) : (a.put (some d) v).tmps.getD d undef = v := by
  simp [Act.put, h]
theorem getD_put_ne {a : Act} {d t : Nat} {v : Value} (h : d ≠ t) : (a.put (some d) v).tmps.getD t undef = a.tmps.getD t undef := by
  simp [Act.put, Array.getElem?_setIfInBounds_ne h]

/-- A slot is written. -/
theorem StE.put (h : StE Bs st e β F a w) {d : Nat} {sv : SV1} {v : Value} (hd : d < Bs.N) (hv : SVR e β st.X w sv v) : StE Bs (st.set d sv) e β F (a.put (some d) v) w where
  nt := by simp [Act.put, h.nt]
  df := h.df
  frz := h.frz
  mus := h.mus
  hr := h.hr
  fsz := h.fsz
  bl := h.bl
  bx := h.bx
  bf := h.bf
  bd := h.bd
  sl := fun t s ht => by
    by_cases e : d = t
    · subst e
      rw [show look (st.set d sv).ρ d = some sv from look_cons_self ..] at ht
      cases ht
      rw [getD_put_self (by rw [h.nt]; exact hd)]
      exact hv
    · rw [show look (st.set d sv).ρ t = look st.ρ t from look_cons_ne _ _ e] at ht
      rw [getD_put_ne e]
      exact h.sl t s ht
  base := h.base
/-- Nothing is written. -/
theorem put_none (a : Act) (v : Value) : a.put none v = a := rfl

/-- Less is told of the slots. -/
theorem StE.weak (h : StE Bs st e β F a w) {ρ' : List (Nat × SV1)} (hw : ∀ t sv, look ρ' t = some sv → look st.ρ t = some sv) : StE Bs { st with ρ := ρ' } e β F a w :=
  { h with sl := fun t sv ht => h.sl t sv (hw t sv ht) }

/-- A new box. -/
theorem StE.box (h : StE Bs st e β F a w) {bx : BX} {ob : Option Nat} (hb : BoxR e w bx ob) (hnew : ∀ b, ob = some b → Bs.w0.heap.size ≤ b ∧ ¬ F b ∧ ∀ j : Nat, β[j]? ≠ some (some b)) :
    StE Bs { st with X := st.X ++ [bx] } e (β ++ [ob]) F a w where
  nt := h.nt
  df := h.df
  frz := h.frz
  mus := h.mus
  hr := h.hr
  fsz := h.fsz
  bl := by simp [h.bl]
  bx := fun j bx' ob' h1 h2 => by
    have hl := h.bl
    rcases Nat.lt_trichotomy j st.X.length with hj | hj | hj
    · rw [List.getElem?_append_left hj] at h1
      rw [List.getElem?_append_left (by omega)] at h2
      exact h.bx j bx' ob' h1 h2
    · subst hj
      simp at h1
      rw [← hl] at h2
      simp at h2
      subst h1; subst h2
      exact hb
    · rw [List.getElem?_eq_none (by simp; omega)] at h1
      cases h1
  bf := fun j b hj => by
    rcases Nat.lt_trichotomy j β.length with hl | hl | hl
    · rw [List.getElem?_append_left hl] at hj
      exact h.bf j b hj
    · subst hl
      simp at hj
      subst hj
      exact ⟨(hnew b rfl).2.1, hb.lt⟩
    · rw [List.getElem?_eq_none (by simp; omega)] at hj
      cases hj
  bd := fun i j b hi hj => by
    have key : ∀ (i : Nat), (β ++ [ob])[i]? = some (some b) → (i < β.length ∧ β[i]? = some (some b)) ∨ (i = β.length ∧ ob = some b) := fun i hi => by
      rcases Nat.lt_trichotomy i β.length with hl | hl | hl
      · rw [List.getElem?_append_left hl] at hi
        exact .inl ⟨hl, hi⟩
      · subst hl
        simp at hi
        exact .inr ⟨rfl, hi⟩
      · rw [List.getElem?_eq_none (by simp; omega)] at hi
        cases hi
    rcases key i hi with ⟨_, h1⟩ | ⟨h1, h1'⟩ <;> rcases key j hj with ⟨_, h2⟩ | ⟨h2, h2'⟩
    · exact h.bd i j b h1 h2
    · exact absurd h1 ((hnew b h2').2.2 i)
    · exact absurd h2 ((hnew b h1').2.2 j)
    · omega
  sl := fun t sv ht => (h.sl t sv ht).kept (Env.le.refl e) (fun j ob' hj => by rw [List.getElem?_append_left (List.getElem?_eq_some_iff.1 hj).1]; exact hj)
    (fun j bx' hj => by rw [List.getElem?_append_left (List.getElem?_eq_some_iff.1 hj).1]; exact hj) fun _ _ _ => rfl
  base := by
    refine ⟨h.base.le, h.base.os, h.base.tape, h.base.output, h.base.size, h.base.old, h.base.foot, h.base.mu, fun j b hj => ?_, h.base.e0lt⟩
    rcases Nat.lt_trichotomy j β.length with hl | hl | hl
    · rw [List.getElem?_append_left hl] at hj
      exact h.base.fresh j b hj
    · subst hl
      simp at hj
      exact (hnew b hj).1
    · rw [List.getElem?_eq_none (by simp; omega)] at hj
      cases hj
end

/-! ### judgements -/
/-- An operation takes one state to another. -/
def OpStep {M : HM} (P : Program) (Bs : Base) (o : Oper) (st st' : St M) : Prop :=
  ∀ a w, StR Bs st a w → ∀ (K : Act → World → Prop) (Q : Exit → Act → World → Prop), (∀ a' w', StR Bs st' a' w' → K a' w') → o.wp P a w K Q
def JL {M : HM} (P : Program) (Bs : Base) (ops : Array Oper) (os : List Oper) (st : St M) (Q : Exit → Act → World → Prop) : Prop := ∀ a w, StR Bs st a w → wpList P ops Q os a w
def JC {M : HM} (P : Program) (Bs : Base) (c : Code) (st : St M) (Q : Exit → Act → World → Prop) : Prop := ∀ a w, StR Bs st a w → c.wp P Q a w
/-- What lies behind a piece of code. -/
def JQ {M : HM} (Bs : Base) (ex : Exit) (st : St M) (Q : Exit → Act → World → Prop) : Prop := ∀ a w, StR Bs st a w → Q ex a w

section
variable {M : HM} {P : Program} {Bs : Base} {st st' : St M} {Q : Exit → Act → World → Prop} {ops : Array Oper} {os : List Oper} {o : Oper}
theorem JL.cons (hg : o.guard = none) (hs : OpStep P Bs o st st') (h : JL P Bs ops os st' Q) : JL P Bs ops (o :: os) st Q :=
  fun a w hst => wpList_plain hg fun K hK => hs a w hst K Q fun a' w' h' => hK a' w' (h a' w' h')
theorem JL.nil (h : JQ Bs .normal st Q) : JL P Bs ops [] st Q := fun a w hst => wpList_nil (h a w hst)
/-- The state is told anew. -/
def Imp {M : HM} (Bs : Base) (st st' : St M) : Prop := ∀ a w, StR Bs st a w → StR Bs st' a w
theorem JL.pre (i : Imp Bs st st') (h : JL P Bs ops os st' Q) : JL P Bs ops os st Q := fun a w hst => h a w (i a w hst)
theorem JC.pre {c : Code} (i : Imp Bs st st') (h : JC P Bs c st' Q) : JC P Bs c st Q := fun a w hst => h a w (i a w hst)
theorem JQ.pre {ex : Exit} (i : Imp Bs st st') (h : JQ Bs ex st' Q) : JQ Bs ex st Q := fun a w hst => h a w (i a w hst)

theorem JC.seq {x y : Code} (h : JC P Bs x st (Exit.then (fun a w => y.wp P Q a w) Q)) : JC P Bs (.seq x y) st Q := fun a w hst => wp_seq (h a w hst)
theorem JQ.then {y : Code} (h : JC P Bs y st Q) : JQ Bs .normal st (Exit.then (fun a w => y.wp P Q a w) Q) := fun a w hst => h a w hst
theorem JC.skip (h : JQ Bs .normal st Q) : JC P Bs .skip st Q := fun a w hst => wp_skip (h a w hst)
theorem JC.ret (h : JQ Bs .ret st Q) : JC P Bs .ret st Q := fun a w hst => wp_ret (h a w hst)
theorem JC.exit {id : Nat} (h : JQ Bs (.exit id) st Q) : JC P Bs (.exit id) st Q := fun a w hst => wp_exit (h a w hst)
theorem JC.block {id : Nat} {c : Code} (h : JC P Bs c st (Exit.inBlock id Q)) : JC P Bs (.block id c) st Q := fun a w hst => wp_block (h a w hst)
theorem JC.region {id : Nat} {l : List Oper} (h : JL P Bs l.toArray l st Q) : JC P Bs (.region id l.toArray false) st Q := fun a w hst => wp_region_lit (h a w hst)
/-- Out of a sequence. -/
theorem JQ.out {N : Act → World → Prop} {ex : Exit} (hex : ex ≠ .normal) (h : JQ Bs ex st Q) : JQ Bs ex st (Exit.then N Q) := fun a w hst => by
  have := h a w hst
  cases ex <;> first | exact absurd rfl hex | exact this
theorem JQ.outB {id : Nat} {ex : Exit} (hex : ∀ i, ex ≠ .exit i) (h : JQ Bs ex st Q) : JQ Bs ex st (Exit.inBlock id Q) := fun a w hst => by
  have := h a w hst
  cases ex <;> first | exact absurd rfl (hex _) | exact this
theorem JQ.outE {id id' : Nat} (hne : id' ≠ id) (h : JQ Bs (.exit id') st Q) : JQ Bs (.exit id') st (Exit.inBlock id Q) := fun a w hst => by
  have := h a w hst
  simp only [Exit.inBlock, if_neg hne]
  exact this
theorem JQ.here {id : Nat} (h : JQ Bs .normal st Q) : JQ Bs (.exit id) st (Exit.inBlock id Q) := fun a w hst => by
  have := h a w hst
  simp only [Exit.inBlock, if_true]
  exact this

/-- An operand. -/
inductive HasO (st : St M) : Operand → SV1 → Prop
  | tmp {t : Nat} {sv : SV1} (h : look st.ρ t = some sv) : HasO st (.tmp t) sv
  | const {c : Value} {p : VP} (h : ∀ e, p.p e c) : HasO st (.const c) (.one (.val p))
  | func {f : FuncId} : HasO st (.func f) (.one (.fn f))
theorem HasO.get {x : Operand} {sv : SV1} (h : HasO st x sv) {e : Env} {β : List (Option Nat)} {F : Nat → Prop} {a : Act} {w : World} (hst : StE Bs st e β F a w) : SVR e β st.X w sv (a.eval x) := by
  cases h with
  | tmp h => exact hst.sl _ _ h
  | const h => exact h e
  | func => rfl
theorem HasO.cI {k : IntKind} {n : Int} : HasO st (.const (.int k n)) (.one (.val (S (rI k) n))) := .const fun _ => rfl
theorem HasO.cU {U : Type} [UK U] {k : IntKind} {n : Int} {x : U} (h : k = UK.k U) (hn : n = (UN.toN x : Int)) : HasO st (.const (.int k n)) (.one (.val (S (rU U) x))) := .const fun _ => by subst h; subst hn; rfl
theorem HasO.cB {b : Bool} : HasO st (.const (.bool b)) (.one (.val (S rB b))) := .const fun _ => rfl
theorem HasO.cS {s : ByteArray} {l : List UInt8} (h : s = bs l) : HasO st (.const (.string s)) (.one (.val (S rS l))) := .const fun _ => by subst h; rfl

theorem JC.cond {c : Operand} {x y : Code} {b : Bool} (hc : HasO st c (.one (.val (S rB b)))) (ht : b = true → JC P Bs x st Q) (hf : b = false → JC P Bs y st Q) : JC P Bs (.cond c x y) st Q := fun a w hst => by
  obtain ⟨e, β, F, h⟩ := hst
  have hb : a.eval c = .bool b := by
    have := hc.get h
    simp only [SVR, SWR, S, rB] at this
    simpa using this
  cases b
  · exact wp_cond_false hb (hf rfl a w ⟨e, β, F, h⟩)
  · exact wp_cond_true hb (ht rfl a w ⟨e, β, F, h⟩)

/-- An operation that computes a value and leaves the world. -/
theorem OpStep.value {d : Nat} {op : Op} {ty : TypeId} {pos : String} {af : Array Edge} {g : Option (Nat × Bool)} {sv : SV1} (hd : d < Bs.N)
    (h : ∀ e β F a w, StE Bs st e β F a w → ∃ v, (execOp a.eval ⟨some d, op, ty, pos, af, g⟩).run P w = .ok (.value v) w ∧ SVR e β st.X w sv v) :
    OpStep P Bs ⟨some d, op, ty, pos, af, g⟩ st (st.set d sv) := by
  intro a w ⟨e, β, F, hst⟩ K Q hK
  obtain ⟨v, hr, hv⟩ := h e β F a w hst
  unfold Oper.wp
  rw [hr]
  exact hK _ _ ⟨e, β, F, hst.put hd hv⟩
/-- An operation that computes a value; the world grows. -/
theorem OpStep.grows {d : Nat} {op : Op} {ty : TypeId} {pos : String} {af : Array Edge} {g : Option (Nat × Bool)} {st' : St M} {sv : SV1} (hd : d < Bs.N)
    (h : ∀ e β F a w, StE Bs st e β F a w → ∃ v w' e' β' F', (execOp a.eval ⟨some d, op, ty, pos, af, g⟩).run P w = .ok (.value v) w' ∧ StE Bs st' e' β' F' a w' ∧ SVR e' β' st'.X w' sv v) :
    OpStep P Bs ⟨some d, op, ty, pos, af, g⟩ st (st'.set d sv) := by
  intro a w ⟨e, β, F, hst⟩ K Q hK
  obtain ⟨v, w', e', β', F', hr, hst', hv⟩ := h e β F a w hst
  unfold Oper.wp
  rw [hr]
  exact hK _ _ ⟨e', β', F', hst'.put hd hv⟩
end
end Go.Proofs.Ytlkofkegbkkhbaa.Fw
