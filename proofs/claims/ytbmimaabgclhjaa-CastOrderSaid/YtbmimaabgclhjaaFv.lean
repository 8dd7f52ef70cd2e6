/- Maps, the second part: the piece of memory; making, looking up, writing, deleting, counting. -/
import Derived.Test.YtbmimaabgclhjaaFu
namespace Go.Proofs.Ytbmimaabgclhjaa.Fw
open Go Go.RowKit Go.MapKept
set_option linter.unusedVariables false
set_option linter.unusedSimpArgs false

/-- The entries are these. -/
def MRel {K V : Type} (pk : K → VP) (pv : V → VP) (e : Env) : List (K × V) → List MapEntry → Prop
  | [], [] => True
  | p :: l, en :: es => (pk p.1).p e en.key ∧ (pv p.2).p e en.val ∧ MRel pk pv e l es
  | [], _ :: _ => False
  | _ :: _, [] => False
section
variable {K V : Type} {pk : K → VP} {pv : V → VP}
theorem MRel.mono {e e' : Env} (he : e.le e') : ∀ {l : List (K × V)} {es : List MapEntry}, MRel pk pv e l es → MRel pk pv e' l es
  | [], [], _ => trivial
  | _ :: _, _ :: _, ⟨a, b, c⟩ => ⟨(pk _).mono he a, (pv _).mono he b, c.mono he⟩
  | [], _ :: _, h => h.elim
  | _ :: _, [], h => h.elim
theorem MRel.len {e : Env} : ∀ {l : List (K × V)} {es : List MapEntry}, MRel pk pv e l es → l.length = es.length
  | [], [], _ => rfl
  | _ :: _, _ :: _, ⟨a, b, c⟩ => by simp [c.len]
  | [], _ :: _, h => h.elim
  | _ :: _, [], h => h.elim
theorem MRel.get {e : Env} : ∀ {l : List (K × V)} {es : List MapEntry}, MRel pk pv e l es → ∀ {i : Nat} {en : MapEntry}, es[i]? = some en → ∃ p, l[i]? = some p ∧ (pk p.1).p e en.key ∧ (pv p.2).p e en.val
  | [], [], _, i, en, h => by simp at h
  | p :: l, _ :: es, ⟨a, b, c⟩, 0, en, h => by simp at h; subst h; exact ⟨p, rfl, a, b⟩
  | p :: l, _ :: es, ⟨a, b, c⟩, i + 1, en, h => by
    obtain ⟨q, h1, h2⟩ := c.get (show es[i]? = some en by simpa using h)
    exact ⟨q, by simpa using h1, h2⟩
  | [], _ :: _, h, _, _, _ => h.elim
  | _ :: _, [], h, _, _, _ => h.elim
theorem MRel.append {e : Env} {p : K × V} {en : MapEntry} (hk : (pk p.1).p e en.key) (hv : (pv p.2).p e en.val) : ∀ {l : List (K × V)} {es : List MapEntry}, MRel pk pv e l es → MRel pk pv e (l ++ [p]) (es ++ [en])
  | [], [], _ => ⟨hk, hv, trivial⟩
  | _ :: _, _ :: _, ⟨a, b, c⟩ => ⟨a, b, c.append hk hv⟩
  | [], _ :: _, h => h.elim
  | _ :: _, [], h => h.elim
theorem MRel.set {e : Env} {p : K × V} {en : MapEntry} (hk : (pk p.1).p e en.key) (hv : (pv p.2).p e en.val) : ∀ {l : List (K × V)} {es : List MapEntry} (i : Nat), MRel pk pv e l es → MRel pk pv e (l.set i p) (es.set i en)
  | [], [], _, _ => trivial
  | _ :: _, _ :: _, 0, ⟨a, b, c⟩ => ⟨hk, hv, c⟩
  | _ :: _, _ :: _, i + 1, ⟨a, b, c⟩ => ⟨a, b, c.set hk hv i⟩
  | [], _ :: _, _, h => h.elim
  | _ :: _, [], _, h => h.elim
theorem MRel.erase {e : Env} : ∀ {l : List (K × V)} {es : List MapEntry} (i : Nat), MRel pk pv e l es → MRel pk pv e (l.eraseIdx i) (es.eraseIdx i)
  | [], [], _, _ => trivial
  | _ :: _, _ :: _, 0, ⟨a, b, c⟩ => c
  | _ :: _, _ :: _, i + 1, ⟨a, b, c⟩ => ⟨a, b, c.erase i⟩
  | [], _ :: _, _, h => h.elim
  | _ :: _, [], _, h => h.elim
/-- The entries are these, in whatever order. -/
def MP {K V : Type} (pk : K → VP) (pv : V → VP) (e : Env) (l : List (K × V)) (es : List MapEntry) : Prop := ∃ l', MRel pk pv e l l' ∧ l'.Perm es
theorem MP.mono {e e' : Env} (he : e.le e') {l : List (K × V)} {es : List MapEntry} (h : MP pk pv e l es) : MP pk pv e' l es := let ⟨l', a, b⟩ := h; ⟨l', a.mono he, b⟩
theorem MP.len {e : Env} {l : List (K × V)} {es : List MapEntry} (h : MP pk pv e l es) : l.length = es.length := let ⟨l', a, b⟩ := h; a.len.trans b.length_eq
theorem MP.append {e : Env} {p : K × V} {en : MapEntry} (hk : (pk p.1).p e en.key) (hv : (pv p.2).p e en.val) {l : List (K × V)} {es : List MapEntry} (h : MP pk pv e l es) : MP pk pv e (l ++ [p]) (es ++ [en]) :=
  let ⟨l', a, b⟩ := h; ⟨l' ++ [en], a.append hk hv, b.append_right _⟩
theorem MRel.perm {e : Env} {l m : List (K × V)} (hp : l.Perm m) : ∀ {l' : List MapEntry}, MRel pk pv e l l' → ∃ m', MRel pk pv e m m' ∧ m'.Perm l' := by
  induction hp with
  | nil => exact fun {l'} h => ⟨l', h, List.Perm.refl _⟩
  | cons x _ ih =>
    intro l' h
    cases l' with
    | nil => exact h.elim
    | cons en l' =>
      obtain ⟨a, b, c⟩ := h
      obtain ⟨m', h1, h2⟩ := ih c
      exact ⟨en :: m', ⟨a, b, h1⟩, h2.cons _⟩
  | swap x y l =>
    intro l' h
    match l', h with
    | [], h => exact h.elim
    | [_], h => exact h.2.2.elim
    | e1 :: e2 :: l', ⟨a, b, c, d, h⟩ => exact ⟨e2 :: e1 :: l', ⟨c, d, a, b, h⟩, List.Perm.swap _ _ _⟩
  | trans _ _ ih1 ih2 =>
    intro l' h
    obtain ⟨m', h1, h2⟩ := ih1 h
    obtain ⟨m2, h3, h4⟩ := ih2 h1
    exact ⟨m2, h3, h4.trans h2⟩
theorem MP.perm {e : Env} {l m : List (K × V)} {es : List MapEntry} (hp : l.Perm m) (h : MP pk pv e l es) : MP pk pv e m es := by
  obtain ⟨l', a, b⟩ := h
  obtain ⟨m', h1, h2⟩ := a.perm hp
  exact ⟨m', h1, h2.trans b⟩
theorem cons_erase {α : Type} : ∀ {l : List α} {i : Nat} {x : α}, l[i]? = some x → (x :: l.eraseIdx i).Perm l
  | [], i, x, h => by simp at h
  | y :: l, 0, x, h => by simp at h; subst h; exact List.Perm.refl _
  | y :: l, i + 1, x, h => by
    have ih := cons_erase (show l[i]? = some x by simpa using h)
    rw [List.eraseIdx_cons_succ]
    exact (List.Perm.swap _ _ _).trans (ih.cons y)
theorem set_erase {α : Type} {y : α} : ∀ {l : List α} {i : Nat}, (l.set i y).eraseIdx i = l.eraseIdx i
  | [], i => rfl
  | z :: l, 0 => rfl
  | z :: l, i + 1 => by
    rw [List.set_cons_succ, List.eraseIdx_cons_succ, List.eraseIdx_cons_succ, set_erase]
theorem perm_erase {α : Type} {l m : List α} {i j : Nat} {x : α} (hp : l.Perm m) (hi : l[i]? = some x) (hj : m[j]? = some x) : (l.eraseIdx i).Perm (m.eraseIdx j) ∧ ∀ y, (l.set i y).Perm (m.set j y) := by
  have h3 : (l.eraseIdx i).Perm (m.eraseIdx j) := ((cons_erase hi).trans (hp.trans (cons_erase hj).symm)).cons_inv
  refine ⟨h3, fun y => ?_⟩
  have h4 := cons_erase (l := l.set i y) (i := i) (x := y) (List.getElem?_set_self (List.getElem?_eq_some_iff.1 hi).1)
  have h5 := cons_erase (l := m.set j y) (i := j) (x := y) (List.getElem?_set_self (List.getElem?_eq_some_iff.1 hj).1)
  rw [set_erase] at h4 h5
  exact (h4.symm.trans (h3.cons y)).trans h5
variable [DecidableEq K] {P : Program} {kt : TypeId}
theorem mpos_none {x : K} {l : List (K × V)} (h : ∀ p ∈ l, x ≠ p.1) : mpos x l = none := by
  induction l with
  | nil => rfl
  | cons p l ih => rw [mpos, if_neg (h p (by simp)), ih (fun q hq => h q (by simp [hq]))]; rfl
theorem mpos_some {x : K} : ∀ {l : List (K × V)} {j : Nat} {p : K × V}, l[j]? = some p → x = p.1 → (∀ i q, i < j → l[i]? = some q → x ≠ q.1) → mpos x l = some j
  | [], j, p, h, _, _ => by simp at h
  | q :: l, 0, p, h, hx, _ => by simp at h; subst h; simp [mpos, hx]
  | q :: l, j + 1, p, h, hx, hl => by
    rw [mpos, if_neg (hl 0 q (by omega) rfl), mpos_some (show l[j]? = some p by simpa using h) hx (fun i r hi hr => hl (i + 1) r (by omega) (by simpa using hr))]
    rfl
theorem MRel.find {e : Env} {l : List (K × V)} {es : List MapEntry} {x : K} {u : Value} (K0 : KeyT P kt pk) (h : MRel pk pv e l es) (hn : (es.map (·.key)).Nodup) (hu : (pk x).p e u) (w : World) :
    ((Instr.findKey kt u es).run P w = .ok none w ∧ mpos x l = none ∧ ∀ en ∈ es, en.key ≠ u) ∨ ∃ j en p, (Instr.findKey kt u es).run P w = .ok (some (j, en.val)) w ∧ mpos x l = some j ∧ es[j]? = some en ∧ en.key = u ∧ l[j]? = some p ∧ (pv p.2).p e en.val := by
  have hall : ∀ en ∈ es, ∃ e' y, (pk y).p e' en.key := fun en hen => by
    obtain ⟨i, hi, rfl⟩ := List.getElem_of_mem hen
    obtain ⟨p, _, h1, _⟩ := h.get (List.getElem?_eq_getElem hi)
    exact ⟨e, p.1, h1⟩
  have hlen := h.len
  rcases K0.find w es hu hall with ⟨h1, h2⟩ | ⟨j, en, h1, h2, h3⟩
  · refine .inl ⟨h1, mpos_none fun p hp => ?_, h2⟩
    obtain ⟨i, hi, rfl⟩ := List.getElem_of_mem hp
    obtain ⟨q, hq, h4, _⟩ := h.get (List.getElem?_eq_getElem (show i < es.length by omega))
    rw [List.getElem?_eq_getElem hi] at hq
    cases hq
    intro hx
    exact h2 _ (List.getElem_mem (by omega)) ((K0.inj h4 hu).2 hx.symm)
  · obtain ⟨p, hp, h4, h5⟩ := h.get h2
    refine .inr ⟨j, en, p, h1, mpos_some hp ((K0.inj hu h4).1 h3.symm) fun i q hi hq => ?_, h2, h3, hp, h5⟩
    have hjl : j < es.length := (List.getElem?_eq_some_iff.1 h2).1
    obtain ⟨q', hq', h6, _⟩ := h.get (List.getElem?_eq_getElem (show i < es.length by omega))
    rw [hq] at hq'
    cases hq'
    intro hx
    have h7 : es[i].key = u := (K0.inj h6 hu).2 hx.symm
    have h8 := (List.getElem?_eq_some_iff.1 h2).2
    have h9 : (es.map (·.key))[i]'(by simp; omega) = (es.map (·.key))[j]'(by simp; omega) := by simp [h7, h8, h3]
    have := (List.getElem_inj hn).1 h9
    omega

theorem MP.find {e : Env} {l : List (K × V)} {es : List MapEntry} {x : K} {u : Value} (K0 : KeyT P kt pk) (h : MP pk pv e l es) (hn : (es.map (·.key)).Nodup) (hu : (pk x).p e u) (w : World) :
    ((Instr.findKey kt u es).run P w = .ok none w ∧ mpos x l = none ∧ ∀ en ∈ es, en.key ≠ u) ∨ ∃ j en i p, (Instr.findKey kt u es).run P w = .ok (some (j, en.val)) w ∧ mpos x l = some i ∧ es[j]? = some en ∧ en.key = u ∧ l[i]? = some p ∧ (pv p.2).p e en.val ∧
      MP pk pv e (l.eraseIdx i) (es.eraseIdx j) ∧ ∀ (p' : K × V) (en' : MapEntry), (pk p'.1).p e en'.key → (pv p'.2).p e en'.val → MP pk pv e (l.set i p') (es.set j en') := by
  obtain ⟨l', a, b⟩ := h
  have hn' : (l'.map (·.key)).Nodup := (b.map _).nodup_iff.2 hn
  have hall : ∀ en ∈ es, ∃ e' y, (pk y).p e' en.key := fun en hen => by
    obtain ⟨i, hi, rfl⟩ := List.getElem_of_mem (b.mem_iff.2 hen)
    obtain ⟨p, _, h1, _⟩ := a.get (List.getElem?_eq_getElem hi)
    exact ⟨e, p.1, h1⟩
  rcases K0.find w es hu hall with ⟨h1, h2⟩ | ⟨j, en, h1, h2, h3⟩
  · rcases a.find K0 hn' hu w with ⟨_, h4, _⟩ | ⟨i, en, p, _, _, h5, h6, _⟩
    · exact .inl ⟨h1, h4, h2⟩
    · exact absurd h6 (h2 en (b.mem_iff.1 (List.mem_of_getElem? h5)))
  · have hen : en ∈ l' := b.mem_iff.2 (List.mem_of_getElem? h2)
    rcases a.find K0 hn' hu w with ⟨_, _, h4⟩ | ⟨i, en', p, _, h4, h5, h6, h7, h8⟩
    · exact absurd h3 (h4 en hen)
    · have hsame : en' = en := by
        obtain ⟨i2, hi2, he2⟩ := List.getElem_of_mem hen
        obtain ⟨hi5, he5⟩ := List.getElem?_eq_some_iff.1 h5
        have h12 : (l'.map (·.key))[i]'(by simpa using hi5) = (l'.map (·.key))[i2]'(by simpa using hi2) := by simp [he5, he2, h6, h3]
        have h13 := (List.getElem_inj hn').1 h12
        subst h13
        rw [← he2, ← he5]
      subst hsame
      obtain ⟨k1, k2⟩ := perm_erase b h5 h2
      exact .inr ⟨j, en', i, p, h1, h4, h2, h3, h7, h8, ⟨_, a.erase i, k1⟩, fun p' en'' hk hv => ⟨_, a.set hk hv i, k2 en''⟩⟩

/-- A map. -/
def cmap (ob : Option Nat) (pk : K → VP) (pv : V → VP) (x : Option (List (K × V))) : Chunk where
  foot c := ob = some c
  R e w := (ob = none ∧ x = none) ∨ ∃ (b : Nat) (l : List (K × V)) (es : Array MapEntry) (clock : Nat), ob = some b ∧ x = some l ∧ w.heap[b]? = some (.map es clock) ∧ MP pk pv e l es.toList ∧ Stamped es clock ∧ ∀ ad v, e.mu ad = some v → ad.block ≠ b
  lt := fun h c hc => by
    rcases h with ⟨h, _⟩ | ⟨b, l, es, clock, hb, _, h, _⟩
    · rw [h] at hc; cases hc
    · rw [hb] at hc; cases hc; exact lt_of_block h
  kept := fun h he hmu hk => by
    rcases h with h | ⟨b, l, es, clock, hb, hx, h1, h2, h3, h4⟩
    · exact .inl h
    · exact .inr ⟨b, l, es, clock, hb, hx, (hk b hb).trans h1, h2.mono he, h3, fun ad v hm hbl => h4 ad v (hmu ad v hm (by rw [hbl]; exact hb)) hbl⟩
/-- A block, laid anew. -/
def setM (w : World) (b : Nat) (o : Obj) : World := { w with heap := w.heap.setIfInBounds b o }
theorem setM_at {w : World} {b : Nat} {o : Obj} (h : b < w.heap.size) : (setM w b o).heap[b]? = some o := by simp [setM, h]
theorem setM_ne {w : World} {b c : Nat} {o : Obj} (h : c ≠ b) : (setM w b o).heap[c]? = w.heap[c]? := by simp [setM, Array.getElem?_setIfInBounds_ne (Ne.symm h)]
theorem KeptX.setM {w : World} {b : Nat} {o : Obj} : KeptX (· = b) w (setM w b o) := ⟨rfl, rfl, rfl, by simp [Fw.setM], fun c _ hc => setM_ne hc⟩
theorem KeptX.foot {f g : Nat → Prop} {w w' : World} (h : KeptX f w w') (hfg : ∀ b, f b → g b) : KeptX g w w' := ⟨h.os, h.tape, h.output, h.size, fun b hb hn => h.old b hb fun hf => hn (hfg b hf)⟩
end

section
variable {P : Program} {Bs : Base} {st : St} {e : Env} {a : Act} {w : World} {t kt et ty : TypeId} {d : Nat} {x y z : Operand} {pos : String} {af : Array Edge} {g : Option (Nat × Bool)} {K V : Type} {pk : K → VP} {pv : V → VP}
theorem op_makeMap (hd : d < Bs.N) (pk : K → VP) (pv : V → VP) :
    OpX P Bs ⟨some d, .makeMap t none, ty, pos, af, g⟩ st (fun b => St.set { st with X := st.X ++ [cmap (some b) pk pv (some [])] } d (.one (.val (MPV (some b))))) :=
  .grows hd fun e a w h => by
    refine ⟨.map (some w.heap.size), { w with heap := w.heap.push (.map #[] 0) }, e, w.heap.size, ?_, ?_, rfl⟩
    · simp [execOp, Instr.makeMap, newObj, Sem.run]
    · exact h.newE (Kept.push w (.map #[] 0)) (.inr ⟨w.heap.size, [], #[], 0, rfl, rfl, by simp, ⟨[], trivial, List.Perm.refl _⟩, stamped_empty 0, fun ad v hm => by have := mu_lt h hm; omega⟩) fun b hb => by have hb : some w.heap.size = some b := hb; cases hb; exact Nat.le_refl _
theorem map_turn {b j : Nat} {m : List (K × V)} {l' : List (K × V)} {es : Array MapEntry} {clock clock' : Nat} {es' : Array MapEntry} (h : StE Bs st e a w) (hX : st.X[j]? = some (cmap (some b) pk pv (some m))) (h1 : w.heap[b]? = some (.map es clock)) (h4 : ∀ ad v, e.mu ad = some v → ad.block ≠ b)
    (h2 : MP pk pv e l' es'.toList) (h3 : Stamped es' clock') : StE Bs { st with X := st.X.set j (cmap (some b) pk pv (some l')) } e a (setM w b (.map es' clock')) := by
  have hlt := lt_of_block h1
  refine h.turn1 hX (Env.le.refl e) (fun ad v hm => .inl hm) (KeptX.setM.foot fun c hc => by rw [hc]; exact rfl) (fun ad v hm => ?_) (.inr ⟨b, l', es', clock', rfl, rfl, setM_at hlt, h2, h3, h4⟩) fun c hc => .inl hc
  rw [World.cell?_of_block (setM_ne (h4 ad v hm))]
  exact h.frz ad v hm
theorem op_lenM {ob : Option Nat} {m : Option (List (K × V))} {j : Nat} (hd : d < Bs.N) (hu : P.underlying t = some (.map kt et)) (hX : st.X[j]? = some (cmap ob pk pv m)) (hx : HasO st x (.one (.val (MPV ob)))) :
    OpStep P Bs ⟨some d, .call { callee := .builtin .len, args := #[x], argTypes := #[t] }, ty, pos, af, g⟩ st (st.set d (.one (.val (S (rI .i64) (List.length (m.getD []) : Int))))) := .value hd fun e a w h => by
  have hxv : a.eval x = .map ob := hx.get h
  rcases h.xs _ (List.mem_of_getElem? hX) with ⟨rfl, rfl⟩ | ⟨b, l, es, clock, rfl, rfl, h1, h2, h3, h4⟩
  · exact ⟨.int .i64 0, by simp [execOp, resolve, invoke, builtin, Builtin.len_, hxv, run_underlying hu, Result.andThen, goInt], rfl⟩
  · refine ⟨.int .i64 (es.size : Int), ?_, by simp [SVR, SWR, S, rI, h2.len]⟩
    simp [execOp, resolve, invoke, builtin, Builtin.len_, hxv, run_underlying hu, Result.andThen, MapKept.run_getObj_map h1, goInt]
theorem op_nilMX {ob : Option Nat} {m : Option (List (K × V))} {neg b : Bool} {j : Nat} (hd : d < Bs.N) (hu : P.underlying t = some (.map kt et)) (hX : st.X[j]? = some (cmap ob pk pv m)) (hx : HasO st x (.one (.val (MPV ob)))) (hy : HasO st y (.one (.val (MPV none)))) (hr : (if neg then !(Option.isNone m) else Option.isNone m) = b) :
    OpStep P Bs ⟨some d, .binOp (if neg then .neq else .eql) t x y t, ty, pos, af, g⟩ st (st.set d (.one (.val (S rB b)))) := fun a w ⟨e, h⟩ => by
  have hob : ob.isNone = m.isNone := by
    rcases h.xs _ (List.mem_of_getElem? hX) with ⟨rfl, rfl⟩ | ⟨b, l, es, clock, rfl, rfl, _⟩ <;> rfl
  exact op_nilM hd hu hx hy (by rw [hob]; exact hr) a w ⟨e, h⟩
variable [DecidableEq K]
theorem lookup_core {ob : Option Nat} {m : Option (List (K × V))} {k : K} {z0 : V} {zv : Value} {j : Nat} (h : StE Bs st e a w) (ht : P.underlying t = some (.map kt et)) (K0 : KeyT P kt pk) (hz : tyZ P et zv) (hz0 : ∀ e, (pv z0).p e zv)
    (hX : st.X[j]? = some (cmap ob pk pv m)) (hx : HasO st x (.one (.val (MPV ob)))) (hy : HasO st y (.one (.val (pk k)))) (c : Bool) :
    ∃ v, (pv ((mgetO m k).getD z0)).p e v ∧ (Instr.lookup t (a.eval x) (a.eval y) c).run P w = .ok (if c then .tuple #[v, .bool (mgetO m k).isSome] else v) w := by
  have hxv : a.eval x = .map ob := hx.get h
  have hyv := hy.get h
  have hyv : (pk k).p e (a.eval y) := hyv
  rcases h.xs _ (List.mem_of_getElem? hX) with ⟨rfl, rfl⟩ | ⟨b, l, es, clock, rfl, rfl, h1, h2, h3, h4⟩
  · refine ⟨zv, hz0 e, ?_⟩
    have h5 := K0.check true w hyv
    have h6 : (Instr.findKey kt (a.eval y) []).run P w = .ok none w := by
      rcases K0.find w [] hyv (fun en hen => by cases hen) with h | ⟨j, en, _, hh, _⟩
      · exact h.1
      · simp at hh
    rw [hxv]
    simp only [Instr.lookup, Option.map_none, Sem.run_bind, run_underlying ht, Result.andThen_ok, Sem.run_pure, Array.isEmpty_empty, h5, h6, rZero hz, mgetO, Option.bind_none, Option.isSome_none]
  · have h5 := K0.check es.isEmpty w hyv
    rw [hxv]
    rcases h2.find K0 h3.2.2 hyv w with ⟨h6, h7, _⟩ | ⟨j', en, i, p, h6, h7, h8, h9, h10, h11, _⟩
    · refine ⟨zv, by simp only [mgetO, Option.bind_some, mget, h7, Option.bind_none, Option.getD_none]; exact hz0 e, ?_⟩
      simp only [Instr.lookup, Option.map_some, Sem.run_bind, run_underlying ht, MapKept.run_getObj_map h1, Result.andThen_ok, Sem.run_pure, h5, h6, rZero hz, mgetO, Option.bind_some, mget, h7, Option.bind_none, Option.isSome_none]
    · refine ⟨en.val, by simp only [mgetO, Option.bind_some, mget, h7, h10, Option.map_some, Option.getD_some]; exact h11, ?_⟩
      simp only [Instr.lookup, Option.map_some, Sem.run_bind, run_underlying ht, MapKept.run_getObj_map h1, Result.andThen_ok, Sem.run_pure, h5, h6, mgetO, Option.bind_some, mget, h7, h10, Option.map_some, Option.isSome_some]
theorem op_lookupC {ob : Option Nat} {m : Option (List (K × V))} {k : K} {z0 r : V} {zv : Value} {b : Bool} {j : Nat} (hd : d < Bs.N) (ht : P.underlying t = some (.map kt et)) (K0 : KeyT P kt pk) (hz : tyZ P et zv) (hz0 : ∀ e, (pv z0).p e zv)
    (hX : st.X[j]? = some (cmap ob pk pv m)) (hx : HasO st x (.one (.val (MPV ob)))) (hy : HasO st y (.one (.val (pk k)))) (hr : (mgetO m k).getD z0 = r ∧ (mgetO m k).isSome = b) :
    OpStep P Bs ⟨some d, .lookup t x y true, ty, pos, af, g⟩ st (st.set d (.tup [.val (pv r), .val (S rB b)])) := .value hd fun e a w h => by
  obtain ⟨v, h1, h2⟩ := lookup_core h ht K0 hz hz0 hX hx hy true
  refine ⟨.tuple #[v, .bool (mgetO m k).isSome], by simp [execOp, h2], [v, .bool (mgetO m k).isSome], rfl, rfl, fun i s hs => ?_⟩
  match i, hs with
  | 0, hs => cases hs; exact hr.1 ▸ h1
  | 1, hs => cases hs; rw [hr.2]; exact rfl
theorem op_lookupD {ob : Option Nat} {m : Option (List (K × V))} {k : K} {z0 r : V} {zv : Value} {b : Bool} {j : Nat} (hd : d < Bs.N) (ht : P.underlying t = some (.map kt et)) (K0 : KeyT P kt pk) (hz : tyZ P et zv) (hz0 : ∀ e, (pv z0).p e zv)
    (hX : st.X[j]? = some (cmap ob pk pv m)) (hx : HasO st x (.one (.val (MPV ob)))) (hy : HasO st y (.one (.val (pk k)))) (hr : mgetC m k z0 = some (r, b)) :
    OpStep P Bs ⟨some d, .lookup t x y true, ty, pos, af, g⟩ st (st.set d (.tup [.val (pv r), .val (S rB b)])) := by
  simp only [mgetC, Option.some.injEq, Prod.mk.injEq] at hr
  exact op_lookupC hd ht K0 hz hz0 hX hx hy hr
theorem op_mapUpdate {ob : Option Nat} {m m' : Option (List (K × V))} {k : K} {v0 : V} {j : Nat} (ht : P.underlying t = some (.map kt et)) (K0 : KeyT P kt pk)
    (hX : st.X[j]? = some (cmap ob pk pv m)) (hx : HasO st x (.one (.val (MPV ob)))) (hy : HasO st y (.one (.val (pk k)))) (hz : HasO st z (.one (.val (pv v0)))) (hr : mputO m k v0 = some m') :
    OpStep P Bs ⟨none, .mapUpdate t x y z, ty, pos, af, g⟩ st { st with X := st.X.set j (cmap ob pk pv m') } := .act fun e a w h => by
  have hxv : a.eval x = .map ob := hx.get h
  have hyv : (pk k).p e (a.eval y) := hy.get h
  have hzv : (pv v0).p e (a.eval z) := hz.get h
  rcases h.xs _ (List.mem_of_getElem? hX) with ⟨rfl, rfl⟩ | ⟨b, l, es, clock, rfl, rfl, h1, h2, h3, h4⟩
  · cases hr
  have h5 := K0.check false w hyv
  simp only [mputO, Option.some.injEq] at hr
  rcases h2.find K0 h3.2.2 hyv w with ⟨h6, h7, h8⟩ | ⟨i, en, i', p, h6, h7, h8, h9, h10, h11, h14, h15⟩
  · refine ⟨setM w b (.map (es.push { key := a.eval y, val := a.eval z, born := clock }) (clock + 1)), e, ?_, ?_⟩
    · simp only [execOp, hxv, Instr.mapUpdate, Option.map_some, Sem.run_bind, run_underlying ht, MapKept.run_getObj_map h1, Result.andThen_ok, h5, h6, MapKept.run_setObj_map _ h1]
      rfl
    · rw [← hr]
      refine map_turn h hX h1 h4 ?_ (stamped_push h3 h8)
      simp only [mput, h7, Array.toList_push]
      exact h2.append hyv hzv
  · have h12 : es[i]? = some en := by rw [← Array.getElem?_toList]; exact h8
    have h13 := K0.stays w hyv
    refine ⟨setM w b (.map (es.modify i fun x => { x with key := a.eval y, val := a.eval z }) clock), e, ?_, ?_⟩
    · simp only [execOp, hxv, Instr.mapUpdate, Option.map_some, Sem.run_bind, run_underlying ht, MapKept.run_getObj_map h1, Result.andThen_ok, h5, h6, h12, Option.getD_some, h9, h13, MapKept.run_setObj_map _ h1]
      rfl
    · rw [← hr]
      refine map_turn h hX h1 h4 ?_ (stamped_modify h3 i _ (fun _ _ => rfl) fun x _ hxi => by rw [h12] at hxi; cases hxi; exact h9.symm)
      simp only [mput, h7]
      have e1 : (es.modify i fun x => { x with key := a.eval y, val := a.eval z }).toList = es.toList.set i { en with key := a.eval y, val := a.eval z } := by
        apply List.ext_getElem?
        intro q
        simp only [Array.getElem?_toList, Array.getElem?_modify, List.getElem?_set]
        have hil : i < es.toList.length := (List.getElem?_eq_some_iff.1 h8).1
        by_cases hq : i = q
        · subst hq; simp [h12]
          have : i < es.size := by simpa using hil
          omega
        · simp [hq]
      rw [e1]
      exact h15 (k, v0) _ hyv hzv
theorem op_delete {ob : Option Nat} {m m' : Option (List (K × V))} {k : K} {j : Nat} {kt' : TypeId} {dst : Option Nat} (hdst : dst = none) (ht : P.underlying t = some (.map kt et)) (K0 : KeyT P kt pk)
    (hX : st.X[j]? = some (cmap ob pk pv m)) (hx : HasO st x (.one (.val (MPV ob)))) (hy : HasO st y (.one (.val (pk k)))) (hr : mdelO m k = m') :
    OpStep P Bs ⟨dst, .call { callee := .builtin .delete, args := #[x, y], argTypes := #[t, kt'] }, ty, pos, af, g⟩ st { st with X := st.X.set j (cmap ob pk pv m') } := by
  subst hdst
  intro a w ⟨e, h⟩ Kk Q hK
  have hxv : a.eval x = .map ob := hx.get h
  have hyv : (pk k).p e (a.eval y) := hy.get h
  have key : ∃ w', (Builtin.delete_ #[t, kt'] ty #[a.eval x, a.eval y]).run P w = .ok (.tuple #[]) w' ∧ StE Bs { st with X := st.X.set j (cmap ob pk pv m') } e a w' := by
    rcases h.xs _ (List.mem_of_getElem? hX) with ⟨rfl, rfl⟩ | ⟨b, l, es, clock, rfl, rfl, h1, h2, h3, h4⟩
    · subst hr
      have h5 := K0.check true w hyv
      refine ⟨w, ?_, ?_⟩
      · simp [hxv, Builtin.delete_, run_underlying ht, Result.andThen, h5]
      · have : st.X.set j (cmap none pk pv (mdelO (none : Option (List (K × V))) k)) = st.X := by
          obtain ⟨hj, he⟩ := List.getElem?_eq_some_iff.1 hX
          show st.X.set j (cmap none pk pv (none : Option (List (K × V)))) = st.X
          rw [← he, List.set_getElem_self]
        rw [this]; exact h
    · have h5 := K0.check es.isEmpty w hyv
      subst hr
      rcases h2.find K0 h3.2.2 hyv w with ⟨h6, h7, h8⟩ | ⟨i, en, i', p, h6, h7, h8, h9, h10, h11, h14, h15⟩
      · refine ⟨setM w b (.map es clock), ?_, ?_⟩
        · simp [hxv, Builtin.delete_, run_underlying ht, Result.andThen, h5, h6, MapKept.run_getObj_map h1, MapKept.run_setObj_map _ h1, setM]
        · refine map_turn h hX h1 h4 ?_ h3
          simpa only [mdel, h7] using h2
      · refine ⟨setM w b (.map (es.eraseIdxIfInBounds i) clock), ?_, ?_⟩
        · simp [hxv, Builtin.delete_, run_underlying ht, Result.andThen, h5, h6, MapKept.run_getObj_map h1, MapKept.run_setObj_map _ h1, setM]
        · refine map_turn h hX h1 h4 ?_ (stamped_erase h3 i)
          have hil : i < es.toList.length := (List.getElem?_eq_some_iff.1 h8).1
          have e1 : (es.eraseIdxIfInBounds i).toList = es.toList.eraseIdx i := by
            unfold Array.eraseIdxIfInBounds
            rw [dif_pos (by simpa using hil), Array.toList_eraseIdx]
          simp only [mdel, h7, e1]
          exact h14
  obtain ⟨w', hr1, hst'⟩ := key
  refine wpIn_calm (w' := w') (v := .tuple #[]) (fun _ _ => trivial) (nodefer_ne rfl) ?_ (hK _ _ ⟨e, hst'⟩)
  simp only [execOp, resolve, invoke, builtin, Sem.run_bind, Sem.run_pure, Result.andThen]
  have hr2 : (Builtin.delete_ #[t, kt'] ty (Array.map a.eval #[x, y])).run P w = .ok (.tuple #[]) w' := by simpa using hr1
  rw [hr2]
end
end Go.Proofs.Ytbmimaabgclhjaa.Fw
