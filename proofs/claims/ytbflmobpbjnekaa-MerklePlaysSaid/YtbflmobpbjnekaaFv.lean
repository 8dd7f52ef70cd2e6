/- Maps, the second part: the piece of memory; making, looking up, writing, deleting, counting. -/
import Derived.Test.YtbflmobpbjnekaaFu
namespace Go.Proofs.Ytbflmobpbjnekaa.Fw
open Go Go.RowKit Go.MapKept
set_option linter.unusedVariables false
set_option linter.unusedSimpArgs false

/-- The entries are these. -/
def MRel {K V : Type} (pk : K → VP) (pv : V → VP) (e : Env) : List (K × V) → List MapEntry → Prop
  | [], [] => True
  | p :: l, en :: es => (pk p.1).p e en.key ∧ (pv p.2).p e en.val ∧ MRel pk pv e l es
  | [], _ :: _ => False
  | _ :: _, [] => False
section
variable {K V : Type} {pk : K → VP} {pv : V → VP}
theorem MRel.mono {e e' : Env} (he : e.le e') : ∀ {l : List (K × V)} {es : List MapEntry}, MRel pk pv e l es → MRel pk pv e' l es
  | [], [], _ => trivial
  | _ :: _, _ :: _, ⟨a, b, c⟩ => ⟨(pk _).mono he a, (pv _).mono he b, c.mono he⟩
  | [], _ :: _, h => h.elim
  | _ :: _, [], h => h.elim
theorem MRel.len {e : Env} : ∀ {l : List (K × V)} {es : List MapEntry}, MRel pk pv e l es → l.length = es.length
  | [], [], _ => rfl
  | _ :: _, _ :: _, ⟨a, b, c⟩ => by simp [c.len]
  | [], _ :: _, h => h.elim
  | _ :: _, [], h => h.elim
theorem MRel.get {e : Env} : ∀ {l : List (K × V)} {es : List MapEntry}, MRel pk pv e l es → ∀ {i : Nat} {en : MapEntry}, es[i]? = some en → ∃ p, l[i]? = some p ∧ (pk p.1).p e en.key ∧ (pv p.2).p e en.val
  | [], [], _, i, en, h => by simp at h
  | p :: l, _ :: es, ⟨a, b, c⟩, 0, en, h => by simp at h; subst h; exact ⟨p, rfl, a, b⟩
  | p :: l, _ :: es, ⟨a, b, c⟩, i + 1, en, h => by
    obtain ⟨q, h1, h2⟩ := c.get (show es[i]? = some en by simpa using h)
    exact ⟨q, by simpa using h1, h2⟩
  | [], _ :: _, h, _, _, _ => h.elim
  | _ :: _, [], h, _, _, _ => h.elim
theorem MRel.append {e : Env} {p : K × V} {en : MapEntry} (hk : (pk p.1).p e en.key) (hv : (pv p.2).p e en.val) : ∀ {l : List (K × V)} {es : List MapEntry}, MRel pk pv e l es → MRel pk pv e (l ++ [p]) (es ++ [en])
  | [], [], _ => ⟨hk, hv, trivial⟩
  | _ :: _, _ :: _, ⟨a, b, c⟩ => ⟨a, b, c.append hk hv⟩
  | [], _ :: _, h => h.elim
  | _ :: _, [], h => h.elim
theorem MRel.set {e : Env} {p : K × V} {en : MapEntry} (hk : (pk p.1).p e en.key) (hv : (pv p.2).p e en.val) : ∀ {l : List (K × V)} {es : List MapEntry} (i : Nat), MRel pk pv e l es → MRel pk pv e (l.set i p) (es.set i en)
  | [], [], _, _ => trivial
  | _ :: _, _ :: _, 0, ⟨a, b, c⟩ => ⟨hk, hv, c⟩
  | _ :: _, _ :: _, i + 1, ⟨a, b, c⟩ => ⟨a, b, c.set hk hv i⟩
  | [], _ :: _, _, h => h.elim
  | _ :: _, [], _, h => h.elim
theorem MRel.erase {e : Env} : ∀ {l : List (K × V)} {es : List MapEntry} (i : Nat), MRel pk pv e l es → MRel pk pv e (l.eraseIdx i) (es.eraseIdx i)
  | [], [], _, _ => trivial
  | _ :: _, _ :: _, 0, ⟨a, b, c⟩ => c
  | _ :: _, _ :: _, i + 1, ⟨a, b, c⟩ => ⟨a, b, c.erase i⟩
  | [], _ :: _, _, h => h.elim
  | _ :: _, [], _, h => h.elim
/-- The entries are these, in whatever order. -/
def MP {K V : Type} (pk : K → VP) (pv : V → VP) (e : Env) (l : List (K × V)) (es : List MapEntry) : Prop := ∃ l', MRel pk pv e l l' ∧ l'.Perm es
theorem MP.mono {e e' : Env} (he : e.le e') {l : List (K × V)} {es : List MapEntry} (h : MP pk pv e l es) : MP pk pv e' l es := let ⟨l', a, b⟩ := h; ⟨l', a.mono he, b⟩
theorem MP.len {e : Env} {l : List (K × V)} {es : List MapEntry} (h : MP pk pv e l es) : l.length = es.length := let ⟨l', a, b⟩ := h; a.len.trans b.length_eq
theorem MP.append {e : Env} {p : K × V} {en : MapEntry} (hk : (pk p.1).p e en.key) (hv : (pv p.2).p e en.val) {l : List (K × V)} {es : List MapEntry} (h : MP pk pv e l es) : MP pk pv e (l ++ [p]) (es ++ [en]) :=
  let ⟨l', a, b⟩ := h; ⟨l' ++ [en], a.append hk hv, b.append_right _⟩
theorem MRel.perm {e : Env} {l m : List (K × V)} (hp : l.Perm m) : ∀ {l' : List MapEntry}, MRel pk pv e l l' → ∃ m', MRel pk pv e m m' ∧ m'.Perm l' := by
  induction hp with
  | nil => exact fun {l'} h => ⟨l', h, List.Perm.refl _⟩
  | cons x _ ih =>
    intro l' h
    cases l' with
    | nil => exact h.elim
    | cons en l' =>
      obtain ⟨a, b, c⟩ := h
      obtain ⟨m', h1, h2⟩ := ih c
      exact ⟨en :: m', ⟨a, b, h1⟩, h2.cons _⟩
  | swap x y l =>
    intro l' h
    match l', h with
    | [], h => exact h.elim
    | [_], h => exact h.2.2.elim
    | e1 :: e2 :: l', ⟨a, b, c, d, h⟩ => exact ⟨e2 :: e1 :: l', ⟨c, d, a, b, h⟩, List.Perm.swap _ _ _⟩
  | trans _ _ ih1 ih2 =>
    intro l' h
    obtain ⟨m', h1, h2⟩ := ih1 h
    obtain ⟨m2, h3, h4⟩ := ih2 h1
    exact ⟨m2, h3, h4.trans h2⟩
theorem MP.perm {e : Env} {l m : List (K × V)} {es : List MapEntry} (hp : l.Perm m) (h : MP pk pv e l es) : MP pk pv e m es := by
  obtain ⟨l', a, b⟩ := h
  obtain ⟨m', h1, h2⟩ := a.perm hp
  exact ⟨m', h1, h2.trans b⟩
theorem cons_erase {α : Type} : ∀ {l : List α} {i : Nat} {x : α}, l[i]? = some x → (x :: l.eraseIdx i).Perm l
  | [], i, x, h => by simp at h
  | y :: l, 0, x, h => by simp at h; subst h; exact List.Perm.refl _
  | y :: l, i + 1, x, h => by
    have ih := cons_erase (show l[i]? = some x by simpa using h)
    rw [List.eraseIdx_cons_succ]
    exact (List.Perm.swap _ _ _).trans (ih.cons y)
theorem set_erase {α : Type} {y : α} : ∀ {l : List α} {i : Nat}, (l.set i y).eraseIdx i = l.eraseIdx i
  | [], i => rfl
  | z :: l, 0 => rfl
  | z :: l, i + 1 => by
    rw [List.set_cons_succ, List.eraseIdx_cons_succ, List.eraseIdx_cons_succ, set_erase]
theorem perm_erase {α : Type} {l m : List α} {i j : Nat} {x : α} (hp : l.Perm m) (hi : l[i]? = some x) (hj : m[j]? = some x) : (l.eraseIdx i).Perm (m.eraseIdx j) ∧ ∀ y, (l.set i y).Perm (m.set j y) := by
  have h3 : (l.eraseIdx i).Perm (m.eraseIdx j) := ((cons_erase hi).trans (hp.trans (cons_erase hj).symm)).cons_inv
  refine ⟨h3, fun y => ?_⟩
  have h4 := cons_erase (l := l.set i y) (i := i) (x := y) (List.getElem?_set_self (List.getElem?_eq_some_iff.1 hi).1)
  have h5 := cons_erase (l := m.set j y) (i := j) (x := y) (List.getElem?_set_self (List.getElem?_eq_some_iff.1 hj).1)
  rw [set_erase] at h4 h5
  exact (h4.symm.trans (h3.cons y)).trans h5
variable [DecidableEq K] {P : Program} {kt : TypeId}
theorem mpos_none {x : K} {l : List (K × V)} (h : ∀ p ∈ l, x ≠ p.1) : mpos x l = none := by
  induction l with
  | nil => rfl
  | cons p l ih => rw [mpos, if_neg (h p (by simp)), ih (fun q hq => h q (by simp [hq]))]; rfl
theorem mpos_some {x : K} : ∀ {l : List (K × V)} {j : Nat} {p : K × V}, l[j]? = some p → x = p.1 → (∀ i q, i < j → l[i]? = some q → x ≠ q.1) → mpos x l = some j
  | [], j, p, h, _, _ => by simp at h
  | q :: l, 0, p, h, hx, _ => by simp at h; subst h; simp [mpos, hx]
  | q :: l, j + 1, p, h, hx, hl => by
    rw [mpos, if_neg (hl 0 q (by omega) rfl), mpos_some (show l[j]? = some p by simpa using h) hx (fun i r hi hr => hl (i + 1) r (by omega) (by simpa using hr))]
    rfl
theorem MRel.find {e : Env} {l : List (K × V)} {es : List MapEntry} {x : K} {u : Value} (K0 : KeyT P kt pk) (h : MRel pk pv e l es) (hn : (es.map (·.key)).Nodup) (hu : (pk x).p e u) (w : World) :
    ((Instr.findKey kt u es).run P w = .ok none w ∧ mpos x l = none ∧ ∀ en ∈ es, en.key ≠ u) ∨ ∃ j en p, (Instr.findKey kt u es).run P w = .ok (some (j, en.val)) w ∧ mpos x l = some j ∧ es[j]? = some en ∧ en.key = u ∧ l[j]? = some p ∧ (pv p.2).p e en.val := by
  have hall : ∀ en ∈ es, ∃ e' y, (pk y).p e' en.key := fun en hen => by
    obtain ⟨i, hi, rfl⟩ := List.getElem_of_mem hen
    obtain ⟨p, _, h1, _⟩ := h.get (List.getElem?_eq_getElem hi)
    exact ⟨e, p.1, h1⟩
  have hlen := h.len
  rcases K0.find w es hu hall with ⟨h1, h2⟩ | ⟨j, en, h1, h2, h3⟩
  · refine .inl ⟨h1, mpos_none fun p hp => ?_, h2⟩
    obtain ⟨i, hi, rfl⟩ := List.getElem_of_mem hp
    obtain ⟨q, hq, h4, _⟩ := h.get (List.getElem?_eq_getElem (show i < es.length by omega))
    rw [List.getElem?_eq_getElem hi] at hq
    cases hq
    intro hx
    exact h2 _ (List.getElem_mem (by omega)) ((K0.inj h4 hu).2 hx.symm)
  · obtain ⟨p, hp, h4, h5⟩ := h.get h2
    refine .inr ⟨j, en, p, h1, mpos_some hp ((K0.inj hu h4).1 h3.symm) fun i q hi hq => ?_, h2, h3, hp, h5⟩
    have hjl : j < es.length := (List.getElem?_eq_some_iff.1 h2).1
    obtain ⟨q', hq', h6, _⟩ := h.get (List.getElem?_eq_getElem (show i < es.length by omega))
    rw [hq] at hq'
    cases hq'
    intro hx
    have h7 : es[i].key = u := (K0.inj h6 hu).2 hx.symm
    have h8 := (List.getElem?_eq_some_iff.1 h2).2
    have h9 : (es.map (·.key))[i]'(by simp; omega) = (es.map (·.key))[j]'(by simp; omega) := by simp [h7, h8, h3]
    have := (List.getElem_inj hn).1 h9
    omega

theorem MP.find {e : Env} {l : List (K × V)} {es : List MapEntry} {x : K} {u : Value} (K0 : KeyT P kt pk) (h : MP pk pv e l es) (hn : (es.map (·.key)).Nodup) (hu : (pk x).p e u) (w : World) :
    ((Instr.findKey kt u es).run P w = .ok none w ∧ mpos x l = none ∧ ∀ en ∈ es, en.key ≠ u) ∨ ∃ j en i p, (Instr.findKey kt u es).run P w = .ok (some (j, en.val)) w ∧ mpos x l = some i ∧ es[j]? = some en ∧ en.key = u ∧ l[i]? = some p ∧ (pv p.2).p e en.val ∧
      MP pk pv e (l.eraseIdx i) (es.eraseIdx j) ∧ ∀ (p' : K × V) (en' : MapEntry), (pk p'.1).p e en'.key → (pv p'.2).p e en'.val → MP pk pv e (l.set i p') (es.set j en') := by
  obtain ⟨l', a, b⟩ := h
  have hn' : (l'.map (·.key)).Nodup := (b.map _).nodup_iff.2 hn
  have hall : ∀ en ∈ es, ∃ e' y, (pk y).p e' en.key := fun en hen => by
    obtain ⟨i, hi, rfl⟩ := List.getElem_of_mem (b.mem_iff.2 hen)
    obtain ⟨p, _, h1, _⟩ := a.get (List.getElem?_eq_getElem hi)
    exact ⟨e, p.1, h1⟩
  rcases K0.find w es hu hall with ⟨h1, h2⟩ | ⟨j, en, h1, h2, h3⟩
  · rcases a.find K0 hn' hu w with ⟨_, h4, _⟩ | ⟨i, en, p, _, _, h5, h6, _⟩
    · exact .inl ⟨h1, h4, h2⟩
    · exact absurd h6 (h2 en (b.mem_iff.1 (List.mem_of_getElem? h5)))
  · have hen : en ∈ l' := b.mem_iff.2 (List.mem_of_getElem? h2)
    rcases a.find K0 hn' hu w with ⟨_, _, h4⟩ | ⟨i, en', p, _, h4, h5, h6, h7, h8⟩
    · exact absurd h3 (h4 en hen)
    · have hsame : en' = en := by
        obtain ⟨i2, hi2, he2⟩ := List.getElem_of_mem hen
        obtain ⟨hi5, he5⟩ := List.getElem?_eq_some_iff.1 h5
        have h12 : (l'.map (·.key))[i]'(by simpa using hi5) = (l'.map (·.key))[i2]'(by simpa using hi2) := by simp [he5, he2, h6, h3]
        have h13 := (List.getElem_inj hn').1 h12
        subst h13
        rw [← he2, ← he5]
      subst hsame
      obtain ⟨k1, k2⟩ := perm_erase b h5 h2
      exact .inr ⟨j, en', i, p, h1, h4, h2, h3, h7, h8, ⟨_, a.erase i, k1⟩, fun p' en'' hk hv => ⟨_, a.set hk hv i, k2 en''⟩⟩

theorem KeptX.foot {f g : Nat → Prop} {w w' : World} (h : KeptX f w w') (hfg : ∀ b, f b → g b) : KeptX g w w' := ⟨h.os, h.tape, h.output, h.size, fun b hb hn => h.old b hb fun hf => hn (hfg b hf)⟩
end

section
variable {P : Program} {Bs : Base} {st : St} {e : Env} {a : Act} {w : World} {t kt et ty : TypeId} {d : Nat} {x y z : Operand} {pos : String} {af : Array Edge} {g : Option (Nat × Bool)} {K V : Type} {pk : K → VP} {pv : V → VP}
variable [DecidableEq K]
end
end Go.Proofs.Ytbflmobpbjnekaa.Fw
