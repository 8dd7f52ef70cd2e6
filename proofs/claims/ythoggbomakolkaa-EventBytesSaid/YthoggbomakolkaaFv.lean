/- Maps, the second part: the piece of memory; making, looking up, writing, deleting, counting. -/
import Derived.Test.YthoggbomakolkaaFu
namespace Go.Proofs.Ythoggbomakolkaa.Fw
open Go Go.RowKit Go.MapKept
set_option linter.unusedVariables false
set_option linter.unusedSimpArgs false

/-- The entries are these. -/
def MRel {K V : Type} (pk : K → VP) (pv : V → VP) (e : Env) : List (K × V) → List MapEntry → Prop
  | [], [] => True
  | p :: l, en :: es => (pk p.1).p e en.key ∧ (pv p.2).p e en.val ∧ MRel pk pv e l es
  | [], _ :: _ => False
  | _ :: _, [] => False
section
variable {K V : Type} {pk : K → VP} {pv : V → VP}
theorem MRel.mono {e e' : Env} (he : e.le e') : ∀ {l : List (K × V)} {es : List MapEntry}, MRel pk pv e l es → MRel pk pv e' l es
  | [], [], _ => trivial
  | _ :: _, _ :: _, ⟨a, b, c⟩ => ⟨(pk _).mono he a, (pv _).mono he b, c.mono he⟩
  | [], _ :: _, h => h.elim
  | _ :: _, [], h => h.elim
theorem MRel.len {e : Env} : ∀ {l : List (K × V)} {es : List MapEntry}, MRel pk pv e l es → l.length = es.length
  | [], [], _ => rfl
  | _ :: _, _ :: _, ⟨a, b, c⟩ => by simp [c.len]
  | [], _ :: _, h => h.elim
  | _ :: _, [], h => h.elim
theorem MRel.get {e : Env} : ∀ {l : List (K × V)} {es : List MapEntry}, MRel pk pv e l es → ∀ {i : Nat} {en : MapEntry}, es[i]? = some en → ∃ p, l[i]? = some p ∧ (pk p.1).p e en.key ∧ (pv p.2).p e en.val
  | [], [], _, i, en, h => by simp at h
  | p :: l, _ :: es, ⟨a, b, c⟩, 0, en, h => by simp at h; subst h; exact ⟨p, rfl, a, b⟩
  | p :: l, _ :: es, ⟨a, b, c⟩, i + 1, en, h => by
    obtain ⟨q, h1, h2⟩ := c.get (show es[i]? = some en by simpa using h)
    exact ⟨q, by simpa using h1, h2⟩
  | [], _ :: _, h, _, _, _ => h.elim
  | _ :: _, [], h, _, _, _ => h.elim
theorem MRel.append {e : Env} {p : K × V} {en : MapEntry} (hk : (pk p.1).p e en.key) (hv : (pv p.2).p e en.val) : ∀ {l : List (K × V)} {es : List MapEntry}, MRel pk pv e l es → MRel pk pv e (l ++ [p]) (es ++ [en])
  | [], [], _ => ⟨hk, hv, trivial⟩
  | _ :: _, _ :: _, ⟨a, b, c⟩ => ⟨a, b, c.append hk hv⟩
  | [], _ :: _, h => h.elim
  | _ :: _, [], h => h.elim
theorem MRel.set {e : Env} {p : K × V} {en : MapEntry} (hk : (pk p.1).p e en.key) (hv : (pv p.2).p e en.val) : ∀ {l : List (K × V)} {es : List MapEntry} (i : Nat), MRel pk pv e l es → MRel pk pv e (l.set i p) (es.set i en)
  | [], [], _, _ => trivial
  | _ :: _, _ :: _, 0, ⟨a, b, c⟩ => ⟨hk, hv, c⟩
  | _ :: _, _ :: _, i + 1, ⟨a, b, c⟩ => ⟨a, b, c.set hk hv i⟩
  | [], _ :: _, _, h => h.elim
  | _ :: _, [], _, h => h.elim
variable [DecidableEq K] {P : Program} {kt : TypeId}
theorem mpos_none {x : K} {l : List (K × V)} (h : ∀ p ∈ l, x ≠ p.1) : mpos x l = none := by
  induction l with
  | nil => rfl
  | cons p l ih => rw [mpos, if_neg (h p (by simp)), ih (fun q hq => h q (by simp [hq]))]; rfl
theorem mpos_some {x : K} : ∀ {l : List (K × V)} {j : Nat} {p : K × V}, l[j]? = some p → x = p.1 → (∀ i q, i < j → l[i]? = some q → x ≠ q.1) → mpos x l = some j
  | [], j, p, h, _, _ => by simp at h
  | q :: l, 0, p, h, hx, _ => by simp at h; subst h; simp [mpos, hx]
  | q :: l, j + 1, p, h, hx, hl => by
    rw [mpos, if_neg (hl 0 q (by omega) rfl), mpos_some (show l[j]? = some p by simpa using h) hx (fun i r hi hr => hl (i + 1) r (by omega) (by simpa using hr))]
    rfl
theorem MRel.find {e : Env} {l : List (K × V)} {es : List MapEntry} {x : K} {u : Value} (K0 : KeyT P kt pk) (h : MRel pk pv e l es) (hn : (es.map (·.key)).Nodup) (hu : (pk x).p e u) (w : World) :
    ((Instr.findKey kt u es).run P w = .ok none w ∧ mpos x l = none ∧ ∀ en ∈ es, en.key ≠ u) ∨ ∃ j en p, (Instr.findKey kt u es).run P w = .ok (some (j, en.val)) w ∧ mpos x l = some j ∧ es[j]? = some en ∧ en.key = u ∧ l[j]? = some p ∧ (pv p.2).p e en.val := by
  have hall : ∀ en ∈ es, ∃ e' y, (pk y).p e' en.key := fun en hen => by
    obtain ⟨i, hi, rfl⟩ := List.getElem_of_mem hen
    obtain ⟨p, _, h1, _⟩ := h.get (List.getElem?_eq_getElem hi)
    exact ⟨e, p.1, h1⟩
  have hlen := h.len
  rcases K0.find w es hu hall with ⟨h1, h2⟩ | ⟨j, en, h1, h2, h3⟩
  · refine .inl ⟨h1, mpos_none fun p hp => ?_, h2⟩
    obtain ⟨i, hi, rfl⟩ := List.getElem_of_mem hp
    obtain ⟨q, hq, h4, _⟩ := h.get (List.getElem?_eq_getElem (show i < es.length by omega))
    rw [List.getElem?_eq_getElem hi] at hq
    cases hq
    intro hx
    exact h2 _ (List.getElem_mem (by omega)) ((K0.inj h4 hu).2 hx.symm)
  · obtain ⟨p, hp, h4, h5⟩ := h.get h2
    refine .inr ⟨j, en, p, h1, mpos_some hp ((K0.inj hu h4).1 h3.symm) fun i q hi hq => ?_, h2, h3, hp, h5⟩
    have hjl : j < es.length := (List.getElem?_eq_some_iff.1 h2).1
    obtain ⟨q', hq', h6, _⟩ := h.get (List.getElem?_eq_getElem (show i < es.length by omega))
    rw [hq] at hq'
    cases hq'
    intro hx
    have h7 : es[i].key = u := (K0.inj h6 hu).2 hx.symm
    have h8 := (List.getElem?_eq_some_iff.1 h2).2
    have h9 : (es.map (·.key))[i]'(by simp; omega) = (es.map (·.key))[j]'(by simp; omega) := by simp [h7, h8, h3]
    have := (List.getElem_inj hn).1 h9
    omega

/-- A block, laid anew. -/
def setM (w : World) (b : Nat) (o : Obj) : World := { w with heap := w.heap.setIfInBounds b o }
theorem setM_at {w : World} {b : Nat} {o : Obj} (h : b < w.heap.size) : (setM w b o).heap[b]? = some o := by simp [setM, h]
theorem setM_ne {w : World} {b c : Nat} {o : Obj} (h : c ≠ b) : (setM w b o).heap[c]? = w.heap[c]? := by simp [setM, Array.getElem?_setIfInBounds_ne (Ne.symm h)]
theorem KeptX.setM {w : World} {b : Nat} {o : Obj} : KeptX (· = b) w (setM w b o) := ⟨rfl, rfl, rfl, by simp [Fw.setM], fun c _ hc => setM_ne hc⟩
theorem KeptX.foot {f g : Nat → Prop} {w w' : World} (h : KeptX f w w') (hfg : ∀ b, f b → g b) : KeptX g w w' := ⟨h.os, h.tape, h.output, h.size, fun b hb hn => h.old b hb fun hf => hn (hfg b hf)⟩
end

section
variable {P : Program} {Bs : Base} {st : St} {e : Env} {a : Act} {w : World} {t kt et ty : TypeId} {d : Nat} {x y z : Operand} {pos : String} {af : Array Edge} {g : Option (Nat × Bool)} {K V : Type} {pk : K → VP} {pv : V → VP}
variable [DecidableEq K]
end
end Go.Proofs.Ythoggbomakolkaa.Fw
