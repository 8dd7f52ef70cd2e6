/- Operations on memory: boxes, arrays, structs, slices. -/
import Derived.Test.YtbmimaabgclhjaaFc
namespace Go.Proofs.Ytbmimaabgclhjaa.Fw
open Go Go.RowKit
set_option linter.unusedVariables false
set_option linter.unusedSimpArgs false

/-! ### types -/
/-- A type of one cell that is no struct and no array. -/
def tyS (P : Program) (t : TypeId) : Bool :=
  match P.underlying t, P.info? t with
  | some (.struct _), _ => false
  | some (.array _ _), _ => false
  | some _, some i => i.size == 1
  | _, _ => false
/-- A struct or an array of so many cells. -/
def tyA (P : Program) (t : TypeId) (n : Nat) : Bool :=
  match P.underlying t, P.info? t with
  | some (.struct _), some i => i.size == n
  | some (.array _ _), some i => i.size == n
  | _, _ => false
def tySz (P : Program) (t : TypeId) (n : Nat) : Bool := match P.info? t with | some i => i.size == n | none => false
def tyZ (P : Program) (t : TypeId) (v : Value) : Prop := (P.info? t).bind (·.zero) = some v
section
variable {P : Program} {w : World} {t : TypeId} {n : Nat}
theorem rIsAggS (h : tyS P t = true) : (isAgg t).run P w = .ok false w := by
  unfold tyS at h
  unfold isAgg
  simp only [Sem.run_bind]
  cases hu : P.underlying t with
  | none => simp [hu] at h
  | some dd =>
    rw [run_underlying hu]
    simp only [Result.andThen]
    cases dd <;> simp [hu] at h ⊢
theorem rIsAggA (h : tyA P t n = true) : (isAgg t).run P w = .ok true w := by
  unfold tyA at h
  unfold isAgg
  simp only [Sem.run_bind]
  cases hu : P.underlying t with
  | none => simp [hu] at h
  | some dd =>
    rw [run_underlying hu]
    simp only [Result.andThen]
    cases dd <;> simp [hu] at h ⊢
theorem rSize (h : tySz P t n = true) : (sizeOf t).run P w = .ok n w := by
  unfold tySz at h
  cases hi : P.info? t with
  | none => simp [hi] at h
  | some i => simp [hi] at h; simp [sizeOf, typeInfo, program, Sem.run, hi, h]
theorem tyS_sz (h : tyS P t = true) : tySz P t 1 = true := by
  unfold tyS at h
  unfold tySz
  cases hi : P.info? t with
  | none => cases hu : P.underlying t with
    | none => simp [hu] at h
    | some dd => cases dd <;> simp [hu, hi] at h
  | some i => cases hu : P.underlying t with
    | none => simp [hu] at h
    | some dd => cases dd <;> simp_all
theorem tyA_sz (h : tyA P t n = true) : tySz P t n = true := by
  unfold tyA at h
  unfold tySz
  cases hi : P.info? t with
  | none => cases hu : P.underlying t with
    | none => simp [hu] at h
    | some dd => cases dd <;> simp [hu, hi] at h
  | some i => cases hu : P.underlying t with
    | none => simp [hu] at h
    | some dd => cases dd <;> simp_all
theorem rZero {v : Value} (h : tyZ P t v) : (zeroValue t).run P w = .ok v w := by
  unfold tyZ at h
  cases hi : P.info? t with
  | none => simp [hi] at h
  | some i => simp [hi] at h; simp [zeroValue, typeInfo, program, Sem.run, hi, h]
end

/-! ### parts of what lies in cells -/
/-- At this cell of x lies y. -/
def Comp {T U : Type} (r : Rep T) (x : T) (off : Nat) (s : Rep U) (y : U) : Prop := ∀ e cs, r.rel e x cs → s.rel e y ((cs.drop off).take s.sz)
/-- With y' at this cell x is x'. -/
def Upd {T U : Type} (r : Rep T) (x : T) (off : Nat) (s : Rep U) (y' : U) (x' : T) : Prop :=
  off + s.sz ≤ r.sz ∧ ∀ e cs vs, r.rel e x cs → s.rel e y' vs → r.rel e x' (lay cs off vs)
theorem Comp.self {T : Type} (r : Rep T) (x : T) : Comp r x 0 r x := fun e cs h => by simp only [List.drop_zero]; rw [List.take_of_length_le (by rw [r.len h]; exact Nat.le_refl _)]; exact h
theorem Upd.self {T : Type} (r : Rep T) (x x' : T) : Upd r x 0 r x' x' := ⟨by omega, fun e cs vs h h' => by
  have : lay cs 0 vs = vs := by unfold lay; simp [r.len h, r.len h']
  rw [this]; exact h'⟩
theorem drop_take_sub {cs : List Value} {o n i m : Nat} (h : i + m ≤ n) : ((((cs.drop o).take n).drop i).take m) = (cs.drop (o + i)).take m := by
  rw [List.drop_take, List.take_take, List.drop_drop]
  congr 1
  omega
theorem Comp.trans {T U V : Type} {r : Rep T} {x : T} {off : Nat} {s : Rep U} {y : U} {o' : Nat} {q : Rep V} {z : V} (h : Comp r x off s y) (k : Comp s y o' q z) (hl : o' + q.sz ≤ s.sz) : Comp r x (off + o') q z := fun e cs hr => by
  have := k e _ (h e cs hr)
  rwa [drop_take_sub hl] at this
theorem lay_sub {cs vs : List Value} {off o' n : Nat} (h1 : off + n ≤ cs.length) (h2 : o' + vs.length ≤ n) : lay cs off (lay ((cs.drop off).take n) o' vs) = lay cs (off + o') vs := by
  have hl : ((cs.drop off).take n).length = n := by simp; omega
  have hl2 : (lay ((cs.drop off).take n) o' vs).length = n := by rw [lay_length (by omega)]; exact hl
  apply List.ext_getElem?
  intro i
  by_cases hi : i < off
  · rw [lay_get_lt hi (by omega), lay_get_lt (by omega) (by omega)]
  · obtain ⟨k, rfl⟩ : ∃ k, i = off + k := ⟨i - off, by omega⟩
    by_cases hk : k < n
    · rw [lay_get_mid (by omega) (by omega)]
      by_cases hk2 : k < o'
      · rw [lay_get_lt hk2 (by omega), lay_get_lt (by omega) (by omega), List.getElem?_take_of_lt hk, List.getElem?_drop]
      · obtain ⟨m, rfl⟩ : ∃ m, k = o' + m := ⟨k - o', by omega⟩
        by_cases hm : m < vs.length
        · rw [lay_get_mid hm (by omega), ← Nat.add_assoc, lay_get_mid hm (by omega)]
        · rw [lay_get_ge (by omega) (by omega), ← Nat.add_assoc, lay_get_ge (by omega) (by omega), List.getElem?_take_of_lt hk, List.getElem?_drop, Nat.add_assoc]
    · rw [lay_get_ge (by omega) (by omega), lay_get_ge (by omega) (by omega)]
theorem Upd.trans {T U V : Type} {r : Rep T} {x x' : T} {off : Nat} {s : Rep U} {y y' : U} {o' : Nat} {q : Rep V} {z' : V} (hc : Comp r x off s y) (h : Upd r x off s y' x') (k : Upd s y o' q z' y') : Upd r x (off + o') q z' x' :=
  ⟨by have := h.1; have := k.1; omega, fun e cs vs hr hv => by
    have hl := r.len hr
    have hvl := q.len hv
    have h1 := h.1
    have h2 := k.1
    have := h.2 e cs _ hr (k.2 e _ vs (hc e cs hr) hv)
    rwa [lay_sub (by omega) (by omega)] at this⟩
theorem Comp.vec {T : Type} {n : Nat} (r : Rep T) (x : Vector T n) (i : Nat) (h : i < n) : Comp (rV n r) x (i * r.sz) r x[i] := fun e cs hr => hr.2.2 i h
theorem Upd.vec {T : Type} {n : Nat} (r : Rep T) (x : Vector T n) (i : Nat) (h : i < n) (y : T) : Upd (rV n r) x (i * r.sz) r y (x.set i y h) :=
  have hle : i * r.sz + r.sz ≤ n * r.sz := by
    have := Nat.mul_le_mul_right r.sz (show i + 1 ≤ n by omega)
    rw [Nat.add_mul] at this
    omega
  ⟨hle, fun e cs vs hr hv => by
    have hvl := r.len hv
    obtain ⟨h1, h2, h3⟩ := hr
    refine ⟨by rw [lay_length (by omega)]; exact h1, fun v hv' => ?_, fun j hj => ?_⟩
    · unfold lay at hv'
      rcases List.mem_append.1 hv' with hv' | hv'
      · rcases List.mem_append.1 hv' with hv' | hv'
        · exact h2 v (List.mem_of_mem_take hv')
        · exact r.one hv v hv'
      · exact h2 v (List.mem_of_mem_drop hv')
    · by_cases hij : i = j
      · subst hij
        have : ((lay cs (i * r.sz) vs).drop (i * r.sz)).take r.sz = vs := by
          apply List.ext_getElem?
          intro k
          by_cases hk : k < r.sz
          · rw [List.getElem?_take_of_lt hk, List.getElem?_drop, lay_get_mid (by omega) (by omega)]
          · rw [List.getElem?_eq_none (by simp; omega), List.getElem?_eq_none (by omega)]
        rw [this]
        simpa using hv
      · have : ((lay cs (i * r.sz) vs).drop (j * r.sz)).take r.sz = (cs.drop (j * r.sz)).take r.sz := by
          apply List.ext_getElem?
          intro k
          by_cases hk : k < r.sz
          · rw [List.getElem?_take_of_lt hk, List.getElem?_take_of_lt hk, List.getElem?_drop, List.getElem?_drop]
            rcases Nat.lt_or_gt_of_ne hij with hlt | hlt
            · have := Nat.mul_le_mul_right r.sz (show i + 1 ≤ j by omega)
              rw [Nat.add_mul] at this
              rw [lay_get_ge (by omega) (by omega)]
            · have := Nat.mul_le_mul_right r.sz (show j + 1 ≤ i by omega)
              rw [Nat.add_mul] at this
              rw [lay_get_lt (by omega) (by omega)]
          · rw [List.getElem?_eq_none (by simp; omega), List.getElem?_eq_none (by simp; omega)]
        rw [this]
        have h4 := h3 j hj
        rw [Vector.getElem_set_ne _ _ (by exact hij)]
        exact h4⟩
theorem Comp.fst {T U : Type} (r : Rep T) (s : Rep U) (x : T × U) : Comp (rP r s) x 0 r x.1 := fun e cs ⟨a, b, h, ha, hb⟩ => by
  subst h; simp only [List.drop_zero]; rw [← r.len ha, List.take_left']; exact ha; rfl
theorem Upd.fst {T U : Type} (r : Rep T) (s : Rep U) (x : T × U) (y : T) : Upd (rP r s) x 0 r y (y, x.2) := ⟨by simp [rP], fun e cs vs ⟨a, b, h, ha, hb⟩ hv => by
  refine ⟨vs, b, ?_, hv, hb⟩
  subst h
  unfold lay
  simp [r.len hv, ← r.len ha]⟩
theorem Comp.map {T U V : Type} {f : U → T} {r : Rep T} {x : U} {off : Nat} {s : Rep V} {y : V} (h : Comp r (f x) off s y) : Comp (rM f r) x off s y := fun e cs hr => h e cs hr
theorem Upd.map {T U V : Type} {f : U → T} {r : Rep T} {x x' : U} {off : Nat} {s : Rep V} {y : V} (h : Upd r (f x) off s y (f x')) : Upd (rM f r) x off s y x' := ⟨h.1, fun e cs vs hr hv => h.2 e cs vs hr hv⟩

/-- .. where the reading turns, too. -/
def UpdR {T U T' : Type} (r : Rep T) (x : T) (off : Nat) (s : Rep U) (y' : U) (r' : Rep T') (x' : T') : Prop :=
  off + s.sz ≤ r.sz ∧ r'.sz = r.sz ∧ ∀ e cs vs, r.rel e x cs → s.rel e y' vs → r'.rel e x' (lay cs off vs)
theorem Upd.R {T U : Type} {r : Rep T} {x x' : T} {off : Nat} {s : Rep U} {y' : U} (h : Upd r x off s y' x') : UpdR r x off s y' r x' := ⟨h.1, rfl, h.2⟩
theorem UpdR.self {T U : Type} {r : Rep T} {x : T} {s : Rep U} {y : U} (hs : s.sz = r.sz) : UpdR r x 0 s y s y := ⟨by omega, hs, fun e cs vs h h' => by
  have : lay cs 0 vs = vs := by unfold lay; simp [r.len h, s.len h', hs]
  rw [this]; exact h'⟩
theorem UpdR.fst {T T' U V : Type} {r : Rep T} {s : Rep U} {x : T × U} {off : Nat} {q : Rep V} {y : V} {r' : Rep T'} {z : T'} (h : UpdR r x.1 off q y r' z) : UpdR (rP r s) x off q y (rP r' s) (z, x.2) :=
  ⟨by have := h.1; simp [rP]; omega, by simp [rP, h.2.1], fun e cs vs ⟨a, b, hab, ha, hb⟩ hv => by
    have h1 := h.1
    refine ⟨lay a off vs, b, ?_, h.2.2 e a vs ha hv, hb⟩
    subst hab
    have hl := r.len ha
    have hvl := q.len hv
    unfold lay
    rw [List.take_append_of_le_length (by omega), List.drop_append_of_le_length (by omega)]
    simp⟩
theorem UpdR.snd {T U U' V : Type} {r : Rep T} {s : Rep U} {x : T × U} {off : Nat} {q : Rep V} {y : V} {s' : Rep U'} {z : U'} (h : UpdR s x.2 off q y s' z) : UpdR (rP r s) x (r.sz + off) q y (rP r s') (x.1, z) :=
  ⟨by have := h.1; simp [rP]; omega, by simp [rP, h.2.1], fun e cs vs ⟨a, b, hab, ha, hb⟩ hv => by
    have h1 := h.1
    refine ⟨a, lay b off vs, ?_, ha, h.2.2 e b vs hb hv⟩
    subst hab
    have hl := r.len ha
    have hvl := q.len hv
    unfold lay
    rw [← hl, List.take_append, List.drop_append]
    simp only [Nat.add_sub_cancel_left, List.take_of_length_le (Nat.le_add_right _ _)]
    rw [List.drop_eq_nil_of_le (by omega)]
    simp [show a.length + off + vs.length - a.length = off + vs.length from by omega]⟩
theorem UpdR.at {T U T' : Type} {r : Rep T} {x : T} {off off' : Nat} {s : Rep U} {y' : U} {r' : Rep T'} {x' : T'} (h : UpdR r x off s y' r' x') (ho : off = off') : UpdR r x off' s y' r' x' := ho ▸ h
theorem Comp.at' {T U : Type} {r : Rep T} {x : T} {off off' : Nat} {s : Rep U} {y : U} (h : Comp r x off s y) (ho : off = off') : Comp r x off' s y := ho ▸ h
theorem Comp.inF {T U V : Type} {r : Rep T} {s : Rep U} {x : T × U} {off : Nat} {q : Rep V} {y : V} (h : Comp r x.1 off q y) (hl : off + q.sz ≤ r.sz) : Comp (rP r s) x off q y := fun e cs ⟨a, b, hab, ha, hb⟩ => by
  subst hab
  have := h e a ha
  have hla := r.len ha
  rwa [List.drop_append_of_le_length (by omega), List.take_append_of_le_length (by simp; omega)]
theorem Comp.inS {T U V : Type} {r : Rep T} {s : Rep U} {x : T × U} {off : Nat} {q : Rep V} {y : V} (h : Comp s x.2 off q y) : Comp (rP r s) x (r.sz + off) q y := fun e cs ⟨a, b, hab, ha, hb⟩ => by
  subst hab
  have := h e b hb
  have hla := r.len ha
  rw [List.drop_append, List.drop_eq_nil_of_le (by omega), List.nil_append, show r.sz + off - a.length = off from by omega]
  exact this

/-! ### zeros -/
def Zr {T : Type} (r : Rep T) (x : T) (cs : List Value) : Prop := ∀ e, r.rel e x cs
theorem Zr.int (k : IntKind) (n : Int) : Zr (rI k) n [.int k n] := fun _ => rfl
theorem Zr.u {U : Type} [UK U] {k : IntKind} (x : U) (hk : k = UK.k U) (h : UN.toN x = 0) : Zr (rU U) x [.int k 0] := fun _ => by simp [rU, h, hk]
theorem Zr.bool (b : Bool) : Zr rB b [.bool b] := fun _ => rfl
theorem Zr.str {s : ByteArray} (h : s = bs []) : Zr rS [] [.string s] := fun _ => by simp [rS, h]
theorem Zr.list {T : Type} (r : Rep T) : Zr (rL r) [] [.slice none 0 0] := fun _ => ⟨_, rfl, none, 0, rfl, by simp, fun _ => rfl, fun h => by simp at h⟩
theorem Zr.pair {T U : Type} {r : Rep T} {s : Rep U} {x : T} {y : U} {a b : List Value} (ha : Zr r x a) (hb : Zr s y b) : Zr (rP r s) (x, y) (a ++ b) := fun e => ⟨a, b, rfl, ha e, hb e⟩
theorem Zr.map {T U : Type} {f : U → T} {r : Rep T} {x : U} {a : List Value} (h : Zr r (f x) a) : Zr (rM f r) x a := fun e => h e
theorem Zr.unit : Zr r0 () [] := fun _ => rfl
theorem flat_drop_take {n m : Nat} {a : List Value} (hm : a.length = m) : ∀ i, i < n → (((List.replicate n a).flatten).drop (i * m)).take m = a := by
  induction n with
  | zero => intro i hi; omega
  | succ n ih =>
    intro i hi
    rw [List.replicate_succ, List.flatten_cons]
    obtain _ | i := i
    · simp only [Nat.zero_mul, List.drop_zero]
      rw [← hm, List.take_left']
      rfl
    · rw [List.drop_append, List.drop_eq_nil_of_le (by rw [hm, Nat.add_mul]; omega), List.nil_append, hm, show (i + 1) * m - m = i * m from by rw [Nat.add_mul]; omega]
      exact ih i (by omega)
theorem Zr.vec {T : Type} {r : Rep T} {x : T} {a cs : List Value} {n : Nat} (h : Zr r x a) (hc : cs = (List.replicate n a).flatten) : Zr (rV n r) (Vector.replicate n x) cs := fun e => by
  subst hc
  have hl := r.len (h e)
  refine ⟨by simp [hl], fun v hv => ?_, fun i hi => ?_⟩
  · obtain ⟨l, h1, h2⟩ := List.mem_flatten.1 hv
    rw [(List.mem_replicate.1 h1).2] at h2
    exact r.one (h e) v h2
  · rw [flat_drop_take hl i hi]
    simpa using h e
end Go.Proofs.Ytbmimaabgclhjaa.Fw
