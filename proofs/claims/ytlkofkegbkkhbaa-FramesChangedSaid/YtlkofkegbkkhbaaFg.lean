/- Slices, the second part: cutting, appending, making, texts and bytes. -/
import Derived.Test.YtlkofkegbkkhbaaFf
namespace Go.Proofs.Ytlkofkegbkkhbaa.Fw
open Go Go.RowKit
set_option linter.unusedVariables false
set_option linter.unusedSimpArgs false

section
variable {M : HM} {P : Program} {Bs : Base} {st st' : St M} {d : Nat} {ty t t' el : TypeId} {pos : String} {af : Array Edge} {g : Option (Nat × Bool)} {x y z : Operand}
variable {e : Env} {β : List (Option Nat)} {F : Nat → Prop} {a : Act} {w : World}

/-- A bound of a cut: what it is where none stands there. -/
def OptN (st : St M) (o : Option Operand) (dflt n : Int) : Prop := match o with
  | none => n = dflt
  | some x => (∃ k, HasO st x (.one (.val (S (rI k) n)))) ∨ ∃ (U : Type) (_ : UK U) (u : U), HasO st x (.one (.val (S (rU U) u))) ∧ n = UN.toN u
theorem OptN.none {n : Int} : OptN st .none n n := rfl
theorem OptN.some {k : IntKind} {n d : Int} (h : HasO st x (.one (.val (S (rI k) n)))) : OptN st (.some x) d n := .inl ⟨k, h⟩
theorem OptN.someU {U : Type} [UK U] {u : U} {d : Int} (h : HasO st x (.one (.val (S (rU U) u)))) : OptN st (.some x) d (UN.toN u) := .inr ⟨U, _, u, h, rfl⟩
theorem OptN.get {o : Option Operand} {df n : Int} (h : OptN st o df n) (hst : StE Bs st e β F a w) : (o = .none ∧ n = df) ∨ ∃ x k, o = .some x ∧ a.eval x = .int k n := by
  cases o with
  | none => exact .inl ⟨rfl, h⟩
  | some x =>
    rcases h with ⟨k, h⟩ | ⟨U, _, u, h, rfl⟩
    · exact .inr ⟨x, k, rfl, by have := h.get hst; simpa [SVR, SWR, S, rI] using this⟩
    · exact .inr ⟨x, UK.k U, rfl, by have := h.get hst; simpa [SVR, SWR, S, rU] using this⟩
theorem rBound {k : IntKind} {i : Int} {y : Nat} {code : BoundsCode} (h0 : 0 ≤ i) (h1 : i ≤ y) : (Instr.sliceBound (.int k i) y code).run P w = .ok i.toNat w := by
  simp [Instr.sliceBound, asIntOf, h0, h1]
theorem rBounds (hst : StE Bs st e β F a w) {isSl : Bool} {len cap : Nat} {lo hi mx : Option Operand} {l h m : Int} (hl : OptN st lo 0 l) (hh : OptN st hi len h) (hm : OptN st mx cap m) (hmh : mx ≠ none → hi ≠ none) (h0 : 0 ≤ l) (h1 : l ≤ h) (h2 : h ≤ m) (h3 : m ≤ cap) (hlc : len ≤ cap) :
    (Instr.sliceBounds isSl len cap (lo.map a.eval) (hi.map a.eval) (mx.map a.eval)).run P w = .ok (l.toNat, h.toNat, m.toNat) w := by
  unfold Instr.sliceBounds
  rcases hl.get hst with ⟨rfl, rfl⟩ | ⟨xl, kl, rfl, hxl⟩ <;> rcases hh.get hst with ⟨rfl, rfl⟩ | ⟨xh, kh, rfl, hxh⟩ <;> rcases hm.get hst with ⟨rfl, rfl⟩ | ⟨xm, km, rfl, hxm⟩ <;>
    simp_all [rBound, Result.andThen] <;> (try (rw [rBound (by omega) (by omega)])) <;> (try simp [rBound, Result.andThen, *]) <;> (try (rw [rBound (by omega) (by omega)])) <;> (try simp [rBound, Result.andThen, *]) <;> (try (rw [rBound (by omega) (by omega)]))
theorem op_sliceL {T : Type} {r : Rep T} {xs ys : List T} {lo hi mx : Option Operand} {l h m : Int} (hd : d < Bs.N) (hu : P.underlying t = some (.slice el)) (hs : tySz P el r.sz = true) (hx : HasO st x (.one (.val (S (rL r) xs))))
    (hl : OptN st lo 0 l) (hh : OptN st hi xs.length h) (hm : mx = none ∨ (OptN st mx xs.length m ∧ hi ≠ none ∧ h ≤ m ∧ m ≤ xs.length)) (h0 : 0 ≤ l) (h1 : l ≤ h) (h2 : h ≤ xs.length) (hr : (xs.drop l.toNat).take (h.toNat - l.toNat) = ys) :
    OpStep P Bs ⟨some d, .slice t x lo hi mx, ty, pos, af, g⟩ st (st.set d (.one (.val (S (rL r) ys)))) :=
  .value hd fun e β F a w hst => by
    obtain ⟨v, hv0, aa, c, hv, hc, hn, hmm⟩ := hx.get hst
    have hv0 : a.eval x = v := by simpa using hv0
    obtain ⟨m', hm', hmc⟩ : ∃ m' : Int, OptN st mx c m' ∧ (mx ≠ none → hi ≠ none) ∧ h ≤ m' ∧ m' ≤ c := by
      rcases hm with rfl | ⟨hm1, hm2, hm3, hm4⟩
      · exact ⟨c, rfl, fun h => absurd rfl h, by omega, Int.le_refl _⟩
      · cases mx with
        | none => exact ⟨c, rfl, fun h => absurd rfl h, by omega, Int.le_refl _⟩
        | some xm => exact ⟨m, hm1, fun _ => hm2, hm3, by omega⟩
    have hb := rBounds (P := P) hst (isSl := true) hl hh hm' hmc.1 h0 h1 hmc.2.1 hmc.2.2 hc
    have hylen : ys.length = h.toNat - l.toNat := by subst hr; simp; omega
    have hget : ∀ i (hi : i < ys.length), ys[i] = xs[l.toNat + i]'(by omega) := fun i hi => by subst hr; simp
    refine ⟨.slice (if m'.toNat = l.toNat then aa else aa.map (·.add (l.toNat * r.sz))) (h.toNat - l.toNat) (m'.toNat - l.toNat), ?_, _, rfl, (if m'.toNat = l.toNat then aa else aa.map (·.add (l.toNat * r.sz))), m'.toNat - l.toNat, by rw [hylen], by omega, fun hnone => ?_, fun hpos => ?_⟩
    · simp only [execOp, hv0, hv, Instr.sliceAt, Instr.slice, Sem.run_bind, run_underlying hu, Result.andThen, hb, rSize hs, Sem.run_pure]
    · split at hnone
      · omega
      · cases aa with
        | none => have := hn rfl; omega
        | some ad => simp at hnone
    · obtain ⟨b, off, haa, hcell⟩ := hmm (by omega)
      subst haa
      have hml : ¬ (m'.toNat = l.toNat) := by omega
      refine ⟨b, off + l.toNat * r.sz, by rw [if_neg hml]; simp [add_none], fun i hi => ?_⟩
      obtain ⟨cs, h5, h6⟩ := hcell (l.toNat + i) (by omega)
      refine ⟨cs, by rw [hget i hi]; exact h5, ?_⟩
      rw [Nat.add_mul] at h6
      rwa [Nat.add_assoc]
theorem op_sliceS {s ys : List UInt8} {lo hi : Option Operand} {l h : Int} (hd : d < Bs.N) (hu : P.underlying t = some .string) (hx : HasO st x (.one (.val (S rS s))))
    (hl : OptN st lo 0 l) (hh : OptN st hi s.length h) (h0 : 0 ≤ l) (h1 : l ≤ h) (h2 : h ≤ s.length) (hr : (s.drop l.toNat).take (h.toNat - l.toNat) = ys) :
    OpStep P Bs ⟨some d, .slice t x lo hi none, ty, pos, af, g⟩ st (st.set d (.one (.val (S rS ys)))) :=
  .value hd fun e β F a w hst => by
    have hv : a.eval x = .string (bs s) := by have := hx.get hst; simpa [SVR, SWR, S, rS] using this
    have hb := rBounds (P := P) hst (isSl := false) (mx := none) (m := s.length) hl hh rfl (fun h => absurd rfl h) h0 h1 h2 (Int.le_refl _) (Nat.le_refl _)
    simp only [Option.map_none] at hb
    refine ⟨.string (bs ys), ?_, rfl⟩
    have hex : (bs s).extract l.toNat h.toNat = bs ys := by
      subst hr
      apply ByteArray.ext
      simp [bs, ByteArray.data_extract, List.drop_take]
    simp only [execOp, hv, Instr.sliceAt, Instr.slice, Sem.run_bind, run_underlying hu, Result.andThen, Option.map_none, bs_size, hb, Option.isSome_none, Bool.false_eq_true, if_false, Sem.run_pure, hex]

/-! ### append -/
def refs (j : Nat) : SW → Bool
  | .ptr i _ => i == j
  | .own i => i == j
  | _ => false
def refs1 (j : Nat) : SV1 → Bool
  | .one s => refs j s
  | .tup l => l.any (refs j)
/-- What is told of a box is forgotten. -/
def clr (j : Nat) (ρ : List (Nat × SV1)) : List (Nat × SV1) := ρ.map fun p => (p.1, if refs1 j p.2 then .one .any else p.2)
theorem look_clr {j : Nat} {ρ : List (Nat × SV1)} {t : Nat} {sv : SV1} (h : look (clr j ρ) t = some sv) : sv = .one .any ∨ (look ρ t = some sv ∧ refs1 j sv = false) := by
  induction ρ with
  | nil => cases h
  | cons p ρ ih =>
    obtain ⟨s, v⟩ := p
    simp only [clr, List.map_cons, look] at h ⊢
    cases hb : Nat.beq s t
    · rw [hb] at h; exact ih h
    · rw [hb] at h
      simp only [cond_true, Option.some.injEq] at h
      cases hr : refs1 j v
      · rw [hr] at h
        simp only [Bool.false_eq_true, if_false] at h
        subst h
        exact .inr ⟨rfl, hr⟩
      · rw [hr] at h
        simp only [if_true] at h
        exact .inl h.symm

def tyB (P : Program) (t : TypeId) (sz bytes : Nat) (z : Value) : Prop := ∃ i, P.info? t = some i ∧ i.size = sz ∧ i.bytes = bytes ∧ i.zero = some z

/-- A box's block may turn, and lie elsewhere: what is told of the box is told anew. -/
theorem StE.move (h : StE Bs st e β F a w) {e' : Env} {w' : World} {j : Nat} {bx' : BX} {ob ob' : Option Nat} (hj : β[j]? = some ob) (he : e.le e')
    (hos : w'.os = w.os ∧ w'.tape = w.tape ∧ w'.output = w.output) (hsize : w.heap.size ≤ w'.heap.size) (hold : ∀ b, b < w.heap.size → ob ≠ some b → w'.heap[b]? = w.heap[b]?)
    (hf : ∀ ad v, e'.mu ad = some v → w'.cell? ad = some v) (hnew : ∀ ad v, e'.mu ad = some v → e.mu ad = some v ∨ (ob' = some ad.block ∧ (w.heap.size ≤ ad.block ∨ ob = ob')))
    (hbx : BoxR e' w' bx' ob') (hob : ∀ b, ob' = some b → ob = some b ∨ w.heap.size ≤ b) (hsz : ∀ b, ob' = some b → b < w'.heap.size) :
    StE Bs { st with X := st.X.set j bx', ρ := clr j st.ρ } e' (β.set j ob') F a w' := by
  have hjb : j < β.length := (List.getElem?_eq_some_iff.1 hj).1
  have hjl : j < st.X.length := by rw [← h.bl]; exact hjb
  have hoj : ∀ b, ob = some b → ¬ F b ∧ b < w.heap.size := fun b hb => h.bf j b (by rw [hj, hb])
  have hF : ∀ b, F b → w'.heap[b]? = w.heap[b]? := fun b hb => hold b (h.fsz b hb) fun e => (hoj b e).1 hb
  have hβ : ∀ i, i ≠ j → (β.set j ob')[i]? = β[i]? := fun i hi => List.getElem?_set_ne (Ne.symm hi)
  have hβj : (β.set j ob')[j]? = some ob' := List.getElem?_set_self hjb
  have hdiff : ∀ i b, i ≠ j → β[i]? = some (some b) → ob ≠ some b ∧ ob' ≠ some b := fun i b hi hb =>
    ⟨fun e => hi (h.bd i j b hb (by rw [hj, e])), fun e => (hob b e).elim (fun e => hi (h.bd i j b hb (by rw [hj, e]))) fun hlt => by have := (h.bf i b hb).2; omega⟩
  refine ⟨h.nt, h.df, hf, fun ad v hm hFa => ?_, M.stable h.hr he hF, fun b hb => Nat.lt_of_lt_of_le (h.fsz b hb) hsize, by simp [h.bl], fun i bx o h1 h2 => ?_, fun i b hi => ?_, fun i k b hi hk => ?_, fun t sv ht => ?_, ?_⟩
  · rcases hnew ad v hm with h1 | ⟨h1, h2⟩
    · exact h.mus ad v h1 hFa
    · rcases h2 with h2 | h2
      · have := h.fsz _ hFa; omega
      · exact (hoj _ (h2.trans h1)).1 hFa
  · by_cases hij : i = j
    · subst hij
      rw [hβj] at h2; cases h2
      rw [List.getElem?_set_self hjl] at h1; cases h1
      exact hbx
    · rw [hβ i hij] at h2
      rw [List.getElem?_set_ne (Ne.symm hij)] at h1
      have h0 := h.bx i bx o h1 h2
      have hne : ∀ b, o = some b → ob ≠ some b ∧ ob' ≠ some b := fun b hb => hdiff i b hij (by rw [h2, hb])
      have hkeep : ∀ b, o = some b → w'.heap[b]? = w.heap[b]? := fun b hb => hold b (h.bf i b (by rw [h2, hb])).2 (hne b hb).1
      have hmu : ∀ b ad v, o = some b → e'.mu ad = some v → ad.block = b → e.mu ad = some v := fun b ad v hb hm hab => by
        rcases hnew ad v hm with h1 | ⟨h1, _⟩
        · exact h1
        · exact absurd (hab ▸ h1) (hne b hb).2
      cases bx with
      | gone => exact h0
      | var T r x =>
        obtain ⟨b, cs, el, fr, hb, k1, k2, k3, k4⟩ := h0
        exact ⟨b, cs, el, fr, hb, (hkeep b hb).trans k1, k2, r.mono he k3, fun ad v hm hab => k4 ad v (hmu b ad v hb hm hab) hab⟩
      | own T r xs fz =>
        rcases h0 with h0 | ⟨b, cs, el, fr, hb, k1, k2, k3, k4, k5, k6, k7⟩
        · exact .inl h0
        · exact .inr ⟨b, cs, el, fr, hb, (hkeep b hb).trans k1, k2, k3, fun i hi => r.mono he (k4 i hi), fun ad v hm hab => k5 ad v (hmu b ad v hb hm hab) hab, k6, k7.mono he⟩
  · by_cases hij : i = j
    · subst hij
      rw [hβj] at hi
      injection hi with hi
      refine ⟨fun hFb => ?_, hsz b hi⟩
      rcases hob b hi with h1 | h1
      · exact (hoj b h1).1 hFb
      · have := h.fsz _ hFb; omega
    · rw [hβ i hij] at hi
      exact ⟨(h.bf i b hi).1, Nat.lt_of_lt_of_le (h.bf i b hi).2 hsize⟩
  · by_cases hij : i = j <;> by_cases hkj : k = j
    · omega
    · subst hij
      rw [hβj] at hi; injection hi with hi
      rw [hβ k hkj] at hk
      exact absurd hi (hdiff k b hkj hk).2
    · subst hkj
      rw [hβj] at hk; injection hk with hk
      rw [hβ i hij] at hi
      exact absurd hk (hdiff i b hij hi).2
    · rw [hβ i hij] at hi
      rw [hβ k hkj] at hk
      exact h.bd i k b hi hk
  · rcases look_clr ht with rfl | ⟨ht, hr⟩
    · trivial
    · have key : ∀ s v, refs j s = false → SWR e β st.X w s v → SWR e' (β.set j ob') (st.X.set j bx') w' s v := fun s v hr hs => by
        cases s with
        | any => trivial
        | und => exact hs
        | val p => exact p.mono he hs
        | fn f => exact hs
        | ptr i off =>
          simp only [refs, beq_eq_false_iff_ne, ne_eq] at hr
          obtain ⟨b, hb, hv⟩ := hs
          exact ⟨b, by rw [hβ i hr]; exact hb, hv⟩
        | own i =>
          simp only [refs, beq_eq_false_iff_ne, ne_eq] at hr
          obtain ⟨T, r, xs, fz, k1, k2⟩ := hs
          refine ⟨T, r, xs, fz, by rw [List.getElem?_set_ne (Ne.symm hr)]; exact k1, ?_⟩
          rcases k2 with k2 | ⟨b, c, cs, el, fr, k2, k3, k4, k5, k6⟩
          · exact .inl ⟨by rw [hβ i hr]; exact k2.1, k2.2⟩
          · exact .inr ⟨b, c, cs, el, fr, by rw [hβ i hr]; exact k2, k3, k4, (hold b (h.bf i b k2).2 (hdiff i b hr k2).1).trans k5, k6⟩
      have h0 := h.sl t sv ht
      cases sv with
      | one s => exact key s _ hr h0
      | tup l =>
        obtain ⟨vs, k1, k2, k3⟩ := h0
        refine ⟨vs, k1, k2, fun i s hs => key s _ ?_ (k3 i s hs)⟩
        simp only [refs1, List.any_eq_false] at hr
        exact Bool.not_eq_true _ ▸ hr s (List.mem_of_getElem? hs)
  · refine ⟨h.base.le.trans he, hos.1.trans h.base.os, hos.2.1.trans h.base.tape, hos.2.2.trans h.base.output, Nat.le_trans h.base.size hsize, fun b hb hFb => ?_, h.base.foot, fun ad v hm => ?_, fun i b hi => ?_, h.base.e0lt⟩
    · exact (hold b (Nat.lt_of_lt_of_le hb h.base.size) fun e => by have := h.base.fresh j b (by rw [hj, e]); omega).trans (h.base.old b hb hFb)
    · rcases hnew ad v hm with h1 | ⟨h1, h2⟩
      · exact h.base.mu ad v h1
      · rcases h2 with h2 | h2
        · exact .inr (Nat.le_trans h.base.size h2)
        · exact .inr (h.base.fresh j ad.block (by rw [hj, h2, h1]))
    · by_cases hij : i = j
      · subst hij
        rw [hβj] at hi; injection hi with hi
        rcases hob b hi with h1 | h1
        · exact h.base.fresh i b (by rw [hj, h1])
        · exact Nat.le_trans h.base.size h1
      · rw [hβ i hij] at hi
        exact h.base.fresh i b hi

/-- What is appended: its elements' cells. -/
structure Src (P : Program) (e : Env) (a : Act) (w : World) {T : Type} (r : Rep T) (ys : List T) (y : Operand) (fl : List Value) : Prop where
  len : fl.length = ys.length * r.sz
  one : ∀ v ∈ fl, one1 v = true
  rel : ∀ i (h : i < ys.length), r.rel e ys[i] ((fl.drop (i * r.sz)).take r.sz)
  lenOf : ∀ w, (Builtin.lenOf (a.eval y)).run P w = .ok ys.length w
  cells : ∀ w', (∀ ad v, e.mu ad = some v → w'.cell? ad = some v) → (Builtin.firstCells r.sz ys.length (a.eval y)).run P w' = .ok fl.toArray w'
theorem flat_one {T : Type} {r : Rep T} {e : Env} {xs : List T} {fl : List Value} (hl : fl.length = xs.length * r.sz) (hr : ∀ i (h : i < xs.length), r.rel e xs[i] ((fl.drop (i * r.sz)).take r.sz)) : ∀ v ∈ fl, one1 v = true := fun v hv => by
  obtain ⟨k, hk, rfl⟩ := List.mem_iff_getElem.1 hv
  have hs : 0 < r.sz := by
    rcases Nat.eq_zero_or_pos r.sz with h | h
    · rw [h] at hl; simp at hl; subst hl; simp at hk
    · exact h
  have hi : k / r.sz < xs.length := (Nat.div_lt_iff_lt_mul hs).2 (by omega)
  have h1 := r.one (hr _ hi)
  apply h1
  apply List.mem_of_getElem? (i := k % r.sz)
  rw [List.getElem?_take_of_lt (Nat.mod_lt _ hs), List.getElem?_drop, Nat.mul_comm, Nat.div_add_mod, List.getElem?_eq_getElem hk]
theorem Src.list {T : Type} {r : Rep T} {ys : List T} (hst : StE Bs st e β F a w) (hy : HasO st y (.one (.val (S (rL r) ys)))) : ∃ fl, Src P e a w r ys y fl := by
  obtain ⟨v, hv0, hL⟩ := hy.get hst
  have hv0 : a.eval y = v := by simpa using hv0
  obtain ⟨aa, c, fl, hv, hc, hn, hl, hr, hm⟩ := hL.flat
  refine ⟨fl, hl, flat_one hl hr, hr, fun w => by simp [hv0, hv, Builtin.lenOf], fun w' hfr => ?_⟩
  rw [hv0, hv]
  rcases Nat.eq_zero_or_pos ys.length with h0 | h0
  · have : fl = [] := List.eq_nil_of_length_eq_zero (by rw [hl, h0]; simp)
    subst this
    rw [h0]
    cases aa with
    | none => simp [Builtin.firstCells]
    | some ad => simp [Builtin.firstCells, loadCells, loadCellsFrom]
  · obtain ⟨b, off, haa, hm'⟩ := hm h0
    subst haa
    simp only [Builtin.firstCells]
    exact rloadCells P hl fun j u hj => by rw [add_none]; exact hfr _ _ (hm' j u hj)
theorem Src.str {ys : List UInt8} (hst : StE Bs st e β F a w) (hy : HasO st y (.one (.val (S rS ys)))) : ∃ fl, Src P e a w (rU UInt8) ys y fl := by
  have hv : a.eval y = .string (bs ys) := by have := hy.get hst; simpa [SVR, SWR, S, rS] using this
  have hrel : ∀ i (h : i < ys.length), (rU UInt8).rel e ys[i] (((ys.map fun b => Value.int .u8 (b.toNat : Int)).drop (i * (rU UInt8).sz)).take (rU UInt8).sz) := fun i hi => by
    show _ = _
    apply List.ext_getElem?
    intro k
    simp only [rU, Nat.mul_one]
    by_cases hk : k < 1
    · have : k = 0 := by omega
      subst this
      rw [List.getElem?_take_of_lt (by omega), List.getElem?_drop]
      simp [List.getElem?_eq_getElem hi, UN.toN, UK.k]
    · rw [List.getElem?_eq_none (by simp; omega), List.getElem?_eq_none (by simp; omega)]
  refine ⟨ys.map fun b => .int .u8 b.toNat, by simp [rU], fun v hv => ?_, hrel, fun w => by simp [hv, Builtin.lenOf, bs_size], fun w' _ => ?_⟩
  · obtain ⟨b, _, rfl⟩ := List.mem_map.1 hv; rfl
  · have : ((bs ys).extract 0 ys.length) = bs ys := by apply ByteArray.ext; simp [bs, ByteArray.data_extract]
    simp [hv, Builtin.firstCells, this, bs]

theorem lay_end {cs : List Value} {off : Nat} {vs : List Value} (h : off = cs.length) : lay cs off vs = cs ++ vs := by subst h; simp [lay]
theorem rel_append {T : Type} {r : Rep T} {e : Env} {xs ys : List T} {cs fl tl : List Value} (hx : ∀ i (h : i < xs.length), r.rel e xs[i] ((cs.drop (i * r.sz)).take r.sz)) (hy : ∀ i (h : i < ys.length), r.rel e ys[i] ((fl.drop (i * r.sz)).take r.sz))
    {cs' : List Value} (h1 : ∀ k, k < xs.length * r.sz → cs'[k]? = cs[k]?) (h2 : ∀ k, k < ys.length * r.sz → cs'[xs.length * r.sz + k]? = fl[k]?) :
    ∀ i (h : i < (xs ++ ys).length), r.rel e (xs ++ ys)[i] ((cs'.drop (i * r.sz)).take r.sz) := fun i hi => by
  have hmul : ∀ {p q : Nat}, p < q → p * r.sz + r.sz ≤ q * r.sz := fun {p q} hpq => by
    have := Nat.mul_le_mul_right r.sz (show p + 1 ≤ q by omega)
    rw [Nat.add_mul] at this; omega
  by_cases hlt : i < xs.length
  · rw [List.getElem_append_left hlt]
    have : (cs'.drop (i * r.sz)).take r.sz = (cs.drop (i * r.sz)).take r.sz := by
      apply List.ext_getElem?
      intro k
      by_cases hk : k < r.sz
      · rw [List.getElem?_take_of_lt hk, List.getElem?_take_of_lt hk, List.getElem?_drop, List.getElem?_drop]
        exact h1 _ (by have := hmul hlt; omega)
      · rw [List.getElem?_eq_none (by simp; omega), List.getElem?_eq_none (by simp; omega)]
    rw [this]
    exact hx i hlt
  · have hi2 : i - xs.length < ys.length := by simp at hi; omega
    rw [List.getElem_append_right (by omega)]
    have : (cs'.drop (i * r.sz)).take r.sz = (fl.drop ((i - xs.length) * r.sz)).take r.sz := by
      apply List.ext_getElem?
      intro k
      by_cases hk : k < r.sz
      · rw [List.getElem?_take_of_lt hk, List.getElem?_take_of_lt hk, List.getElem?_drop, List.getElem?_drop]
        have e1 : i * r.sz + k = xs.length * r.sz + ((i - xs.length) * r.sz + k) := by
          rw [← Nat.add_assoc, ← Nat.add_mul]; congr 2; omega
        rw [e1]
        exact h2 _ (by have := hmul hi2; omega)
      · rw [List.getElem?_eq_none (by simp; omega), List.getElem?_eq_none (by simp; omega)]
    rw [this]
    exact hy _ hi2

def notInt : TypeDesc → Bool
  | .slice _ => true
  | .string => true
  | _ => false
theorem run_append_none {dy : TypeDesc} {sz n cap : Nat} {xv : Value} (hu : P.underlying t = some (.slice el)) (hu' : P.underlying t' = some dy) (hni : notInt dy = true) (hsize : (sizeOf el).run P w = .ok sz w) (hl : (Builtin.lenOf xv).run P w = .ok n w) (hroom : 0 + n ≤ cap)
    {new : Array Value} (hf : (Builtin.firstCells sz n xv).run P w = .ok new w) : (Builtin.append_ #[t, t'] ty #[.slice none 0 cap, xv]).run P w = .ok (.slice none (0 + n) cap) w := by
  cases dy <;> first | (simp [notInt] at hni; done) | (simp at hroom; simp [Builtin.append_, run_underlying hu, run_underlying hu', hsize, hl, hroom, hf])
set_option maxHeartbeats 800000 in
theorem run_append_room {dy : TypeDesc} {sz sl n cap : Nat} {xv : Value} {ad : Addr} {w' : World} (hu : P.underlying t = some (.slice el)) (hu' : P.underlying t' = some dy) (hni : notInt dy = true) (hsize : (sizeOf el).run P w = .ok sz w) (hl : (Builtin.lenOf xv).run P w = .ok n w) (hroom : sl + n ≤ cap)
    {new : Array Value} (hf : (Builtin.firstCells sz n xv).run P w = .ok new w) (hs : (storeCells (ad.add (sl * sz)) new.toList).run P w = .ok () w') : (Builtin.append_ #[t, t'] ty #[.slice (some ad) sl cap, xv]).run P w = .ok (.slice (some ad) (sl + n) cap) w' := by
  cases dy <;> first | (simp [notInt] at hni; done) | simp [Builtin.append_, run_underlying hu, run_underlying hu', hsize, hl, hroom, hf, hs]
set_option maxHeartbeats 800000 in
theorem run_append_grow {dy : TypeDesc} {i : TypeInfo} {sl n cap nc : Nat} {base : Option Addr} {xv zv : Value} (hu : P.underlying t = some (.slice el)) (hu' : P.underlying t' = some dy) (hni : notInt dy = true) (hi : P.info? el = some i) (hz : i.zero = some zv) (hb0 : 0 < i.bytes) (hl : ∀ w, (Builtin.lenOf xv).run P w = .ok n w) (hroom : ¬ (sl + n ≤ cap))
    (hgrow : Builtin.nextslicecap (sl + n) cap * i.bytes ≤ 281474976710656) (hnc : (Question.appendCap (sl + n) cap el).cut (w.tape w.drawn (Question.appendCap (sl + n) cap el)) = nc)
    {old new : Array Value} (ho : (Builtin.firstCells i.size sl (.slice base sl cap)).run P w.drew = .ok old w.drew) (hf : (Builtin.firstCells i.size n xv).run P w.drew = .ok new w.drew) :
    (Builtin.append_ #[t, t'] ty #[.slice base sl cap, xv]).run P w =
      .ok (.slice (some ⟨w.heap.size, 0, none⟩) (sl + n) nc) (w.drew.alloc (.cells (old ++ new ++ Builtin.zeroCells zv.cells (nc - (sl + n))) el (0, 0))) := by
  have hsize : ∀ w, (sizeOf el).run P w = .ok i.size w := fun w => by simp [sizeOf, typeInfo, program, Sem.run, hi]
  have hinfo : ∀ w, (typeInfo el).run P w = .ok i w := fun w => by simp [typeInfo, program, Sem.run, hi]
  have hzz : ∀ w, (zeroValue el).run P w = .ok zv w := fun w => by simp [zeroValue, typeInfo, program, Sem.run, hi, hz]
  have hask : ∀ n w, (askRoom n).run P w = .ok () w := fun n w => by unfold askRoom; split <;> simp [mark, Sem.run]
  have hb00 : ¬ i.bytes = 0 := by omega
  have h48 : ¬ (281474976710656 < Builtin.nextslicecap (sl + n) cap * i.bytes) := by omega
  have hq : (Question.appendCap (sl + n) cap el).forced = false := rfl
  cases dy <;> first | (simp [notInt] at hni; done) | simp [Builtin.append_, run_underlying hu, run_underlying hu', hsize, hinfo, hl, hroom, hb00, h48, hq, hnc, hask, ho, hf, hzz, newRow, newObj, Sem.run]
set_option maxHeartbeats 800000 in
theorem append_run {T : Type} {r : Rep T} {xs ys : List T} {fz j bytes : Nat} {zv : Value} {dy : TypeDesc} (hu : P.underlying t = some (.slice el)) (hu' : P.underlying t' = some dy) (hni : notInt dy = true) (hel : tyB P el r.sz bytes zv) (hz : zv.cells.size = r.sz) (hsz : 0 < r.sz) (hb0 : 0 < bytes)
    (hX : st.X[j]? = some (.own T r xs fz)) (hst : StE Bs st e β F a w) (hown : SWR e β st.X w (.own j) (a.eval x)) (hsrc : ∃ fl, Src P e a w r ys y fl) (hb : (xs.length + ys.length) * bytes ≤ 140737488355328) :
    ∃ v w' e' β' F', (execOp a.eval ⟨some d, .call { callee := .builtin .append, args := #[x, y], argTypes := #[t, t'] }, ty, pos, af, g⟩).run P w = .ok (.value v) w' ∧
      StE Bs { st with X := st.X.set j (.own T r (xs ++ ys) fz), ρ := clr j st.ρ } e' β' F' a w' ∧ SVR e' β' (st.X.set j (.own T r (xs ++ ys) fz)) w' (.one (.own j)) v := by
    obtain ⟨fl, hs⟩ := hsrc
    obtain ⟨i, hi, hi1, hi2, hi3⟩ := hel
    have hsize : ∀ w, (sizeOf el).run P w = .ok r.sz w := fun w => by simp [sizeOf, typeInfo, program, Sem.run, hi, hi1]
    have hinfo : ∀ w, (typeInfo el).run P w = .ok i w := fun w => by simp [typeInfo, program, Sem.run, hi]
    have hjl : j < st.X.length := (List.getElem?_eq_some_iff.1 hX).1
    obtain ⟨ob, hj⟩ : ∃ ob, β[j]? = some ob := ⟨β[j]'(by rw [hst.bl]; exact hjl), List.getElem?_eq_getElem _⟩
    have hXnew : ({ st with X := st.X.set j (.own T r (xs ++ ys) fz), ρ := clr j st.ρ } : St M).X[j]? = some (.own T r (xs ++ ys) fz) := List.getElem?_set_self hjl
    -- the slice and its cells
    obtain ⟨base, cap, cs, hv, hcap, hcl, hload⟩ : ∃ (base : Option Addr) (cap : Nat) (cs : List Value), a.eval x = .slice base xs.length cap ∧ xs.length ≤ cap ∧
        ((base = none ∧ cap = 0 ∧ ob = none ∧ cs = [] ∧ xs = [] ∧ fz = 0) ∨ ∃ b el' fr, base = some ⟨b, 0, none⟩ ∧ ob = some b ∧ w.heap[b]? = some (.cells cs.toArray el' fr) ∧ Thawed cs.length fr ∧ xs.length * r.sz ≤ cs.length ∧ cap * r.sz ≤ cs.length ∧
          (∀ i (h : i < xs.length), r.rel e xs[i] ((cs.drop (i * r.sz)).take r.sz)) ∧ (∀ ad v, e.mu ad = some v → ad.block = b → ad.off < fz * r.sz) ∧ fz ≤ xs.length ∧ Mu e b 0 (cs.take (fz * r.sz))) ∧
        (∀ w', (∀ b o, w.heap[b]? = some o → w'.heap[b]? = some o) → (Builtin.firstCells r.sz xs.length (a.eval x)).run P w' = .ok (cs.take (xs.length * r.sz)).toArray w') := by
      obtain ⟨T', r', xs', fz', h1, h2⟩ := hown
      rw [hX] at h1
      cases h1
      rcases h2 with ⟨h2, h3⟩ | ⟨b, c, cs, el', fr, h2, h3, h4, h5, h6⟩
      · rw [hj] at h2; cases h2
        rcases hst.bx j _ _ hX hj with ⟨_, h5, h6⟩ | ⟨_, _, _, _, h4, _⟩
        · subst h5
          exact ⟨none, 0, [], h3, by simp, .inl ⟨rfl, rfl, rfl, rfl, rfl, h6⟩, fun w' _ => by simp [h3, Builtin.firstCells]⟩
        · cases h4
      · rw [hj] at h2; cases h2
        rcases hst.bx j _ _ hX hj with ⟨h7, _⟩ | ⟨b', cs', el'', fr', h7, k1, k2, k3, k4, k5, k6, k7⟩
        · cases h7
        · cases h7
          rw [h5] at k1
          injection k1 with k1
          injection k1 with k1 k1' k1''
          have k1 : cs = cs' := by simpa using k1
          subst k1
          subst k1''
          refine ⟨_, c, cs, h3, h4, .inr ⟨b, el', fr, rfl, rfl, h5, k2, k3, h6, k4, k5, k6, k7⟩, fun w' hw' => ?_⟩
          rw [h3]
          simp only [Builtin.firstCells]
          exact rloadCells P (n := xs.length * r.sz) (by simp; omega) (part_at (n := xs.length * r.sz) (hw' b _ h5) (by simp))
    have hneed : xs.length + ys.length ≤ (xs.length + ys.length) * bytes := Nat.le_mul_of_pos_right _ hb0
    by_cases hroom : xs.length + ys.length ≤ cap
    · -- there is room
      rcases hcl with ⟨h1, h2, h3, h4, h5, h6⟩ | ⟨b, el', fr, h1, h2, h3, h4, h5, h6, h7, h8, h9, h10⟩
      · -- nil
        subst h5
        have hys : ys = [] := List.eq_nil_of_length_eq_zero (by simp at hroom; omega)
        subst hys
        have hfl : fl = [] := List.eq_nil_of_length_eq_zero (by rw [hs.len]; simp)
        subst hfl
        refine ⟨.slice none 0 0, w, e, β, F, ?_, ?_, ?_⟩
        · rw [h1, h2] at hv
          have hrun := run_append_none (P := P) (t := t) (t' := t') (ty := ty) (w := w) hu hu' hni (hsize w) (hs.lenOf w) (show 0 + ([] : List T).length ≤ 0 by simp) (hs.cells w hst.frz)
          simp only [execOp, resolve, invoke, builtin, List.map_toArray, List.map_cons, List.map_nil, hv, Sem.run_bind, Sem.run_bind', Sem.run_pure, Result.andThen]
          simp only [List.length_nil] at hrun ⊢
          rw [hrun]
        · have := hst.move (e' := e) (w' := w) (bx' := .own T r ([] ++ []) fz) (ob' := ob) hj (Env.le.refl e) ⟨rfl, rfl, rfl⟩ (Nat.le_refl _) (fun _ _ _ => rfl) hst.frz (fun ad v hm => .inl hm) (hst.bx j _ _ hX hj) (fun b hb => .inl hb) (fun b hb => (hst.bf j b (by rw [hj, hb])).2)
          have hset : β.set j ob = β := by
            apply List.ext_getElem?
            intro k
            by_cases hk : k = j
            · subst hk; rw [List.getElem?_set_self (List.getElem?_eq_some_iff.1 hj).1, hj]
            · rw [List.getElem?_set_ne (Ne.symm hk)]
          rwa [hset] at this
        · exact ⟨T, r, [] ++ [], fz, hXnew, .inl ⟨by rw [hj, h3], rfl⟩⟩
      · subst h1; subst h2
        have hfl := hs.len
        have hmul : (xs.length + ys.length) * r.sz ≤ cs.length := Nat.le_trans (Nat.mul_le_mul_right _ hroom) h6
        rw [Nat.add_mul] at hmul
        have hlay : (lay cs (xs.length * r.sz) fl).length = cs.length := lay_length (by omega)
        have hlt := lt_of_block h3
        refine ⟨.slice (some ⟨b, 0, none⟩) (xs.length + ys.length) cap, setB w b (lay cs (xs.length * r.sz) fl) el' fr, e, β, F, ?_, ?_, ?_⟩
        · have hst2 := rstoreCells P fl w b (xs.length * r.sz) 0 cs el' fr hs.one h3 (by omega) h4
          simp only [Nat.add_zero] at hst2
          have hrun := run_append_room (P := P) (t := t) (t' := t') (ty := ty) (w := w) hu hu' hni (hsize w) (hs.lenOf w) hroom (hs.cells w hst.frz) (ad := ⟨b, 0, none⟩) (by rw [add_none, Nat.zero_add]; simpa using hst2)
          simp only [execOp, resolve, invoke, builtin, List.map_toArray, List.map_cons, List.map_nil, hv, Sem.run_bind, Sem.run_bind', Sem.run_pure, Result.andThen, hrun]
        · have hfzle : fz * r.sz ≤ xs.length * r.sz := Nat.mul_le_mul_right _ h9
          have hkeep : ∀ k, k < xs.length * r.sz → (lay cs (xs.length * r.sz) fl)[k]? = cs[k]? := fun k hk => lay_get_lt hk (by omega)
          have hset : β.set j (some b) = β := by
            apply List.ext_getElem?
            intro k
            by_cases hk : k = j
            · subst hk; rw [List.getElem?_set_self (List.getElem?_eq_some_iff.1 hj).1, hj]
            · rw [List.getElem?_set_ne (Ne.symm hk)]
          have := hst.move (e' := e) (w' := setB w b (lay cs (xs.length * r.sz) fl) el' fr) (bx' := .own T r (xs ++ ys) fz) (ob' := some b) hj (Env.le.refl e) ⟨rfl, rfl, rfl⟩ (by rw [setB_size]; exact Nat.le_refl _)
            (fun c _ hc => setB_ne fun e => hc (by rw [e])) (fun ad v hm => by
              by_cases hab : ad.block = b
              · obtain ⟨ab, off, sp⟩ := ad
                simp only at hab
                subst hab
                have hsp := muspot hst hm
                simp only at hsp
                subst hsp
                have h0 := hst.frz _ v hm
                rw [cell_of h3] at h0
                have hoff := h8 _ v hm rfl
                simp only at hoff
                rw [cell_of (setB_at hlt), hkeep off (by omega), h0]
              · rw [World.cell?_of_block (setB_ne hab)]; exact hst.frz ad v hm) (fun ad v hm => .inl hm)
            (.inr ⟨b, lay cs (xs.length * r.sz) fl, el', fr, rfl, setB_at hlt, by rw [hlay]; exact h4, by rw [hlay, List.length_append, Nat.add_mul]; omega,
              rel_append (tl := []) h7 hs.rel hkeep fun k hk => lay_get_mid (by omega) (by omega), h8, by simp; omega, fun k u hk => by
                have hkl : k < fz * r.sz := by
                  rcases Nat.lt_or_ge k (fz * r.sz) with h | h
                  · exact h
                  · rw [List.getElem?_eq_none (by simp; omega)] at hk; cases hk
                refine h10 k u ?_
                rw [List.getElem?_take_of_lt hkl] at hk ⊢
                rwa [hkeep k (by omega)] at hk⟩) (fun b' hb' => .inl hb') (fun b' hb' => by cases hb'; rw [setB_size]; exact hlt)
          rwa [hset] at this
        · exact ⟨T, r, xs ++ ys, fz, hXnew, .inr ⟨b, cap, lay cs (xs.length * r.sz) fl, el', fr, hj, by simp, by simp; omega, setB_at hlt, by rw [hlay]; exact h6⟩⟩
    · -- a new row
      have hgrow : Builtin.nextslicecap (xs.length + ys.length) cap * bytes ≤ 281474976710656 := growslice_fits (by omega) hb
      let q := Question.appendCap (xs.length + ys.length) cap el
      obtain ⟨nc, hnc, hnc2⟩ : ∃ nc, q.cut (w.tape w.drawn q) = nc ∧ xs.length + ys.length ≤ nc := ⟨_, rfl, by simp only [q, Question.cut]; omega⟩
      let cs1 := cs.take (xs.length * r.sz)
      let rest := (Builtin.zeroCells zv.cells (nc - (xs.length + ys.length))).toList
      let cells := cs1 ++ fl ++ rest
      have hrest : rest.length = (nc - (xs.length + ys.length)) * r.sz := by simp [rest, Builtin.zeroCells, hz]
      have hcs1 : cs1.length = xs.length * r.sz := by
        rcases hcl with ⟨_, _, _, h4, h5, _⟩ | ⟨b, el', fr, _, _, _, _, h5, _⟩
        · subst h4; subst h5; simp [cs1]
        · simp [cs1]; omega
      have hfl := hs.len
      have hcells : cells.length = nc * r.sz := by
        simp only [cells, List.length_append, hcs1, hfl, hrest, ← Nat.add_mul]
        congr 1; omega
      have hfz : fz ≤ xs.length := by
        rcases hcl with ⟨_, _, _, _, h5, h6⟩ | ⟨b, el', fr, _, _, _, _, _, _, _, _, h9, _⟩
        · subst h6; omega
        · exact h9
      have hrelx : ∀ i (h : i < xs.length), r.rel e xs[i] ((cs.drop (i * r.sz)).take r.sz) := by
        rcases hcl with ⟨_, _, _, _, h5, h6⟩ | ⟨b, el', fr, _, _, _, _, _, _, h7, _⟩
        · subst h5; intro i hi; simp at hi
        · exact h7
      let w1 : World := { w with drawn := w.drawn + 1 }
      let w2 : World := { w1 with heap := w1.heap.push (.cells cells.toArray el (0, 0)) }
      have hw2 : w2.heap[w.heap.size]? = some (.cells cells.toArray el (0, 0)) := by simp [w2, w1]
      have hold2 : ∀ b, b < w.heap.size → w2.heap[b]? = w.heap[b]? := fun b hb => by simp only [w2, w1, Array.getElem?_push]; rw [if_neg (by omega)]
      let e' := e.add w.heap.size 0 (cells.take (fz * r.sz))
      have hle : e.le e' := Env.add_le fun ad v hm hab => by have := mu_lt hst hm; omega
      have hfzle : fz * r.sz ≤ xs.length * r.sz := Nat.mul_le_mul_right _ hfz
      have hinv : ∀ ad v, e'.mu ad = some v → e.mu ad = some v ∨ (ad.block = w.heap.size ∧ ad.spot = none ∧ ad.off < fz * r.sz ∧ cells[ad.off]? = some v) := fun ad v hm => by
        rcases Env.add_inv hm with h | ⟨h1, h2, h3, h4, h5⟩
        · exact .inl h
        · have : ad.off < fz * r.sz := by simp at h4; omega
          rw [Nat.sub_zero, List.getElem?_take_of_lt this] at h5
          exact .inr ⟨h1, h2, this, h5⟩
      have hβset : (β.set j (some w.heap.size))[j]? = some (some w.heap.size) := List.getElem?_set_self (List.getElem?_eq_some_iff.1 hj).1
      refine ⟨.slice (some ⟨w.heap.size, 0, none⟩) (xs.length + ys.length) nc, w2, e', β.set j (some w.heap.size), F, ?_, ?_, ?_⟩
      · have e1 := hload w1 fun b o h => h
        have e2 := hs.cells w1 fun ad v hm => hst.frz ad v hm
        rw [hv] at e1
        rw [← hi1] at e1 e2
        have hrun := run_append_grow (P := P) (t := t) (t' := t') (ty := ty) (w := w) hu hu' hni hi hi3 (by omega) hs.lenOf hroom (by rw [hi2]; exact hgrow) hnc e1 e2
        have hcat : ((List.take (xs.length * i.size) cs).toArray ++ fl.toArray ++ Builtin.zeroCells zv.cells (nc - (xs.length + ys.length))) = cells.toArray := by
          apply Array.ext'
          simp [cells, cs1, rest, hi1]
        rw [hcat] at hrun
        simp only [execOp, resolve, invoke, builtin, List.map_toArray, List.map_cons, List.map_nil, hv, Sem.run_bind, Sem.run_bind', Sem.run_pure, Result.andThen, hrun]
        rfl
      · refine hst.move (ob' := some w.heap.size) hj hle ⟨rfl, rfl, rfl⟩ (by simp [w2, w1]) (fun b hb _ => hold2 b hb) (fun ad v hm => ?_) (fun ad v hm => ?_) (.inr ⟨w.heap.size, cells, el, (0, 0), rfl, hw2, thawed00 _, ?_, ?_, fun ad v hm hab => ?_, by simp; omega, ?_⟩)
          (fun b hb => .inr (by cases hb; exact Nat.le_refl _)) (fun b hb => by cases hb; simp [w2, w1])
        · rcases hinv ad v hm with h | ⟨h1, h2, h3, h4⟩
          · rw [World.cell?_of_block (hold2 _ (mu_lt hst h))]; exact hst.frz ad v h
          · obtain ⟨ab, off, sp⟩ := ad
            simp only at h1 h2 h3 h4
            subst h1; subst h2
            rw [cell_of hw2]; exact h4
        · rcases hinv ad v hm with h | ⟨h1, _⟩
          · exact .inl h
          · exact .inr ⟨by rw [h1], .inl (by omega)⟩
        · rw [hcells, List.length_append]; exact Nat.mul_le_mul_right _ hnc2
        · have hmono := fun i (h : i < xs.length) => r.mono hle (hrelx i h)
          refine rel_append (tl := []) hmono (fun i h => r.mono hle (hs.rel i h)) (fun k hk => ?_) fun k hk => ?_
          · simp only [cells]
            rw [List.append_assoc, List.getElem?_append_left (by omega)]
            simp only [cs1]
            rw [List.getElem?_take_of_lt hk]
          · simp only [cells]
            rw [List.append_assoc, List.getElem?_append_right (by omega), List.getElem?_append_left (by omega), hcs1]
            congr 1
            omega
        · rcases hinv ad v hm with h | ⟨_, _, h, _⟩
          · have := mu_lt hst h; omega
          · exact h
        · exact Env.add_mu
      · exact ⟨T, r, xs ++ ys, fz, hXnew, .inr ⟨w.heap.size, nc, cells, el, (0, 0), hβset, by simp, by simp; omega, hw2, by omega⟩⟩
/-- append onto a row of the call's own. -/
theorem op_append {T : Type} {r : Rep T} {xs ys zs : List T} {fz j bytes : Nat} {zv : Value} {dy : TypeDesc} (hd : d < Bs.N) (hu : P.underlying t = some (.slice el)) (hu' : P.underlying t' = some dy) (hni : notInt dy = true) (hel : tyB P el r.sz bytes zv) (hz : zv.cells.size = r.sz) (hsz : 0 < r.sz) (hb0 : 0 < bytes)
    (hX : st.X[j]? = some (.own T r xs fz)) (hx : HasO st x (.one (.own j))) (hsrc : ∀ e β F a w, StE Bs st e β F a w → ∃ fl, Src P e a w r ys y fl) (hb : (xs.length + ys.length) * bytes ≤ 140737488355328 ∧ xs ++ ys = zs) :
    OpStep P Bs ⟨some d, .call { callee := .builtin .append, args := #[x, y], argTypes := #[t, t'] }, ty, pos, af, g⟩ st (St.set { st with X := st.X.set j (.own T r zs fz), ρ := clr j st.ρ } d (.one (.own j))) := by
  obtain ⟨hb, rfl⟩ := hb
  exact .grows hd fun e β F a w hst => append_run hu hu' hni hel hz hsz hb0 hX hst (hx.get hst) (hsrc e β F a w hst) hb
/-- append onto nil. -/
theorem op_appendN {T : Type} {r : Rep T} {ys zs : List T} {bytes : Nat} {zv : Value} {dy : TypeDesc} (hd : d < Bs.N) (hu : P.underlying t = some (.slice el)) (hu' : P.underlying t' = some dy) (hni : notInt dy = true) (hel : tyB P el r.sz bytes zv) (hz : zv.cells.size = r.sz) (hsz : 0 < r.sz) (hb0 : 0 < bytes)
    (hsrc : ∀ e β F a w, StE Bs st e β F a w → ∃ fl, Src P e a w r ys y fl) (hb : (([] : List T).length + ys.length) * bytes ≤ 140737488355328 ∧ [] ++ ys = zs) :
    OpStep P Bs ⟨some d, .call { callee := .builtin .append, args := #[.const (.slice none 0 0), y], argTypes := #[t, t'] }, ty, pos, af, g⟩ st (St.set { st with X := List.set (st.X ++ [BX.own T r [] 0]) st.X.length (BX.own T r zs 0), ρ := clr st.X.length st.ρ } d (.one (.own st.X.length))) := by
  obtain ⟨hb, rfl⟩ := hb
  refine .grows (st' := { st with X := List.set (st.X ++ [BX.own T r [] 0]) st.X.length (BX.own T r ([] ++ ys) 0), ρ := clr st.X.length st.ρ }) hd fun e β F a w hst => ?_
  have h0 : BoxR e w (.own T r [] 0) none := .inl ⟨rfl, rfl, rfl⟩
  have hst' := hst.box (bx := .own T r [] 0) (ob := none) h0 (fun b hb => by cases hb)
  have hown : SWR e (β ++ [none]) (st.X ++ [BX.own T r [] 0]) w (.own st.X.length) (a.eval (.const (.slice none 0 0))) := ⟨T, r, [], 0, by simp, .inl ⟨(by rw [← hst.bl]; simp : (β ++ [none])[st.X.length]? = some none), rfl⟩⟩
  exact append_run (st := { st with X := st.X ++ [BX.own T r [] 0] }) (xs := []) (j := st.X.length) hu hu' hni hel hz hsz hb0 (by simp) hst' hown (hsrc e β F a w hst) hb
end
end Go.Proofs.Ytlkofkegbkkhbaa.Fw
