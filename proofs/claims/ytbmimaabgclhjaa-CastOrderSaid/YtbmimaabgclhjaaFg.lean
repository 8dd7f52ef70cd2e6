/- Slices, the second part: cutting, appending, making, texts and bytes. -/
import Derived.Test.YtbmimaabgclhjaaFf
namespace Go.Proofs.Ytbmimaabgclhjaa.Fw
open Go Go.RowKit
set_option linter.unusedVariables false
set_option linter.unusedSimpArgs false

section
variable {P : Program} {Bs : Base} {st st' : St} {d : Nat} {ty t t' el : TypeId} {pos : String} {af : Array Edge} {g : Option (Nat × Bool)} {x y z : Operand}
variable {e : Env} {a : Act} {w : World}

/-- A bound of a cut: what it is where none stands there. -/
def OptN (st : St) (o : Option Operand) (dflt n : Int) : Prop := match o with
  | none => n = dflt
  | some x => (∃ k, HasO st x (.one (.val (S (rI k) n)))) ∨ ∃ (U : Type) (_ : UK U) (u : U), HasO st x (.one (.val (S (rU U) u))) ∧ n = UN.toN u
theorem OptN.none {n : Int} : OptN st .none n n := rfl
theorem OptN.some {k : IntKind} {n d : Int} (h : HasO st x (.one (.val (S (rI k) n)))) : OptN st (.some x) d n := .inl ⟨k, h⟩
theorem OptN.get {o : Option Operand} {df n : Int} (h : OptN st o df n) (hst : StE Bs st e a w) : (o = .none ∧ n = df) ∨ ∃ x k, o = .some x ∧ a.eval x = .int k n := by
  cases o with
  | none => exact .inl ⟨rfl, h⟩
  | some x =>
    rcases h with ⟨k, h⟩ | ⟨U, _, u, h, rfl⟩
    · exact .inr ⟨x, k, rfl, by have := h.get hst; simpa [SVR, SWR, S, rI] using this⟩
    · exact .inr ⟨x, UK.k U, rfl, by have := h.get hst; simpa [SVR, SWR, S, rU] using this⟩
theorem rBound {k : IntKind} {i : Int} {y : Nat} {code : BoundsCode} (h0 : 0 ≤ i) (h1 : i ≤ y) : (Instr.sliceBound (.int k i) y code).run P w = .ok i.toNat w := by
  simp [Instr.sliceBound, asIntOf, h0, h1]
theorem rBounds (hst : StE Bs st e a w) {isSl : Bool} {len cap : Nat} {lo hi mx : Option Operand} {l h m : Int} (hl : OptN st lo 0 l) (hh : OptN st hi len h) (hm : OptN st mx cap m) (hmh : mx ≠ none → hi ≠ none) (h0 : 0 ≤ l) (h1 : l ≤ h) (h2 : h ≤ m) (h3 : m ≤ cap) (hlc : len ≤ cap) :
    (Instr.sliceBounds isSl len cap (lo.map a.eval) (hi.map a.eval) (mx.map a.eval)).run P w = .ok (l.toNat, h.toNat, m.toNat) w := by
  unfold Instr.sliceBounds
  rcases hl.get hst with ⟨rfl, rfl⟩ | ⟨xl, kl, rfl, hxl⟩ <;> rcases hh.get hst with ⟨rfl, rfl⟩ | ⟨xh, kh, rfl, hxh⟩ <;> rcases hm.get hst with ⟨rfl, rfl⟩ | ⟨xm, km, rfl, hxm⟩ <;>
    simp_all [rBound, Result.andThen] <;> (try (rw [rBound (by omega) (by omega)])) <;> (try simp [rBound, Result.andThen, *]) <;> (try (rw [rBound (by omega) (by omega)])) <;> (try simp [rBound, Result.andThen, *]) <;> (try (rw [rBound (by omega) (by omega)]))
/-- A list that lies in frozen memory, with room for so many. -/
def LRk {T : Type} (r : Rep T) (e : Env) (xs : List T) (c : Nat) (v : Value) : Prop :=
  ∃ (a : Option Addr), v = .slice a xs.length c ∧ xs.length ≤ c ∧ (a = none → c = 0) ∧
    (0 < xs.length → ∃ b off, a = some ⟨b, off, none⟩ ∧ ∀ i (h : i < xs.length), ∃ cs, r.rel e xs[i] cs ∧ Mu e b (off + i * r.sz) cs)
theorem LRk.lr {T : Type} {r : Rep T} {e : Env} {xs : List T} {c : Nat} {v : Value} : LRk r e xs c v → LR r e xs v := fun ⟨a, h1, h2, h3, h4⟩ => ⟨a, c, h1, h2, h3, h4⟩
theorem LRk.mono {T : Type} {r : Rep T} {e e' : Env} {xs : List T} {c : Nat} {v : Value} (h : e.le e') (k : LRk r e xs c v) : LRk r e' xs c v := by
  obtain ⟨a, h1, h2, h3, h4⟩ := k
  exact ⟨a, h1, h2, h3, fun h0 => let ⟨b, off, ha, h5⟩ := h4 h0; ⟨b, off, ha, fun i hi => let ⟨cs, x, y⟩ := h5 i hi; ⟨cs, r.mono h x, y.mono h⟩⟩⟩
theorem sliceL_core {T : Type} {r : Rep T} {xs ys : List T} {lo hi mx : Option Operand} {l h m : Int} (hd : d < Bs.N) (hu : P.underlying t = some (.slice el)) (hs : tySz P el r.sz = true) (hx : HasO st x (.one (.val (S (rL r) xs))))
    (hl : OptN st lo 0 l) (hh : OptN st hi xs.length h) (hm : mx = none ∨ (OptN st mx xs.length m ∧ hi ≠ none ∧ h ≤ m ∧ m ≤ xs.length)) (h0 : 0 ≤ l) (h1 : l ≤ h) (h2 : h ≤ xs.length) (hr : (xs.drop l.toNat).take (h.toNat - l.toNat) = ys) :
    ∀ e a w, StE Bs st e a w → ∃ v c, (execOp a.eval ⟨some d, .slice t x lo hi mx, ty, pos, af, g⟩).run P w = .ok (.value v) w ∧ LRk r e ys c v ∧ (mx ≠ none → c = m.toNat - l.toNat) := fun e a w hst => by
    obtain ⟨v, hv0, aa, c, hv, hc, hn, hmm⟩ := hx.get hst
    have hv0 : a.eval x = v := by simpa using hv0
    obtain ⟨m', hm', hmc, hmm'⟩ : ∃ m' : Int, OptN st mx c m' ∧ ((mx ≠ none → hi ≠ none) ∧ h ≤ m' ∧ m' ≤ c) ∧ (mx ≠ none → m' = m) := by
      rcases hm with rfl | ⟨hm1, hm2, hm3, hm4⟩
      · exact ⟨c, rfl, ⟨fun h => absurd rfl h, by omega, Int.le_refl _⟩, fun h => absurd rfl h⟩
      · cases mx with
        | none => exact ⟨c, rfl, ⟨fun h => absurd rfl h, by omega, Int.le_refl _⟩, fun h => absurd rfl h⟩
        | some xm => exact ⟨m, hm1, ⟨fun _ => hm2, hm3, by omega⟩, fun _ => rfl⟩
    have hb := rBounds (P := P) hst (isSl := true) hl hh hm' hmc.1 h0 h1 hmc.2.1 hmc.2.2 hc
    have hylen : ys.length = h.toNat - l.toNat := by subst hr; simp; omega
    have hget : ∀ i (hi : i < ys.length), ys[i] = xs[l.toNat + i]'(by omega) := fun i hi => by subst hr; simp
    refine ⟨.slice (if m'.toNat = l.toNat then aa else aa.map (·.add (l.toNat * r.sz))) (h.toNat - l.toNat) (m'.toNat - l.toNat), m'.toNat - l.toNat, ?_, ⟨(if m'.toNat = l.toNat then aa else aa.map (·.add (l.toNat * r.sz))), by rw [hylen], by omega, fun hnone => ?_, fun hpos => ?_⟩, fun h => by rw [hmm' h]⟩
    · simp only [execOp, hv0, hv, Instr.sliceAt, Instr.slice, Sem.run_bind, run_underlying hu, Result.andThen, hb, rSize hs, Sem.run_pure]
    · split at hnone
      · omega
      · cases aa with
        | none => have := hn rfl; omega
        | some ad => simp at hnone
    · obtain ⟨b, off, haa, hcell⟩ := hmm (by omega)
      subst haa
      have hml : ¬ (m'.toNat = l.toNat) := by omega
      refine ⟨b, off + l.toNat * r.sz, by rw [if_neg hml]; simp [add_none], fun i hi => ?_⟩
      obtain ⟨cs, h5, h6⟩ := hcell (l.toNat + i) (by omega)
      refine ⟨cs, by rw [hget i hi]; exact h5, ?_⟩
      rw [Nat.add_mul] at h6
      rwa [Nat.add_assoc]
theorem op_sliceL {T : Type} {r : Rep T} {xs ys : List T} {lo hi mx : Option Operand} {l h m : Int} (hd : d < Bs.N) (hu : P.underlying t = some (.slice el)) (hs : tySz P el r.sz = true) (hx : HasO st x (.one (.val (S (rL r) xs))))
    (hl : OptN st lo 0 l) (hh : OptN st hi xs.length h) (hm : mx = none ∨ (OptN st mx xs.length m ∧ hi ≠ none ∧ h ≤ m ∧ m ≤ xs.length)) (h0 : 0 ≤ l) (h1 : l ≤ h) (h2 : h ≤ xs.length) (hr : (xs.drop l.toNat).take (h.toNat - l.toNat) = ys) :
    OpStep P Bs ⟨some d, .slice t x lo hi mx, ty, pos, af, g⟩ st (st.set d (.one (.val (S (rL r) ys)))) :=
  .value hd fun e a w hst => let ⟨v, c, k1, k2, _⟩ := sliceL_core (d := d) (ty := ty) (pos := pos) (af := af) (g := g) hd hu hs hx hl hh hm h0 h1 h2 hr e a w hst; ⟨v, k1, v, rfl, k2.lr⟩
def tyB (P : Program) (t : TypeId) (sz bytes : Nat) (z : Value) : Prop := ∃ i, P.info? t = some i ∧ i.size = sz ∧ i.bytes = bytes ∧ i.zero = some z
/-- What is appended: its elements' cells. -/
structure Src (P : Program) (e : Env) (a : Act) (w : World) {T : Type} (r : Rep T) (ys : List T) (y : Operand) (fl : List Value) : Prop where
  len : fl.length = ys.length * r.sz
  one : ∀ v ∈ fl, one1 v = true
  rel : ∀ i (h : i < ys.length), r.rel e ys[i] ((fl.drop (i * r.sz)).take r.sz)
  lenOf : ∀ w, (Builtin.lenOf (a.eval y)).run P w = .ok ys.length w
  cells : ∀ w', w'.heap = w.heap → (Builtin.firstCells r.sz ys.length (a.eval y)).run P w' = .ok fl.toArray w'
theorem flat_one {T : Type} {r : Rep T} {e : Env} {xs : List T} {fl : List Value} (hl : fl.length = xs.length * r.sz) (hr : ∀ i (h : i < xs.length), r.rel e xs[i] ((fl.drop (i * r.sz)).take r.sz)) : ∀ v ∈ fl, one1 v = true := fun v hv => by
  obtain ⟨k, hk, rfl⟩ := List.mem_iff_getElem.1 hv
  have hs : 0 < r.sz := by
    rcases Nat.eq_zero_or_pos r.sz with h | h
    · rw [h] at hl; simp at hl; subst hl; simp at hk
    · exact h
  have hi : k / r.sz < xs.length := (Nat.div_lt_iff_lt_mul hs).2 (by omega)
  have h1 := r.one (hr _ hi)
  apply h1
  apply List.mem_of_getElem? (i := k % r.sz)
  rw [List.getElem?_take_of_lt (Nat.mod_lt _ hs), List.getElem?_drop, Nat.mul_comm, Nat.div_add_mod, List.getElem?_eq_getElem hk]
theorem Src.list {T : Type} {r : Rep T} {ys : List T} (hst : StE Bs st e a w) (hy : HasO st y (.one (.val (S (rL r) ys)))) : ∃ fl, Src P e a w r ys y fl := by
  obtain ⟨v, hv0, hL⟩ := hy.get hst
  have hv0 : a.eval y = v := by simpa using hv0
  obtain ⟨aa, c, fl, hv, hc, hn, hl, hr, hm⟩ := hL.flat
  refine ⟨fl, hl, flat_one hl hr, hr, fun w => by simp [hv0, hv, Builtin.lenOf], fun w' hfr => ?_⟩
  rw [hv0, hv]
  rcases Nat.eq_zero_or_pos ys.length with h0 | h0
  · have : fl = [] := List.eq_nil_of_length_eq_zero (by rw [hl, h0]; simp)
    subst this
    rw [h0]
    cases aa with
    | none => simp [Builtin.firstCells]
    | some ad => simp [Builtin.firstCells, loadCells, loadCellsFrom]
  · obtain ⟨b, off, haa, hm'⟩ := hm h0
    subst haa
    simp only [Builtin.firstCells]
    exact rloadCells P hl fun j u hj => by rw [add_none, show w'.cell? _ = w.cell? _ from by unfold World.cell?; rw [hfr]]; exact hst.frz _ _ (hm' j u hj)
theorem rel_append {T : Type} {r : Rep T} {e : Env} {xs ys : List T} {cs fl tl : List Value} (hx : ∀ i (h : i < xs.length), r.rel e xs[i] ((cs.drop (i * r.sz)).take r.sz)) (hy : ∀ i (h : i < ys.length), r.rel e ys[i] ((fl.drop (i * r.sz)).take r.sz))
    {cs' : List Value} (h1 : ∀ k, k < xs.length * r.sz → cs'[k]? = cs[k]?) (h2 : ∀ k, k < ys.length * r.sz → cs'[xs.length * r.sz + k]? = fl[k]?) :
    ∀ i (h : i < (xs ++ ys).length), r.rel e (xs ++ ys)[i] ((cs'.drop (i * r.sz)).take r.sz) := fun i hi => by
  have hmul : ∀ {p q : Nat}, p < q → p * r.sz + r.sz ≤ q * r.sz := fun {p q} hpq => by
    have := Nat.mul_le_mul_right r.sz (show p + 1 ≤ q by omega)
    rw [Nat.add_mul] at this; omega
  by_cases hlt : i < xs.length
  · rw [List.getElem_append_left hlt]
    have : (cs'.drop (i * r.sz)).take r.sz = (cs.drop (i * r.sz)).take r.sz := by
      apply List.ext_getElem?
      intro k
      by_cases hk : k < r.sz
      · rw [List.getElem?_take_of_lt hk, List.getElem?_take_of_lt hk, List.getElem?_drop, List.getElem?_drop]
        exact h1 _ (by have := hmul hlt; omega)
      · rw [List.getElem?_eq_none (by simp; omega), List.getElem?_eq_none (by simp; omega)]
    rw [this]
    exact hx i hlt
  · have hi2 : i - xs.length < ys.length := by simp at hi; omega
    rw [List.getElem_append_right (by omega)]
    have : (cs'.drop (i * r.sz)).take r.sz = (fl.drop ((i - xs.length) * r.sz)).take r.sz := by
      apply List.ext_getElem?
      intro k
      by_cases hk : k < r.sz
      · rw [List.getElem?_take_of_lt hk, List.getElem?_take_of_lt hk, List.getElem?_drop, List.getElem?_drop]
        have e1 : i * r.sz + k = xs.length * r.sz + ((i - xs.length) * r.sz + k) := by
          rw [← Nat.add_assoc, ← Nat.add_mul]; congr 2; omega
        rw [e1]
        exact h2 _ (by have := hmul hi2; omega)
      · rw [List.getElem?_eq_none (by simp; omega), List.getElem?_eq_none (by simp; omega)]
    rw [this]
    exact hy _ hi2

def notInt : TypeDesc → Bool
  | .slice _ => true
  | .string => true
  | _ => false
theorem run_append_none {dy : TypeDesc} {sz n cap : Nat} {xv : Value} (hu : P.underlying t = some (.slice el)) (hu' : P.underlying t' = some dy) (hni : notInt dy = true) (hsize : (sizeOf el).run P w = .ok sz w) (hl : (Builtin.lenOf xv).run P w = .ok n w) (hroom : 0 + n ≤ cap)
    {new : Array Value} (hf : (Builtin.firstCells sz n xv).run P w = .ok new w) : (Builtin.append_ #[t, t'] ty #[.slice none 0 cap, xv]).run P w = .ok (.slice none (0 + n) cap) w := by
  cases dy <;> first | (simp [notInt] at hni; done) | (simp at hroom; simp [Builtin.append_, run_underlying hu, run_underlying hu', hsize, hl, hroom, hf])
set_option maxHeartbeats 800000 in
theorem run_append_room {dy : TypeDesc} {sz sl n cap : Nat} {xv : Value} {ad : Addr} {w' : World} (hu : P.underlying t = some (.slice el)) (hu' : P.underlying t' = some dy) (hni : notInt dy = true) (hsize : (sizeOf el).run P w = .ok sz w) (hl : (Builtin.lenOf xv).run P w = .ok n w) (hroom : sl + n ≤ cap)
    {new : Array Value} (hf : (Builtin.firstCells sz n xv).run P w = .ok new w) (hs : (storeCells (ad.add (sl * sz)) new.toList).run P w = .ok () w') : (Builtin.append_ #[t, t'] ty #[.slice (some ad) sl cap, xv]).run P w = .ok (.slice (some ad) (sl + n) cap) w' := by
  cases dy <;> first | (simp [notInt] at hni; done) | simp [Builtin.append_, run_underlying hu, run_underlying hu', hsize, hl, hroom, hf, hs]
set_option maxHeartbeats 800000 in
theorem run_append_grow {dy : TypeDesc} {i : TypeInfo} {sl n cap nc : Nat} {base : Option Addr} {xv zv : Value} (hu : P.underlying t = some (.slice el)) (hu' : P.underlying t' = some dy) (hni : notInt dy = true) (hi : P.info? el = some i) (hz : i.zero = some zv) (hb0 : 0 < i.bytes) (hl : ∀ w, (Builtin.lenOf xv).run P w = .ok n w) (hroom : ¬ (sl + n ≤ cap))
    (hgrow : Builtin.nextslicecap (sl + n) cap * i.bytes ≤ 281474976710656) (hnc : (Question.appendCap (sl + n) cap el).cut (w.tape w.drawn (Question.appendCap (sl + n) cap el)) = nc)
    {old new : Array Value} (ho : (Builtin.firstCells i.size sl (.slice base sl cap)).run P w.drew = .ok old w.drew) (hf : (Builtin.firstCells i.size n xv).run P w.drew = .ok new w.drew) :
    (Builtin.append_ #[t, t'] ty #[.slice base sl cap, xv]).run P w =
      .ok (.slice (some ⟨w.heap.size, 0, none⟩) (sl + n) nc) (w.drew.alloc (.cells (old ++ new ++ Builtin.zeroCells zv.cells (nc - (sl + n))) el (0, 0))) := by
  have hsize : ∀ w, (sizeOf el).run P w = .ok i.size w := fun w => by simp [sizeOf, typeInfo, program, Sem.run, hi]
  have hinfo : ∀ w, (typeInfo el).run P w = .ok i w := fun w => by simp [typeInfo, program, Sem.run, hi]
  have hzz : ∀ w, (zeroValue el).run P w = .ok zv w := fun w => by simp [zeroValue, typeInfo, program, Sem.run, hi, hz]
  have hask : ∀ n w, (askRoom n).run P w = .ok () w := fun n w => by unfold askRoom; split <;> simp [mark, Sem.run]
  have hb00 : ¬ i.bytes = 0 := by omega
  have h48 : ¬ (281474976710656 < Builtin.nextslicecap (sl + n) cap * i.bytes) := by omega
  have hq : (Question.appendCap (sl + n) cap el).forced = false := rfl
  cases dy <;> first | (simp [notInt] at hni; done) | simp [Builtin.append_, run_underlying hu, run_underlying hu', hsize, hinfo, hl, hroom, hb00, h48, hq, hnc, hask, ho, hf, hzz, newRow, newObj, Sem.run]
/-- What lies at a row's head. -/
structure Head (P : Program) (e : Env) (w : World) {T : Type} (r : Rep T) (xs : List T) (base : Option Addr) (cap : Nat) (cs : List Value) : Prop where
  len : cs.length = xs.length * r.sz
  rel : ∀ i (h : i < xs.length), r.rel e xs[i] ((cs.drop (i * r.sz)).take r.sz)
  load : ∀ w', w'.heap = w.heap → (Builtin.firstCells r.sz xs.length (.slice base xs.length cap)).run P w' = .ok cs.toArray w'
theorem own_head (hst : StE Bs st e a w) {T : Type} {r : Rep T} {xs : List T} {ob : Option Nat} {fz cap j : Nat} (hX : st.X[j]? = some (cown ob r xs fz cap)) :
    ∃ cs, Head P e w r xs (ob.map fun b => ⟨b, 0, none⟩) cap cs := by
  rcases hst.xs _ (List.mem_of_getElem? hX) with ⟨h1, h2, h3, h4⟩ | ⟨b, cs, el, fr, hb, h5, h6, h0, h7, h8, h9, h10, h11⟩
  · subst h1; subst h2
    exact ⟨[], by simp, fun i hi => by simp at hi, fun w' _ => by simp [Builtin.firstCells]⟩
  · subst hb
    have hxl : xs.length * r.sz ≤ cs.length := Nat.le_trans (Nat.mul_le_mul_right _ h0) h7
    refine ⟨cs.take (xs.length * r.sz), by simp; omega, fun i hi => ?_, fun w' hw => ?_⟩
    · have hle2 : i * r.sz + r.sz ≤ xs.length * r.sz := by
        have := Nat.mul_le_mul_right r.sz (show i + 1 ≤ xs.length by omega)
        rw [Nat.add_mul] at this; omega
      rw [List.drop_take, List.take_take, Nat.min_eq_left (by omega)]
      exact h8 i hi
    · simp only [Builtin.firstCells, Option.map_some]
      exact rloadCells P (n := xs.length * r.sz) (by simp; omega) (part_at (n := xs.length * r.sz) (by rw [hw]; exact h5) (by simp))
theorem Src.own {T : Type} {r : Rep T} {xs : List T} {ob : Option Nat} {fz cap j : Nat} (hX : st.X[j]? = some (cown ob r xs fz cap)) (hst : StE Bs st e a w) (hy : HasO st y (.one (.val (HDR ob 0 xs.length cap)))) : ∃ fl, Src P e a w r xs y fl := by
  have hv : a.eval y = .slice (ob.map fun b => ⟨b, 0, none⟩) xs.length cap := hy.get hst
  obtain ⟨cs, h1, h2, h3⟩ := own_head (P := P) hst hX
  exact ⟨cs, h1, flat_one h1 h2, h2, fun w => by rw [hv]; cases ob <;> simp [Builtin.lenOf], fun w' hw => by rw [hv]; exact h3 w' hw⟩
set_option maxHeartbeats 800000 in
/-- The row grows: a new block. -/
theorem grow_run {T : Type} {r : Rep T} {xs ys : List T} {bytes cap : Nat} {base : Option Addr} {zv : Value} {dy : TypeDesc} {cs : List Value} (hu : P.underlying t = some (.slice el)) (hu' : P.underlying t' = some dy) (hni : notInt dy = true) (hel : tyB P el r.sz bytes zv) (hz : zv.cells.size = r.sz) (hb0 : 0 < bytes)
    (hst : StE Bs st e a w) (hv : a.eval x = .slice base xs.length cap) (hcap : xs.length ≤ cap) (hh : Head P e w r xs base cap cs) (hsrc : ∃ fl, Src P e a w r ys y fl) (hb : (xs.length + ys.length) * bytes ≤ 140737488355328) (hroom : ¬ xs.length + ys.length ≤ cap) :
    ∃ (nc : Nat) (cells : List Value), (execOp a.eval ⟨some d, .call { callee := .builtin .append, args := #[x, y], argTypes := #[t, t'] }, ty, pos, af, g⟩).run P w = .ok (.value (.slice (some ⟨w.heap.size, 0, none⟩) (xs.length + ys.length) nc)) (w.drew.alloc (.cells cells.toArray el (0, 0))) ∧
      (xs ++ ys).length ≤ nc ∧ cells.length = nc * r.sz ∧ (∀ i (h : i < (xs ++ ys).length), r.rel e (xs ++ ys)[i] ((cells.drop (i * r.sz)).take r.sz)) ∧ cells.take (xs.length * r.sz) = cs := by
  obtain ⟨fl, hs⟩ := hsrc
  obtain ⟨i, hi, hi1, hi2, hi3⟩ := hel
  have hneed : xs.length + ys.length ≤ (xs.length + ys.length) * bytes := Nat.le_mul_of_pos_right _ hb0
  have hgrow : Builtin.nextslicecap (xs.length + ys.length) cap * bytes ≤ 281474976710656 := growslice_fits (by omega) hb
  let q := Question.appendCap (xs.length + ys.length) cap el
  obtain ⟨nc, hnc, hnc2⟩ : ∃ nc, q.cut (w.tape w.drawn q) = nc ∧ xs.length + ys.length ≤ nc := ⟨_, rfl, by simp only [q, Question.cut]; omega⟩
  let rest := (Builtin.zeroCells zv.cells (nc - (xs.length + ys.length))).toList
  let cells := cs ++ fl ++ rest
  have hrest : rest.length = (nc - (xs.length + ys.length)) * r.sz := by simp [rest, Builtin.zeroCells, hz]
  have hcs1 := hh.len
  have hfl := hs.len
  have hcells : cells.length = nc * r.sz := by
    simp only [cells, List.length_append, hcs1, hfl, hrest, ← Nat.add_mul]
    congr 1; omega
  refine ⟨nc, cells, ?_, by simpa using hnc2, hcells, ?_, ?_⟩
  · have e1 := hh.load w.drew rfl
    have e2 := hs.cells w.drew rfl
    rw [← hi1] at e1 e2
    have hrun := run_append_grow (P := P) (t := t) (t' := t') (ty := ty) (w := w) hu hu' hni hi hi3 (by omega) hs.lenOf hroom (by rw [hi2]; exact hgrow) hnc e1 e2
    have hcat : (cs.toArray ++ fl.toArray ++ Builtin.zeroCells zv.cells (nc - (xs.length + ys.length))) = cells.toArray := by
      apply Array.ext'
      simp [cells, rest]
    rw [hcat] at hrun
    simp only [execOp, resolve, invoke, builtin, List.map_toArray, List.map_cons, List.map_nil, hv, Sem.run_bind, Sem.run_bind', Sem.run_pure, Result.andThen, hrun]
  · refine rel_append (tl := []) hh.rel hs.rel (fun k hk => ?_) fun k hk => ?_
    · simp only [cells]
      rw [List.append_assoc, List.getElem?_append_left (by omega)]
    · simp only [cells]
      rw [List.append_assoc, List.getElem?_append_right (by omega), List.getElem?_append_left (by omega), hcs1]
      congr 1
      omega
  · simp only [cells]
    rw [List.append_assoc, List.take_append_of_le_length (by omega), List.take_of_length_le (by omega)]
theorem drewalloc_heap (w : World) (o : Obj) : (w.drew.alloc o).heap = w.heap.push o := rfl
theorem drewalloc_kept (w : World) (o : Obj) : Kept w (w.drew.alloc o) := ⟨rfl, rfl, rfl, by rw [drewalloc_heap]; simp, fun b hb => by rw [drewalloc_heap, Array.getElem?_push, if_neg (by omega)]⟩
theorem drewalloc_at (w : World) (o : Obj) : (w.drew.alloc o).heap[w.heap.size]? = some o := by rw [drewalloc_heap]; simp
set_option maxHeartbeats 800000 in
theorem append_run {T : Type} {r : Rep T} {xs ys : List T} {ob : Option Nat} {fz cap j bytes : Nat} {zv : Value} {dy : TypeDesc} (hu : P.underlying t = some (.slice el)) (hu' : P.underlying t' = some dy) (hni : notInt dy = true) (hel : tyB P el r.sz bytes zv) (hz : zv.cells.size = r.sz) (hsz : 0 < r.sz) (hb0 : 0 < bytes)
    (hX : st.X[j]? = some (cown ob r xs fz cap)) (hst : StE Bs st e a w) (hv : a.eval x = .slice (ob.map fun b => ⟨b, 0, none⟩) xs.length cap) (hsrc : ∃ fl, Src P e a w r ys y fl) (hb : (xs.length + ys.length) * bytes ≤ 140737488355328) :
    ∃ (v : Value) (w' : World) (e' : Env) (q : Option Nat × Nat), (execOp a.eval ⟨some d, .call { callee := .builtin .append, args := #[x, y], argTypes := #[t, t'] }, ty, pos, af, g⟩).run P w = .ok (.value v) w' ∧
      StE Bs { st with X := st.X.set j (cown q.1 r (xs ++ ys) fz q.2) } e' a w' ∧ SVR e' (.one (.val (HDR q.1 0 (xs ++ ys).length q.2))) v := by
  have hR := hst.xs _ (List.mem_of_getElem? hX)
  have hcap : xs.length ≤ cap := by
    rcases hR with ⟨h1, h2, h3, h4⟩ | ⟨b, cs, el, fr, hb, h5, h6, h0, _⟩
    · subst h2; simp
    · exact h0
  by_cases hroom : xs.length + ys.length ≤ cap
  · obtain ⟨fl, hs⟩ := hsrc
    obtain ⟨i, hi, hi1, hi2, hi3⟩ := hel
    have hsize : ∀ w, (sizeOf el).run P w = .ok r.sz w := fun w => by simp [sizeOf, typeInfo, program, Sem.run, hi, hi1]
    rcases hR with ⟨h1, h2, h3, h4⟩ | ⟨b, cs, el', fr, hob, h5, h6, h0, h7, h8, h9, h10, h11⟩
    · subst h1; subst h2; subst h3; subst h4
      have hys : ys = [] := List.eq_nil_of_length_eq_zero (by simpa using hroom)
      subst hys
      refine ⟨.slice none 0 0, w, e, (none, 0), ?_, ?_, rfl⟩
      · have hrun := run_append_none (P := P) (t := t) (t' := t') (ty := ty) (w := w) hu hu' hni (hsize w) (hs.lenOf w) (show 0 + ([] : List T).length ≤ 0 by simp) (hs.cells w rfl)
        simp only [execOp, resolve, invoke, builtin, List.map_toArray, List.map_cons, List.map_nil, hv, Sem.run_bind, Sem.run_bind', Sem.run_pure, Result.andThen]
        simp only [List.length_nil] at hrun ⊢
        simp only [Option.map_none]
        rw [hrun]
      · exact hst.perm ((perm_set hX).trans (set_perm (d := cown none r ([] ++ []) 0 0) hX))
    · subst hob
      have hfl := hs.len
      have hmul : (xs.length + ys.length) * r.sz ≤ cs.length := Nat.le_trans (Nat.mul_le_mul_right _ hroom) h7
      rw [Nat.add_mul] at hmul
      have hlay : (lay cs (xs.length * r.sz) fl).length = cs.length := lay_length (by omega)
      have hlt := lt_of_block h5
      refine ⟨.slice (some ⟨b, 0, none⟩) (xs.length + ys.length) cap, setB w b (lay cs (xs.length * r.sz) fl) el' fr, e, (some b, cap), ?_, ?_, ?_⟩
      · have hst2 := rstoreCells P fl w b (xs.length * r.sz) 0 cs el' fr hs.one h5 (by omega) h6
        simp only [Nat.add_zero] at hst2
        have hrun := run_append_room (P := P) (t := t) (t' := t') (ty := ty) (w := w) hu hu' hni (hsize w) (hs.lenOf w) hroom (hs.cells w rfl) (ad := ⟨b, 0, none⟩) (by rw [add_none, Nat.zero_add]; simpa using hst2)
        simp only [execOp, resolve, invoke, builtin, List.map_toArray, List.map_cons, List.map_nil, hv, Sem.run_bind, Sem.run_bind', Sem.run_pure, Result.andThen, Option.map_some, hrun]
      · have hfzle : fz * r.sz ≤ xs.length * r.sz := Nat.mul_le_mul_right _ h10
        have hkeep : ∀ k, k < xs.length * r.sz → (lay cs (xs.length * r.sz) fl)[k]? = cs[k]? := fun k hk => lay_get_lt hk (by omega)
        refine hst.turn1 hX (Env.le.refl e) (fun ad v hm => .inl hm) ⟨rfl, rfl, rfl, by rw [setB_size]; exact Nat.le_refl _, fun c _ hc => setB_ne fun h => hc (by rw [h]; rfl)⟩ (fun ad v hm => ?_) (.inr ⟨b, lay cs (xs.length * r.sz) fl, el', fr, rfl, setB_at hlt, by rw [hlay]; exact h6, by simpa using hroom, by rw [hlay]; exact h7,
          rel_append (tl := []) h8 hs.rel hkeep fun k hk => lay_get_mid (by omega) (by omega), h9, by simp; omega, fun k u hk => ?_⟩) (fun c hc => .inl hc)
        · by_cases hab : ad.block = b
          · obtain ⟨ab, off, sp⟩ := ad
            simp only at hab
            subst hab
            have hsp := muspot hst hm
            simp only at hsp
            subst hsp
            have h0 := hst.frz _ v hm
            rw [cell_of h5] at h0
            have hoff := h9 _ v hm rfl
            simp only at hoff
            rw [cell_of (setB_at hlt), hkeep off (by omega), h0]
          · rw [World.cell?_of_block (setB_ne hab)]; exact hst.frz ad v hm
        · have hkl : k < fz * r.sz := by
            rcases Nat.lt_or_ge k (fz * r.sz) with h | h
            · exact h
            · rw [List.getElem?_eq_none (by simp; omega)] at hk; cases hk
          refine h11 k u ?_
          rw [List.getElem?_take_of_lt hkl] at hk ⊢
          rwa [hkeep k (by omega)] at hk
      · simp [SVR, SWR, HDR]
  · obtain ⟨cs, hh⟩ := own_head (P := P) hst hX
    obtain ⟨nc, cells, hrun, h1, h2, h3, h4⟩ := grow_run (d := d) (ty := ty) (pos := pos) (af := af) (g := g) hu hu' hni hel hz hb0 hst hv hcap hh hsrc hb hroom
    have hfz : fz ≤ xs.length := by
      rcases hR with ⟨_, k2, k3, _⟩ | ⟨b, cs, el, fr, hb, h5, h6, h0, _, _, _, h10, _⟩
      · rw [k3]; omega
      · exact h10
    have hfzle : fz * r.sz ≤ xs.length * r.sz := Nat.mul_le_mul_right _ hfz
    have hk := drewalloc_kept w (.cells cells.toArray el (0, 0))
    have hat := drewalloc_at w (.cells cells.toArray el (0, 0))
    let e' := e.add w.heap.size 0 (cells.take (fz * r.sz))
    have hle : e.le e' := Env.add_le fun ad v hm hab => by have := mu_lt hst hm; omega
    have hinv : ∀ ad v, e'.mu ad = some v → e.mu ad = some v ∨ (ad.block = w.heap.size ∧ ad.spot = none ∧ ad.off < fz * r.sz ∧ cells[ad.off]? = some v) := fun ad v hm => by
      rcases Env.add_inv hm with h | ⟨h1, h2, h3, h4, h5⟩
      · exact .inl h
      · have : ad.off < fz * r.sz := by simp at h4; omega
        rw [Nat.sub_zero, List.getElem?_take_of_lt this] at h5
        exact .inr ⟨h1, h2, this, h5⟩
    refine ⟨_, _, e', (some w.heap.size, nc), hrun, ?_, by simp [SVR, SWR, HDR]⟩
    refine hst.turn1 hX hle (fun ad v hm => ?_) (hk.x _) (fun ad v hm => ?_) (.inr ⟨w.heap.size, cells, el, (0, 0), rfl, hat, thawed00 _, h1, by rw [h2]; exact Nat.le_refl _, fun i hi => r.mono hle (h3 i hi), fun ad v hm hab => ?_, by simp; omega, Env.add_mu⟩) (fun c hc => .inr (by cases hc; exact Nat.le_refl _))
    · rcases hinv ad v hm with h | ⟨h, _⟩
      · exact .inl h
      · exact .inr (.inl (by rw [h]; exact Nat.le_refl _))
    · rcases hinv ad v hm with h | ⟨h1, h2, _, h4⟩
      · rw [World.cell?_of_block (hk.old _ (mu_lt hst h))]; exact hst.frz ad v h
      · obtain ⟨ab, off, sp⟩ := ad
        simp only at h1 h2 h4
        subst h1; subst h2
        rw [cell_of hat]; exact h4
    · rcases hinv ad v hm with h | ⟨_, _, h, _⟩
      · have := mu_lt hst h; omega
      · exact h
/-- append onto a row of the call's own. -/
theorem op_append {T : Type} {r : Rep T} {xs ys zs : List T} {ob : Option Nat} {fz cap j bytes : Nat} {zv : Value} {dy : TypeDesc} (hd : d < Bs.N) (hu : P.underlying t = some (.slice el)) (hu' : P.underlying t' = some dy) (hni : notInt dy = true) (hel : tyB P el r.sz bytes zv) (hz : zv.cells.size = r.sz) (hsz : 0 < r.sz) (hb0 : 0 < bytes)
    (hX : st.X[j]? = some (cown ob r xs fz cap)) (hx : HasO st x (.one (.val (HDR ob 0 xs.length cap)))) (hsrc : ∀ e a w, StE Bs st e a w → ∃ fl, Src P e a w r ys y fl) (hb : (xs.length + ys.length) * bytes ≤ 140737488355328 ∧ xs ++ ys = zs) :
    OpX P Bs ⟨some d, .call { callee := .builtin .append, args := #[x, y], argTypes := #[t, t'] }, ty, pos, af, g⟩ st (fun q : Option Nat × Nat => St.set { st with X := st.X.set j (cown q.1 r zs fz q.2) } d (.one (.val (HDR q.1 0 zs.length q.2)))) := by
  obtain ⟨hb, rfl⟩ := hb
  exact .grows hd fun e a w hst => append_run hu hu' hni hel hz hsz hb0 hX hst (hx.get hst) (hsrc e a w hst) hb
theorem StE.nilown (h : StE Bs st e a w) {T : Type} (r : Rep T) : StE Bs { st with X := st.X ++ [cown none r ([] : List T) 0 0] } e a w := by
  have hR : (cown none r ([] : List T) 0 0).R e w := .inl ⟨rfl, rfl, rfl, rfl⟩
  exact h.newE (Kept.refl w) hR (fun b hb => by cases hb)
theorem Imp.nilown {T : Type} (r : Rep T) : Imp Bs st { st with X := st.X ++ [cown none r ([] : List T) 0 0] } := fun a w ⟨e, h⟩ => ⟨e, h.nilown r⟩
end
end Go.Proofs.Ytbmimaabgclhjaa.Fw
