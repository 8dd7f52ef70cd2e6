/- Functions of the library that have no code: what they compute. -/
import Derived.Test.YtbmimaabgclhjaaFo
namespace Go.Proofs.Ytbmimaabgclhjaa.Fw
open Go Go.RowKit
set_option linter.unusedVariables false
set_option linter.unusedSimpArgs false

section
variable {P : Program} {Bs : Base} {st st' : St} {d : Nat} {ty t t' el : TypeId} {pos : String} {af : Array Edge} {g : Option (Nat × Bool)} {x y z : Operand} {Q : Exit → Act → World → Prop} {l : List Oper} {ops : Array Oper}
variable {e : Env} {a : Act} {w : World}
/-! ### copying -/
structure SrcN (P : Program) (e : Env) (a : Act) (w : World) {T : Type} (r : Rep T) (ys : List T) (y : Operand) (fl : List Value) : Prop where
  len : fl.length = ys.length * r.sz
  one : ∀ v ∈ fl, one1 v = true
  rel : ∀ i (h : i < ys.length), r.rel e ys[i] ((fl.drop (i * r.sz)).take r.sz)
  lenOf : ∀ w, (Builtin.lenOf (a.eval y)).run P w = .ok ys.length w
  cells : ∀ m, m ≤ ys.length → (Builtin.firstCells r.sz m (a.eval y)).run P w = .ok (fl.take (m * r.sz)).toArray w
theorem SrcN.list {T : Type} {r : Rep T} {ys : List T} (hy : HasO st y (.one (.val (S (rL r) ys)))) (hst : StE Bs st e a w) : ∃ fl, SrcN P e a w r ys y fl := by
  obtain ⟨v, hv0, hL⟩ := hy.get hst
  have hv0 : a.eval y = v := by simpa using hv0
  obtain ⟨aa, c, fl, hv, hc, hn, hl, hr, hm⟩ := hL.flat
  refine ⟨fl, hl, flat_one hl hr, hr, fun w => by simp [hv0, hv, Builtin.lenOf], fun m hm' => ?_⟩
  rw [hv0, hv]
  rcases Nat.eq_zero_or_pos m with h0 | h0
  · subst h0
    cases aa with
    | none => simp [Builtin.firstCells]
    | some ad => simp [Builtin.firstCells, loadCells, loadCellsFrom]
  · obtain ⟨b, off, haa, hm2⟩ := hm (by omega)
    subst haa
    simp only [Builtin.firstCells]
    have hms : m * r.sz ≤ ys.length * r.sz := Nat.mul_le_mul_right _ hm'
    refine rloadCells P (by simp; omega) fun j u hj => ?_
    have hjl : j < m * r.sz := by
      rcases Nat.lt_or_ge j (m * r.sz) with h | h
      · exact h
      · rw [List.getElem?_eq_none (by simp; omega)] at hj; cases hj
    rw [List.getElem?_take_of_lt hjl] at hj
    rw [add_none]
    exact hst.frz _ _ (hm2 j u hj)
theorem SrcN.own {T : Type} {r : Rep T} {xs : List T} {ob : Option Nat} {fz cap j : Nat} (hX : st.X[j]? = some (cown ob r xs fz cap)) (hy : HasO st y (.one (.val (HDR ob 0 xs.length cap)))) (hst : StE Bs st e a w) : ∃ fl, SrcN P e a w r xs y fl := by
  have hv : a.eval y = .slice (ob.map fun b => ⟨b, 0, none⟩) xs.length cap := hy.get hst
  rcases hst.xs _ (List.mem_of_getElem? hX) with ⟨h1, h2, h3, h4⟩ | ⟨b, cs, el, fr, hb, h5, h6, h0, h7, h8, h9, h10, h11⟩
  · subst h1; subst h2
    exact ⟨[], by simp, by simp, fun i hi => by simp at hi, fun w => by rw [hv]; simp [Builtin.lenOf], fun m hm => by rw [hv]; simp [Builtin.firstCells]⟩
  · subst hb
    have hxl : xs.length * r.sz ≤ cs.length := Nat.le_trans (Nat.mul_le_mul_right _ h0) h7
    have hl : (cs.take (xs.length * r.sz)).length = xs.length * r.sz := by simp; omega
    have hrel : ∀ i (h : i < xs.length), r.rel e xs[i] (((cs.take (xs.length * r.sz)).drop (i * r.sz)).take r.sz) := fun i hi => by
      have hle2 : i * r.sz + r.sz ≤ xs.length * r.sz := by
        have := Nat.mul_le_mul_right r.sz (show i + 1 ≤ xs.length by omega)
        rw [Nat.add_mul] at this; omega
      rw [List.drop_take, List.take_take, Nat.min_eq_left (by omega)]
      exact h8 i hi
    refine ⟨cs.take (xs.length * r.sz), hl, flat_one hl hrel, hrel, fun w => by rw [hv]; simp [Builtin.lenOf], fun m hm => ?_⟩
    have hms : m * r.sz ≤ xs.length * r.sz := Nat.mul_le_mul_right _ hm
    rw [hv, List.take_take, Nat.min_eq_left hms]
    simp only [Builtin.firstCells, Option.map_some]
    exact rloadCells P (n := m * r.sz) (by simp; omega) (part_at (n := m * r.sz) h5 (by simp))
theorem nilK {α : Type} {x y r : α} (h : x = r) (k : x = y) : y = r := k ▸ h
/-- Is a list nil? If it is, it has no elements. -/
theorem op_isNil {T : Type} {r : Rep T} {xs : List T} {neg : Bool} (hd : d < Bs.N) (hu : P.underlying t = some (.slice el)) (hx : HasO st x (.one (.val (S (rL r) xs)))) (hy : HasO st y (.one (.val (HDR none 0 0 0)))) :
    OpX P Bs ⟨some d, .binOp (if neg then .neq else .eql) t x y t', ty, pos, af, g⟩ st (fun q : { b : Bool // b = true → xs = [] } => st.set d (.one (.val (S rB (if neg then !q.1 else q.1))))) := fun a w hst K Q hK => by
  obtain ⟨e, h⟩ := hst
  obtain ⟨v, hv0, aa, c, hv, hc, hn, hm⟩ := hx.get h
  have hv0 : a.eval x = v := by simpa using hv0
  have hvy : a.eval y = .slice none 0 0 := hy.get h
  have heq : ∀ d, (Op.equalIn (d + 1) t (.slice aa xs.length c) (.slice none 0 0)).run P w = .ok aa.isNone w := fun d => by cases aa <;> simp [Op.equalIn, run_underlying hu]
  have heq' : (Op.equal t (.slice aa xs.length c) (.slice none 0 0)).run P w = .ok aa.isNone w := heq 9999
  refine wpIn_calm (w' := w) (v := .bool (if neg then !aa.isNone else aa.isNone)) (fun _ _ => trivial) (nodefer_ne rfl) ?_ (hK ⟨aa.isNone, fun ha => ?_⟩ _ _ ⟨e, h.put hd (by cases neg <;> rfl)⟩)
  · have hg : (eqGuard (if neg then .neq else .eql) t x y (.slice aa xs.length c) (.slice none 0 0)).run P w = .ok () w := by
      unfold eqGuard
      cases neg <;> simp
    have e4 : binOp .eql t (.slice aa xs.length c) (.slice none 0 0) = (do let r ← Op.equal t (.slice aa xs.length c) (.slice none 0 0); pure (.bool r)) := rfl
    have e5 : binOp .neq t (.slice aa xs.length c) (.slice none 0 0) = (do let r ← Op.equal t (.slice aa xs.length c) (.slice none 0 0); pure (.bool !r)) := rfl
    rw [← hv] at hg e4 e5 heq'
    cases neg
    · simp only [Bool.false_eq_true, if_false] at hg ⊢
      simp only [execOp, hv0, hvy, Sem.run_bind, hg, Result.andThen, e4, heq', Sem.run_pure]
    · simp only [if_true] at hg ⊢
      simp only [execOp, hv0, hvy, Sem.run_bind, hg, Result.andThen, e5, heq', Sem.run_pure]
  · cases aa with
    | none => have := hn rfl; exact List.eq_nil_of_length_eq_zero (by omega)
    | some ad => simp at ha
theorem setO'_len {T : Type} {xs ys : List T} {i : Nat} {x : T} (h : setO' xs i x = some ys) : xs.length = ys.length := by rw [← (setO'_some h).2]; simp
theorem wkLen {ob : Option Nat} {n m c : Nat} (h : n = m) : ∀ e v, (HDR ob 0 n c).p e v → (HDR ob 0 m c).p e v := fun e v k => h ▸ k
theorem Wk.len {K : Env → Prop} {ob : Option Nat} {n m c : Nat} (h : n = m) : Wk K (rW (HDR ob 0 n c)) () (rW (HDR ob 0 m c)) () := fun e vs _ k => h ▸ k
/-! ### noughts behind a row -/
structure AppSrc (P : Program) (e : Env) (a : Act) (w : World) {T : Type} (r : Rep T) (ys : List T) (y : Operand) (fl : List Value) (t t' el ty : TypeId) : Prop where
  len : fl.length = ys.length * r.sz
  one : ∀ v ∈ fl, one1 v = true
  rel : ∀ i (h : i < ys.length), r.rel e ys[i] ((fl.drop (i * r.sz)).take r.sz)
  none : ∀ cap, 0 + ys.length ≤ cap → (Builtin.append_ #[t, t'] ty #[.slice none 0 cap, a.eval y]).run P w = .ok (.slice none (0 + ys.length) cap) w
  room : ∀ (ad : Addr) sl cap w', sl + ys.length ≤ cap → (storeCells (ad.add (sl * r.sz)) fl).run P w = .ok () w' → (Builtin.append_ #[t, t'] ty #[.slice (some ad) sl cap, a.eval y]).run P w = .ok (.slice (some ad) (sl + ys.length) cap) w'
  grow : ∀ (i : TypeInfo) (zv : Value) sl cap nc (base : Option Addr) (old : Array Value), P.info? el = some i → i.zero = some zv → 0 < i.bytes → ¬ (sl + ys.length ≤ cap) → Builtin.nextslicecap (sl + ys.length) cap * i.bytes ≤ 281474976710656 → (sl + ys.length) ≤ 281474976710656 →
    (Question.appendCap (sl + ys.length) cap el).cut (w.tape w.drawn (Question.appendCap (sl + ys.length) cap el)) = nc → (Builtin.firstCells i.size sl (.slice base sl cap)).run P w.drew = .ok old w.drew →
    (Builtin.append_ #[t, t'] ty #[.slice base sl cap, a.eval y]).run P w = .ok (.slice (some ⟨w.heap.size, 0, Option.none⟩) (sl + ys.length) nc) (w.drew.alloc (.cells (old ++ fl.toArray ++ Builtin.zeroCells zv.cells (nc - (sl + ys.length))) el (0, 0)))
end
end Go.Proofs.Ytbmimaabgclhjaa.Fw
