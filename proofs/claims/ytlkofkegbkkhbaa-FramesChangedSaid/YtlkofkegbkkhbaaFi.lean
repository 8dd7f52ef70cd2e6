/- Calls, functions, loops. -/
import Derived.Test.YtlkofkegbkkhbaaFh
namespace Go.Proofs.Ytlkofkegbkkhbaa.Fw
open Go Go.RowKit
set_option linter.unusedVariables false
set_option linter.unusedSimpArgs false

def shiftW (n : Nat) : SW → SW
  | .ptr j o => .ptr (n + j) o
  | .own j => .own (n + j)
  | s => s
def shift1 (n : Nat) : SV1 → SV1
  | .one s => .one (shiftW n s)
  | .tup l => .tup (l.map (shiftW n))
theorem SWR.shift {e : Env} {β β' : List (Option Nat)} {X X' : List BX} {w : World} {s : SW} {v : Value} (hl : β.length = X.length) (h : SWR e β' X' w s v) : SWR e (β ++ β') (X ++ X') w (shiftW X.length s) v := by
  have hβ : ∀ j : Nat, (β ++ β')[X.length + j]? = β'[j]? := fun j => by rw [List.getElem?_append_right (by omega)]; congr 1; omega
  have hX : ∀ j : Nat, (X ++ X')[X.length + j]? = X'[j]? := fun j => by rw [List.getElem?_append_right (by omega)]; congr 1; omega
  cases s with
  | any => trivial
  | und => exact h
  | val p => exact h
  | fn f => exact h
  | ptr j off => obtain ⟨b, h1, h2⟩ := h; exact ⟨b, by rw [hβ]; exact h1, h2⟩
  | own j =>
    obtain ⟨T, r, xs, fz, h1, h2⟩ := h
    refine ⟨T, r, xs, fz, by rw [hX]; exact h1, ?_⟩
    rcases h2 with ⟨h2, h3⟩ | ⟨b, c, cs, el, fr, h2, h3⟩
    · exact .inl ⟨by rw [hβ]; exact h2, h3⟩
    · exact .inr ⟨b, c, cs, el, fr, by rw [hβ]; exact h2, h3⟩
theorem SVR.shift {e : Env} {β β' : List (Option Nat)} {X X' : List BX} {w : World} {s : SV1} {v : Value} (hl : β.length = X.length) (h : SVR e β' X' w s v) : SVR e (β ++ β') (X ++ X') w (shift1 X.length s) v := by
  cases s with
  | one s => exact SWR.shift hl h
  | tup l =>
    obtain ⟨vs, h1, h2, h3⟩ := h
    refine ⟨vs, h1, by simp [h2], fun i s hs => ?_⟩
    simp only [List.getElem?_map, Option.map_eq_some_iff] at hs
    obtain ⟨s0, hs0, rfl⟩ := hs
    exact SWR.shift hl (h3 i s0 hs0)

/-- What a call comes to. -/
structure Back (e0 : Env) (w0 : World) (bx : List BX) (sv : SV1) (en : Ending) (w' : World) : Prop where
  out : ∃ e' v β', en = .returned v ∧ e0.le e' ∧ MuNew e0 e' w0.heap.size ∧ Kept w0 w' ∧ (∀ ad v, e'.mu ad = some v → w'.cell? ad = some v) ∧
    List.length β' = bx.length ∧ (∀ (j : Nat) (b : BX) (ob : Option Nat), bx[j]? = some b → β'[j]? = some ob → BoxR e' w' b ob) ∧ (∀ (j b : Nat), β'[j]? = some (some b) → w0.heap.size ≤ b) ∧
    (∀ (i j b : Nat), β'[i]? = some (some b) → β'[j]? = some (some b) → i = j) ∧ SVR e' β' bx w' sv v
def ArgsR (e : Env) (ps : List VP) (vs : List Value) : Prop := vs.length = ps.length ∧ ∀ (i : Nat) (p : VP), ps[i]? = some p → p.p e (vs.getD i undef)
/-- A function's contract: handed these, it hands back that; nothing else turns. -/
def Sim (P : Program) (f : FuncId) (args : List VP) (bx : List BX) (sv : SV1) : Prop :=
  ∀ (e0 : Env) (w0 : World) (vs : List Value), (∀ ad v, e0.mu ad = some v → w0.cell? ad = some v) → ArgsR e0 args vs → Calls P f vs.toArray w0 (Back e0 w0 bx sv)

def initρ (args : List VP) : List (Nat × SV1) := args.zipIdx.map fun p => (p.2, .one (.val p.1))
theorem look_init (args : List VP) (n t : Nat) : look ((args.zipIdx n).map fun p => (p.2, SV1.one (.val p.1))) t = if n ≤ t then (args[t - n]?).map (fun p => SV1.one (.val p)) else none := by
  induction args generalizing n with
  | nil => simp [look]
  | cons p args ih =>
    simp only [List.zipIdx_cons, List.map_cons, look]
    by_cases h : n = t
    · subst h
      have : Nat.beq n n = true := by simp
      simp [this]
    · have hb : Nat.beq n t = false := by rw [← Bool.not_eq_true, Nat.beq_eq]; exact h
      rw [hb, cond_false, ih (n + 1)]
      by_cases h2 : n ≤ t
      · rw [if_pos (by omega), if_pos h2, show t - n = (t - (n + 1)) + 1 from by omega]
        rfl
      · rw [if_neg (by omega), if_neg h2]
def noF : Nat → Prop := fun _ => False
/-- Out of a walk of the body. -/
theorem Sim.of {P : Program} {f : FuncId} {fn : Func} {c : Code} {N : Nat} {args : List VP} {bx : List BX} {sv : SV1} (hf : P.funcs[f]? = some fn) (hb : fn.body = some c) (hN : fn.ntmps = N) (hargs : args.length ≤ N)
    (h : ∀ e0 w0, JC (M := HM.none) P ⟨N, e0, noF, w0⟩ c ⟨initρ args, [], ()⟩ (bodyPost P fn (Back e0 w0 bx sv))) : Sim P f args bx sv := by
  intro e0 w0 vs hfrz hvs
  refine calls_of_wp hf hb (h e0 w0 _ w0 ⟨e0, [], noF, ?_, rfl, hfrz, fun _ _ _ h => h, fun _ h => h, fun _ h => h.elim, rfl, ?_, ?_, ?_, ?_, ?_⟩)
  · have := hvs.1; simp [hN]; omega
  · intro j bx ob h; simp at h
  · intro j b h; simp at h
  · intro i j b h; simp at h
  · intro t sv ht
    have := look_init args 0 t
    simp only [Nat.zero_le, if_true, Nat.sub_zero] at this
    rw [show look (initρ args) t = _ from this] at ht
    cases hp : args[t]? with
    | none => rw [hp] at ht; cases ht
    | some p =>
      rw [hp] at ht
      cases ht
      have h1 := hvs.2 t p hp
      have hlt : t < vs.length := by rw [hvs.1]; exact (List.getElem?_eq_some_iff.1 hp).1
      have h2 : (vs.toArray ++ Array.replicate (fn.ntmps - vs.toArray.size) undef).getD t undef = vs.getD t undef := by
        simp [Array.getElem?_append, hlt, List.getD_eq_getElem?_getD]
      show p.p e0 _
      rw [h2]
      exact h1
  · exact ⟨Env.le.refl _, rfl, rfl, rfl, Nat.le_refl _, fun _ _ _ => rfl, fun _ h => h.elim, fun _ _ h => .inl h, fun j b h => by simp at h, fun ad v hm => World.block_lt_of_cell? w0 ad (hfrz ad v hm)⟩

section
variable {M : HM} {P : Program} {Bs : Base} {st st' : St M} {d : Nat} {ty t t' el : TypeId} {pos : String} {af : Array Edge} {g : Option (Nat × Bool)} {x y z : Operand}
variable {e : Env} {β : List (Option Nat)} {F : Nat → Prop} {a : Act} {w : World} {Q : Exit → Act → World → Prop}

theorem StE.boxes (h : StE Bs st e β F a w) {bx : List BX} {β' : List (Option Nat)} (hl : β'.length = bx.length) (hb : ∀ (j : Nat) (b : BX) (ob : Option Nat), bx[j]? = some b → β'[j]? = some ob → BoxR e w b ob)
    (hnew : ∀ (j b : Nat), β'[j]? = some (some b) → Bs.w0.heap.size ≤ b ∧ ¬ F b ∧ ∀ i : Nat, β[i]? ≠ some (some b)) (hd : ∀ (i j b : Nat), β'[i]? = some (some b) → β'[j]? = some (some b) → i = j) :
    StE Bs { st with X := st.X ++ bx } e (β ++ β') F a w := by
  induction bx generalizing st β β' with
  | nil => have : β' = [] := List.eq_nil_of_length_eq_zero (by simpa using hl); subst this; simpa using h
  | cons b bx ih =>
    obtain _ | ⟨ob, β'⟩ := β'
    · simp at hl
    have h1 := h.box (bx := b) (ob := ob) (hb 0 b ob rfl rfl) (fun c hc => hnew 0 c (by simp [hc]))
    have h2 := ih (st := { st with X := st.X ++ [b] }) (β := β ++ [ob]) (β' := β') h1 (by simpa using hl) (fun j b' ob' h1 h2 => hb (j + 1) b' ob' (by simpa using h1) (by simpa using h2))
      (fun j c hj => by
        obtain ⟨k1, k2, k3⟩ := hnew (j + 1) c (by simpa using hj)
        refine ⟨k1, k2, fun i hi => ?_⟩
        rcases Nat.lt_trichotomy i β.length with hl | hl | hl
        · rw [List.getElem?_append_left hl] at hi; exact k3 i hi
        · subst hl
          simp at hi
          subst hi
          have := hd 0 (j + 1) c (by simp) (by simpa using hj)
          omega
        · rw [List.getElem?_eq_none (by simp; omega)] at hi; cases hi)
      (fun i j c hi hj => by have := hd (i + 1) (j + 1) c (by simpa using hi) (by simpa using hj); omega)
    simpa using h2

def ArgsO (st : St M) : List Operand → List VP → Prop
  | [], [] => True
  | x :: xs, p :: ps => HasO st x (.one (.val p)) ∧ ArgsO st xs ps
  | _, _ => False
theorem ArgsO.get : ∀ {xs : List Operand} {ps : List VP}, ArgsO st xs ps → StE Bs st e β F a w → ArgsR e ps (xs.map a.eval)
  | [], [], _, _ => ⟨rfl, fun i p h => by simp at h⟩
  | x :: xs, p :: ps, h, hst => by
    obtain ⟨h1, h2⟩ := ArgsO.get h.2 hst
    refine ⟨by simp [h1], fun i q hq => ?_⟩
    obtain _ | i := i
    · simp at hq; subst hq; exact h.1.get hst
    · have := h2 i q (by simpa using hq)
      simpa using this
  | [], _ :: _, h, _ => h.elim
  | _ :: _, [], h, _ => h.elim
def callable (P : Program) (f : FuncId) : Bool := match P.funcs[f]? with | some fn => fn.name != "runtime.NumGoroutine" && fn.body.isSome | none => false
theorem run_callFunc {f : FuncId} {args : Array Value} (h : callable P f = true) : (callFunc f args).run P w = .ok (.enter f args) w := by
  unfold callable at h
  split at h
  · rename_i fn hfn
    simp only [Bool.and_eq_true, bne_iff_ne, ne_eq] at h
    have h2 : fn.body.isNone = false := by cases hb : fn.body <;> simp [hb] at h ⊢
    simp [callFunc, program, Sem.run, hfn, h.1, h2]
    intro hb
    simp [hb] at h2
  · cases h
theorem Oper.wp_calls {o : Oper} {f : FuncId} {args : Array Value} {K : Act → World → Prop} (hr : (execOp a.eval o).run P w = .ok (.enter f args) w) {R : Value → World → Prop} (hc : Calls P f args w fun en w' => ∃ v, en = .returned v ∧ R v w') (hK : ∀ v w', R v w' → K (a.put o.dst v) w') : o.wp P a w K Q := by
  unfold Oper.wp
  rw [hr]
  refine Calls.mono hc fun en w' hen => ?_
  obtain ⟨v, rfl, h⟩ := hen
  exact hK v w' h
/-- What a call has come to, in the caller's state. -/
theorem StE.back (h : StE Bs st e β F a w) {bx : List BX} {sv : SV1} {en : Ending} {w' : World} (hb : Back e w bx sv en w') : ∃ e' v β', en = .returned v ∧ StE Bs { st with X := st.X ++ bx } e' β' F a w' ∧ SVR e' β' (st.X ++ bx) w' (shift1 st.X.length sv) v := by
  obtain ⟨e', v, β', h1, h2, h3, h4, h5, h6, h7, h8, h9, h10⟩ := hb.out
  refine ⟨e', v, β ++ β', h1, (h.grow h2 h3 h4 h5).boxes h6 h7 (fun j b hj => ?_) h9, h10.shift h.bl⟩
  have := h8 j b hj
  exact ⟨Nat.le_trans h.base.size this, fun hF => by have := h.fsz _ hF; omega, fun i hi => by have := (h.bf i b hi).2; omega⟩
theorem op_call {f : FuncId} {xs : List Operand} {ats : Array TypeId} {args : List VP} {bx : List BX} {sv : SV1} (hd : d < Bs.N) (hc : callable P f = true) (hs : Sim P f args bx sv) (ha : ArgsO st xs args) :
    OpStep P Bs ⟨some d, .call { callee := .value (.func f), args := xs.toArray, argTypes := ats }, ty, pos, af, g⟩ st (St.set { st with X := st.X ++ bx } d (shift1 st.X.length sv)) := by
  intro a w ⟨e, β, F, h⟩ K Q hK
  refine Oper.wp_calls (f := f) (args := (xs.map a.eval).toArray) (R := fun v w' => ∃ e' β', StE Bs { st with X := st.X ++ bx } e' β' F a w' ∧ SVR e' β' (st.X ++ bx) w' (shift1 st.X.length sv) v) ?_ ?_ ?_
  · simp only [execOp, resolve, Act.eval, Deferred.ofValue, Sem.run_bind, Sem.run_pure, Result.andThen, invoke]
    rw [run_callFunc hc]
    simp [Act.eval]
  · refine (hs e w (xs.map a.eval) h.frz (ha.get h)).mono fun en w' hb => ?_
    obtain ⟨e', v, β', h1, h2, h3⟩ := h.back hb
    exact ⟨v, h1, e', β', h2, h3⟩
  · rintro v w' ⟨e', β', h1, h2⟩
    exact hK _ _ ⟨e', β', F, h1.put hd h2⟩

/-! ### the state told anew -/
def refLt (n : Nat) : SW → Bool
  | .ptr j _ => decide (j < n)
  | .own j => decide (j < n)
  | _ => true
def refLt1 (n : Nat) : SV1 → Bool
  | .one s => refLt n s
  | .tup l => l.all (refLt n)
def SubR (ρ : List (Nat × SV1)) (n : Nat) : List (Nat × SV1) → Prop
  | [] => True
  | p :: l => look ρ p.1 = some p.2 ∧ refLt1 n p.2 = true ∧ SubR ρ n l
theorem SubR.get {ρ : List (Nat × SV1)} {n : Nat} : ∀ {l : List (Nat × SV1)}, SubR ρ n l → ∀ {t sv}, look l t = some sv → look ρ t = some sv ∧ refLt1 n sv = true
  | [], _, t, sv, h => by cases h
  | (s, v) :: l, hs, t, sv, h => by
    simp only [look] at h
    cases hb : Nat.beq s t
    · rw [hb] at h; exact SubR.get hs.2.2 h
    · rw [hb] at h
      cases h
      have := Nat.eq_of_beq_eq_true hb
      subst this
      exact ⟨hs.1, hs.2.1⟩
/-- Fewer slots and fewer boxes are told of. -/
theorem Imp.norm {ρ' : List (Nat × SV1)} {X' : List BX} {n : Nat} (hX : st.X.take n = X') (hs : SubR st.ρ n ρ') : Imp Bs st { st with ρ := ρ', X := X' } := by
  intro a w ⟨e, β, F, h⟩
  subst hX
  have hβ : ∀ {i : Nat} {ob : Option Nat}, (β.take n)[i]? = some ob → i < n ∧ β[i]? = some ob := fun {i ob} hi => by
    have : i < n := by
      rcases Nat.lt_or_ge i n with h | h
      · exact h
      · rw [List.getElem?_eq_none (by simp; omega)] at hi; cases hi
    rw [List.getElem?_take_of_lt this] at hi
    exact ⟨this, hi⟩
  refine ⟨e, β.take n, F, h.nt, h.df, h.frz, h.mus, h.hr, h.fsz, by simp [h.bl], fun j bx ob h1 h2 => ?_, fun j b hj => h.bf j b (hβ hj).2, fun i j b hi hj => h.bd i j b (hβ hi).2 (hβ hj).2, fun t sv ht => ?_, ⟨h.base.le, h.base.os, h.base.tape, h.base.output, h.base.size, h.base.old, h.base.foot, h.base.mu, fun j b hj => h.base.fresh j b (hβ hj).2, h.base.e0lt⟩⟩
  · obtain ⟨h3, h4⟩ := hβ h2
    rw [List.getElem?_take_of_lt h3] at h1
    exact h.bx j bx ob h1 h4
  · obtain ⟨h1, h2⟩ := hs.get ht
    have key : ∀ s v, refLt n s = true → SWR e β st.X w s v → SWR e (β.take n) (st.X.take n) w s v := fun s v hr hv => by
      cases s with
      | any => trivial
      | und => exact hv
      | val p => exact hv
      | fn f => exact hv
      | ptr j off =>
        simp only [refLt, decide_eq_true_eq] at hr
        obtain ⟨b, h1, h2⟩ := hv
        exact ⟨b, by rw [List.getElem?_take_of_lt hr]; exact h1, h2⟩
      | own j =>
        simp only [refLt, decide_eq_true_eq] at hr
        obtain ⟨T, r, xs, fz, h1, h2⟩ := hv
        refine ⟨T, r, xs, fz, by rw [List.getElem?_take_of_lt hr]; exact h1, ?_⟩
        rcases h2 with h2 | ⟨b, c, cs, el, fr, h2, h3⟩
        · exact .inl ⟨by rw [List.getElem?_take_of_lt hr]; exact h2.1, h2.2⟩
        · exact .inr ⟨b, c, cs, el, fr, by rw [List.getElem?_take_of_lt hr]; exact h2, h3⟩
    have h0 := h.sl t sv h1
    cases sv with
    | one s => exact key s _ h2 h0
    | tup l =>
      obtain ⟨vs, k1, k2, k3⟩ := h0
      simp only [refLt1, List.all_eq_true] at h2
      exact ⟨vs, k1, k2, fun i s hs => key s _ (h2 s (List.mem_of_getElem? hs)) (k3 i s hs)⟩
theorem Imp.refl : Imp Bs st st := fun _ _ h => h
theorem Imp.trans {st'' : St M} (h : Imp Bs st st') (k : Imp Bs st' st'') : Imp Bs st st'' := fun a w hs => k a w (h a w hs)

/-! ### loops -/
theorem JC.loop {σ τ : Type} {c : Code} {stf : σ → St M} {body : σ → Option (σ ⊕ τ)} {k : Nat} {s : σ} {r : τ} (hm : loopO body k s = some r)
    (round : ∀ s x, body s = some x → (∀ t, x = .inr t → t = r) → JC P Bs c (stf s) (Exit.then (fun a w => ∃ s', x = .inl s' ∧ StR Bs (stf s') a w) Q)) : JC P Bs (.loop c) (stf s) Q := by
  intro a w hst b kk cs
  have key : ∀ k s a w, loopO body k s = some r → StR Bs (stf s) a w → ∃ e a' w', Q e a' w' ∧ Arrives P (lone (b.at a (.code c :: .inLoop c :: kk)) cs w) b kk cs e a' w' := by
    intro k
    induction k with
    | zero => intro s a w h _; cases h
    | succ k ih =>
      intro s a w h hst
      simp only [loopO] at h
      cases hb : body s with
      | none => rw [hb] at h; cases h
      | some x =>
        rw [hb] at h
        have hr : ∀ t, x = .inr t → t = r := fun t ht => by subst ht; simpa using h
        obtain ⟨ex, a₁, w₁, hq, harr⟩ := round s x hb hr a w hst b (.inLoop c :: kk) cs
        cases ex with
        | normal =>
          obtain ⟨s', rfl, hst'⟩ := hq
          obtain ⟨e₂, a₂, w₂, hq₂, harr₂⟩ := ih s' a₁ w₁ h hst'
          exact ⟨e₂, a₂, w₂, hq₂, .of_steps (Steps.trans harr (.one step_inLoop)) harr₂⟩
        | exit id => exact ⟨_, a₁, w₁, hq, .pass (x := .inLoop c) rfl (fun _ _ => .inl (by simp)) harr⟩
        | goto l => exact ⟨_, a₁, w₁, hq, .pass (x := .inLoop c) rfl (fun _ _ => .inl (by simp)) harr⟩
        | ret => exact ⟨_, a₁, w₁, hq, .pass (x := .inLoop c) rfl (fun _ _ => .inl (by simp)) harr⟩
        | panic ch => exact ⟨_, a₁, w₁, hq, .pass (x := .inLoop c) rfl (fun _ _ => .inl (by simp)) harr⟩
        | outgrown => exact ⟨_, a₁, w₁, hq, .pass (x := .inLoop c) rfl (fun _ _ => .inl (by simp)) harr⟩
  obtain ⟨ex, a', w', hq, harr⟩ := key k s a w hm hst
  exact ⟨ex, a', w', hq, .of_steps (.one step_loop) harr⟩
/-- The end of a round. -/
theorem JQ.next {σ τ : Type} {stf : σ → St M} {x : σ ⊕ τ} {s' : σ} (hx : x = .inl s') (i : Imp Bs st (stf s')) : JQ Bs .normal st (Exit.then (fun a w => ∃ s', x = .inl s' ∧ StR Bs (stf s') a w) Q) :=
  fun a w hst => ⟨s', hx, i a w hst⟩

/-! ### the end of a body -/
/-- What a result variable holds. -/
inductive HasR (P : Program) (st : St M) : ResultVar → SW → Prop
  | tmp {t : Nat} {s : SW} (h : look st.ρ t = some (.one s)) : HasR P st (.tmp t) s
  | cellS {t ty j : Nat} {T : Type} {r : Rep T} {v : T} (ht : tyS P ty = true) (hs : r.sz = 1) (h : look st.ρ t = some (.one (.ptr j 0))) (hX : st.X[j]? = some (.var T r v)) : HasR P st (.cell t ty) (.val (S r v))
  | cellA {t ty j : Nat} {T : Type} {r : Rep T} {v : T} (ht : tyA P ty r.sz = true) (h : look st.ρ t = some (.one (.ptr j 0))) (hX : st.X[j]? = some (.var T r v)) : HasR P st (.cell t ty) (.val (A r v))

def ResO (P : Program) (st : St M) : List ResultVar → List SW → Prop
  | [], [] => True
  | x :: xs, s :: ss => HasR P st x s ∧ ResO P st xs ss
  | _, _ => False
def mkR : List SW → SV1
  | [s] => .one s
  | l => .tup l
/-- What a result variable is read as. -/
def resV (tmps : Array Value) : ResultVar → Sem Value
  | .tmp t => pure (tmps.getD t undef)
  | .cell b t => do loadVar t (← asAddr (tmps.getD b undef))
theorem results_eq (fn : Func) (tmps : Array Value) : results fn tmps = (do let vs ← fn.results.mapM (resV tmps); pure (if h : vs.size = 1 then vs[0] else .tuple vs)) := by
  have : resV tmps = fun x => (match x with | .tmp t => pure (tmps.getD t undef) | .cell b t => do loadVar t (← asAddr (tmps.getD b undef)) : Sem Value) := by funext x; cases x <;> rfl
  rw [this]
  rfl
theorem HasR.run {x : ResultVar} {s : SW} (h : HasR P st x s) (hst : StE Bs st e β F a w) : ∃ v, (resV a.tmps x).run P w = .ok v w ∧ SWR e β st.X w s v := by
  cases h with
  | tmp h => exact ⟨_, rfl, hst.sl _ _ h⟩
  | cellS ht hs h hX =>
    rename_i t ty j T r v
    obtain ⟨b, hb, hv⟩ := hst.sl _ _ h
    obtain ⟨b', cs, el, fr, hb', h1, h2, h3, h4⟩ := hst.bx j _ _ hX hb
    cases hb'
    have hl := (r.len h3).trans hs
    obtain ⟨c, rfl⟩ := List.length_eq_one_iff.1 hl
    have hcell : w.cell? ⟨b, 0, none⟩ = some c := by rw [cell_of h1]; rfl
    exact ⟨c, by simp [resV, hv, asAddr, loadVar, rIsAggS ht, hcell], h3⟩
  | cellA ht h hX =>
    rename_i t ty j T r v
    obtain ⟨b, hb, hv⟩ := hst.sl _ _ h
    obtain ⟨b', cs, el, fr, hb', h1, h2, h3, h4⟩ := hst.bx j _ _ hX hb
    cases hb'
    refine ⟨.agg cs.toArray, ?_, cs, rfl, h3⟩
    simp only [resV, hv, asAddr, Sem.run_bind, Sem.run_pure, Result.andThen, loadVar, rIsAggA ht, if_true, rSize (tyA_sz ht)]
    rw [rloadCells P (r.len h3) (part_at (n := r.sz) h1 (by rw [List.drop_zero, ← r.len h3, List.take_length]))]
theorem ResO.run {xs : List ResultVar} {ss : List SW} (h : ResO P st xs ss) (hst : StE Bs st e β F a w) :
    ∃ vs : List Value, (xs.mapM (resV a.tmps)).run P w = .ok vs w ∧ vs.length = ss.length ∧ ∀ (i : Nat) (s : SW), ss[i]? = some s → SWR e β st.X w s (vs.getD i undef) := by
  induction xs generalizing ss with
  | nil =>
    cases ss with
    | nil => exact ⟨[], by simp, rfl, fun i s h => by simp at h⟩
    | cons s ss => exact h.elim
  | cons x xs ih =>
    cases ss with
    | nil => exact h.elim
    | cons s ss =>
      obtain ⟨v, h1, h2⟩ := h.1.run hst
      obtain ⟨vs, h3, h4, h5⟩ := ih h.2
      refine ⟨v :: vs, ?_, by simp [h4], fun i s' hs => ?_⟩
      · rw [List.mapM_cons]
        simp only [Sem.run_bind, h1, Result.andThen, h3, Sem.run_pure]
      · obtain _ | i := i
        · simp at hs; subst hs; exact h2
        · have := h5 i s' (by simpa using hs); simpa using this
theorem results_run {fn : Func} {xs : List ResultVar} {ss : List SW} (hr : fn.results = xs.toArray) (h : ResO P st xs ss) (hst : StE Bs st e β F a w) : ∃ v, (results fn a.tmps).run P w = .ok v w ∧ SVR e β st.X w (mkR ss) v := by
  obtain ⟨vs, h1, h2, h3⟩ := h.run hst
  rw [results_eq, hr, List.mapM_toArray]
  simp only [Sem.run_bind, Sem.run_map, h1, Result.andThen, Sem.run_pure]
  obtain _ | ⟨s, _ | ⟨s', ss⟩⟩ := ss
  · have : vs = [] := List.eq_nil_of_length_eq_zero (by simpa using h2)
    subst this
    exact ⟨.tuple #[], by simp, [], rfl, rfl, fun i s h => by simp at h⟩
  · obtain ⟨v, rfl⟩ := List.length_eq_one_iff.1 (by simpa using h2)
    exact ⟨v, by simp, h3 0 s rfl⟩
  · have : vs.length ≠ 1 := by simp at h2; omega
    exact ⟨.tuple vs.toArray, by simp [this], vs, rfl, h2, h3⟩
def renW (js : List Nat) : SW → SW
  | .own k => .own (js.getD k 0)
  | s => s
/-- A result as the caller sees it: rows of the call's own by their places. -/
def ResK (js : List Nat) : SW → Prop
  | .own k => k < js.length
  | .ptr _ _ => False
  | _ => True
theorem SWR.back {js : List Nat} {bx : List BX} {s : SW} {v : Value} (hst : StE Bs st e β F a w) (hk : ResK js s) (hbx : ∀ (k j : Nat), js[k]? = some j → j < st.X.length ∧ bx[k]? = st.X[j]?) (h : SWR e β st.X w (renW js s) v) :
    SWR e (js.map fun j => β.getD j none) bx w s v := by
  cases s with
  | any => trivial
  | und => exact h
  | val p => exact h
  | fn f => exact h
  | ptr j off => exact hk.elim
  | own k =>
    have hk : k < js.length := hk
    have hjs : js[k]? = some (js[k]) := List.getElem?_eq_getElem hk
    obtain ⟨hlt, hb⟩ := hbx k _ hjs
    obtain ⟨T, r, xs, fz, h1, h2⟩ := h
    have hg : js.getD k 0 = js[k] := by simp [List.getD_eq_getElem?_getD, hjs]
    rw [hg] at h1 h2
    have hβ : ∀ ob, β[js[k]]? = some ob → (js.map fun j => β.getD j none)[k]? = some ob := fun ob ho => by simp [hjs, List.getD_eq_getElem?_getD, ho]
    refine ⟨T, r, xs, fz, by rw [hb]; exact h1, ?_⟩
    rcases h2 with ⟨h2, h3⟩ | ⟨b, c, cs, el, fr, h2, h3⟩
    · exact .inl ⟨hβ _ h2, h3⟩
    · exact .inr ⟨b, c, cs, el, fr, hβ _ h2, h3⟩
theorem Kept.ofBase (hF : Bs.F0 = noF) (h : Bs.ok e F β w) : Kept Bs.w0 w := ⟨h.os, h.tape, h.output, h.size, fun b hb => h.old b hb (by rw [hF]; exact id)⟩
/-- The end: what is handed back. -/
theorem JQ.done {fn : Func} {xs : List ResultVar} {ss : List SW} {js : List Nat} {bx : List BX} {ex : Exit} (hex : ex = .ret ∨ ex = .normal) (hF : Bs.F0 = noF) (hr : fn.results = xs.toArray) (h : ResO P st xs (ss.map (renW js))) (hk : ∀ s ∈ ss, ResK js s)
    (hbx : ∀ (k j : Nat), js[k]? = some j → j < st.X.length ∧ bx[k]? = st.X[j]?) (hl : bx.length = js.length) (hn : js.Nodup) : JQ Bs ex st (bodyPost P fn (Back Bs.e0 Bs.w0 bx (mkR ss))) := by
  intro a w ⟨e, β, F, hst⟩
  obtain ⟨v, h1, h2⟩ := results_run hr h hst
  have hb : Back Bs.e0 Bs.w0 bx (mkR ss) (.returned v) w := by
    have hβ : ∀ (k : Nat) (ob : Option Nat), (js.map fun j => β.getD j none)[k]? = some ob → ∃ j, js[k]? = some j ∧ β[j]? = some ob := fun k ob ho => by
      simp only [List.getElem?_map, Option.map_eq_some_iff] at ho
      obtain ⟨j, hj, rfl⟩ := ho
      have hlt : j < β.length := by rw [hst.bl]; exact (hbx k j hj).1
      exact ⟨j, hj, by simp [List.getD_eq_getElem?_getD, List.getElem?_eq_getElem hlt]⟩
    refine ⟨e, v, js.map fun j => β.getD j none, rfl, hst.base.le, hst.base.mu, Kept.ofBase hF hst.base, hst.frz, by simp [hl], fun k b ob hb ho => ?_, fun k b ho => ?_, fun i k b hi hk' => ?_, ?_⟩
    · obtain ⟨j, hj, ho⟩ := hβ k ob ho
      exact hst.bx j b ob (by rw [← (hbx k j hj).2]; exact hb) ho
    · obtain ⟨j, hj, ho⟩ := hβ k _ ho
      exact hst.base.fresh j b ho
    · obtain ⟨j, hj, ho⟩ := hβ i _ hi
      obtain ⟨j', hj', ho'⟩ := hβ k _ hk'
      have := hst.bd j j' b ho ho'
      subst this
      exact (List.getElem?_inj (List.getElem?_eq_some_iff.1 hj).1 hn).1 (hj.trans hj'.symm)
    · match ss, h2, hk with
      | [], h2, _ =>
        obtain ⟨vs, k1, k2, k3⟩ := h2
        exact ⟨vs, k1, by simpa using k2, fun i s hs => by simp at hs⟩
      | [s], h2, hk => exact SWR.back hst (hk s (by simp)) hbx h2
      | s :: s' :: ss, h2, hk =>
        obtain ⟨vs, k1, k2, k3⟩ := h2
        refine ⟨vs, k1, by simpa using k2, fun i q hq => SWR.back hst (hk q (List.mem_of_getElem? hq)) hbx (k3 i _ ?_)⟩
        have : ((s :: s' :: ss).map (renW js))[i]? = some (renW js q) := by rw [List.getElem?_map, hq]; rfl
        exact this
  rcases hex with rfl | rfl
  · exact ⟨hst.df, v, h1, hb⟩
  · exact ⟨hst.df, v, h1, hb⟩

/-! ### what leans on no frozen memory -/
def Rep.Flat {T : Type} (r : Rep T) : Prop := ∀ e e' x vs, r.rel e x vs → r.rel e' x vs
theorem flatI (k : IntKind) : (rI k).Flat := fun _ _ _ _ h => h
theorem flatU (U : Type) [UK U] : (rU U).Flat := fun _ _ _ _ h => h
theorem flatB : rB.Flat := fun _ _ _ _ h => h
theorem flatS : rS.Flat := fun _ _ _ _ h => h
theorem flatV {T : Type} {r : Rep T} (n : Nat) (h : r.Flat) : (rV n r).Flat := fun e e' x vs ⟨a, b, c⟩ => ⟨a, b, fun i hi => h e e' _ _ (c i hi)⟩
theorem flatP {T U : Type} {r : Rep T} {s : Rep U} (h : r.Flat) (k : s.Flat) : (rP r s).Flat := fun e e' x vs ⟨a, b, c, p, q⟩ => ⟨a, b, c, h e e' _ _ p, k e e' _ _ q⟩
theorem flatM {T U : Type} {f : U → T} {r : Rep T} (h : r.Flat) : (rM f r).Flat := fun e e' x vs k => h e e' _ _ k
theorem flat0 : r0.Flat := fun _ _ _ _ h => h
def VP.Flat (p : VP) : Prop := ∀ e e' v, p.p e v → p.p e' v
theorem flatVS {T : Type} {r : Rep T} {x : T} (h : r.Flat) : (S r x).Flat := fun e e' v k => h e e' x [v] k
theorem flatVA {T : Type} {r : Rep T} {x : T} (h : r.Flat) : (A r x).Flat := fun e e' v ⟨vs, a, b⟩ => ⟨vs, a, h e e' x vs b⟩
def FlatW : SW → Prop
  | .val p => p.Flat
  | .own _ => True
  | _ => False
def isVal : SW → Bool
  | .val _ => true
  | _ => false
/-- A row of the call's own, thawed. -/
def thaw : BX → BX
  | .own T r xs _ => .own T r xs 0
  | b => b
def FlatB : BX → Prop
  | .own _ r _ _ => r.Flat
  | _ => False
/-- The end, where what is handed back leans on no frozen memory: it is the caller's to turn. -/
theorem JQ.doneF {fn : Func} {xs : List ResultVar} {ss : List SW} {js : List Nat} {bx : List BX} {ex : Exit} (hex : ex = .ret ∨ ex = .normal) (hF : Bs.F0 = noF) (hr : fn.results = xs.toArray) (h : ResO P st xs (ss.map (renW js))) (hk : ∀ s ∈ ss, ResK js s) (hfl : ∀ s ∈ ss, FlatW s)
    (hbx : ∀ (k j : Nat), js[k]? = some j → j < st.X.length ∧ bx[k]? = (st.X[j]?).map thaw) (hfb : ∀ (k j : Nat) (b : BX), js[k]? = some j → st.X[j]? = some b → FlatB b) (hl : bx.length = js.length) (hn : js.Nodup) : JQ Bs ex st (bodyPost P fn (Back Bs.e0 Bs.w0 bx (mkR ss))) := by
  intro a w ⟨e, β, F, hst⟩
  obtain ⟨v, h1, h2⟩ := results_run hr h hst
  have hfresh : ∀ (j b : Nat), β[j]? = some (some b) → ∀ ad u, Bs.e0.mu ad = some u → ad.block ≠ b := fun j b hj ad u hm hab => by
    have h1 := hst.base.fresh j b hj
    have h2 := hst.base.e0lt ad u hm
    omega
  have hback : ∀ s ∈ ss, ∀ v, SWR e β st.X w (renW js s) v → SWR Bs.e0 (js.map fun j => β.getD j none) bx w s v := fun s hs v h => by
    have hks := hk s hs
    have hfs := hfl s hs
    cases s with
    | any => trivial
    | und => exact h
    | fn f => exact h
    | ptr j off => exact hks.elim
    | val p => exact hfs e Bs.e0 v h
    | own k =>
      have hk : k < js.length := hks
      have hjs : js[k]? = some (js[k]) := List.getElem?_eq_getElem hk
      obtain ⟨hlt, hb⟩ := hbx k _ hjs
      obtain ⟨T, r, xs, fz, h1, h2⟩ := h
      have hg : js.getD k 0 = js[k] := by simp [List.getD_eq_getElem?_getD, hjs]
      rw [hg] at h1 h2
      have hβ : ∀ ob, β[js[k]]? = some ob → (js.map fun j => β.getD j none)[k]? = some ob := fun ob ho => by simp [hjs, List.getD_eq_getElem?_getD, ho]
      refine ⟨T, r, xs, 0, by rw [hb, h1]; rfl, ?_⟩
      rcases h2 with ⟨h2, h3⟩ | ⟨b, c, cs, el, fr, h2, h3⟩
      · exact .inl ⟨hβ _ h2, h3⟩
      · exact .inr ⟨b, c, cs, el, fr, hβ _ h2, h3⟩
  have hb : Back Bs.e0 Bs.w0 bx (mkR ss) (.returned v) w := by
    have hβ : ∀ (k : Nat) (ob : Option Nat), (js.map fun j => β.getD j none)[k]? = some ob → ∃ j, js[k]? = some j ∧ β[j]? = some ob := fun k ob ho => by
      simp only [List.getElem?_map, Option.map_eq_some_iff] at ho
      obtain ⟨j, hj, rfl⟩ := ho
      have hlt : j < β.length := by rw [hst.bl]; exact (hbx k j hj).1
      exact ⟨j, hj, by simp [List.getD_eq_getElem?_getD, List.getElem?_eq_getElem hlt]⟩
    refine ⟨Bs.e0, v, js.map fun j => β.getD j none, rfl, Env.le.refl _, MuNew.refl _ _, Kept.ofBase hF hst.base, fun ad u hm => hst.frz ad u (hst.base.le.mu hm), by simp [hl], fun k b ob hb ho => ?_, fun k b ho => ?_, fun i k b hi hk' => ?_, ?_⟩
    · obtain ⟨j, hj, ho⟩ := hβ k ob ho
      obtain ⟨hlt, hbk⟩ := hbx k j hj
      have hXj : st.X[j]? = some st.X[j] := List.getElem?_eq_getElem hlt
      rw [hXj] at hbk
      rw [hbk] at hb
      have hflb := hfb k j _ hj hXj
      have hbox := hst.bx j _ ob hXj ho
      generalize st.X[j] = bj at hb hflb hbox
      cases bj with
      | gone => exact hflb.elim
      | var T r x => exact hflb.elim
      | own T r xs fz =>
        cases hb
        rcases hbox with ⟨h1, h2, _⟩ | ⟨b, cs, el, fr, hob, k1, k2, k3, k4, k5, k6, k7⟩
        · exact .inl ⟨h1, h2, rfl⟩
        · subst hob
          exact .inr ⟨b, cs, el, fr, rfl, k1, k2, k3, fun i hi => hflb e Bs.e0 _ _ (k4 i hi), fun ad u hm hab => absurd hab (hfresh j b ho ad u hm), by omega, fun q u hq => by simp at hq⟩
    · obtain ⟨j, hj, ho⟩ := hβ k _ ho
      exact hst.base.fresh j b ho
    · obtain ⟨j, hj, ho⟩ := hβ i _ hi
      obtain ⟨j', hj', ho'⟩ := hβ k _ hk'
      have := hst.bd j j' b ho ho'
      subst this
      exact (List.getElem?_inj (List.getElem?_eq_some_iff.1 hj).1 hn).1 (hj.trans hj'.symm)
    · match ss, h2, hback with
      | [], h2, _ =>
        obtain ⟨vs, k1, k2, k3⟩ := h2
        exact ⟨vs, k1, by simpa using k2, fun i s hs => by simp at hs⟩
      | [s], h2, hback => exact hback s (by simp) _ h2
      | s :: s' :: ss, h2, hback =>
        obtain ⟨vs, k1, k2, k3⟩ := h2
        refine ⟨vs, k1, by simpa using k2, fun i q hq => hback q (List.mem_of_getElem? hq) _ (k3 i _ ?_)⟩
        have : ((s :: s' :: ss).map (renW js))[i]? = some (renW js q) := by rw [List.getElem?_map, hq]; rfl
        exact this
  rcases hex with rfl | rfl
  · exact ⟨hst.df, v, h1, hb⟩
  · exact ⟨hst.df, v, h1, hb⟩
end
end Go.Proofs.Ytlkofkegbkkhbaa.Fw
