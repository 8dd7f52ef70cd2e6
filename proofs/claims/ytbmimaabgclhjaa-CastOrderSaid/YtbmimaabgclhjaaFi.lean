/- Calls; loops; the end of a body. -/
import Derived.Test.YtbmimaabgclhjaaFh
namespace Go.Proofs.Ytbmimaabgclhjaa.Fw
open Go Go.RowKit
set_option linter.unusedVariables false
set_option linter.unusedSimpArgs false

/-- The blocks of some pieces. -/
def footX (X : List Chunk) (b : Nat) : Prop := ∃ c ∈ X, c.foot b
/-- What a call has come to. -/
def Back (e0 : Env) (w0 : World) (F0 : Nat → Prop) (X : List Chunk) (sv : SV1) (en : Ending) (w' : World) : Prop :=
  ∃ e' v, en = .returned v ∧ e0.le e' ∧ (∀ ad v, e'.mu ad = some v → e0.mu ad = some v ∨ w0.heap.size ≤ ad.block ∨ F0 ad.block) ∧ KeptX F0 w0 w' ∧
    (∀ ad v, e'.mu ad = some v → w'.cell? ad = some v) ∧ (∀ c ∈ X, c.R e' w') ∧ X.Pairwise Dj ∧ (∀ c ∈ X, ∀ b, c.foot b → F0 b ∨ w0.heap.size ≤ b) ∧ SVR e' sv v
/-- A call of a function: given these, with these pieces of memory, it hands back that, and those pieces. -/
def Sim (P : Program) (f : FuncId) (args : List VP) (X : List Chunk) {γ : Type} (X' : γ → List Chunk) (sv : γ → SV1) : Prop :=
  ∀ (e : Env) (w : World) (vs : List Value), (∀ ad v, e.mu ad = some v → w.cell? ad = some v) → (∀ c ∈ X, c.R e w) → X.Pairwise Dj → ArgsR e args vs →
    CallsIn (WF none) 0 P f vs.toArray w fun en w' => ∃ g, Back e w (footX X) (X' g) (sv g) en w'
/-- A call of a loop's round. -/
def SimY (P : Program) (l : Nat) (args : List VP) (X : List Chunk) {γ : Type} (X' : γ → List Chunk) (sv : γ → SV1) : Prop :=
  ∀ (e : Env) (w : World) (vs : List Value), (∀ ad v, e.mu ad = some v → w.cell? ad = some v) → (∀ c ∈ X, c.R e w) → X.Pairwise Dj → ArgsR e args vs →
    ∃ fn tmps assign body, (Instr.yield l vs.toArray).run P w = .ok (.round l fn tmps assign body) w ∧ RoundIn (WF none) 0 P l fn tmps assign body w fun en w' => ∃ g, Back e w (footX X) (X' g) (sv g) en w'

def initρ (args : List VP) : List (Nat × SV1) := args.zipIdx.map fun p => (p.2, .one (.val p.1))
theorem look_init (args : List VP) (n t : Nat) : look ((args.zipIdx n).map fun p => (p.2, SV1.one (.val p.1))) t = if n ≤ t then (args[t - n]?).map (fun p => SV1.one (.val p)) else none := by
  induction args generalizing n with
  | nil => simp [look]
  | cons p args ih =>
    simp only [List.zipIdx_cons, List.map_cons, look]
    by_cases h : n = t
    · subst h
      simp
    · have hb : Nat.beq n t = false := by rw [← Bool.not_eq_true, Nat.beq_eq]; exact h
      rw [hb, cond_false, ih (n + 1)]
      by_cases h2 : n ≤ t
      · rw [if_pos (by omega), if_pos h2, show t - n = (t - (n + 1)) + 1 from by omega]
        rfl
      · rw [if_neg (by omega), if_neg h2]
/-- Out of a walk of the body. -/
theorem Sim.of {P : Program} {f : FuncId} {fn : Func} {c : Code} {N : Nat} {args : List VP} {X : List Chunk} {γ : Type} {X' : γ → List Chunk} {sv : γ → SV1} (hf : P.funcs[f]? = some fn) (hb : fn.body = some c) (hN : fn.ntmps = N) (hargs : args.length ≤ N)
    (h : ∀ e0 w0, JC P ⟨N, none, e0, footX X, w0⟩ c ⟨initρ args, X, []⟩ (bodyPostM (WF none) 0 P fn fun en w' => ∃ g, Back e0 w0 (footX X) (X' g) (sv g) en w')) : Sim P f args X X' sv := by
  intro e0 w0 vs hfrz hX hdj hvs
  refine callsIn_of_wp_marks hf hb trivial (h e0 w0 _ w0 ⟨e0, ?_, rfl, hfrz, hX, hdj, ?_, ?_⟩)
  · have := hvs.1; simp [hN]; omega
  · intro t sv ht
    have := look_init args 0 t
    simp only [Nat.zero_le, if_true, Nat.sub_zero] at this
    rw [show look (initρ args) t = _ from this] at ht
    cases hp : args[t]? with
    | none => rw [hp] at ht; cases ht
    | some p =>
      rw [hp] at ht
      cases ht
      have h1 := hvs.2 t p hp
      have hlt : t < vs.length := by rw [hvs.1]; exact (List.getElem?_eq_some_iff.1 hp).1
      have h2 : (vs.toArray ++ Array.replicate (fn.ntmps - vs.toArray.size) undef).getD t undef = vs.getD t undef := by
        simp [Array.getElem?_append, hlt, List.getD_eq_getElem?_getD]
      show p.p e0 _
      rw [h2]
      exact h1
  · exact ⟨Env.le.refl _, rfl, rfl, rfl, Nat.le_refl _, fun _ _ _ => rfl, fun c hc b hb => .inl ⟨c, hc, hb⟩, fun _ _ h => .inl h⟩

/-- Some pieces taken out of a list, by their places (each place told of what is left). -/
def picks (X : List Chunk) : List Nat → Option (List Chunk × List Chunk)
  | [] => some ([], X)
  | j :: js => match X[j]? with
    | none => none
    | some c => match picks (X.eraseIdx j) js with
      | none => none
      | some (A, B) => some (c :: A, B)
theorem picks_perm : ∀ {js : List Nat} {X A B : List Chunk}, picks X js = some (A, B) → X.Perm (A ++ B)
  | [], X, A, B, h => by cases h; exact List.Perm.refl _
  | j :: js, X, A, B, h => by
    unfold picks at h
    split at h
    · cases h
    · rename_i c hc
      split at h
      · cases h
      · rename_i A' B' h'
        cases h
        exact (perm_set hc).trans ((picks_perm h').cons c)

section
variable {P : Program} {Bs : Base} {st st' : St} {d : Nat} {ty t t' el : TypeId} {pos : String} {af : Array Edge} {g : Option (Nat × Bool)} {x y z : Operand}
variable {e : Env} {a : Act} {w : World} {Q : Exit → Act → World → Prop}

def ArgsO (st : St) : List Operand → List VP → Prop
  | [], [] => True
  | x :: xs, p :: ps => HasO st x (.one (.val p)) ∧ ArgsO st xs ps
  | _, _ => False
theorem ArgsO.nil : ArgsO st [] [] := trivial
theorem ArgsO.cons {x : Operand} {p : VP} {xs : List Operand} {ps : List VP} (h : HasO st x (.one (.val p))) (k : ArgsO st xs ps) : ArgsO st (x :: xs) (p :: ps) := ⟨h, k⟩
theorem ArgsO.get : ∀ {xs : List Operand} {ps : List VP}, ArgsO st xs ps → StE Bs st e a w → ArgsR e ps (xs.map a.eval)
  | [], [], _, _ => ⟨rfl, fun i p h => by simp at h⟩
  | x :: xs, p :: ps, h, hst => by
    obtain ⟨h1, h2⟩ := ArgsO.get h.2 hst
    refine ⟨by simp [h1], fun i q hq => ?_⟩
    obtain _ | i := i
    · simp at hq; subst hq; exact h.1.get hst
    · have := h2 i q (by simpa using hq)
      simpa using this
  | [], _ :: _, h, _ => h.elim
  | _ :: _, [], h, _ => h.elim
theorem ArgsR.append {e : Env} {ps qs : List VP} {vs us : List Value} (h : ArgsR e ps vs) (k : ArgsR e qs us) : ArgsR e (ps ++ qs) (vs ++ us) := by
  refine ⟨by simp [h.1, k.1], fun i p hp => ?_⟩
  by_cases hi : i < ps.length
  · rw [List.getElem?_append_left hi] at hp
    have := h.2 i p hp
    rwa [List.getD_eq_getElem?_getD, List.getElem?_append_left (by rw [h.1]; exact hi), ← List.getD_eq_getElem?_getD]
  · rw [List.getElem?_append_right (by omega)] at hp
    have := k.2 _ p hp
    rw [List.getD_eq_getElem?_getD, List.getElem?_append_right (by rw [h.1]; omega), h.1, ← List.getD_eq_getElem?_getD]
    exact this
def callable (P : Program) (f : FuncId) : Bool := match P.funcs[f]? with | some fn => fn.name != "runtime.NumGoroutine" && fn.body.isSome | none => false
theorem run_callFunc {f : FuncId} {args : Array Value} (h : callable P f = true) : (callFunc f args).run P w = .ok (.enter f args) w := by
  unfold callable at h
  split at h
  · rename_i fn hfn
    simp only [Bool.and_eq_true, bne_iff_ne, ne_eq] at h
    have h2 : fn.body.isNone = false := by cases hb : fn.body <;> simp [hb] at h ⊢
    simp [callFunc, program, Sem.run, hfn, h.1, h2]
    intro hb
    simp [hb] at h2
  · cases h
/-- What a call has come to, in the caller's state. -/
theorem StE.back (h : StE Bs st e a w) {A B X : List Chunk} {sv : SV1} {en : Ending} {w' : World} (hX : st.X.Perm (A ++ B)) (hb : Back e w (footX A) X sv en w') : ∃ e' v, en = .returned v ∧ StE Bs { st with X := X ++ B } e' a w' ∧ SVR e' sv v := by
  obtain ⟨e', v, h1, h2, h3, h4, h5, h6, h7, h8, h9⟩ := hb
  exact ⟨e', v, h1, h.turn hX h2 h3 h4 h5 h6 h7 h8, h9⟩
theorem run_call {f : FuncId} {fo : Operand} {xs : List Operand} {ats : Array TypeId} {dst : Option Nat} {cs : List Value} (hc : callable P f = true) (hf : a.eval fo = .func (.func f) #[] cs.toArray) :
    (execOp a.eval ⟨dst, .call { callee := .value fo, args := xs.toArray, argTypes := ats }, ty, pos, af, g⟩).run P w = .ok (.enter f (xs.map a.eval ++ cs).toArray) w := by
  simp only [execOp, resolve, Sem.run_bind, hf, Deferred.ofValue, Sem.run_pure, Result.andThen, invoke]
  have : ((#[] : Array Value) ++ Array.map a.eval xs.toArray) ++ cs.toArray = (xs.map a.eval ++ cs).toArray := by simp
  rw [this]
  exact run_callFunc hc
def setO (st : St) : Option Nat → SV1 → St
  | some d, sv => st.set d sv
  | none, _ => st
theorem StE.putO (h : StE Bs st e a w) {dst : Option Nat} {sv : SV1} {v : Value} (hd : ∀ d, dst = some d → d < Bs.N) (hv : SVR e sv v) : StE Bs (setO st dst sv) e (a.put dst v) w := by
  cases dst with
  | none => exact h
  | some d => exact h.put (hd d rfl) hv
/-- A call. -/
theorem op_call {f : FuncId} {fo : Operand} {xs : List Operand} {ats : Array TypeId} {args cps : List VP} {Xin rest : List Chunk} {γ : Type} {X' : γ → List Chunk} {sv : γ → SV1} {js : List Nat} {dst : Option Nat} (hd : ∀ d, dst = some d → d < Bs.N) (hc : callable P f = true)
    (hs : Sim P f (args ++ cps) Xin X' sv) (hf : HasO st fo (.one (.val (CLO f cps)))) (ha : ArgsO st xs args) (hp : picks st.X js = some (Xin, rest)) :
    OpX P Bs ⟨dst, .call { callee := .value fo, args := xs.toArray, argTypes := ats }, ty, pos, af, g⟩ st (fun q => setO { st with X := X' q ++ rest } dst (sv q)) := by
  intro a w ⟨e, hst⟩ K Q hK
  obtain ⟨cs, hcs, hcr⟩ : ∃ cs : List Value, a.eval fo = .func (.func f) #[] cs.toArray ∧ ArgsR e cps cs := hf.get hst
  have hr := run_call (P := P) (w := w) (ty := ty) (pos := pos) (af := af) (g := g) (xs := xs) (ats := ats) (dst := dst) hc hcs
  refine ⟨fun _ _ => trivial, ?_⟩
  rw [Oper.semAt_eq _ _ _ (nodefer_ne rfl), hr]
  refine ⟨fun h => (by simp at h), ?_⟩
  have hperm := picks_perm hp
  have hXin : ∀ c ∈ Xin, c ∈ st.X := fun c hc => hperm.mem_iff.2 (List.mem_append_left _ hc)
  have hdj : Xin.Pairwise Dj := (List.pairwise_append.1 (hperm.pairwise hst.dj (fun {_ _} h => Dj.symm h))).1
  have hcall := hs e w _ hst.frz (fun c hc => hst.xs c (hXin c hc)) hdj ((ha.get hst).append hcr)
  refine CallsIn.mono (F := WF Bs.ro) hcall fun en w' ⟨q, hb⟩ => ?_
  obtain ⟨e', v, rfl, hst', hv⟩ := hst.back hperm hb
  exact hK q _ _ ⟨e', hst'.putO hd hv⟩
/-- A round. -/
theorem op_callY {l : Nat} {fo : Operand} {xs : List Operand} {ats : Array TypeId} {args : List VP} {Xin rest : List Chunk} {γ : Type} {X' : γ → List Chunk} {sv : γ → SV1} {js : List Nat} {dst : Option Nat} (hd : ∀ d, dst = some d → d < Bs.N)
    (hs : SimY P l args Xin X' sv) (hf : HasO st fo (.one (.val (YLD l)))) (ha : ArgsO st xs args) (hp : picks st.X js = some (Xin, rest)) :
    OpX P Bs ⟨dst, .call { callee := .value fo, args := xs.toArray, argTypes := ats }, ty, pos, af, g⟩ st (fun q => setO { st with X := X' q ++ rest } dst (sv q)) := by
  intro a w ⟨e, hst⟩ K Q hK
  have hcs : a.eval fo = .func (.yield l) #[] #[] := hf.get hst
  have hperm := picks_perm hp
  have hXin : ∀ c ∈ Xin, c ∈ st.X := fun c hc => hperm.mem_iff.2 (List.mem_append_left _ hc)
  have hdj : Xin.Pairwise Dj := (List.pairwise_append.1 (hperm.pairwise hst.dj (fun {_ _} h => Dj.symm h))).1
  obtain ⟨fn, tmps, assign, body, hy, hround⟩ := hs e w _ hst.frz (fun c hc => hst.xs c (hXin c hc)) hdj (ha.get hst)
  have hr : (execOp a.eval ⟨dst, .call { callee := .value fo, args := xs.toArray, argTypes := ats }, ty, pos, af, g⟩).run P w = .ok (.round l fn tmps assign body) w := by
    simp only [execOp, resolve, Sem.run_bind, hcs, Deferred.ofValue, Sem.run_pure, Result.andThen, invoke]
    have : ((#[] : Array Value) ++ Array.map a.eval xs.toArray) = (xs.map a.eval).toArray := by simp
    rw [this]
    exact hy
  refine ⟨fun _ _ => trivial, ?_⟩
  rw [Oper.semAt_eq _ _ _ (nodefer_ne rfl), hr]
  refine ⟨fun h => (by simp at h), ?_⟩
  refine RoundIn.mono (F := WF Bs.ro) hround fun en w' ⟨q, hb⟩ => ?_
  obtain ⟨e', v, rfl, hst', hv⟩ := hst.back hperm hb
  exact hK q _ _ ⟨e', hst'.putO hd hv⟩
/-- A function value is made. -/
theorem op_makeFunc {f : FuncId} {xs : List Operand} {cps : List VP} (hd : d < Bs.N) (ha : ArgsO st xs cps) : OpStep P Bs ⟨some d, .makeFunc (.func f) #[] xs.toArray, ty, pos, af, g⟩ st (st.set d (.one (.val (CLO f cps)))) :=
  .value hd fun e a w h => ⟨_, by simp [execOp, Instr.makeFunc]; rfl, xs.map a.eval, by simp, ha.get h⟩

/-! ### what is told of a state, told anew -/
def SubR (ρ : List (Nat × SV1)) : List (Nat × SV1) → Prop
  | [] => True
  | p :: l => look ρ p.1 = some p.2 ∧ SubR ρ l
theorem SubR.nil {ρ : List (Nat × SV1)} : SubR ρ [] := trivial
theorem SubR.cons {ρ l : List (Nat × SV1)} {s : Nat} {sv : SV1} (h : look ρ s = some sv) (k : SubR ρ l) : SubR ρ ((s, sv) :: l) := ⟨h, k⟩
theorem SubR.get {ρ : List (Nat × SV1)} : ∀ {l : List (Nat × SV1)}, SubR ρ l → ∀ {t sv}, look l t = some sv → look ρ t = some sv
  | [], _, t, sv, h => by cases h
  | (s, v) :: l, hs, t, sv, h => by
    rcases look_cons h with ⟨rfl, rfl⟩ | ⟨_, h⟩
    · exact hs.1
    · exact SubR.get hs.2 h
theorem StE.drop (h : StE Bs st e a w) {A B : List Chunk} (hX : st.X.Perm (A ++ B)) : StE Bs { st with X := A } e a w := by
  have hP := List.pairwise_append.1 (hX.pairwise h.dj (fun {_ _} h => Dj.symm h))
  have hm : ∀ c ∈ A, c ∈ st.X := fun c hc => hX.mem_iff.2 (List.mem_append_left _ hc)
  exact ⟨h.nt, h.df, h.frz, fun c hc => h.xs c (hm c hc), hP.1, h.sl, ⟨h.base.le, h.base.os, h.base.tape, h.base.output, h.base.size, h.base.old, fun c hc => h.base.foot c (hm c hc), h.base.mu⟩⟩
/-- Some slots, some pieces. -/
theorem Imp.norm {ρ' : List (Nat × SV1)} {A B : List Chunk} {js : List Nat} (hX : picks st.X js = some (A, B)) (hs : SubR st.ρ ρ') : Imp Bs st ⟨ρ', A, st.df⟩ := fun a w ⟨e, h⟩ =>
  ⟨e, (h.drop (picks_perm hX)).weak (st := { st with X := A }) fun t sv ht => hs.get ht⟩
/-- A slot is told less of. -/
theorem Imp.slot {s : Nat} {p q : VP} (hs : look st.ρ s = some (.one (.val p))) (k : ∀ e v, p.p e v → q.p e v) : Imp Bs st { st with ρ := (s, .one (.val q)) :: st.ρ } := fun a w ⟨e, h⟩ =>
  ⟨e, h.nt, h.df, h.frz, h.xs, h.dj, fun t sv ht => by
    rcases look_cons ht with ⟨rfl, rfl⟩ | ⟨_, ht⟩
    · exact k e _ (h.sl _ _ hs)
    · exact h.sl t sv ht, h.base⟩
/-- A piece is told less of. -/
theorem Imp.chunk {j : Nat} {c c' : Chunk} (hX : st.X[j]? = some c) (k : ∀ e w, c.R e w → c'.R e w) (hf : ∀ b, c'.foot b → c.foot b) : Imp Bs st { st with X := st.X.set j c' } := fun a w ⟨e, h⟩ =>
  ⟨e, h.turn1 hX (Env.le.refl e) (fun ad v hm => .inl hm) ((Kept.refl w).x _) h.frz (k e w (h.xs _ (List.mem_of_getElem? hX))) fun b hb => .inl (hf b hb)⟩
theorem wkVar {b : Nat} {T U : Type} {r : Rep T} {x : T} {s : Rep U} {y : U} (h : ∀ e vs, r.rel e x vs → s.rel e y vs) : ∀ e w, (cvar b r x).R e w → (cvar b s y).R e w := fun e w ⟨cs, el, fr, h1, h2, h3, h4⟩ => ⟨cs, el, fr, h1, h2, h e cs h3, h4⟩

/-! ### loops -/
theorem JC.loop {σ τ γ : Type} {c : Code} {stf : σ → γ → St} {body : σ → Option (σ ⊕ τ)} {k : Nat} {s : σ} {q : γ} {r : τ} (hm : loopO body k s = some r)
    (round : ∀ s q x, body s = some x → (∀ t, x = .inr t → t = r) → JC P Bs c (stf s q) (Exit.then (fun a w => ∃ s' q', x = .inl s' ∧ StR Bs (stf s' q') a w) Q)) : JC P Bs (.loop c) (stf s q) Q := by
  intro a w hst b kk cs hro hb hr
  have key : ∀ k s q a w, loopO body k s = some r → StR Bs (stf s q) a w → ∃ e a' w', Q e a' w' ∧ ArrivesIn (Machine.fenced P (WF Bs.ro)) P (lone (b.atR a (.code c :: .inLoop c :: kk)) cs w) b kk cs e a' w' := by
    intro k
    induction k with
    | zero => intro s q a w h _; cases h
    | succ k ih =>
      intro s q a w h hst
      simp only [loopO] at h
      cases hbd : body s with
      | none => rw [hbd] at h; cases h
      | some x =>
        rw [hbd] at h
        have hrr : ∀ t, x = .inr t → t = r := fun t ht => by subst ht; simpa using h
        obtain ⟨ex, a₁, w₁, hq, harr⟩ := round s q x hbd hrr a w hst b (.inLoop c :: kk) cs hro hb hr
        cases ex with
        | normal =>
          obtain ⟨s', q', rfl, hst'⟩ := hq
          obtain ⟨e₂, a₂, w₂, hq₂, harr₂⟩ := ih s' q' a₁ w₁ h hst'
          exact ⟨e₂, a₂, w₂, hq₂, .of_steps (StepsIn.trans harr (.one (fenced_calm hb hr rfl) stepR_inLoop)) harr₂⟩
        | exit id => exact ⟨_, a₁, w₁, hq, .pass (x := .inLoop c) rfl (fun _ _ => .inl (by simp)) harr⟩
        | goto l => exact ⟨_, a₁, w₁, hq, .pass (x := .inLoop c) rfl (fun _ _ => .inl (by simp)) harr⟩
        | ret => exact ⟨_, a₁, w₁, hq, .pass (x := .inLoop c) rfl (fun _ _ => .inl (by simp)) harr⟩
        | panic ch => exact ⟨_, a₁, w₁, hq, .pass (x := .inLoop c) rfl (fun _ _ => .inl (by simp)) harr⟩
        | outgrown => exact ⟨_, a₁, w₁, hq, .pass (x := .inLoop c) rfl (fun _ _ => .inl (by simp)) harr⟩
  obtain ⟨ex, a', w', hq, harr⟩ := key k s q a w hm hst
  exact ⟨ex, a', w', hq, .of_steps (.one (fenced_calm hb hr rfl) stepR_loop) harr⟩
/-- The end of a round. -/
theorem JQ.next {σ τ γ : Type} {stf : σ → γ → St} {x : σ ⊕ τ} {s' : σ} (q' : γ) (hx : x = .inl s') (i : Imp Bs st (stf s' q')) : JQ Bs .normal st (Exit.then (fun a w => ∃ s' q', x = .inl s' ∧ StR Bs (stf s' q') a w) Q) :=
  fun a w hst => ⟨s', q', hx, i a w hst⟩

/-! ### the end of a body -/
/-- What a result variable holds. -/
inductive HasR (P : Program) (st : St) : ResultVar → SW → Prop
  | tmp {t : Nat} {s : SW} (h : look st.ρ t = some (.one s)) : HasR P st (.tmp t) s
  | cellS {t ty j b : Nat} {T : Type} {r : Rep T} {v : T} (ht : tyS P ty = true) (hs : r.sz = 1) (h : look st.ρ t = some (.one (.val (PTR b 0)))) (hX : st.X[j]? = some (cvar b r v)) : HasR P st (.cell t ty) (.val (S r v))
  | cellA {t ty j b : Nat} {T : Type} {r : Rep T} {v : T} (ht : tyA P ty r.sz = true) (h : look st.ρ t = some (.one (.val (PTR b 0)))) (hX : st.X[j]? = some (cvar b r v)) : HasR P st (.cell t ty) (.val (A r v))
  | wk {x : ResultVar} {p q : VP} (h : HasR P st x (.val p)) (k : ∀ e v, p.p e v → q.p e v) : HasR P st x (.val q)

def ResO (P : Program) (st : St) : List ResultVar → List SW → Prop
  | [], [] => True
  | x :: xs, s :: ss => HasR P st x s ∧ ResO P st xs ss
  | _, _ => False
theorem ResO.nil : ResO P st [] [] := trivial
theorem ResO.cons {x : ResultVar} {s : SW} {xs : List ResultVar} {ss : List SW} (h : HasR P st x s) (k : ResO P st xs ss) : ResO P st (x :: xs) (s :: ss) := ⟨h, k⟩
def mkR : List SW → SV1
  | [s] => .one s
  | l => .tup l
/-- What a result variable is read as. -/
def resV (tmps : Array Value) : ResultVar → Sem Value
  | .tmp t => pure (tmps.getD t undef)
  | .cell b t => do loadVar t (← asAddr (tmps.getD b undef))
theorem results_eq (fn : Func) (tmps : Array Value) : results fn tmps = (do let vs ← fn.results.mapM (resV tmps); pure (if h : vs.size = 1 then vs[0] else .tuple vs)) := by
  have : resV tmps = fun x => (match x with | .tmp t => pure (tmps.getD t undef) | .cell b t => do loadVar t (← asAddr (tmps.getD b undef)) : Sem Value) := by funext x; cases x <;> rfl
  rw [this]
  rfl
theorem HasR.run {x : ResultVar} {s : SW} (h : HasR P st x s) (hst : StE Bs st e a w) : ∃ v, (resV a.tmps x).run P w = .ok v w ∧ SWR e s v := by
  induction h with
  | tmp h => exact ⟨_, rfl, hst.sl _ _ h⟩
  | cellS ht hs h hX =>
    rename_i t ty j b T r v
    have hv : a.tmps.getD t undef = .pointer (some ⟨b, 0, none⟩) := hst.sl _ _ h
    obtain ⟨cs, el, fr, h1, h2, h3, h4⟩ := hst.xs _ (List.mem_of_getElem? hX)
    have hl := (r.len h3).trans hs
    obtain ⟨c, rfl⟩ := List.length_eq_one_iff.1 hl
    have hcell : w.cell? ⟨b, 0, none⟩ = some c := by rw [cell_of h1]; rfl
    exact ⟨c, by simp [resV, hv, asAddr, loadVar, rIsAggS ht, hcell], h3⟩
  | cellA ht h hX =>
    rename_i t ty j b T r v
    have hv : a.tmps.getD t undef = .pointer (some ⟨b, 0, none⟩) := hst.sl _ _ h
    obtain ⟨cs, el, fr, h1, h2, h3, h4⟩ := hst.xs _ (List.mem_of_getElem? hX)
    refine ⟨.agg cs.toArray, ?_, cs, rfl, h3⟩
    simp only [resV, hv, asAddr, Sem.run_bind, Sem.run_pure, Result.andThen, loadVar, rIsAggA ht, if_true, rSize (tyA_sz ht)]
    rw [rloadCells P (r.len h3) (part_at (n := r.sz) h1 (by rw [List.drop_zero, ← r.len h3, List.take_length]))]
  | wk h k ih =>
    obtain ⟨v, h1, h2⟩ := ih
    exact ⟨v, h1, k e v h2⟩
theorem ResO.run {xs : List ResultVar} {ss : List SW} (h : ResO P st xs ss) (hst : StE Bs st e a w) :
    ∃ vs : List Value, (xs.mapM (resV a.tmps)).run P w = .ok vs w ∧ vs.length = ss.length ∧ ∀ (i : Nat) (s : SW), ss[i]? = some s → SWR e s (vs.getD i undef) := by
  induction xs generalizing ss with
  | nil =>
    cases ss with
    | nil => exact ⟨[], by simp, rfl, fun i s h => by simp at h⟩
    | cons s ss => exact h.elim
  | cons x xs ih =>
    cases ss with
    | nil => exact h.elim
    | cons s ss =>
      obtain ⟨v, h1, h2⟩ := h.1.run hst
      obtain ⟨vs, h3, h4, h5⟩ := ih h.2
      refine ⟨v :: vs, ?_, by simp [h4], fun i s' hs => ?_⟩
      · rw [List.mapM_cons]
        simp only [Sem.run_bind, h1, Result.andThen, h3, Sem.run_pure]
      · obtain _ | i := i
        · simp at hs; subst hs; exact h2
        · have := h5 i s' (by simpa using hs); simpa using this
theorem results_run {fn : Func} {xs : List ResultVar} {ss : List SW} (hr : fn.results = xs.toArray) (h : ResO P st xs ss) (hst : StE Bs st e a w) : ∃ v, (results fn a.tmps).run P w = .ok v w ∧ SVR e (mkR ss) v := by
  obtain ⟨vs, h1, h2, h3⟩ := h.run hst
  rw [results_eq, hr, List.mapM_toArray]
  simp only [Sem.run_bind, Sem.run_map, h1, Result.andThen, Sem.run_pure]
  obtain _ | ⟨s, _ | ⟨s', ss⟩⟩ := ss
  · have : vs = [] := List.eq_nil_of_length_eq_zero (by simpa using h2)
    subst this
    exact ⟨.tuple #[], by simp, [], rfl, rfl, fun i s h => by simp at h⟩
  · obtain ⟨v, rfl⟩ := List.length_eq_one_iff.1 (by simpa using h2)
    exact ⟨v, by simp, h3 0 s rfl⟩
  · have : vs.length ≠ 1 := by simp at h2; omega
    exact ⟨.tuple vs.toArray, by simp [this], vs, rfl, h2, h3⟩
/-- Out of a state that has no marks. -/
theorem StE.out (h : StE Bs st e a w) {sv : SV1} {v : Value} (hv : SVR e sv v) : Back Bs.e0 Bs.w0 Bs.F0 st.X sv (.returned v) w :=
  ⟨e, v, rfl, h.base.le, h.base.mu, ⟨h.base.os, h.base.tape, h.base.output, h.base.size, h.base.old⟩, h.frz, h.xs, h.dj, h.base.foot, hv⟩
theorem StE.unmark (h : StE Bs st e a w) {r : Nat} {ds : List Nat} {A B : List Chunk} (hdf : st.df = r :: ds) (hX : st.X.Perm (cdef r :: B)) :
    (Instr.takeDeferred r).run P w = .ok [] { w with heap := w.heap.setIfInBounds r (.deferred none) } ∧ StE Bs { st with X := B, df := ds } e { a with defers := ds.map mark } { w with heap := w.heap.setIfInBounds r (.deferred none) } := by
  obtain ⟨h1, h2⟩ : (cdef r).R e w := h.xs _ (hX.mem_iff.2 (by simp))
  have hlt := lt_of_block h1
  have hne : ∀ b, b ≠ r → ({ w with heap := w.heap.setIfInBounds r (.deferred none) } : World).heap[b]? = w.heap[b]? := fun b hb => Array.getElem?_setIfInBounds_ne (Ne.symm hb)
  refine ⟨?_, ?_⟩
  · simp [Instr.takeDeferred, getObj, setObj, Sem.run, h1]
  · have := h.turn (A := [cdef r]) (B := B) (C := []) (e' := e) (w' := { w with heap := w.heap.setIfInBounds r (.deferred none) }) hX (Env.le.refl e) (fun ad v hm => .inl hm)
      ⟨rfl, rfl, rfl, by simp, fun b _ hb => hne b fun e => hb ⟨cdef r, by simp, e⟩⟩ (fun ad v hm => by rw [World.cell?_of_block (hne _ (h2 ad v hm))]; exact h.frz ad v hm) (fun c hc => by cases hc) List.Pairwise.nil (fun c hc => by cases hc)
    exact { this with df := rfl }
/-- The marks are taken away. -/
inductive Unmark : St → St → Prop
  | nil {st : St} (h : st.df = []) : Unmark st st
  | cons {st st' : St} {r : Nat} {ds : List Nat} {B : List Chunk} {j : Nat} (hdf : st.df = r :: ds) (hp : picks st.X [j] = some ([cdef r], B)) (k : Unmark { st with X := B, df := ds } st') : Unmark st st'
theorem Unmark.run {fn : Func} {R : Ending → World → Prop} {u : St} (hu : Unmark st u) : ∀ {a : Act} {w : World} {e : Env}, StE Bs st e a w → (∀ w', StE Bs u e { a with defers := [] } w' → ∃ v, (results fn a.tmps).run P w' = .ok v w' ∧ R (.returned v) w') →
    LeavesInM (WF none) 0 P fn a.tmps R a.defers .returning w := by
  induction hu with
  | nil h0 =>
    intro a w e h hR
    rw [h.df, h0]
    simp only [List.map_nil, LeavesInM, LeavesIn]
    exact hR w { h with df := by rw [h0]; rfl }
  | cons hdf hp k ih =>
    rename_i st st' r ds B j
    intro a w e h hR
    obtain ⟨h1, h2⟩ := h.unmark (P := P) (A := []) (B := B) hdf (picks_perm hp)
    rw [h.df, hdf]
    have h3 := ih h2 (fun w' h' => hR w' h')
    refine ⟨(by intro h; cases h), Or.inl ⟨r, _, rfl, h1, ?_⟩⟩
    exact h3
theorem JQ.done {fn : Func} {xs : List ResultVar} {ss : List SW} {js : List Nat} {X rest : List Chunk} {ex : Exit} {γ : Type} {X' : γ → List Chunk} {sv : γ → SV1} {u : St} (q : γ) (hex : ex = .ret ∨ ex = .normal) (hu : Unmark st u) (hr : fn.results = xs.toArray) (h : ResO P u xs ss) (hX : picks u.X js = some (X, rest)) (hX' : X = X' q) (hsv : mkR ss = sv q) :
    JQ Bs ex st (bodyPostM (WF none) 0 P fn fun en w' => ∃ g, Back Bs.e0 Bs.w0 Bs.F0 (X' g) (sv g) en w') := by
  intro a w ⟨e, hst⟩
  have key : LeavesInM (WF none) 0 P fn a.tmps (fun en w' => ∃ g, Back Bs.e0 Bs.w0 Bs.F0 (X' g) (sv g) en w') a.defers .returning w := hu.run hst fun w' h' => by
    obtain ⟨v, h1, h2⟩ := results_run (P := P) hr h h'
    refine ⟨v, h1, q, ?_⟩
    have h3 := (h'.drop (picks_perm hX)).out h2
    rw [← hX', ← hsv]
    exact h3
  rcases hex with rfl | rfl <;> exact key
end
end Go.Proofs.Ytbmimaabgclhjaa.Fw
