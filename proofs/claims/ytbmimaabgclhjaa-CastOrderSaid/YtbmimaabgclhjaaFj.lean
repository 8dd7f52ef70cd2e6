/- Guards; statements whose order is open. -/
import Derived.Test.YtbmimaabgclhjaaFi
import Derived.RangeFuncNested
namespace Go.Proofs.Ytbmimaabgclhjaa.Fw
open Go Go.RowKit
set_option linter.unusedVariables false
set_option linter.unnecessarySimpa false
set_option linter.unusedSimpArgs false

section
variable {P : Program} {Bs : Base} {st st' : St} {Q : Exit → Act → World → Prop} {ops : Array Oper} {os : List Oper} {o : Oper}

def dstOf (ops : Array Oper) (i : Nat) : Option Tmp := (ops[i]?).bind (·.dst)
theorem yielded_val {a : Act} {w : World} {gi dg : Nat} {b : Bool} (hg : dstOf ops gi = some dg) (hdN : dg < Bs.N) (hb : look st.ρ dg = some (.one (.val (S rB b)))) (h : StR Bs st a w) : yielded ops a.tmps gi = some b := by
  obtain ⟨e, h⟩ := h
  have hv : a.tmps.getD dg undef = .bool b := by have := h.sl _ _ hb; simpa [SVR, SWR, S, rB] using this
  unfold yielded
  rw [show (ops[gi]?).bind (·.dst) = some dg from hg]
  have hlt : dg < a.tmps.size := by rw [h.nt]; exact hdN
  have : a.tmps[dg]? = some (.bool b) := by
    rw [Array.getElem?_eq_getElem hlt]
    simp [Array.getD, hlt] at hv
    rw [hv]
  simp [this]
theorem yielded_und {a : Act} {w : World} {gi dg : Nat} (hg : dstOf ops gi = some dg) (hdN : dg < Bs.N) (hb : look st.ρ dg = some (.one .und)) (h : StR Bs st a w) : yielded ops a.tmps gi = none := by
  obtain ⟨e, h⟩ := h
  have hv : a.tmps.getD dg undef = undef := h.sl _ _ hb
  unfold yielded
  rw [show (ops[gi]?).bind (·.dst) = some dg from hg]
  have hlt : dg < a.tmps.size := by rw [h.nt]; exact hdN
  have : a.tmps[dg]? = some undef := by
    rw [Array.getElem?_eq_getElem hlt]
    simp [Array.getD, hlt] at hv
    rw [hv]
  simp [this, undef]
/-- What a guard says. -/
inductive Guard (Bs : Base) (ops : Array Oper) (st : St) : Option (Nat × Bool) → Bool → Prop
  | none : Guard Bs ops st none true
  | val {gi dg : Nat} {pol b : Bool} (hg : dstOf ops gi = some dg) (hdN : dg < Bs.N) (hb : look st.ρ dg = some (.one (.val (S rB b)))) : Guard Bs ops st (some (gi, pol)) (b == pol)
  | und {gi dg : Nat} {pol : Bool} (hg : dstOf ops gi = some dg) (hdN : dg < Bs.N) (hb : look st.ρ dg = some (.one .und)) : Guard Bs ops st (some (gi, pol)) false
theorem Guard.yes {gi dg : Nat} {pol b : Bool} (hg : dstOf ops gi = some dg) (hdN : dg < Bs.N) (hb : look st.ρ dg = some (.one (.val (S rB b)))) (h : b = pol) : Guard Bs ops st (some (gi, pol)) true := by
  have := Guard.val (pol := pol) hg hdN hb
  subst h
  simpa using this
theorem Guard.no {gi dg : Nat} {pol b : Bool} (hg : dstOf ops gi = some dg) (hdN : dg < Bs.N) (hb : look st.ρ dg = some (.one (.val (S rB b)))) (h : b = !pol) : Guard Bs ops st (some (gi, pol)) false := by
  have := Guard.val (pol := pol) hg hdN hb
  subst h
  cases pol <;> exact this
theorem Guard.wanted {g : Bool} (hg : Guard Bs ops st o.guard g) {a : Act} {w : World} (h : StR Bs st a w) : Region.wanted o (yielded ops a.tmps) = g := by
  unfold Region.wanted
  generalize o.guard = og at hg
  cases hg with
  | none => rfl
  | val h1 hN h2 => rename_i gi dg pol b; simp only [yielded_val h1 hN h2 h]; cases b <;> cases pol <;> rfl
  | und h1 hN h2 => simp only [yielded_und h1 hN h2 h]; rfl
theorem JL.run (hg : Guard Bs ops st o.guard true) (hs : OpStep P Bs o st st') (h : JL P Bs ops os st' Q) : JL P Bs ops (o :: os) st Q :=
  fun a w hst => wpListIn_step fun K hK => by
    rw [if_pos (hg.wanted hst)]
    exact hs a w hst K Q fun a' w' h' => hK a' w' (h a' w' h')
theorem JL.runX {γ : Type} {st' : γ → St} (hg : Guard Bs ops st o.guard true) (hs : OpX P Bs o st st') (h : ∀ g, JL P Bs ops os (st' g) Q) : JL P Bs ops (o :: os) st Q :=
  fun a w hst => wpListIn_step fun K hK => by
    rw [if_pos (hg.wanted hst)]
    exact hs a w hst K Q fun g a' w' h' => hK a' w' (h g a' w' h')
theorem JL.consX {γ : Type} {st' : γ → St} (hg : o.guard = none) (hs : OpX P Bs o st st') (h : ∀ g, JL P Bs ops os (st' g) Q) : JL P Bs ops (o :: os) st Q :=
  JL.runX (by rw [hg]; exact .none) hs h
theorem JL.cons (hg : o.guard = none) (hs : OpStep P Bs o st st') (h : JL P Bs ops os st' Q) : JL P Bs ops (o :: os) st Q :=
  JL.run (by rw [hg]; exact .none) hs h
theorem OpX.post {γ : Type} {st' : γ → St} {st'' : St} (h : OpX P Bs o st st') (k : ∀ g, Imp Bs (st' g) st'') : OpStep P Bs o st st'' := fun a w hst K Q hK => h a w hst K Q fun g a' w' h' => hK a' w' (k g a' w' h')
theorem OpX.postX {γ δ : Type} {st' : γ → St} {st'' : δ → St} (h : OpX P Bs o st st') (k : ∀ g, ImpX Bs (st' g) st'') : OpX P Bs o st st'' := fun a w hst K Q hK => h a w hst K Q fun g a' w' h' => let ⟨q, hq⟩ := k g a' w' h'; hK q a' w' hq
theorem OpX.mapX {γ δ : Type} {st' : γ → St} {st'' : δ → St} (h : OpX P Bs o st st') (f : γ → δ) (k : ∀ g, Imp Bs (st' g) (st'' (f g))) : OpX P Bs o st st'' := h.postX fun g a w hs => ⟨f g, k g a w hs⟩
theorem OpStep.post {st'' : St} (h : OpStep P Bs o st st') (k : Imp Bs st' st'') : OpStep P Bs o st st'' := fun a w hst K Q hK => h a w hst K Q fun a' w' h' => hK a' w' (k a' w' h')
theorem JL.skip (hg : Guard Bs ops st o.guard false) (hd : ∀ d, o.dst = some d → d < Bs.N) (h : JL P Bs ops os (setO st o.dst (.one .und)) Q) : JL P Bs ops (o :: os) st Q :=
  fun a w hst => wpListIn_step fun K hK => by
    rw [if_neg (by rw [hg.wanted hst]; simp)]
    refine ⟨fun _ _ => trivial, hK _ _ (h _ _ ?_)⟩
    obtain ⟨e, h⟩ := hst
    cases ho : o.dst with
    | none => exact ⟨e, h⟩
    | some d => exact ⟨e, h.put (hd d ho) rfl⟩

/-! ### any order -/
/-- What an operation of such a statement does to what is told: it adds one fact. -/
structure Fact where
  d : Option Nat
  sv : SV1
/-- On what an operation waits. -/
def depsOf (o : Oper) : List Nat := o.after.toList.filterMap fun e => if Region.binds .any e then some e.on else none
/-- The facts of those that are done. -/
def Done (fs : List Fact) (listed : Array Bool) (ρ : List (Nat × SV1)) : Prop := ∀ (i : Nat) (f : Fact) (d : Nat), fs[i]? = some f → f.d = some d → listed.getD i false = true → look ρ d = some f.sv
def Based (base ρ : List (Nat × SV1)) : Prop := ∀ t sv, look base t = some sv → look ρ t = some sv
def AllLook (ρ : List (Nat × SV1)) : List (Nat × SV1) → Prop
  | [] => True
  | p :: l => look ρ p.1 = some p.2 ∧ AllLook ρ l
theorem AllLook.based {ρ : List (Nat × SV1)} : ∀ {l : List (Nat × SV1)}, AllLook ρ l → Based l ρ
  | [], _, t, sv, h => by cases h
  | (s, v) :: l, hs, t, sv, h => by
    simp only [look] at h
    cases hb : Nat.beq s t
    · rw [hb] at h; exact AllLook.based hs.2 t sv h
    · rw [hb] at h
      cases h
      have := Nat.eq_of_beq_eq_true hb
      subst this
      exact hs.1
/-- Each waits for earlier ones alone. -/
def topo (l : List Oper) : Bool := l.zipIdx.all fun p => p.1.after.all fun e => !Region.binds .any e || decide (e.on < p.2)
def dsts (fs : List Fact) : List Nat := fs.filterMap (·.d)

/-- What comes out of the run alone: block numbers and the like, by operation. -/
abbrev Gh := Nat → Nat → Nat
def updG (γ : Gh) (i : Nat) (q : Nat → Nat) : Gh := fun j => bif Nat.beq j i then q else γ j
def deo : Nat → Option Nat
  | 0 => none
  | n + 1 => some n
def eno : Option Nat → Nat
  | none => 0
  | some n => n + 1
/-- A piece of memory within such a statement: which operation lays it, which one takes it, which look at it. -/
structure RE where
  c : Chunk
  p : Option Nat
  k : Option Nat
  rd : List Nat
def isO (o : Option Nat) (i : Nat) : Bool := match o with | some j => Nat.beq j i | none => false
theorem isO_iff {o : Option Nat} {i : Nat} : isO o i = true ↔ o = some i := by
  cases o with
  | none => simp [isO]
  | some j => simp [isO]
def chunks (l : List RE) : List Chunk := l.map (·.c)
def takes (i : Nat) (l : List RE) : List RE := l.filter fun r => isO r.k i
def looks (i : Nat) (l : List RE) : List RE := l.filter fun r => !isO r.k i && r.rd.contains i
def lays (i : Nat) (l : List RE) : List RE := l.filter fun r => isO r.p i
def okR (listed : Array Bool) (r : RE) : Bool := (match r.p with | none => true | some j => listed.getD j false) && (match r.k with | none => true | some j => !listed.getD j false)
def avail (listed : Array Bool) (l : List RE) : List RE := l.filter (okR listed)
/-- An operation of such a statement, wherever all is done on which it waits. -/
inductive DStep (P : Program) (Bs : Base) (ops : Array Oper) (base : List (Nat × SV1)) (fs : Gh → List Fact) (rs : Gh → List RE) (df : List Nat) (i : Nat) (aft : List Nat) (o : Oper) (f : Gh → Fact) : Prop
  | run (h : ∀ γ ρ B, Based base ρ → (∀ (k : Nat) (g : Fact) (d : Nat), (fs γ)[k]? = some g → g.d = some d → k ∈ depsOf o → look ρ d = some g.sv) →
      Guard Bs ops (⟨ρ, chunks (takes i (rs γ)) ++ (chunks (looks i (rs γ)) ++ B), df⟩ : St) o.guard true ∧
      OpStep P Bs o (⟨ρ, chunks (takes i (rs γ)) ++ (chunks (looks i (rs γ)) ++ B), df⟩ : St) (setO ⟨ρ, chunks (lays i (rs γ)) ++ (chunks (looks i (rs γ)) ++ B), df⟩ (f γ).d (f γ).sv))
  | runX (hf : ∀ γ q, (f (updG γ i q)).d = (f γ).d) (h : ∀ γ ρ B, Based base ρ → (∀ (k : Nat) (g : Fact) (d : Nat), (fs γ)[k]? = some g → g.d = some d → k ∈ depsOf o → look ρ d = some g.sv) →
      Guard Bs ops (⟨ρ, chunks (takes i (rs γ)) ++ (chunks (looks i (rs γ)) ++ B), df⟩ : St) o.guard true ∧
      OpX P Bs o (⟨ρ, chunks (takes i (rs γ)) ++ (chunks (looks i (rs γ)) ++ B), df⟩ : St) (fun q : Nat → Nat => setO ⟨ρ, chunks (lays i (rs (updG γ i q))) ++ (chunks (looks i (rs γ)) ++ B), df⟩ (f γ).d (f (updG γ i q)).sv))
      (hF : ∀ γ q, ((fs (updG γ i q)).zipIdx.map fun x => if aft.contains x.2 then none else some x.1) = ((fs γ).zipIdx.map fun x => if aft.contains x.2 then none else some x.1))
      (hR : ∀ γ q, ((rs (updG γ i q)).map fun r => (r.p, r.k, r.rd, if (r.p.any aft.contains) then none else some r.c)) = ((rs γ).map fun r => (r.p, r.k, r.rd, if (r.p.any aft.contains) then none else some r.c)))
  | skip (h : ∀ γ ρ B, Based base ρ → (∀ (k : Nat) (g : Fact) (d : Nat), (fs γ)[k]? = some g → g.d = some d → k ∈ depsOf o → look ρ d = some g.sv) →
      Guard Bs ops (⟨ρ, chunks (takes i (rs γ)) ++ (chunks (looks i (rs γ)) ++ B), df⟩ : St) o.guard false ∧ chunks (lays i (rs γ)) = chunks (takes i (rs γ)) ∧ (f γ).d = o.dst ∧ (f γ).sv = .one .und ∧ ∀ d, o.dst = some d → d < Bs.N)
/-- Which operations must have been done ahead of each: as bits. -/
def masks : List Oper → List Nat → List Nat
  | [], acc => acc
  | o :: os, acc => masks os (acc ++ [(depsOf o).foldl (fun m d => m ||| (2 ^ d) ||| acc.getD d 0) 0])
def anc (l : List Oper) (c i : Nat) : Bool := ((masks l []).getD c 0).testBit i
def dOk (l : List Oper) (rs : List RE) (afts : List (List Nat)) : Bool :=
  (rs.all fun r => (match r.k with
      | none => true
      | some c => (match r.p with | none => true | some p => anc l c p) && r.rd.all fun i => Nat.beq i c || anc l c i) &&
    r.rd.all fun i => (match r.p with | none => true | some p => anc l i p)) &&
  (afts.zipIdx.all fun x => x.1.all fun j => Nat.beq j x.2 || (match l[j]? with | some o => x.1.any fun m => decide (m < j) && (depsOf o).contains m | none => false))
theorem cnt_set {l : Array Bool} {i : Nat} (h : l.getD i true = false) : (l.setIfInBounds i true).toList.count false + 1 = l.toList.count false := by
  have hi : i < l.size := by
    rcases Nat.lt_or_ge i l.size with h' | h'
    · exact h'
    · simp [Array.getD, Nat.not_lt.2 h'] at h
  have hl : l.toList[i]'(by simpa using hi) = false := by simpa [Array.getD, hi] using h
  rw [Array.toList_setIfInBounds]
  have hsplit : l.toList = l.toList.take i ++ false :: l.toList.drop (i + 1) := by
    conv => lhs; rw [← List.take_append_drop i l.toList]
    rw [List.drop_eq_getElem_cons (by simpa using hi), hl]
  conv => rhs; rw [hsplit]
  rw [List.set_eq_take_append_cons_drop, if_pos (by simpa using hi)]
  simp [List.count_append, List.count_cons]
  omega

inductive All2 {α : Type} (R : α → α → Prop) : List α → List α → Prop
  | nil : All2 R [] []
  | cons {x y : α} {X Y : List α} (h : R x y) (t : All2 R X Y) : All2 R (x :: X) (y :: Y)
theorem beq_ne {m n : Nat} (h : m ≠ n) : Nat.beq m n = false := by rw [← Bool.not_eq_true, Nat.beq_eq]; exact h
theorem filter_split {α : Type} (p : α → Bool) (l : List α) : l.Perm (l.filter p ++ l.filter fun x => !p x) := (List.filter_append_perm p l).symm
theorem filter_ff {α : Type} {p q r : α → Bool} {l : List α} (h : ∀ x ∈ l, (p x && q x) = r x) : (l.filter q).filter p = l.filter r := by
  rw [List.filter_filter]
  exact List.filter_congr h
def Closed (l : List Oper) (listed : Array Bool) : Prop := ∀ (j : Nat) (o : Oper), l[j]? = some o → listed.getD j false = true → ∀ m ∈ depsOf o, listed.getD m false = true
theorem fold_bits {acc : List Nat} {i : Nat} : ∀ (ds : List Nat) (m : Nat), (ds.foldl (fun m d => m ||| (2 ^ d) ||| acc.getD d 0) m).testBit i = true → m.testBit i = true ∨ ∃ d ∈ ds, i = d ∨ (acc.getD d 0).testBit i = true := by
  intro ds
  induction ds with
  | nil => intro m h; exact .inl h
  | cons d ds ih =>
    intro m h
    rcases ih _ h with h1 | ⟨d', h1, h2⟩
    · rw [Nat.testBit_or, Nat.testBit_or, Bool.or_eq_true, Bool.or_eq_true, Nat.testBit_two_pow] at h1
      rcases h1 with (h1 | h1) | h1
      · exact .inl h1
      · exact .inr ⟨d, by simp, .inl (by simpa using h1 : d = i).symm⟩
      · exact .inr ⟨d, by simp, .inr h1⟩
    · exact .inr ⟨d', by simp [h1], h2⟩
theorem masks_good {L : List Oper} {listed : Array Bool} (hcl : Closed L listed) : ∀ (os pre : List Oper) (acc : List Nat), L = pre ++ os → acc.length = pre.length →
    (∀ (c i : Nat), (acc.getD c 0).testBit i = true → ∀ o, L[c]? = some o → (∀ m ∈ depsOf o, listed.getD m false = true) → listed.getD i false = true) →
    ∀ (c i : Nat), ((masks os acc).getD c 0).testBit i = true → ∀ o, L[c]? = some o → (∀ m ∈ depsOf o, listed.getD m false = true) → listed.getD i false = true := by
  intro os
  induction os with
  | nil => intro pre acc _ _ h; exact h
  | cons o os ih =>
    intro pre acc hL hl h
    refine ih (pre ++ [o]) _ (by rw [hL]; simp) (by simp [hl]) fun c i hb oc hoc hds => ?_
    by_cases hcc : c < acc.length
    · rw [List.getD_eq_getElem?_getD, List.getElem?_append_left hcc, ← List.getD_eq_getElem?_getD] at hb
      exact h c i hb oc hoc hds
    · by_cases hce : c = acc.length
      · subst hce
        rw [List.getD_eq_getElem?_getD, List.getElem?_append_right (Nat.le_refl _)] at hb
        simp only [Nat.sub_self, List.getElem?_cons_zero, Option.getD_some] at hb
        have ho : L[acc.length]? = some o := by rw [hL, hl]; simp
        rw [ho] at hoc
        cases hoc
        rcases fold_bits _ _ hb with h1 | ⟨d, hd, h1⟩
        · simp at h1
        · have hld := hds d hd
          rcases h1 with rfl | h1
          · exact hld
          · have hdl : d < acc.length := by
              rcases Nat.lt_or_ge d acc.length with h2 | h2
              · exact h2
              · rw [List.getD_eq_getElem?_getD, List.getElem?_eq_none h2] at h1
                simp at h1
            have hdL : d < L.length := by rw [hL]; simp; omega
            exact h d i h1 L[d] (List.getElem?_eq_getElem hdL) fun m hm => hcl d L[d] (List.getElem?_eq_getElem hdL) hld m hm
      · rw [List.getD_eq_getElem?_getD, List.getElem?_eq_none (by simp; omega)] at hb
        simp at hb
theorem anc_deps {l : List Oper} {listed : Array Bool} (hcl : Closed l listed) {c i : Nat} {o : Oper} (h : anc l c i = true) (ho : l[c]? = some o) (hd : ∀ m ∈ depsOf o, listed.getD m false = true) : listed.getD i false = true :=
  masks_good hcl l [] [] rfl rfl (fun c i hb => by simp at hb) c i h o ho hd
theorem anc_listed {l : List Oper} {listed : Array Bool} (hcl : Closed l listed) {c i : Nat} (h : anc l c i = true) (hc : c < l.length) (hlc : listed.getD c false = true) : listed.getD i false = true :=
  anc_deps hcl h (List.getElem?_eq_getElem hc) fun m hm => hcl c l[c] (List.getElem?_eq_getElem hc) hlc m hm
theorem dOk_get {l : List Oper} {rs : List RE} {afts : List (List Nat)} (h : dOk l rs afts = true) :
    (∀ r ∈ rs, ∀ (c : Nat), r.k = some c → (∀ p, r.p = some p → anc l c p = true) ∧ ∀ i ∈ r.rd, i = c ∨ anc l c i = true) ∧
    (∀ r ∈ rs, ∀ (i : Nat), i ∈ r.rd → ∀ p, r.p = some p → anc l i p = true) ∧
    (∀ (i : Nat) (aft : List Nat), afts[i]? = some aft → ∀ j ∈ aft, j = i ∨ ∃ o, l[j]? = some o ∧ ∃ m ∈ aft, m < j ∧ m ∈ depsOf o) := by
  simp only [dOk, Bool.and_eq_true, List.all_eq_true] at h
  obtain ⟨h1, h2⟩ := h
  refine ⟨fun r hr c hk => ?_, fun r hr i hi p hp => ?_, fun i aft ha j hj => ?_⟩
  · have := (h1 r hr).1
    rw [hk] at this
    simp only [Bool.and_eq_true, List.all_eq_true] at this
    refine ⟨fun p hp => ?_, fun i hi => ?_⟩
    · have := this.1; rw [hp] at this; exact this
    · have := this.2 i hi
      simp only [Bool.or_eq_true] at this
      rcases this with h | h
      · exact .inl (Nat.eq_of_beq_eq_true h)
      · exact .inr h
  · have := (h1 r hr).2 i hi
    rw [hp] at this
    exact this
  · have := h2 (aft, i) (by rw [List.mem_zipIdx_iff_getElem?]; exact ha) j hj
    simp only [Bool.or_eq_true] at this
    rcases this with h | h
    · exact .inl (Nat.eq_of_beq_eq_true h)
    · cases ho : l[j]? with
      | none => rw [ho] at h; cases h
      | some o =>
        rw [ho] at h
        simp only [List.any_eq_true, Bool.and_eq_true, decide_eq_true_eq] at h
        obtain ⟨m, hm, h3, h4⟩ := h
        exact .inr ⟨o, rfl, m, hm, h3, by simpa using h4⟩
set_option maxHeartbeats 1000000 in
/-- What lay in the slots ahead is still there, but in those that the last operation has written. -/
def BasedK (base : List (Nat × SV1)) (kl : List Nat) (b : Bool) (ρ : List (Nat × SV1)) : Prop := ∀ t sv, look base t = some sv → (b = true → t ∉ kl) → look ρ t = some sv
def BasedX (base : List (Nat × SV1)) (kl : List Nat) (ρ : List (Nat × SV1)) : Prop := ∀ t sv, look base t = some sv → t ∉ kl → look ρ t = some sv
def kOk (l : List Oper) (kl : List Nat) (kk : Nat) : Bool := kl.isEmpty || (Nat.blt kk l.length && (List.range l.length).all fun i => Nat.beq i kk || anc l kk i)
theorem kOk_get {l : List Oper} {kl : List Nat} {kk : Nat} (h : kOk l kl kk = true) : kl = [] ∨ (kk < l.length ∧ ∀ i, i < l.length → i = kk ∨ anc l kk i = true) := by
  unfold kOk at h
  rcases Bool.or_eq_true_iff.1 h with h | h
  · exact .inl (by simpa using h)
  · obtain ⟨h0, h⟩ := Bool.and_eq_true_iff.1 h
    refine .inr ⟨Nat.le_of_ble_eq_true h0, fun i hi => ?_⟩
    have := List.all_eq_true.1 h i (by simpa using hi)
    rcases Bool.or_eq_true_iff.1 this with h1 | h1
    · exact .inl (Nat.eq_of_beq_eq_true h1)
    · exact .inr h1
theorem JL.anyD {kl : List Nat} {kk : Nat} {base : List (Nat × SV1)} {fs : Gh → List Fact} {rs : Gh → List RE} {df : List Nat} {l : List Oper} {afts : List (List Nat)}
    (hsteps : ∀ (i : Nat) (o : Oper), l[i]? = some o → ∃ (f : Gh → Fact) (aft : List Nat), afts[i]? = some aft ∧ (∀ γ, (fs γ)[i]? = some (f γ)) ∧ (∀ γ, (f γ).d = o.dst) ∧ DStep P Bs l.toArray base fs rs df i aft o f)
    (hlen : ∀ γ, (fs γ).length = l.length) (htopo : topo l = true) (hok : ∀ γ, dOk l (rs γ) afts = true) (hin : ∀ γ, ∀ r ∈ rs γ, (∀ c, r.k = some c → c < l.length) ∧ ∀ c, r.p = some c → c < l.length)
    (hnd : ∀ γ, (dsts (fs γ)).Nodup) (hkl : kOk l kl kk = true) (hbase : ∀ γ (i : Nat) (f : Fact) (d : Nat), (fs γ)[i]? = some f → f.d = some d → look base d = none ∨ (d ∈ kl ∧ i = kk))
    (hQ : ∀ γ ρ, BasedX base kl ρ → (∀ (i : Nat) (f : Fact) (d : Nat), (fs γ)[i]? = some f → f.d = some d → look ρ d = some f.sv) → JQ Bs .normal (⟨ρ, chunks ((rs γ).filter fun r => r.k.isNone), df⟩ : St) Q) :
    ∀ (fuel : Nat) (listed : Array Bool) (ρ : List (Nat × SV1)) (γ : Gh) (a : Act) (w : World), listed.size = l.length → listed.toList.count false = fuel → Closed l listed → BasedK base kl (listed.getD kk false) ρ → Done (fs γ) listed ρ →
      StR Bs (⟨ρ, chunks (avail listed (rs γ)), df⟩ : St) a w → wpAnyIn (WF Bs.ro) 0 P .any l.toArray Q fuel listed a w := by
  have hdinj : ∀ (fs : List Fact), (dsts fs).Nodup → ∀ (i j : Nat) (f f' : Fact) (d : Nat), fs[i]? = some f → fs[j]? = some f' → f.d = some d → f'.d = some d → i = j := by
    intro fs
    induction fs with
    | nil => intro _ i j f f' d hi; simp at hi
    | cons g fs ih =>
      intro hn i j f f' d hi hj hd hd'
      have hmem : ∀ (k : Nat) (f : Fact), fs[k]? = some f → f.d = some d → d ∈ dsts fs := fun k f hk hd => List.mem_filterMap.2 ⟨f, List.mem_of_getElem? hk, hd⟩
      have hn' : (dsts fs).Nodup ∧ ∀ d', g.d = some d' → d' ∉ dsts fs := by
        cases hgd : g.d with
        | none => simp only [dsts, List.filterMap_cons, hgd] at hn; exact ⟨hn, fun d' h => by cases h⟩
        | some d0 => simp only [dsts, List.filterMap_cons, hgd, List.nodup_cons] at hn; exact ⟨hn.2, fun d' h => by cases h; exact hn.1⟩
      obtain _ | i := i <;> obtain _ | j := j
      · rfl
      · simp at hi; subst hi; exact absurd (hmem j f' (by simpa using hj) hd') (hn'.2 d hd)
      · simp at hj; subst hj; exact absurd (hmem i f (by simpa using hi) hd) (hn'.2 d hd')
      · rw [ih hn'.1 i j f f' d (by simpa using hi) (by simpa using hj) hd hd']
  have hready0 : ∀ (listed : Array Bool), listed.size = l.length → Region.ready .any l.toArray listed = [] → ∀ i, i < l.length → listed.getD i false = true := by
    intro listed hsz hr i
    induction i using Nat.strongRecOn with
    | _ i ih =>
      intro hi
      cases hli : listed.getD i true
      · exfalso
        have ho : l[i]? = some l[i] := List.getElem?_eq_getElem hi
        have hm : i ∈ Region.ready .any l.toArray listed := by
          rw [mem_ready]
          refine ⟨hli, l[i], by simpa using ho, fun e he hb => ?_⟩
          have htop := htopo
          simp only [topo, List.all_eq_true] at htop
          have h1 := htop (l[i], i) (by rw [List.mem_zipIdx_iff_getElem?]; exact ho)
          rw [Array.all_eq_true_iff_forall_mem] at h1
          have h2 := h1 e he
          rw [hb] at h2
          have h3 : e.on < i := by simpa using h2
          exact ih e.on h3 (by omega)
        rw [hr] at hm
        cases hm
      · have : i < listed.size := by omega
        simp [Array.getD, this] at hli ⊢
        exact hli
  have fin : ∀ (listed : Array Bool) (ρ : List (Nat × SV1)) (γ : Gh) (a : Act) (w : World), listed.size = l.length → BasedK base kl (listed.getD kk false) ρ → Done (fs γ) listed ρ → StR Bs (⟨ρ, chunks (avail listed (rs γ)), df⟩ : St) a w → Region.ready .any l.toArray listed = [] → Q .normal a w := by
    intro listed ρ γ a w hsz hb hd hst hr
    have hall := hready0 listed hsz hr
    have hav : avail listed (rs γ) = (rs γ).filter fun r => r.k.isNone := by
      refine List.filter_congr fun r hrm => ?_
      obtain ⟨h1, h2⟩ := hin γ r hrm
      unfold okR
      cases hp : r.p with
      | none => cases hk : r.k with
        | none => rfl
        | some c => simp [hall c (h1 c hk)]
      | some j => cases hk : r.k with
        | none => simp [hall j (h2 j hp)]
        | some c => simp [hall c (h1 c hk)]
    rw [hav] at hst
    refine hQ γ ρ (fun t sv ht hn => hb t sv ht fun _ => hn) (fun i f d hf hfd => hd i f d hf hfd (hall i ?_)) a w hst
    have := (List.getElem?_eq_some_iff.1 hf).1
    rw [hlen] at this
    exact this
  intro fuel
  induction fuel with
  | zero =>
    intro listed ρ γ a w hsz hc hcl hb hd hst
    have hr : Region.ready .any l.toArray listed = [] := by
      rw [List.eq_nil_iff_forall_not_mem]
      intro i hi
      obtain ⟨h1, o, ho, _⟩ := mem_ready.1 hi
      have hlt : i < listed.size := by rw [hsz]; simpa using (Array.getElem?_eq_some_iff.1 ho).1
      have : false ∈ listed.toList := by
        have hf : listed[i] = false := by simpa [Array.getD, hlt] using h1
        rw [← hf]; simp
      have := List.count_pos_iff.2 this
      omega
    exact ⟨hr, fin listed ρ γ a w hsz hb hd hst hr⟩
  | succ fuel ih =>
    intro listed ρ γ a w hsz hc hcl hb hd hst
    refine ⟨fin listed ρ γ a w hsz hb hd hst, fun i hi => ?_⟩
    obtain ⟨hun, o, ho, hdeps⟩ := mem_ready.1 hi
    have hol : l[i]? = some o := by simpa using ho
    have hil : i < l.length := (List.getElem?_eq_some_iff.1 hol).1
    obtain ⟨f, aft, haft, hf, hfd, hstep⟩ := hsteps i o hol
    have hsz' : (listed.setIfInBounds i true).size = l.length := by simp [hsz]
    have hcnt : (listed.setIfInBounds i true).toList.count false = fuel := by have := cnt_set hun; omega
    have hdeps' : ∀ k, k ∈ depsOf o → listed.getD k false = true := fun k hmem => by
      obtain ⟨e, he, hek⟩ := List.mem_filterMap.1 hmem
      split at hek
      · rename_i heb
        cases hek
        exact hdeps e (Array.mem_toList_iff.1 he) heb
      · cases hek
    have hfacts : ∀ (k : Nat) (g : Fact) (d : Nat), (fs γ)[k]? = some g → g.d = some d → k ∈ depsOf o → look ρ d = some g.sv := fun k g d hk hg hmem => hd _ g d hk hg (hdeps' k hmem)
    have hlset : ∀ j, (listed.setIfInBounds i true).getD j false = true ↔ (j = i ∨ listed.getD j false = true) := fun j => by
      by_cases hji : i = j
      · subst hji
        have hlt : i < listed.size := by rw [hsz]; exact hil
        simp [Array.getD, hlt]
      · rw [getD_set_ne false hji]
        exact ⟨.inr, fun h => h.resolve_left (Ne.symm hji)⟩
    have hunf : listed.getD i false = false := by
      have hlt : i < listed.size := by rw [hsz]; exact hil
      simpa [Array.getD, hlt] using hun
    have hcl' : Closed l (listed.setIfInBounds i true) := fun j o' ho' hj m hm => by
      rw [hlset] at hj ⊢
      rcases hj with rfl | hj
      · rw [hol] at ho'; cases ho'
        exact .inr (hdeps' m hm)
      · exact .inr (hcl j o' ho' hj m hm)
    have hb0 : Based base ρ := fun t sv ht => hb t sv ht fun hlk hmem => by
      rcases kOk_get hkl with h0 | ⟨hkk, hall⟩
      · rw [h0] at hmem; cases hmem
      · rcases hall i hil with rfl | hdep
        · rw [hunf] at hlk; cases hlk
        · have := anc_listed hcl hdep hkk hlk
          rw [hunf] at this; cases this
    obtain ⟨hk1, hk2, hk3⟩ := dOk_get (hok γ)
    have hanc : ∀ m, anc l i m = true → listed.getD m false = true := fun m hm => anc_deps hcl hm hol hdeps'
    -- what is there
    have htk : ∀ r ∈ rs γ, isO r.k i = true → okR listed r = true := fun r hr hk => by
      have hki := isO_iff.1 hk
      unfold okR
      rw [hki]
      cases hp : r.p with
      | none => simp [hunf]
      | some p => simp [hunf, hanc p ((hk1 r hr i hki).1 p hp)]
    have hlk : ∀ r ∈ rs γ, r.rd.contains i = true → isO r.k i = false → okR listed r = true := fun r hr hrd hk => by
      have hrd : i ∈ r.rd := by simpa using hrd
      have h1 : (match r.p with | none => true | some j => listed.getD j false) = true := by
        cases hp : r.p with
        | none => rfl
        | some p => exact hanc p (hk2 r hr i hrd p hp)
      unfold okR
      rw [h1]
      cases hc : r.k with
      | none => rfl
      | some c =>
        have hci : c ≠ i := fun e => by subst e; rw [hc] at hk; simp [isO] at hk
        have hcl2 : c < l.length := (hin γ r hr).1 c hc
        simp only [Bool.true_and, Bool.not_eq_true']
        rw [← Bool.not_eq_true]
        intro hlc
        have h2 := (hk1 r hr c hc).2 i hrd
        rcases h2 with h2 | h2
        · exact hci h2.symm
        · have := anc_listed hcl h2 hcl2 hlc
          rw [hunf] at this; cases this
    let restR := (avail listed (rs γ)).filter fun r => !isO r.k i && !r.rd.contains i
    have hp1 : (avail listed (rs γ)).Perm (takes i (rs γ) ++ (looks i (rs γ) ++ restR)) := by
      refine (filter_split (fun r => isO r.k i) _).trans ?_
      rw [show (avail listed (rs γ)).filter (fun r => isO r.k i) = takes i (rs γ) from filter_ff fun r hr => by
        cases hk : isO r.k i
        · rfl
        · simp [htk r hr hk]]
      refine List.Perm.append_left _ ?_
      refine (filter_split (fun r => r.rd.contains i) _).trans ?_
      rw [show (((avail listed (rs γ)).filter fun r => !isO r.k i).filter fun r => r.rd.contains i) = looks i (rs γ) from by
        rw [List.filter_filter]
        refine filter_ff fun r hr => ?_
        cases hk : isO r.k i <;> cases hrd : r.rd.contains i
        · simp
        · simp [hlk r hr hrd hk]
        · simp
        · simp]
      rw [show (((avail listed (rs γ)).filter fun r => !isO r.k i).filter fun r => !r.rd.contains i) = restR from by
        rw [List.filter_filter]
        exact List.filter_congr fun r _ => by rw [Bool.and_comm]]
    have hp2 : (lays i (rs γ) ++ (looks i (rs γ) ++ restR)).Perm (avail (listed.setIfInBounds i true) (rs γ)) := by
      refine List.Perm.trans ?_ (filter_split (fun r => isO r.p i) _).symm
      have hlays : (avail (listed.setIfInBounds i true) (rs γ)).filter (fun r => isO r.p i) = lays i (rs γ) := filter_ff fun r hr => by
        cases hp : isO r.p i
        · simp
        · have hpi := isO_iff.1 hp
          have : okR (listed.setIfInBounds i true) r = true := by
            unfold okR
            rw [hpi]
            have h1 : (listed.setIfInBounds i true).getD i false = true := (hlset i).2 (.inl rfl)
            simp only [h1, Bool.true_and]
            cases hc : r.k with
            | none => rfl
            | some c =>
              have hcl2 : c < l.length := (hin γ r hr).1 c hc
              have h2 := (hk1 r hr c hc).1 i hpi
              simp only [Bool.not_eq_true']
              rw [← Bool.not_eq_true]
              intro hlc
              rcases (hlset c).1 hlc with rfl | hlc
              · have := hanc _ h2; rw [hunf] at this; cases this
              · have := anc_listed hcl h2 hcl2 hlc
                rw [hunf] at this; cases this
          simp [this]
      rw [hlays]
      refine List.Perm.append_left _ ?_
      have hrest : (avail (listed.setIfInBounds i true) (rs γ)).filter (fun r => !isO r.p i) = (avail listed (rs γ)).filter fun r => !isO r.k i := by
        unfold avail
        rw [List.filter_filter, List.filter_filter]
        refine List.filter_congr fun r hr => ?_
        unfold okR
        have hset : ∀ j, j ≠ i → (listed.setIfInBounds i true).getD j false = listed.getD j false := fun j hj => getD_set_ne false (Ne.symm hj)
        have hseti : (listed.setIfInBounds i true).getD i false = true := (hlset i).2 (.inl rfl)
        cases hp : r.p with
        | none =>
          cases hc : r.k with
          | none => simp [isO]
          | some c =>
            by_cases hci : c = i
            · subst hci; simp [isO, hseti]
            · simp [isO, hset c hci, beq_ne hci]
        | some p =>
          by_cases hpi : p = i
          · subst hpi
            cases hc : r.k with
            | none => simp [isO, hunf]
            | some c => simp [isO, hunf]
          · cases hc : r.k with
            | none => simp [isO, hset p hpi, beq_ne hpi]
            | some c =>
              by_cases hci : c = i
              · subst hci; simp [isO, hseti]
              · simp [isO, hset c hci, hset p hpi, beq_ne hci, beq_ne hpi]
      rw [hrest]
      refine List.Perm.trans ?_ (filter_split (fun r => r.rd.contains i) _).symm
      rw [show (((avail listed (rs γ)).filter fun r => !isO r.k i).filter fun r => r.rd.contains i) = looks i (rs γ) from by
        rw [List.filter_filter]
        refine filter_ff fun r hr => ?_
        cases hk : isO r.k i <;> cases hrd : r.rd.contains i
        · simp
        · simp [hlk r hr hrd hk]
        · simp
        · simp]
      rw [show (((avail listed (rs γ)).filter fun r => !isO r.k i).filter fun r => !r.rd.contains i) = restR from by
        rw [List.filter_filter]
        exact List.filter_congr fun r _ => by rw [Bool.and_comm]]
    have hst1 : StR Bs (⟨ρ, chunks (takes i (rs γ)) ++ (chunks (looks i (rs γ)) ++ chunks restR), df⟩ : St) a w := by
      obtain ⟨e, h⟩ := hst
      refine ⟨e, h.perm (X := _) ?_⟩
      have := hp1.map (·.c)
      simpa [chunks] using this
    -- knowledge anew
    have hnew : ∀ (γ' : Gh) (ρ' : List (Nat × SV1)), (∀ (k : Nat) (g : Fact), (fs γ')[k]? = some g → k ≠ i → listed.getD k false = true → ∃ g', (fs γ)[k]? = some g' ∧ g'.d = g.d ∧ g'.sv = g.sv) → (∀ d, o.dst = some d → ρ' = (d, (f γ').sv) :: ρ) → (o.dst = none → ρ' = ρ) → BasedK base kl ((listed.setIfInBounds i true).getD kk false) ρ' ∧ Done (fs γ') (listed.setIfInBounds i true) ρ' := fun γ' ρ' hsame h1 h2 => by
      cases hod : o.dst with
      | none =>
        have := h2 hod
        subst this
        refine ⟨fun t sv ht _ => hb0 t sv ht, fun k g d hk hg hlk => ?_⟩
        by_cases hki : k = i
        · subst hki; rw [hf] at hk; cases hk; rw [hfd, hod] at hg; cases hg
        · obtain ⟨g', k1, k2, k3⟩ := hsame k g hk hki (((hlset k).1 hlk).resolve_left hki)
          rw [← k3]
          exact hd k g' d k1 (k2.trans hg) (((hlset k).1 hlk).resolve_left hki)
      | some d0 =>
        have := h1 d0 hod
        subst this
        refine ⟨fun t sv ht hn => ?_, fun k g d hk hg hlk => ?_⟩
        · have hne : d0 ≠ t := fun e => by
            subst e
            rcases hbase γ' i (f γ') d0 (hf γ') (by rw [hfd, hod]) with h0 | ⟨h0, h00⟩
            · rw [h0] at ht; cases ht
            · subst h00
              exact hn ((hlset i).2 (.inl rfl)) h0
          rw [look_cons_ne _ _ hne]
          exact hb0 t sv ht
        · by_cases hki : k = i
          · subst hki
            rw [hf] at hk; cases hk
            rw [hfd, hod] at hg; cases hg
            exact look_cons_self ..
          · have hne : d0 ≠ d := fun e => by
              subst e
              exact hki (hdinj _ (hnd γ') k i g (f γ') d0 hk (hf γ') hg (by rw [hfd, hod]))
            rw [look_cons_ne _ _ hne]
            obtain ⟨g', k1, k2, k3⟩ := hsame k g hk hki (((hlset k).1 hlk).resolve_left hki)
            rw [← k3]
            exact hd k g' d k1 (k2.trans hg) (((hlset k).1 hlk).resolve_left hki)
    have hgo : ∀ (γ' : Gh) (a' : Act) (w' : World), (∀ (k : Nat) (g : Fact), (fs γ')[k]? = some g → k ≠ i → listed.getD k false = true → ∃ g', (fs γ)[k]? = some g' ∧ g'.d = g.d ∧ g'.sv = g.sv) →
        ((lays i (rs γ') ++ (looks i (rs γ) ++ restR)).map (·.c)).Perm (chunks (avail (listed.setIfInBounds i true) (rs γ'))) →
        StR Bs (setO ⟨ρ, chunks (lays i (rs γ')) ++ (chunks (looks i (rs γ)) ++ chunks restR), df⟩ o.dst (f γ').sv) a' w' → wpAnyIn (WF Bs.ro) 0 P .any l.toArray Q fuel (listed.setIfInBounds i true) a' w' := fun γ' a' w' hsame hperm hst' => by
      have hX : (chunks (lays i (rs γ')) ++ (chunks (looks i (rs γ)) ++ chunks restR)).Perm (chunks (avail (listed.setIfInBounds i true) (rs γ'))) := by simpa [chunks] using hperm
      cases hod : o.dst with
      | none =>
        rw [hod] at hst'
        obtain ⟨k1, k2⟩ := hnew γ' ρ hsame (fun d h => by rw [hod] at h; cases h) (fun _ => rfl)
        obtain ⟨e, h⟩ := hst'
        exact ih _ ρ γ' a' w' hsz' hcnt hcl' k1 k2 ⟨e, StE.perm h hX⟩
      | some d0 =>
        rw [hod] at hst'
        obtain ⟨k1, k2⟩ := hnew γ' ((d0, (f γ').sv) :: ρ) hsame (fun d h => by rw [hod] at h; cases h; rfl) (fun h => by rw [hod] at h; cases h)
        obtain ⟨e, h⟩ := hst'
        exact ih _ _ γ' a' w' hsz' hcnt hcl' k1 k2 ⟨e, StE.perm h hX⟩
    unfold wpOpIn
    simp only [ho]
    cases hstep with
    | run h =>
      obtain ⟨hg, hs⟩ := h γ ρ (chunks restR) hb0 hfacts
      rw [if_pos (hg.wanted hst1)]
      refine hs a w hst1 _ _ fun a' w' hst' => ?_
      rw [hfd] at hst'
      exact hgo γ a' w' (fun k g hk _ _ => ⟨g, hk, rfl, rfl⟩) (hp2.map (·.c)) hst'
    | skip h =>
      obtain ⟨hg, h1, h2, h3, h4⟩ := h γ ρ (chunks restR) hb0 hfacts
      rw [if_neg (by rw [hg.wanted hst1]; simp)]
      refine ⟨fun _ _ => trivial, ?_⟩
      refine hgo γ _ w (fun k g hk _ _ => ⟨g, hk, rfl, rfl⟩) (hp2.map (·.c)) ?_
      rw [h1, h3]
      obtain ⟨e, hst1⟩ := hst1
      exact ⟨e, hst1.putO h4 rfl⟩
    | runX hfq h hF hR =>
      obtain ⟨hg, hs⟩ := h γ ρ (chunks restR) hb0 hfacts
      rw [if_pos (hg.wanted hst1)]
      refine hs a w hst1 _ _ fun q a' w' hst' => ?_
      rw [hfd] at hst'
      have haftl : ∀ j ∈ aft, listed.getD j false = false := by
        intro j
        induction j using Nat.strongRecOn with
        | _ j ihj =>
          intro hj
          rcases hk3 i aft haft j hj with rfl | ⟨o', ho', m, hm, hmj, hdep⟩
          · exact hunf
          · rw [← Bool.not_eq_true]
            intro hlj
            have := hcl j o' ho' hlj m hdep
            rw [ihj m hmj hm] at this
            cases this
      refine hgo (updG γ i q) a' w' (fun k g hk hki hlk => ?_) ?_ hst'
      · have h1 := congrArg (fun l => l[k]?) (hF γ q)
        have hnk : aft.contains k = false := by
          rw [← Bool.not_eq_true]
          intro hc
          rw [haftl k (by simpa using hc)] at hlk
          cases hlk
        simp only [List.getElem?_map, List.getElem?_zipIdx, hk, Option.map_some, Nat.zero_add, hnk] at h1
        cases hg' : (fs γ)[k]? with
        | none => rw [hg'] at h1; simp at h1
        | some g' =>
          rw [hg'] at h1
          simp [hnk] at h1
          exact ⟨g', rfl, by rw [h1.2], by rw [h1.2]⟩
      · -- the pieces
        have hRq := hR γ q
        have hrel : All2 (fun (r r' : RE) => r'.p = r.p ∧ r'.k = r.k ∧ r'.rd = r.rd ∧ (r.p.any aft.contains = false → r'.c = r.c)) (rs γ) (rs (updG γ i q)) := by
          generalize rs γ = X at hRq
          generalize rs (updG γ i q) = Y at hRq
          induction X generalizing Y with
          | nil => cases Y with
            | nil => exact .nil
            | cons y Y => simp at hRq
          | cons x X ihX =>
            cases Y with
            | nil => simp at hRq
            | cons y Y =>
              simp only [List.map_cons, List.cons.injEq, Prod.mk.injEq] at hRq
              obtain ⟨⟨h1, h2, h3, h4⟩, h5⟩ := hRq
              refine .cons ⟨h1, h2, h3, fun ha => ?_⟩ (ihX Y h5)
              rw [h1, ha] at h4
              simpa using h4
        have hpn : ∀ r : RE, okR listed r = true → r.p.any aft.contains = false := fun r hr => by
          cases hp : r.p with
          | none => rfl
          | some p =>
            simp only [Option.any_some]
            rw [← Bool.not_eq_true]
            intro hc
            have h1 : p ∈ aft := by simpa using hc
            unfold okR at hr
            rw [hp] at hr
            simp only [haftl p h1, Bool.false_and] at hr
            cases hr
        -- the perm of the new list, with the old chunks
        have hsame2 : ((lays i (rs (updG γ i q)) ++ (looks i (rs γ) ++ restR)).map (·.c)).Perm (chunks (avail (listed.setIfInBounds i true) (rs (updG γ i q)))) := by
          refine List.Perm.trans ?_ ((filter_split (fun r => isO r.p i) (avail (listed.setIfInBounds i true) (rs (updG γ i q)))).map (·.c)).symm
          rw [List.map_append]
          have e1 : (avail (listed.setIfInBounds i true) (rs (updG γ i q))).filter (fun r => isO r.p i) = lays i (rs (updG γ i q)) := by
            have hkq := (dOk_get (hok (updG γ i q))).1
            refine filter_ff fun r hr => ?_
            cases hp : isO r.p i
            · simp
            · have hpi := isO_iff.1 hp
              have : okR (listed.setIfInBounds i true) r = true := by
                unfold okR
                rw [hpi]
                have h1 : (listed.setIfInBounds i true).getD i false = true := (hlset i).2 (.inl rfl)
                simp only [h1, Bool.true_and]
                cases hc : r.k with
                | none => rfl
                | some c =>
                  have hcl2 : c < l.length := (hin _ r hr).1 c hc
                  have h2 := (hkq r hr c hc).1 i hpi
                  simp only [Bool.not_eq_true']
                  rw [← Bool.not_eq_true]
                  intro hlc
                  rcases (hlset c).1 hlc with rfl | hlc
                  · have := hanc _ h2; rw [hunf] at this; cases this
                  · have := anc_listed hcl h2 hcl2 hlc
                    rw [hunf] at this; cases this
              simp [this]
          rw [e1]
          simp only [List.map_append]
          refine List.Perm.append_left _ ?_
          have e2 : ((avail (listed.setIfInBounds i true) (rs (updG γ i q))).filter fun r => !isO r.p i).map (·.c) = ((avail (listed.setIfInBounds i true) (rs γ)).filter fun r => !isO r.p i).map (·.c) := by
            unfold avail
            rw [List.filter_filter, List.filter_filter]
            clear hRq hsteps hst hst1 hst' hgo hnew hp1 hp2
            generalize rs γ = X at hrel
            generalize rs (updG γ i q) = Y at hrel
            induction hrel with
            | nil => rfl
            | cons hxy _ ihX =>
              rename_i x y X Y _
              obtain ⟨h1, h2, h3, h4⟩ := hxy
              have hokxy : okR (listed.setIfInBounds i true) y = okR (listed.setIfInBounds i true) x := by unfold okR; rw [h1, h2]
              simp only [List.filter_cons, h1, hokxy]
              split
              · rename_i hcond
                simp only [List.map_cons]
                rw [ihX]
                simp only [Bool.and_eq_true, Bool.not_eq_true'] at hcond
                have hpp : x.p.any aft.contains = false := by
                  cases hp : x.p with
                  | none => rfl
                  | some p =>
                    simp only [Option.any_some]
                    rw [← Bool.not_eq_true]
                    intro hc
                    have h1' : p ∈ aft := by simpa using hc
                    have hne : p ≠ i := fun e => by subst e; rw [hp] at hcond; simp [isO] at hcond
                    have := hcond.2
                    unfold okR at this
                    rw [hp] at this
                    simp only [getD_set_ne false (Ne.symm hne), haftl p h1', Bool.false_and] at this
                    cases this
                rw [h4 hpp]
              · exact ihX
          rw [e2]
          have e3 := hp2.trans (filter_split (fun r => isO r.p i) (avail (listed.setIfInBounds i true) (rs γ)))
          have e4 : (avail (listed.setIfInBounds i true) (rs γ)).filter (fun r => isO r.p i) = lays i (rs γ) := by
            refine filter_ff fun r hr => ?_
            cases hp : isO r.p i
            · simp
            · have hpi := isO_iff.1 hp
              have : okR (listed.setIfInBounds i true) r = true := by
                unfold okR
                rw [hpi]
                have h1 : (listed.setIfInBounds i true).getD i false = true := (hlset i).2 (.inl rfl)
                simp only [h1, Bool.true_and]
                cases hc : r.k with
                | none => rfl
                | some c =>
                  have hcl2 : c < l.length := (hin _ r hr).1 c hc
                  have h2 := (hk1 r hr c hc).1 i hpi
                  simp only [Bool.not_eq_true']
                  rw [← Bool.not_eq_true]
                  intro hlc
                  rcases (hlset c).1 hlc with rfl | hlc
                  · have := hanc _ h2; rw [hunf] at this; cases this
                  · have := anc_listed hcl h2 hcl2 hlc
                    rw [hunf] at this; cases this
              simp [this]
          rw [e4] at e3
          have e5 := (List.perm_append_left_iff _).1 e3
          have := e5.map (·.c)
          rw [List.map_append] at this
          exact this
        exact hsame2
/-- A statement whose order is open. -/
theorem JC.anyD {kl : List Nat} {kk : Nat} {id : Nat} {base : List (Nat × SV1)} {fs : Gh → List Fact} {rs : Gh → List RE} {l : List Oper} {afts : List (List Nat)} (hm : P.follows .mixedOrders = true) (hsub : AllLook st.ρ base)
    (hX : ∀ γ, st.X.Perm (chunks ((rs γ).filter fun r => r.p.isNone)))
    (hsteps : ∀ (i : Nat) (o : Oper), l[i]? = some o → ∃ (f : Gh → Fact) (aft : List Nat), afts[i]? = some aft ∧ (∀ γ, (fs γ)[i]? = some (f γ)) ∧ (∀ γ, (f γ).d = o.dst) ∧ DStep P Bs l.toArray base fs rs st.df i aft o f)
    (hlen : ∀ γ, (fs γ).length = l.length) (htopo : topo l = true) (hok : ∀ γ, dOk l (rs γ) afts = true) (hin : ∀ γ, ∀ r ∈ rs γ, (∀ c, r.k = some c → c < l.length) ∧ ∀ c, r.p = some c → c < l.length)
    (hnd : ∀ γ, (dsts (fs γ)).Nodup) (hkl : kOk l kl kk = true) (hbase : ∀ γ (i : Nat) (f : Fact) (d : Nat), (fs γ)[i]? = some f → f.d = some d → look base d = none ∨ (d ∈ kl ∧ i = kk)) {ρ' : Gh → List (Nat × SV1)}
    (hρ : ∀ γ ρ, BasedX base kl ρ → (∀ (i : Nat) (f : Fact) (d : Nat), (fs γ)[i]? = some f → f.d = some d → look ρ d = some f.sv) → AllLook ρ (ρ' γ))
    (h : ∀ γ, JQ Bs .normal (⟨ρ' γ, chunks ((rs γ).filter fun r => r.k.isNone), st.df⟩ : St) Q) : JC P Bs (.region id l.toArray true) st Q := by
  intro a w hst
  refine wpIn_region_any hm ?_
  have hdrew : StR Bs st a { w with drawn := w.drawn + 1 } := by
    obtain ⟨e, hst⟩ := hst
    exact ⟨e, hst.keep ⟨rfl, rfl, rfl, Nat.le_refl _, fun _ _ => rfl⟩⟩
  have h0 : ∀ i, (Array.replicate l.toArray.size false).getD i false = false := fun i => by simp [Array.getD]
  refine JL.anyD (fs := fs) (rs := rs) (df := st.df) hsteps hlen htopo hok hin hnd hkl hbase (fun γ ρ h1 h2 a w hst => h γ a w ?_) l.toArray.size _ st.ρ (fun _ _ => 0) a _ (by simp) (by simp [List.count_replicate]) (fun j o _ hj => ?_) (fun t sv ht _ => hsub.based t sv ht) (fun i f d _ _ hl => ?_) ?_
  · obtain ⟨e, hst⟩ := hst
    exact ⟨e, hst.weak (hρ γ ρ h1 h2).based⟩
  · rw [h0] at hj; cases hj
  · rw [h0] at hl; cases hl
  · obtain ⟨e, hdrew⟩ := hdrew
    refine ⟨e, hdrew.perm (X := _) ?_⟩
    have : avail (Array.replicate l.toArray.size false) (rs fun _ _ => 0) = (rs fun _ _ => 0).filter fun r => r.p.isNone := by
      refine List.filter_congr fun r _ => ?_
      unfold okR
      cases r.p <;> cases r.k <;> simp [Array.getD]
    rw [this]
    exact hX _
end
end Go.Proofs.Ytbmimaabgclhjaa.Fw
