/- Telling less; freezing; texts' marks; open orders, as they are printed. -/
import Derived.Test.YtbmimaabgclhjaaFm
namespace Go.Proofs.Ytbmimaabgclhjaa.Fw
open Go Go.RowKit
set_option linter.unusedVariables false
set_option linter.unusedSimpArgs false

/-! ### parts of boxes -/
theorem Comp.at {T U : Type} {r : Rep T} {x : T} {off n : Nat} {s : Rep U} {y : Vector U n} {u : U} (h : Comp r x off (rV n s) y) {i : Nat} (hi : i < n) (hu : y[i] = u) : Comp r x (off + i * s.sz) s u := by
  subst hu
  refine h.trans (Comp.vec s y i hi) ?_
  have := Nat.mul_le_mul_right s.sz (show i + 1 ≤ n by omega)
  rw [Nat.add_mul] at this
  show i * s.sz + s.sz ≤ n * s.sz
  omega
theorem Upd.at {T U : Type} {r : Rep T} {x x' : T} {off n : Nat} {s : Rep U} {y y' : Vector U n} {u : U} (hc : Comp r x off (rV n s) y) {i : Nat} (hi : i < n) (hu : y.set i u hi = y') (h : Upd r x off (rV n s) y' x') : Upd r x (off + i * s.sz) s u x' := by
  subst hu
  exact h.trans hc (Upd.vec s y i hi u)

/-! ### telling less -/
def Wk (K : Env → Prop) {T U : Type} (r : Rep T) (x : T) (s : Rep U) (y : U) : Prop := ∀ e vs, K e → r.rel e x vs → s.rel e y vs
def KT : Env → Prop := fun _ => True
section
variable {K : Env → Prop} {T U T' U' : Type}
theorem Wk.refl {r : Rep T} {x : T} : Wk K r x r x := fun _ _ _ h => h
theorem Wk.trans {V : Type} {r : Rep T} {x : T} {s : Rep U} {y : U} {q : Rep V} {z : V} (h : Wk K r x s y) (k : Wk K s y q z) : Wk K r x q z := fun e vs hK hr => k e vs hK (h e vs hK hr)
theorem Wk.pair {r : Rep T} {x : T} {s : Rep U} {y : U} {r' : Rep T'} {x' : T'} {s' : Rep U'} {y' : U'} (h : Wk K r x r' x') (k : Wk K s y s' y') : Wk K (rP r s) (x, y) (rP r' s') (x', y') :=
  fun e vs hK ⟨a, b, hab, ha, hb⟩ => ⟨a, b, hab, h e a hK ha, k e b hK hb⟩
theorem Wk.nil {r : Rep T} : Wk K (rW (HDR none 0 0 0)) () (rL r) [] := fun e vs _ ⟨v, h, k, _⟩ => by
  subst h
  exact wkNil e v k
theorem wkAK {r : Rep T} {x : T} {s : Rep U} {y : U} (h : Wk KT r x s y) : ∀ e v, (A r x).p e v → (A s y).p e v := fun e v ⟨vs, k1, k2⟩ => ⟨vs, k1, h e vs trivial k2⟩
end

section
variable {P : Program} {Bs : Base} {st st' : St} {d : Nat} {ty t t' el : TypeId} {pos : String} {af : Array Edge} {g : Option (Nat × Bool)} {x y z : Operand} {Q : Exit → Act → World → Prop} {l : List Oper} {ops : Array Oper}
variable {e : Env} {a : Act} {w : World}
theorem Imp.var {T U : Type} {j b : Nat} {r : Rep T} {x : T} {q : Rep U} {y : U} (hX : st.X[j]? = some (cvar b r x)) (k : Wk KT r x q y) : Imp Bs st { st with X := st.X.set j (cvar b q y) } :=
  Imp.chunk hX (wkVar fun e vs h => k e vs trivial h) fun _ h => h

/-! ### a row is frozen, and what points into it told as a list -/
def ImpK (Bs : Base) (K : Env → Prop) (st st' : St) : Prop := ∀ e a w, K e → StE Bs st e a w → StE Bs st' e a w
theorem ImpK.refl {K : Env → Prop} : ImpK Bs K st st := fun _ _ _ _ h => h
theorem ImpK.slot {K : Env → Prop} {s : Nat} {p q : VP} {st'' : St} (hs : look st.ρ s = some (.one (.val p))) (k : ∀ e v, K e → p.p e v → q.p e v) (t : ImpK Bs K { st with ρ := (s, .one (.val q)) :: st.ρ } st'') : ImpK Bs K st st'' := fun e a w hK h =>
  t e a w hK ⟨h.nt, h.df, h.frz, h.xs, h.dj, fun t sv ht => by
    rcases look_cons ht with ⟨rfl, rfl⟩ | ⟨_, ht⟩
    · exact k e _ hK (h.sl _ _ hs)
    · exact h.sl t sv ht, h.base⟩
theorem ImpK.slotA {K : Env → Prop} {T U : Type} {s : Nat} {r : Rep T} {x : T} {q : Rep U} {y : U} {st'' : St} (hs : look st.ρ s = some (.one (.val (A r x)))) (k : Wk K r x q y) (t : ImpK Bs K { st with ρ := (s, .one (.val (A q y))) :: st.ρ } st'') : ImpK Bs K st st'' := ImpK.slot (p := A r x) (q := A q y) hs (fun e v hK h => let ⟨vs, k1, k2⟩ := h; ⟨vs, k1, k e vs hK k2⟩) t
theorem ImpK.var {K : Env → Prop} {T U : Type} {j b : Nat} {r : Rep T} {x : T} {q : Rep U} {y : U} {st'' : St} (hX : st.X[j]? = some (cvar b r x)) (k : Wk K r x q y) (t : ImpK Bs K { st with X := st.X.set j (cvar b q y) } st'') : ImpK Bs K st st'' := fun e a w hK h => by
  refine t e a w hK (h.turn1 hX (Env.le.refl e) (fun ad v hm => .inl hm) ((Kept.refl w).x _) h.frz ?_ fun b hb => .inl hb)
  obtain ⟨cs, el, fr, h1, h2, h3, h4⟩ := h.xs _ (List.mem_of_getElem? hX)
  exact ⟨cs, el, fr, h1, h2, k e cs hK h3, h4⟩
/-- What is known of a row that is frozen. -/
def KL {T : Type} (r : Rep T) (xs : List T) (ob : Option Nat) (cap : Nat) : Env → Prop := fun e => LR r e xs (.slice (ob.map fun b => ⟨b, 0, none⟩) xs.length cap)
theorem Imp.frz {T : Type} {r : Rep T} {xs : List T} {ob : Option Nat} {fz cap j : Nat} (hX : st.X[j]? = some (cown ob r xs fz cap)) (k : ImpK Bs (KL r xs ob cap) { st with X := st.X.set j (cown ob r xs xs.length cap) } st') : Imp Bs st st' := by
  intro a w ⟨e, h⟩
  have hcap : xs.length ≤ cap ∧ (ob = none → cap = 0) := by
    rcases h.xs _ (List.mem_of_getElem? hX) with ⟨h1, h2, h3, h4⟩ | ⟨b, cs, el, fr, hb, h5, h6, h0, _⟩
    · subst h2; exact ⟨by simp, fun _ => h4⟩
    · exact ⟨h0, fun hn => by rw [hb] at hn; cases hn⟩
  obtain ⟨e', _, h1, h2⟩ := own_freeze h hX
  exact ⟨e', k e' a w (h2 cap hcap.1 hcap.2) h1⟩

/-! ### open orders -/
theorem look_none {l : List (Nat × SV1)} {t : Nat} (h : t ∉ l.map (·.1)) : look l t = none := by
  induction l with
  | nil => rfl
  | cons p l ih =>
    simp only [List.map_cons, List.mem_cons, not_or] at h
    rw [show p = (p.1, p.2) from rfl, look_cons_ne _ _ (fun e => h.1 e.symm)]
    exact ih h.2
/-- The steps, one by one. -/
inductive DSteps (P : Program) (Bs : Base) (ops : Array Oper) (base : List (Nat × SV1)) (fs : Gh → List Fact) (rs : Gh → List RE) (df : List Nat) : Nat → List Oper → (Gh → List Fact) → List (List Nat) → Prop
  | nil {i : Nat} : DSteps P Bs ops base fs rs df i [] (fun _ => []) []
  | cons {i j : Nat} {o : Oper} {os : List Oper} {f : Gh → Fact} {gs : Gh → List Fact} {aft : List Nat} {afts : List (List Nat)} (hj : i + 1 = j) (hd : ∀ γ, (f γ).d = o.dst) (h : DStep P Bs ops base fs rs df i aft o f) (t : DSteps P Bs ops base fs rs df j os gs afts) : DSteps P Bs ops base fs rs df i (o :: os) (fun γ => f γ :: gs γ) (aft :: afts)
theorem DSteps.get {base : List (Nat × SV1)} {fs : Gh → List Fact} {rs : Gh → List RE} {df : List Nat} {i : Nat} {os : List Oper} {gs : Gh → List Fact} {afts : List (List Nat)} (h : DSteps P Bs ops base fs rs df i os gs afts) :
    (∀ γ, (gs γ).length = os.length) ∧ ∀ (j : Nat) (o : Oper), os[j]? = some o → ∃ (f : Gh → Fact) (aft : List Nat), afts[j]? = some aft ∧ (∀ γ, (gs γ)[j]? = some (f γ)) ∧ (∀ γ, (f γ).d = o.dst) ∧ DStep P Bs ops base fs rs df (i + j) aft o f := by
  induction h with
  | nil => exact ⟨fun _ => rfl, fun j o h => by simp at h⟩
  | cons hj hd hh t ih =>
    rename_i i j0 o os f gs aft afts
    subst hj
    refine ⟨fun γ => by simp [ih.1], fun j o' ho => ?_⟩
    obtain _ | j := j
    · simp at ho; subst ho
      exact ⟨f, aft, rfl, fun _ => rfl, hd, hh⟩
    · obtain ⟨f', aft', k1, k2, k3, k4⟩ := ih.2 j o' (by simpa using ho)
      exact ⟨f', aft', by simpa using k1, fun γ => by simpa using k2 γ, k3, by rw [show i + (j + 1) = i + 1 + j from by omega]; exact k4⟩
def inOk (n : Nat) (rs : List RE) : Bool := rs.all fun r => (match r.k with | some c => Nat.blt c n | none => true) && (match r.p with | some c => Nat.blt c n | none => true)
theorem dsts_inj : ∀ (fs : List Fact), (dsts fs).Nodup → ∀ (i j : Nat) (f f' : Fact) (d : Nat), fs[i]? = some f → fs[j]? = some f' → f.d = some d → f'.d = some d → i = j := by
  intro fs
  induction fs with
  | nil => intro _ i j f f' d hi; simp at hi
  | cons g fs ih =>
    intro hn i j f f' d hi hj hd hd'
    have hmem : ∀ (k : Nat) (f : Fact), fs[k]? = some f → f.d = some d → d ∈ dsts fs := fun k f hk hd => List.mem_filterMap.2 ⟨f, List.mem_of_getElem? hk, hd⟩
    have hn' : (dsts fs).Nodup ∧ ∀ d', g.d = some d' → d' ∉ dsts fs := by
      cases hgd : g.d with
      | none => simp only [dsts, List.filterMap_cons, hgd] at hn; exact ⟨hn, fun d' h => by cases h⟩
      | some d0 => simp only [dsts, List.filterMap_cons, hgd, List.nodup_cons] at hn; exact ⟨hn.2, fun d' h => by cases h; exact hn.1⟩
    obtain _ | i := i <;> obtain _ | j := j
    · rfl
    · simp at hi; subst hi; exact absurd (hmem j f' (by simpa using hj) hd') (hn'.2 d hd)
    · simp at hj; subst hj; exact absurd (hmem i f (by simpa using hi) hd) (hn'.2 d hd')
    · rw [ih hn'.1 i j f f' d (by simpa using hi) (by simpa using hj) hd hd']
theorem JC.anyE {kl : List Nat} {kk : Nat} {id : Nat} {base : List (Nat × SV1)} {fs : Gh → List Fact} {rs : Gh → List RE} {ds bs : List Nat} {l : List Oper} {afts : List (List Nat)} {js : List Nat} {n : Nat} (hm : P.follows .mixedOrders = true) (hsub : AllLook st.ρ base)
    (hX : ∀ γ, picks st.X js = some (chunks ((rs γ).filter fun r => r.p.isNone), [])) (hsteps : DSteps P Bs l.toArray base fs rs st.df 0 l fs afts)
    (htopo : topo l = true) (hok : ∀ γ, dOk l (rs γ) afts = true) (hn : l.length = n) (hin : ∀ γ, inOk n (rs γ) = true) (hds : ∀ γ, dsts (fs γ) = ds) (hbs : base.map (·.1) = bs) (hnd : ds.Nodup) (hdis : ds.all (fun d => !bs.contains d || kl.contains d) = true) (hkl : kOk l kl kk = true) (hkd : ∀ γ, ∀ d ∈ kl, ∃ f, (fs γ)[kk]? = some f ∧ f.d = some d) {ρ' : Gh → List (Nat × SV1)} {X' : Gh → List Chunk}
    (hρ : ∀ γ ρ, BasedX base kl ρ → (∀ (k : Nat) (g : Fact) (d : Nat), (fs γ)[k]? = some g → g.d = some d → look ρ d = some g.sv) → AllLook ρ (ρ' γ)) (hX' : ∀ γ, chunks ((rs γ).filter fun r => r.k.isNone) = X' γ)
    (h : ∀ γ, JQ Bs .normal (⟨ρ' γ, X' γ, st.df⟩ : St) Q) : JC P Bs (.region id l.toArray true) st Q := by
  obtain ⟨h1, h2⟩ := hsteps.get
  refine JC.anyD hm hsub (fun γ => by have := picks_perm (hX γ); simpa using this) (fun i o ho => by simpa using h2 i o ho) h1 htopo hok (fun γ r hr => ?_) (fun γ => by rw [hds]; exact hnd) hkl (fun γ i f d hif hfd => ?_) hρ (fun γ => by rw [hX' γ]; exact h γ)
  · have := List.all_eq_true.1 (hin γ) r hr
    rw [hn]
    simp only [Bool.and_eq_true] at this
    refine ⟨fun c hc => ?_, fun c hc => ?_⟩
    · have := this.1; rw [hc] at this; exact ltB this
    · have := this.2; rw [hc] at this; exact ltB this
  · have hd : d ∈ ds := by rw [← hds γ]; exact List.mem_filterMap.2 ⟨f, List.mem_of_getElem? hif, hfd⟩
    subst hbs
    have h0 := List.all_eq_true.1 hdis d hd
    by_cases hk : d ∈ kl
    · obtain ⟨f', hf', hfd'⟩ := hkd γ d hk
      exact .inr ⟨hk, dsts_inj _ (by rw [hds]; exact hnd) i kk f f' d hif hf' hfd hfd'⟩
    · exact .inl (look_none fun hm => by
        simp at h0; simp at hm; obtain ⟨v, hv⟩ := hm
        rcases h0 with h0 | h0
        · exact h0 v hv
        · exact hk h0)
/-- A new piece in front of the others. -/
theorem OpX.front {o : Oper} {γ : Type} {X : List Chunk} {df : List Nat} {ρ : List (Nat × SV1)} {d : Nat} {c : γ → Chunk} {sv : γ → SV1} {st : St} (h : OpX P Bs o st (fun q => St.set ⟨ρ, X ++ [c q], df⟩ d (sv q))) : OpX P Bs o st (fun q => St.set ⟨ρ, c q :: X, df⟩ d (sv q)) :=
  h.mapX id fun q a w ⟨e, h⟩ => ⟨e, h.perm (X := c q :: X) (List.perm_append_comm (l₁ := X) (l₂ := [c q]))⟩
theorem OpX.ghost {o : Oper} {γ : Type} {st' : γ → St} {st'' : (Nat → Nat) → St} (f : γ → Nat → Nat) (h : OpX P Bs o st st') (k : ∀ q, Imp Bs (st' q) (st'' (f q))) : OpX P Bs o st st'' := h.mapX f k
end
end Go.Proofs.Ytbmimaabgclhjaa.Fw
