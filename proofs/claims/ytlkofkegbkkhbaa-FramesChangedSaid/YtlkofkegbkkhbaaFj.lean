/- Guards; statements whose order is open. -/
import Derived.Test.YtlkofkegbkkhbaaFi
namespace Go.Proofs.Ytlkofkegbkkhbaa.Fw
open Go Go.RowKit
set_option linter.unusedVariables false
set_option linter.unnecessarySimpa false
set_option linter.unusedSimpArgs false

section
variable {M : HM} {P : Program} {Bs : Base} {st st' : St M} {Q : Exit → Act → World → Prop} {ops : Array Oper} {os : List Oper} {o : Oper}

def dstOf (ops : Array Oper) (i : Nat) : Option Tmp := (ops[i]?).bind (·.dst)
theorem yielded_val {a : Act} {w : World} {gi dg : Nat} {b : Bool} (hg : dstOf ops gi = some dg) (hdN : dg < Bs.N) (hb : look st.ρ dg = some (.one (.val (S rB b)))) (h : StR Bs st a w) : yielded ops a.tmps gi = some b := by
  obtain ⟨e, β, F, h⟩ := h
  have hv : a.tmps.getD dg undef = .bool b := by have := h.sl _ _ hb; simpa [SVR, SWR, S, rB] using this
  unfold yielded
  rw [show (ops[gi]?).bind (·.dst) = some dg from hg]
  have hlt : dg < a.tmps.size := by rw [h.nt]; exact hdN
  have : a.tmps[dg]? = some (.bool b) := by
    rw [Array.getElem?_eq_getElem hlt]
    simp [Array.getD, hlt] at hv
    rw [hv]
  simp [this]
theorem yielded_und {a : Act} {w : World} {gi dg : Nat} (hg : dstOf ops gi = some dg) (hdN : dg < Bs.N) (hb : look st.ρ dg = some (.one .und)) (h : StR Bs st a w) : yielded ops a.tmps gi = none := by
  obtain ⟨e, β, F, h⟩ := h
  have hv : a.tmps.getD dg undef = undef := h.sl _ _ hb
  unfold yielded
  rw [show (ops[gi]?).bind (·.dst) = some dg from hg]
  have hlt : dg < a.tmps.size := by rw [h.nt]; exact hdN
  have : a.tmps[dg]? = some undef := by
    rw [Array.getElem?_eq_getElem hlt]
    simp [Array.getD, hlt] at hv
    rw [hv]
  simp [this, undef]
/-- What a guard says. -/
inductive Guard (Bs : Base) (ops : Array Oper) (st : St M) : Option (Nat × Bool) → Bool → Prop
  | none : Guard Bs ops st none true
  | val {gi dg : Nat} {pol b : Bool} (hg : dstOf ops gi = some dg) (hdN : dg < Bs.N) (hb : look st.ρ dg = some (.one (.val (S rB b)))) : Guard Bs ops st (some (gi, pol)) (b == pol)
  | und {gi dg : Nat} {pol : Bool} (hg : dstOf ops gi = some dg) (hdN : dg < Bs.N) (hb : look st.ρ dg = some (.one .und)) : Guard Bs ops st (some (gi, pol)) false
theorem Guard.yes {gi dg : Nat} {pol b : Bool} (hg : dstOf ops gi = some dg) (hdN : dg < Bs.N) (hb : look st.ρ dg = some (.one (.val (S rB b)))) (h : b = pol) : Guard Bs ops st (some (gi, pol)) true := by
  have := Guard.val (pol := pol) hg hdN hb
  subst h
  simpa using this
theorem Guard.no {gi dg : Nat} {pol b : Bool} (hg : dstOf ops gi = some dg) (hdN : dg < Bs.N) (hb : look st.ρ dg = some (.one (.val (S rB b)))) (h : b = !pol) : Guard Bs ops st (some (gi, pol)) false := by
  have := Guard.val (pol := pol) hg hdN hb
  subst h
  cases pol <;> exact this
theorem Guard.wanted {g : Bool} (hg : Guard Bs ops st o.guard g) {a : Act} {w : World} (h : StR Bs st a w) : Region.wanted o (yielded ops a.tmps) = g := by
  unfold Region.wanted
  generalize o.guard = og at hg
  cases hg with
  | none => rfl
  | val h1 hN h2 => rename_i gi dg pol b; simp only [yielded_val h1 hN h2 h]; cases b <;> cases pol <;> rfl
  | und h1 hN h2 => simp only [yielded_und h1 hN h2 h]; rfl
theorem JL.run (hg : Guard Bs ops st o.guard true) (hs : OpStep P Bs o st st') (h : JL P Bs ops os st' Q) : JL P Bs ops (o :: os) st Q :=
  fun a w hst => wpList_step fun K hK => by
    rw [if_pos (hg.wanted hst)]
    exact hs a w hst K Q fun a' w' h' => hK a' w' (h a' w' h')
def setO (st : St M) : Option Nat → SV1 → St M
  | some d, sv => st.set d sv
  | none, _ => st
theorem JL.skip (hg : Guard Bs ops st o.guard false) (hd : ∀ d, o.dst = some d → d < Bs.N) (h : JL P Bs ops os (setO st o.dst (.one .und)) Q) : JL P Bs ops (o :: os) st Q :=
  fun a w hst => wpList_step fun K hK => by
    rw [if_neg (by rw [hg.wanted hst]; simp)]
    refine hK _ _ (h _ _ ?_)
    obtain ⟨e, β, F, h⟩ := hst
    cases ho : o.dst with
    | none => exact ⟨e, β, F, h⟩
    | some d => exact ⟨e, β, F, h.put (hd d ho) rfl⟩

/-! ### any order -/
/-- What an operation of such a statement does to what is told: it adds one fact. -/
structure Fact where
  d : Option Nat
  sv : SV1
/-- On what an operation waits. -/
def depsOf (o : Oper) : List Nat := o.after.toList.filterMap fun e => if Region.binds .any e then some e.on else none
/-- The facts of those that are done. -/
def Done (fs : List Fact) (listed : Array Bool) (ρ : List (Nat × SV1)) : Prop := ∀ (i : Nat) (f : Fact) (d : Nat), fs[i]? = some f → f.d = some d → listed.getD i false = true → look ρ d = some f.sv
def Based (base ρ : List (Nat × SV1)) : Prop := ∀ t sv, look base t = some sv → look ρ t = some sv
def AllLook (ρ : List (Nat × SV1)) : List (Nat × SV1) → Prop
  | [] => True
  | p :: l => look ρ p.1 = some p.2 ∧ AllLook ρ l
theorem AllLook.based {ρ : List (Nat × SV1)} : ∀ {l : List (Nat × SV1)}, AllLook ρ l → Based l ρ
  | [], _, t, sv, h => by cases h
  | (s, v) :: l, hs, t, sv, h => by
    simp only [look] at h
    cases hb : Nat.beq s t
    · rw [hb] at h; exact AllLook.based hs.2 t sv h
    · rw [hb] at h
      cases h
      have := Nat.eq_of_beq_eq_true hb
      subst this
      exact hs.1
/-- An operation, wherever all is done on which it waits. -/
def FStep (P : Program) (Bs : Base) (ops : Array Oper) (base : List (Nat × SV1)) (fs : List Fact) (X : List BX) (h : M.H) (o : Oper) (f : Fact) : Prop :=
  ∀ ρ, Based base ρ → (∀ (k : Nat) (g : Fact) (d : Nat), fs[k]? = some g → g.d = some d → k ∈ depsOf o → look ρ d = some g.sv) →
    (Guard Bs ops (⟨ρ, X, h⟩ : St M) o.guard true ∧ OpStep P Bs o (⟨ρ, X, h⟩ : St M) (setO ⟨ρ, X, h⟩ f.d f.sv)) ∨ (Guard Bs ops (⟨ρ, X, h⟩ : St M) o.guard false ∧ f.d = o.dst ∧ f.sv = .one .und ∧ ∀ d, o.dst = some d → d < Bs.N)
def AllSteps (P : Program) (Bs : Base) (ops : Array Oper) (base : List (Nat × SV1)) (all : List Fact) (X : List BX) (h : M.H) : List Oper → List Fact → Prop
  | [], [] => True
  | o :: os, f :: fs => (f.d = o.dst ∧ FStep P Bs ops base all X h o f) ∧ AllSteps P Bs ops base all X h os fs
  | _, _ => False
theorem AllSteps.get {base : List (Nat × SV1)} {all : List Fact} {X : List BX} {h : M.H} : ∀ {os : List Oper} {fs : List Fact}, AllSteps P Bs ops base all X h os fs → os.length = fs.length ∧ ∀ (i : Nat) (o : Oper), os[i]? = some o → ∃ f, fs[i]? = some f ∧ f.d = o.dst ∧ FStep P Bs ops base all X h o f
  | [], [], _ => ⟨rfl, fun i o h => by simp at h⟩
  | o :: os, f :: fs, hh => by
    obtain ⟨h1, h2⟩ := AllSteps.get hh.2
    refine ⟨by simp [h1], fun i o' ho => ?_⟩
    obtain _ | i := i
    · simp at ho; subst ho; exact ⟨f, rfl, hh.1⟩
    · exact h2 i o' (by simpa using ho)
  | [], _ :: _, hh => hh.elim
  | _ :: _, [], hh => hh.elim
/-- Each waits for earlier ones alone. -/
def topo (l : List Oper) : Bool := l.zipIdx.all fun p => p.1.after.all fun e => !Region.binds .any e || decide (e.on < p.2)
def dsts (fs : List Fact) : List Nat := fs.filterMap (·.d)

theorem cnt_set {l : Array Bool} {i : Nat} (h : l.getD i true = false) : (l.setIfInBounds i true).toList.count false + 1 = l.toList.count false := by
  have hi : i < l.size := by
    rcases Nat.lt_or_ge i l.size with h' | h'
    · exact h'
    · simp [Array.getD, Nat.not_lt.2 h'] at h
  have hl : l.toList[i]'(by simpa using hi) = false := by simpa [Array.getD, hi] using h
  rw [Array.toList_setIfInBounds]
  have hsplit : l.toList = l.toList.take i ++ false :: l.toList.drop (i + 1) := by
    conv => lhs; rw [← List.take_append_drop i l.toList]
    rw [List.drop_eq_getElem_cons (by simpa using hi), hl]
  conv => rhs; rw [hsplit]
  rw [List.set_eq_take_append_cons_drop, if_pos (by simpa using hi)]
  simp [List.count_append, List.count_cons]
  omega

theorem JL.any {base : List (Nat × SV1)} {fs : List Fact} {X : List BX} {h : M.H} {l : List Oper} (hsteps : AllSteps P Bs l.toArray base fs X h l fs) (htopo : topo l = true) (hnd : (dsts fs).Nodup) (hbase : ∀ d ∈ dsts fs, look base d = none)
    (hQ : ∀ ρ, Based base ρ → (∀ (i : Nat) (f : Fact) (d : Nat), fs[i]? = some f → f.d = some d → look ρ d = some f.sv) → JQ Bs .normal (⟨ρ, X, h⟩ : St M) Q) :
    ∀ (fuel : Nat) (listed : Array Bool) (ρ : List (Nat × SV1)) (a : Act) (w : World), listed.size = l.length → listed.toList.count false = fuel → Based base ρ → Done fs listed ρ → StR Bs (⟨ρ, X, h⟩ : St M) a w → wpAny P .any l.toArray Q fuel listed a w := by
  obtain ⟨hlen, hget⟩ := hsteps.get
  have hdinj : ∀ (i j : Nat) (f f' : Fact) (d : Nat), fs[i]? = some f → fs[j]? = some f' → f.d = some d → f'.d = some d → i = j := by
    have key : ∀ (fs : List Fact), (dsts fs).Nodup → ∀ (i j : Nat) (f f' : Fact) (d : Nat), fs[i]? = some f → fs[j]? = some f' → f.d = some d → f'.d = some d → i = j := by
      intro fs
      induction fs with
      | nil => intro _ i j f f' d hi; simp at hi
      | cons g fs ih =>
        intro hn i j f f' d hi hj hd hd'
        have hmem : ∀ (k : Nat) (f : Fact), fs[k]? = some f → f.d = some d → d ∈ dsts fs := fun k f hk hd => List.mem_filterMap.2 ⟨f, List.mem_of_getElem? hk, hd⟩
        have hn' : (dsts fs).Nodup ∧ ∀ d', g.d = some d' → d' ∉ dsts fs := by
          cases hgd : g.d with
          | none => simp only [dsts, List.filterMap_cons, hgd] at hn; exact ⟨hn, fun d' h => by cases h⟩
          | some d0 => simp only [dsts, List.filterMap_cons, hgd, List.nodup_cons] at hn; exact ⟨hn.2, fun d' h => by cases h; exact hn.1⟩
        obtain _ | i := i <;> obtain _ | j := j
        · rfl
        · simp at hi; subst hi; exact absurd (hmem j f' (by simpa using hj) hd') (hn'.2 d hd)
        · simp at hj; subst hj; exact absurd (hmem i f (by simpa using hi) hd) (hn'.2 d hd')
        · rw [ih hn'.1 i j f f' d (by simpa using hi) (by simpa using hj) hd hd']
    exact key fs hnd
  have hready0 : ∀ (listed : Array Bool), listed.size = l.length → Region.ready .any l.toArray listed = [] → ∀ i, i < l.length → listed.getD i false = true := by
    intro listed hsz hr i
    induction i using Nat.strongRecOn with
    | _ i ih =>
      intro hi
      cases hli : listed.getD i true
      · exfalso
        have ho : l[i]? = some l[i] := List.getElem?_eq_getElem hi
        have hm : i ∈ Region.ready .any l.toArray listed := by
          rw [mem_ready]
          refine ⟨hli, l[i], by simpa using ho, fun e he hb => ?_⟩
          have htop := htopo
          simp only [topo, List.all_eq_true] at htop
          have h1 := htop (l[i], i) (by rw [List.mem_zipIdx_iff_getElem?]; exact ho)
          rw [Array.all_eq_true_iff_forall_mem] at h1
          have h2 := h1 e he
          rw [hb] at h2
          have h3 : e.on < i := by simpa using h2
          exact ih e.on h3 (by omega)
        rw [hr] at hm
        cases hm
      · have : i < listed.size := by omega
        simp [Array.getD, this] at hli ⊢
        exact hli
  intro fuel
  have fin : ∀ (listed : Array Bool) (ρ : List (Nat × SV1)) (a : Act) (w : World), listed.size = l.length → Based base ρ → Done fs listed ρ → StR Bs (⟨ρ, X, h⟩ : St M) a w → Region.ready .any l.toArray listed = [] → Q .normal a w := by
    intro listed ρ a w hsz hb hd hst hr
    refine hQ ρ hb (fun i f d hf hfd => ?_) a w hst
    exact hd i f d hf hfd (hready0 listed hsz hr i (by have := (List.getElem?_eq_some_iff.1 hf).1; omega))
  induction fuel with
  | zero =>
    intro listed ρ a w hsz hc hb hd hst
    have hr : Region.ready .any l.toArray listed = [] := by
      rw [List.eq_nil_iff_forall_not_mem]
      intro i hi
      obtain ⟨h1, o, ho, _⟩ := mem_ready.1 hi
      have hlt : i < listed.size := by rw [hsz]; simpa using (Array.getElem?_eq_some_iff.1 ho).1
      have : false ∈ listed.toList := by
        have hf : listed[i] = false := by simpa [Array.getD, hlt] using h1
        rw [← hf]; simp
      have := List.count_pos_iff.2 this
      omega
    exact ⟨hr, fin listed ρ a w hsz hb hd hst hr⟩
  | succ fuel ih =>
    intro listed ρ a w hsz hc hb hd hst
    refine ⟨fin listed ρ a w hsz hb hd hst, fun i hi => ?_⟩
    obtain ⟨hun, o, ho, hdeps⟩ := mem_ready.1 hi
    have hol : l[i]? = some o := by simpa using ho
    obtain ⟨f, hf, hfd, hstep⟩ := hget i o hol
    have hsz' : (listed.setIfInBounds i true).size = l.length := by simp [hsz]
    have hcnt : (listed.setIfInBounds i true).toList.count false = fuel := by have := cnt_set hun; omega
    have hnew : ∀ (ρ' : List (Nat × SV1)), (∀ d, f.d = some d → ρ' = (d, f.sv) :: ρ) → (f.d = none → ρ' = ρ) → Based base ρ' ∧ Done fs (listed.setIfInBounds i true) ρ' := fun ρ' h1 h2 => by
      cases hfd' : f.d with
      | none =>
        have := h2 hfd'
        subst this
        refine ⟨hb, fun k g d hk hg hlk => ?_⟩
        by_cases hki : i = k
        · subst hki; rw [hf] at hk; cases hk; rw [hfd'] at hg; cases hg
        · exact hd k g d hk hg (by rwa [getD_set_ne false hki] at hlk)
      | some d0 =>
        have := h1 d0 hfd'
        subst this
        refine ⟨fun t sv ht => ?_, fun k g d hk hg hlk => ?_⟩
        · have hne : d0 ≠ t := fun e => by
            subst e
            rw [hbase d0 (List.mem_filterMap.2 ⟨f, List.mem_of_getElem? hf, hfd'⟩)] at ht
            cases ht
          rw [look_cons_ne _ _ hne]
          exact hb t sv ht
        · by_cases hki : i = k
          · subst hki
            rw [hf] at hk; cases hk
            rw [hfd'] at hg; cases hg
            exact look_cons_self ..
          · have hne : d0 ≠ d := fun e => by subst e; exact hki (hdinj i k f g d0 hf hk hfd' hg)
            rw [look_cons_ne _ _ hne]
            exact hd k g d hk hg (by rwa [getD_set_ne false hki] at hlk)
    have hpre := hstep ρ hb fun k g d hk hg hmem => by
      obtain ⟨e, he, hek⟩ := List.mem_filterMap.1 hmem
      split at hek
      · rename_i heb
        cases hek
        exact hd _ g d hk hg (hdeps e (Array.mem_toList_iff.1 he) heb)
      · cases hek
    unfold wpOp
    simp only [ho]
    rcases hpre with ⟨hg, hs⟩ | ⟨hg, h1, h2, h3⟩
    · rw [if_pos (hg.wanted hst)]
      refine .inl (hs a w hst _ _ fun a' w' hst' => ?_)
      cases hfd' : f.d with
      | none =>
        rw [hfd'] at hst'
        obtain ⟨k1, k2⟩ := hnew ρ (fun d h => by rw [hfd'] at h; cases h) (fun _ => rfl)
        exact ih _ ρ a' w' hsz' hcnt k1 k2 hst'
      | some d0 =>
        rw [hfd'] at hst'
        obtain ⟨k1, k2⟩ := hnew ((d0, f.sv) :: ρ) (fun d h => by rw [hfd'] at h; cases h; rfl) (fun h => by rw [hfd'] at h; cases h)
        exact ih _ _ a' w' hsz' hcnt k1 k2 hst'
    · rw [if_neg (by rw [hg.wanted hst]; simp)]
      cases hod : o.dst with
      | none =>
        obtain ⟨k1, k2⟩ := hnew ρ (fun d h => by rw [h1, hod] at h; cases h) (fun _ => rfl)
        exact ih _ ρ _ w hsz' hcnt k1 k2 hst
      | some d0 =>
        have hfd' : f.d = some d0 := by rw [h1, hod]
        obtain ⟨k1, k2⟩ := hnew ((d0, f.sv) :: ρ) (fun d h => by rw [hfd'] at h; cases h; rfl) (fun h => by rw [hfd'] at h; cases h)
        refine ih _ _ _ w hsz' hcnt k1 k2 ?_
        obtain ⟨e, β, F, hst⟩ := hst
        rw [h2]
        exact ⟨e, β, F, hst.put (h3 d0 hod) rfl⟩
/-- A statement whose order is open, and of which each operation adds a fact alone. -/
theorem JC.any {id : Nat} {base : List (Nat × SV1)} {fs : List Fact} {l : List Oper} (hm : P.follows .mixedOrders = true) (hsub : AllLook st.ρ base) (hsteps : AllSteps P Bs l.toArray base fs st.X st.h l fs) (htopo : topo l = true) (hnd : (dsts fs).Nodup) (hbase : ∀ d ∈ dsts fs, look base d = none)
    {ρ' : List (Nat × SV1)} (hρ : ∀ ρ, Based base ρ → (∀ (i : Nat) (f : Fact) (d : Nat), fs[i]? = some f → f.d = some d → look ρ d = some f.sv) → AllLook ρ ρ') (h : JQ Bs .normal (⟨ρ', st.X, st.h⟩ : St M) Q) : JC P Bs (.region id l.toArray true) st Q := by
  intro a w hst
  refine wp_region_any hm ?_
  have hdrew : StR Bs st a { w with drawn := w.drawn + 1 } := by
    obtain ⟨e, β, F, hst⟩ := hst
    exact ⟨e, β, F, hst.keep ⟨rfl, rfl, rfl, Nat.le_refl _, fun _ _ => rfl⟩⟩
  refine JL.any (M := M) hsteps htopo hnd hbase (fun ρ h1 h2 a w hst => h a w ?_) l.toArray.size _ st.ρ a _ (by simp) (by simp [List.count_replicate]) hsub.based (fun i f d _ _ hl => ?_) hdrew
  · obtain ⟨e, β, F, hst⟩ := hst
    exact ⟨e, β, F, hst.weak (hρ ρ h1 h2).based⟩
  · exfalso
    simp [Array.getD] at hl
end
end Go.Proofs.Ytlkofkegbkkhbaa.Fw
