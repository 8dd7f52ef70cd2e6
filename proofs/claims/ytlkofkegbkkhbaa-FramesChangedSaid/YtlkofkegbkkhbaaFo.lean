/- Statements whose order is open, in the form in which they are printed; small helps. -/
import Derived.Test.YtlkofkegbkkhbaaFn
namespace Go.Proofs.Ytlkofkegbkkhbaa.Fw
open Go Go.RowKit
set_option linter.unusedVariables false
set_option linter.unnecessarySimpa false
set_option linter.unusedSimpArgs false

section
variable {M : HM} {P : Program} {Bs : Base} {st st' : St M} {d : Nat} {ty t t' el : TypeId} {pos : String} {af : Array Edge} {g : Option (Nat × Bool)} {x y z : Operand} {Q : Exit → Act → World → Prop} {l : List Oper} {ops : Array Oper}
theorem ltB {d N : Nat} (h : Nat.blt d N = true) : d < N := Nat.le_of_ble_eq_true h
theorem tyB.of {sz bytes : Nat} {v : Value} (h : (P.info? t).map (fun i => (i.size, i.bytes, i.zero)) = some (sz, bytes, some v)) : tyB P t sz bytes v := by
  obtain ⟨i, h1, h2⟩ := Option.map_eq_some_iff.1 h
  injection h2 with h3 h4
  injection h4 with h4 h5
  exact ⟨i, h1, h3, h4, h5⟩
theorem FStep.go {base : List (Nat × SV1)} {fs : List Fact} {X : List BX} {h : M.H} {o : Oper} {f : Fact}
    (hg : ∀ ρ, Based base ρ → (∀ (k : Nat) (g : Fact) (d : Nat), fs[k]? = some g → g.d = some d → k ∈ depsOf o → look ρ d = some g.sv) → Guard Bs ops (⟨ρ, X, h⟩ : St M) o.guard true)
    (hs : ∀ ρ, Based base ρ → (∀ (k : Nat) (g : Fact) (d : Nat), fs[k]? = some g → g.d = some d → k ∈ depsOf o → look ρ d = some g.sv) → OpStep P Bs o (⟨ρ, X, h⟩ : St M) (setO ⟨ρ, X, h⟩ f.d f.sv)) : FStep P Bs ops base fs X h o f :=
  fun ρ hb hd => .inl ⟨hg ρ hb hd, hs ρ hb hd⟩
theorem FStep.no {base : List (Nat × SV1)} {fs : List Fact} {X : List BX} {h : M.H} {o : Oper} {f : Fact} (h1 : f.d = o.dst) (h2 : f.sv = .one .und) (h3 : ∀ d, o.dst = some d → d < Bs.N)
    (hg : ∀ ρ, Based base ρ → (∀ (k : Nat) (g : Fact) (d : Nat), fs[k]? = some g → g.d = some d → k ∈ depsOf o → look ρ d = some g.sv) → Guard Bs ops (⟨ρ, X, h⟩ : St M) o.guard false) : FStep P Bs ops base fs X h o f :=
  fun ρ hb hd => .inr ⟨hg ρ hb hd, h1, h2, h3⟩
theorem hdl {fs : List Fact} {ρ : List (Nat × SV1)} {o : Oper} (hd : ∀ (k : Nat) (g : Fact) (d : Nat), fs[k]? = some g → g.d = some d → k ∈ depsOf o → look ρ d = some g.sv) (k d : Nat) {sv : SV1} (h : fs[k]? = some ⟨some d, sv⟩) (hk : k ∈ depsOf o) : look ρ d = some sv := hd k _ d h rfl hk
theorem hdq {fs : List Fact} {ρ : List (Nat × SV1)} (hd : ∀ (k : Nat) (g : Fact) (d : Nat), fs[k]? = some g → g.d = some d → look ρ d = some g.sv) (k d : Nat) {sv : SV1} (h : fs[k]? = some ⟨some d, sv⟩) : look ρ d = some sv := hd k _ d h rfl
theorem ArgsR.nil {e : Env} : ArgsR e [] [] := ⟨rfl, fun i p h => by simp at h⟩
theorem ArgsR.cons {e : Env} {p : VP} {ps : List VP} {v : Value} {vs : List Value} (h : p.p e v) (k : ArgsR e ps vs) : ArgsR e (p :: ps) (v :: vs) := ⟨by simp [k.1], fun i q hi => by
  obtain _ | i := i
  · simp at hi; subst hi; exact h
  · simp at hi
    exact k.2 i q hi⟩
theorem look_none {l : List (Nat × SV1)} {t : Nat} (h : t ∉ l.map (·.1)) : look l t = none := by
  induction l with
  | nil => rfl
  | cons p l ih =>
    simp only [List.map_cons, List.mem_cons, not_or] at h
    rw [show p = (p.1, p.2) from rfl, look_cons_ne _ _ (fun e => h.1 e.symm)]
    exact ih h.2
theorem base_none {base : List (Nat × SV1)} {fs : List Fact} {ds bs : List Nat} (hds : dsts fs = ds) (hbs : base.map (·.1) = bs) (h : ds.all (fun d => !bs.contains d) = true) : ∀ d ∈ dsts fs, look base d = none := fun d hd => by
  subst hds; subst hbs
  have := List.all_eq_true.1 h d hd
  exact look_none fun hm => by simp [hm] at this
/-- A statement whose order is open. -/
theorem JC.anyG {id : Nat} {base : List (Nat × SV1)} {fs : List Fact} {ds bs : List Nat} {l : List Oper} (hm : P.follows .mixedOrders = true) (hsub : AllLook st.ρ base) (hsteps : AllSteps P Bs l.toArray base fs st.X st.h l fs) (htopo : topo l = true)
    (hds : dsts fs = ds) (hbs : base.map (·.1) = bs) (hnd : ds.Nodup) (hdis : ds.all (fun d => !bs.contains d) = true)
    {ρ' : List (Nat × SV1)} (hρ : ∀ ρ, Based base ρ → (∀ (i : Nat) (f : Fact) (d : Nat), fs[i]? = some f → f.d = some d → look ρ d = some f.sv) → AllLook ρ ρ') (h : JQ Bs .normal (⟨ρ', st.X, st.h⟩ : St M) Q) : JC P Bs (.region id l.toArray true) st Q :=
  JC.any hm hsub hsteps htopo (by rw [hds]; exact hnd) (base_none hds hbs hdis) hρ h
theorem JL.anyL {base : List (Nat × SV1)} {fs : List Fact} {X : List BX} {h : M.H} {l : List Oper} {ol : Oper} (hsteps : AllSteps P Bs l.toArray base fs X h l.dropLast fs) (hlast : l.getLast? = some ol) (htopo : topo l = true) (hnd : (dsts fs).Nodup) (hbase : ∀ d ∈ dsts fs, look base d = none)
    (hall : (List.range (l.length - 1)).all (fun i => (depsOf ol).contains i) = true) (hgl : ol.guard = none)
    (hQ : ∀ ρ, Based base ρ → (∀ (i : Nat) (f : Fact) (d : Nat), fs[i]? = some f → f.d = some d → look ρ d = some f.sv) → ∃ st', OpStep P Bs ol (⟨ρ, X, h⟩ : St M) st' ∧ JQ Bs .normal st' Q) :
    ∀ (fuel : Nat) (listed : Array Bool) (ρ : List (Nat × SV1)) (a : Act) (w : World), listed.size = l.length → listed.toList.count false = fuel → listed.getD (l.length - 1) true = false → Based base ρ → Done fs listed ρ → StR Bs (⟨ρ, X, h⟩ : St M) a w → wpAny P .any l.toArray Q fuel listed a w := by
  obtain ⟨hlen, hget⟩ := hsteps.get
  have hl0 : 0 < l.length := by cases l with | nil => simp at hlast | cons a l => simp
  have hlat : l[l.length - 1]? = some ol := by rw [← List.getLast?_eq_getElem?]; exact hlast
  have hdl : ∀ i, i < l.length - 1 → l.dropLast[i]? = l[i]? := fun i hi => by rw [List.dropLast_eq_take, List.getElem?_take_of_lt hi]
  have hfl : fs.length = l.length - 1 := by rw [← hlen]; simp
  have hdinj : ∀ (i j : Nat) (f f' : Fact) (d : Nat), fs[i]? = some f → fs[j]? = some f' → f.d = some d → f'.d = some d → i = j := by
    have key : ∀ (fs : List Fact), (dsts fs).Nodup → ∀ (i j : Nat) (f f' : Fact) (d : Nat), fs[i]? = some f → fs[j]? = some f' → f.d = some d → f'.d = some d → i = j := by
      intro fs
      induction fs with
      | nil => intro _ i j f f' d hi; simp at hi
      | cons g fs ih =>
        intro hn i j f f' d hi hj hd hd'
        have hmem : ∀ (k : Nat) (f : Fact), fs[k]? = some f → f.d = some d → d ∈ dsts fs := fun k f hk hd => List.mem_filterMap.2 ⟨f, List.mem_of_getElem? hk, hd⟩
        have hn' : (dsts fs).Nodup ∧ ∀ d', g.d = some d' → d' ∉ dsts fs := by
          cases hgd : g.d with
          | none => simp only [dsts, List.filterMap_cons, hgd] at hn; exact ⟨hn, fun d' h => by cases h⟩
          | some d0 => simp only [dsts, List.filterMap_cons, hgd, List.nodup_cons] at hn; exact ⟨hn.2, fun d' h => by cases h; exact hn.1⟩
        obtain _ | i := i <;> obtain _ | j := j
        · rfl
        · simp at hi; subst hi; exact absurd (hmem j f' (by simpa using hj) hd') (hn'.2 d hd)
        · simp at hj; subst hj; exact absurd (hmem i f (by simpa using hi) hd) (hn'.2 d hd')
        · rw [ih hn'.1 i j f f' d (by simpa using hi) (by simpa using hj) hd hd']
    exact key fs hnd
  have hready0 : ∀ (listed : Array Bool), listed.size = l.length → Region.ready .any l.toArray listed = [] → ∀ i, i < l.length → listed.getD i false = true := by
    intro listed hsz hr i
    induction i using Nat.strongRecOn with
    | _ i ih =>
      intro hi
      cases hli : listed.getD i true
      · exfalso
        have ho : l[i]? = some l[i] := List.getElem?_eq_getElem hi
        have hm : i ∈ Region.ready .any l.toArray listed := by
          rw [mem_ready]
          refine ⟨hli, l[i], by simpa using ho, fun e he hb => ?_⟩
          have htop := htopo
          simp only [topo, List.all_eq_true] at htop
          have h1 := htop (l[i], i) (by rw [List.mem_zipIdx_iff_getElem?]; exact ho)
          rw [Array.all_eq_true_iff_forall_mem] at h1
          have h2 := h1 e he
          rw [hb] at h2
          have h3 : e.on < i := by simpa using h2
          exact ih e.on h3 (by omega)
        rw [hr] at hm
        cases hm
      · have : i < listed.size := by omega
        simp [Array.getD, this] at hli ⊢
        exact hli
  intro fuel
  induction fuel with
  | zero =>
    intro listed ρ a w hsz hc hun hb hd hst
    exfalso
    have hlt : l.length - 1 < listed.size := by omega
    have : false ∈ listed.toList := by
      have hf : listed[l.length - 1] = false := by simpa [Array.getD, hlt] using hun
      rw [← hf]; simp
    have := List.count_pos_iff.2 this
    omega
  | succ fuel ih =>
    intro listed ρ a w hsz hc hunl hb hd hst
    refine ⟨fun hr => ?_, fun i hi => ?_⟩
    · have := hready0 listed hsz hr (l.length - 1) (by omega)
      have hlt : l.length - 1 < listed.size := by omega
      simp [Array.getD, hlt] at this hunl
      rw [this] at hunl; cases hunl
    obtain ⟨hun, o, ho, hdeps⟩ := mem_ready.1 hi
    have hol : l[i]? = some o := by simpa using ho
    have hil : i < l.length := (List.getElem?_eq_some_iff.1 hol).1
    have hsz' : (listed.setIfInBounds i true).size = l.length := by simp [hsz]
    have hcnt : (listed.setIfInBounds i true).toList.count false = fuel := by have := cnt_set hun; omega
    by_cases hilast : i = l.length - 1
    · subst hilast
      rw [hlat] at hol
      cases hol
      have hlisted : ∀ k, k < l.length - 1 → listed.getD k false = true := fun k hk => by
        have h1 := List.all_eq_true.1 hall k (List.mem_range.2 hk)
        simp only [List.contains_eq_mem, decide_eq_true_eq] at h1
        obtain ⟨e, he, hek⟩ := List.mem_filterMap.1 h1
        split at hek
        · rename_i heb
          cases hek
          exact hdeps e (Array.mem_toList_iff.1 he) heb
        · cases hek
      obtain ⟨st', hs, hq⟩ := hQ ρ hb fun k f d hk hfd => hd k f d hk hfd (hlisted k (by have := (List.getElem?_eq_some_iff.1 hk).1; omega))
      have hall' : ∀ k, k < l.length → (listed.setIfInBounds (l.length - 1) true).getD k true = true := fun k hk => by
        by_cases e : l.length - 1 = k
        · subst e
          have : l.length - 1 < listed.size := by omega
          simp [Array.getD, this]
        · rw [getD_set_ne true e]
          have h1 := hlisted k (by omega)
          have hlt : k < listed.size := by omega
          simp [Array.getD, hlt] at h1 ⊢
          exact h1
      have hr' : Region.ready .any l.toArray (listed.setIfInBounds (l.length - 1) true) = [] := by
        rw [List.eq_nil_iff_forall_not_mem]
        intro k hk
        obtain ⟨h1, o', ho', _⟩ := mem_ready.1 hk
        have : k < l.length := by simpa using (Array.getElem?_eq_some_iff.1 ho').1
        rw [hall' k this] at h1; cases h1
      have hf0 : fuel = 0 := by
        rw [← hcnt, List.count_eq_zero]
        intro hm
        obtain ⟨k, hk, hkf⟩ := List.mem_iff_getElem.1 hm
        have hk2 : k < l.length := by simp at hk; omega
        have := hall' k hk2
        have hlt : k < listed.size := by omega
        simp only [Array.getD, Array.size_setIfInBounds, hlt, dif_pos] at this
        simp only [Array.getElem_toList] at hkf
        have h2 : (listed.setIfInBounds (l.length - 1) true)[k]'(by simpa using hlt) = true := by simpa using this
        rw [hkf] at h2; cases h2
      subst hf0
      unfold wpOp
      simp only [ho]
      rw [if_pos (by simp [Region.wanted, hgl])]
      exact .inl (hs a w hst _ _ fun a' w' hst' => ⟨hr', hq a' w' hst'⟩)
    have hin : i < l.length - 1 := by omega
    obtain ⟨f, hf, hfd, hstep⟩ := hget i o (by rw [hdl i hin]; exact hol)
    have hul : (listed.setIfInBounds i true).getD (l.length - 1) true = false := by rw [getD_set_ne true hilast]; exact hunl
    have hnew : ∀ (ρ' : List (Nat × SV1)), (∀ d, f.d = some d → ρ' = (d, f.sv) :: ρ) → (f.d = none → ρ' = ρ) → Based base ρ' ∧ Done fs (listed.setIfInBounds i true) ρ' := fun ρ' h1 h2 => by
      cases hfd' : f.d with
      | none =>
        have := h2 hfd'
        subst this
        refine ⟨hb, fun k g d hk hg hlk => ?_⟩
        by_cases hki : i = k
        · subst hki; rw [hf] at hk; cases hk; rw [hfd'] at hg; cases hg
        · exact hd k g d hk hg (by rwa [getD_set_ne false hki] at hlk)
      | some d0 =>
        have := h1 d0 hfd'
        subst this
        refine ⟨fun t sv ht => ?_, fun k g d hk hg hlk => ?_⟩
        · have hne : d0 ≠ t := fun e => by
            subst e
            rw [hbase d0 (List.mem_filterMap.2 ⟨f, List.mem_of_getElem? hf, hfd'⟩)] at ht
            cases ht
          rw [look_cons_ne _ _ hne]
          exact hb t sv ht
        · by_cases hki : i = k
          · subst hki
            rw [hf] at hk; cases hk
            rw [hfd'] at hg; cases hg
            exact look_cons_self ..
          · have hne : d0 ≠ d := fun e => by subst e; exact hki (hdinj i k f g d0 hf hk hfd' hg)
            rw [look_cons_ne _ _ hne]
            exact hd k g d hk hg (by rwa [getD_set_ne false hki] at hlk)
    have hpre := hstep ρ hb fun k g d hk hg hmem => by
      obtain ⟨e, he, hek⟩ := List.mem_filterMap.1 hmem
      split at hek
      · rename_i heb
        cases hek
        exact hd _ g d hk hg (hdeps e (Array.mem_toList_iff.1 he) heb)
      · cases hek
    unfold wpOp
    simp only [ho]
    rcases hpre with ⟨hg, hs⟩ | ⟨hg, h1, h2, h3⟩
    · rw [if_pos (hg.wanted hst)]
      refine .inl (hs a w hst _ _ fun a' w' hst' => ?_)
      cases hfd' : f.d with
      | none =>
        rw [hfd'] at hst'
        obtain ⟨k1, k2⟩ := hnew ρ (fun d h => by rw [hfd'] at h; cases h) (fun _ => rfl)
        exact ih _ ρ a' w' hsz' hcnt hul k1 k2 hst'
      | some d0 =>
        rw [hfd'] at hst'
        obtain ⟨k1, k2⟩ := hnew ((d0, f.sv) :: ρ) (fun d h => by rw [hfd'] at h; cases h; rfl) (fun h => by rw [hfd'] at h; cases h)
        exact ih _ _ a' w' hsz' hcnt hul k1 k2 hst'
    · rw [if_neg (by rw [hg.wanted hst]; simp)]
      cases hod : o.dst with
      | none =>
        obtain ⟨k1, k2⟩ := hnew ρ (fun d h => by rw [h1, hod] at h; cases h) (fun _ => rfl)
        exact ih _ ρ _ w hsz' hcnt hul k1 k2 hst
      | some d0 =>
        have hfd' : f.d = some d0 := by rw [h1, hod]
        obtain ⟨k1, k2⟩ := hnew ((d0, f.sv) :: ρ) (fun d h => by rw [hfd'] at h; cases h; rfl) (fun h => by rw [hfd'] at h; cases h)
        refine ih _ _ _ w hsz' hcnt hul k1 k2 ?_
        obtain ⟨e, β, F, hst⟩ := hst
        rw [h2]
        exact ⟨e, β, F, hst.put (h3 d0 hod) rfl⟩
theorem JC.anyL {id : Nat} {base : List (Nat × SV1)} {fs : List Fact} {ds bs : List Nat} {l : List Oper} {ol : Oper} (hm : P.follows .mixedOrders = true) (hsub : AllLook st.ρ base) (hsteps : AllSteps P Bs l.toArray base fs st.X st.h l.dropLast fs) (htopo : topo l = true) (hlast : l.getLast? = some ol)
    (hall : (List.range (l.length - 1)).all (fun i => (depsOf ol).contains i) = true) (hgl : ol.guard = none) (hds : dsts fs = ds) (hbs : base.map (·.1) = bs) (hnd : ds.Nodup) (hdis : ds.all (fun d => !bs.contains d) = true)
    (hQ : ∀ ρ, Based base ρ → (∀ (i : Nat) (f : Fact) (d : Nat), fs[i]? = some f → f.d = some d → look ρ d = some f.sv) → ∃ st', OpStep P Bs ol (⟨ρ, st.X, st.h⟩ : St M) st' ∧ JQ Bs .normal st' Q) : JC P Bs (.region id l.toArray true) st Q := by
  intro a w hst
  refine wp_region_any hm ?_
  have hdrew : StR Bs st a { w with drawn := w.drawn + 1 } := by
    obtain ⟨e, β, F, hst⟩ := hst
    exact ⟨e, β, F, hst.keep ⟨rfl, rfl, rfl, Nat.le_refl _, fun _ _ => rfl⟩⟩
  have hl0 : 0 < l.length := by cases l with | nil => simp at hlast | cons a l => simp
  refine JL.anyL (M := M) hsteps hlast htopo (by rw [hds]; exact hnd) (base_none hds hbs hdis) hall hgl hQ l.toArray.size _ st.ρ a _ (by simp) (by simp [List.count_replicate]) ?_ hsub.based (fun i f d _ _ hl => ?_) hdrew
  · have : l.length - 1 < l.length := by omega
    simp [Array.getD, this]
  · exfalso
    simp [Array.getD] at hl
end
end Go.Proofs.Ytlkofkegbkkhbaa.Fw
