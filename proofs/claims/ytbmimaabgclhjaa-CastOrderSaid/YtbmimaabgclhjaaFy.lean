/- Ranges over functions: a loop's rounds are called by the function that it ranges over. -/
import Derived.Test.YtbmimaabgclhjaaFw
import Derived.RangeFuncNested
namespace Go.Proofs.Ytbmimaabgclhjaa.Fw
open Go Go.RowKit
set_option linter.unusedVariables false
set_option linter.unusedSimpArgs false

/-- A loop's record, and the block of its deferred calls. -/
def cLK (L K : Nat) (o : Obj) : Chunk where
  foot b := b = L ∨ b = K
  R e w := w.heap[L]? = some o ∧ w.heap[K]? = some (.deferred (some [])) ∧ L ≠ K ∧ ∀ ad v, e.mu ad = some v → ad.block ≠ L ∧ ad.block ≠ K
  lt := fun h b hb => by
    rcases hb with rfl | rfl
    · exact lt_of_block h.1
    · exact lt_of_block h.2.1
  kept := fun h he hmu hk => ⟨(hk _ (.inl rfl)).trans h.1, (hk _ (.inr rfl)).trans h.2.1, h.2.2.1, fun ad v hm => ⟨fun hb => (h.2.2.2 ad v (hmu ad v hm (.inl hb))).1 hb, fun hb => (h.2.2.2 ad v (hmu ad v hm (.inr hb))).2 hb⟩⟩
/-- Several pieces, and some slots, as one piece. -/
def cAll (X : List Chunk) (ρ : List (Nat × SV1)) (tm : Array Value) : Chunk where
  foot b := footX X b
  R e w := (∀ c ∈ X, c.R e w) ∧ X.Pairwise Dj ∧ ∀ t sv, look ρ t = some sv → SVR e sv (tm.getD t undef)
  lt := fun h b ⟨c, hc, hb⟩ => c.lt (h.1 c hc) b hb
  kept := fun h he hmu hk => ⟨fun c hc => c.kept (h.1 c hc) he (fun ad v hm hf => hmu ad v hm ⟨c, hc, hf⟩) (fun b hb => hk b ⟨c, hc, hb⟩), h.2.1, fun t sv ht => (h.2.2 t sv ht).mono he⟩
/-- The loop as its rounds find it: ready, or stopped. -/
def CL (L K : Nat) (rec : LoopState → Option Code → Loop) (ρ : List (Nat × SV1)) (tm : Array Value) {σ τ γ : Type} (Xr : σ → γ → List Chunk) (Xs : τ → γ → List Chunk) (code : τ → Code) : σ ⊕ τ → γ → Chunk
  | .inl s, q => cAll (cLK L K (.loop (rec .ready none)) :: Xr s q) ρ tm
  | .inr t, q => cAll (cLK L K (.loop (rec .done (some (code t)))) :: Xs t q) ρ tm
/-- What a call of yield does. -/
def YSim (P : Program) (L : Nat) {σ τ γ α δ : Type} (enc : α → δ → List VP) (ox : α → δ → List Chunk) (Y : σ → α → Option (σ ⊕ τ)) (C : σ ⊕ τ → γ → Chunk) : Prop :=
  ∀ s a z y q, Y s a = some y → SimY P L (enc a z) (C (.inl s) q :: ox a z) (fun q' : γ => [C y q']) (fun _ => .one (.val (S rB y.isLeft)))

section
variable {P : Program} {Bs : Base} {st st' : St} {d : Nat} {ty t t' el : TypeId} {pos : String} {af : Array Edge} {g : Option (Nat × Bool)} {x y z : Operand} {Q : Exit → Act → World → Prop} {l : List Oper} {ops : Array Oper}
variable {e : Env} {a : Act} {w : World}
theorem op_yld {L : Nat} {js : List Nat} {fo : Operand} {xs : List Operand} {ats : Array TypeId} {σ τ γ α δ : Type} {enc : α → δ → List VP} {ox : α → δ → List Chunk} {Y : σ → α → Option (σ ⊕ τ)} {C : σ ⊕ τ → γ → Chunk} {m : σ ⊕ τ} {u : α} {z : δ} {q : γ} {r : σ ⊕ τ} {rest : List Chunk} (hd : d < Bs.N)
    (hY : YSim P L enc ox Y C) (hf : HasO st fo (.one (.val (YLD L)))) (ha : ArgsO st xs (enc u z)) (hp : picks st.X js = some (C m q :: ox u z, rest)) (h : yldO Y m u = some r) :
    OpX P Bs ⟨some d, .call { callee := .value fo, args := xs.toArray, argTypes := ats }, ty, pos, af, g⟩ st (fun q' : γ => St.set { st with X := C r q' :: rest } d (.one (.val (S rB r.isLeft)))) := by
  cases m with
  | inr t => cases h
  | inl s => exact op_callY (js := js) (dst := some d) (fun _ h => by cases h; exact hd) (hY s u z r q h) hf ha hp

theorem look_app {ρ : List (Nat × SV1)} {p : Nat × SV1} : ∀ {l : List (Nat × SV1)}, p.1 ∉ l.map Prod.fst → ∀ t, look (p :: (l ++ ρ)) t = look (l ++ p :: ρ) t
  | [], _, t => rfl
  | (s, v) :: l, hn, t => by
    simp only [List.map_cons, List.mem_cons, not_or] at hn
    have ih := look_app (ρ := ρ) (p := p) hn.2 t
    by_cases h1 : p.1 = t
    · have h2 : s ≠ t := fun h => hn.1 (h1.trans h.symm)
      obtain ⟨p1, p2⟩ := p
      simp only at h1
      subst h1
      rw [look_cons_self, List.cons_append, look_cons_ne _ _ h2, ← ih, look_cons_self]
    · obtain ⟨p1, p2⟩ := p
      simp only at h1 ih
      rw [look_cons_ne _ _ h1, List.cons_append]
      by_cases h2 : s = t
      · subst h2; rw [look_cons_self, List.cons_append, look_cons_self]
      · rw [look_cons_ne _ _ h2, List.cons_append, look_cons_ne _ _ h2, ← ih, look_cons_ne _ _ h1]
theorem fold_size : ∀ (l : List (Nat × Value)) (tm : Array Value), (l.foldl (fun t p => t.setIfInBounds p.1 p.2) tm).size = tm.size
  | [], tm => rfl
  | p :: l, tm => by rw [List.foldl_cons, fold_size l]; simp
theorem look_fold : ∀ (ps : List Nat) (enc : List VP) (vs : List Value) (tm : Array Value) (ρ : List (Nat × SV1)), ps.Nodup → enc.length = ps.length → ArgsR e enc vs → (∀ p ∈ ps, p < tm.size) → (∀ t sv, look ρ t = some sv → SVR e sv (tm.getD t undef)) →
    ∀ t sv, look (ps.zip (enc.map fun p => SV1.one (.val p)) ++ ρ) t = some sv → SVR e sv (((ps.zip vs).foldl (fun t p => t.setIfInBounds p.1 p.2) tm).getD t undef)
  | [], enc, vs, tm, ρ, _, _, _, _, hρ => fun t sv ht => hρ t sv ht
  | p :: ps, enc, vs, tm, ρ, hn, hl, hv, hlt, hρ => fun t sv ht => by
    match enc, vs, hl, hv with
    | [], _, hl, _ => simp at hl
    | _ :: _, [], _, hv => have := hv.1; simp at this
    | p0 :: enc, v0 :: vs, hl, hv =>
      simp only [List.nodup_cons] at hn
      have hv0 : p0.p e v0 := hv.2 0 p0 rfl
      have hvs : ArgsR e enc vs := ⟨by simpa using hv.1, fun i q hi => hv.2 (i + 1) q (by simpa using hi)⟩
      have hp : p < tm.size := hlt p (by simp)
      simp only [List.zip_cons_cons, List.foldl_cons, List.map_cons, List.cons_append] at ht ⊢
      refine look_fold ps enc vs (tm.setIfInBounds p v0) ((p, .one (.val p0)) :: ρ) hn.2 (by simpa using hl) hvs (fun q hq => by simpa using hlt q (by simp [hq])) (fun s sw hs => ?_) t sv ?_
      · rcases look_cons hs with ⟨rfl, rfl⟩ | ⟨hne, hs⟩
        · show p0.p e _
          have : (tm.setIfInBounds s v0).getD s undef = v0 := by simp [Array.getD_eq_getD_getElem?, hp]
          rw [this]; exact hv0
        · have : (tm.setIfInBounds p v0).getD s undef = tm.getD s undef := by simp [Array.getD_eq_getD_getElem?, Array.getElem?_setIfInBounds, Ne.symm hne]
          rw [this]; exact hρ s sw hs
      · rw [← look_app (p := (p, SV1.one (.val p0))) (fun hm => hn.1 ?_) t]
        · exact ht
        · obtain ⟨⟨a1, a2⟩, h1, h2⟩ := List.mem_map.1 hm
          have := List.of_mem_zip h1
          simp only at h2
          rw [← h2]; exact this.1
theorem StE.putL (h : StE Bs st e a w) {L K j : Nat} {o : Obj} (hX : st.X[j]? = some (cLK L K o)) (o' : Obj) : StE Bs { st with X := st.X.set j (cLK L K o') } e a (w.putObj L o') := by
  obtain ⟨h1, h2, h3, h4⟩ := h.xs _ (List.mem_of_getElem? hX)
  refine h.turn1 hX (Env.le.refl e) (fun ad v hm => .inl hm) ⟨rfl, rfl, rfl, by simp, fun b _ hb => World.putObj_heap_other fun hh => hb (.inl hh)⟩ (fun ad v hm => ?_) ⟨World.putObj_heap_same (lt_of_block h1), (World.putObj_heap_other (Ne.symm h3)).trans h2, h3, h4⟩ fun b hb => .inl hb
  rw [World.cell?_of_block (World.putObj_heap_other (h4 ad v hm).1)]
  exact h.frz ad v hm
/-- Behind the assignments the round begins. -/
def ThenB (P : Program) (L : Nat) (body : Code) (Q : Exit → Act → World → Prop) : Exit → Act → World → Prop :=
  Exit.then (fun a w => ∃ w2, (Instr.beginRound L).run P w = .ok () w2 ∧ body.wpIn (WF (some L)) 0 P Q a w2) (fun _ _ _ => False)
theorem JQ.begin {N L K j : Nat} {e0 : Env} {F0 : Nat → Prop} {w0 : World} {lp : Loop} {body : Code} (hs : lp.state = .ready) (hX : st.X[j]? = some (cLK L K (.loop lp))) (h : JC P ⟨N, some L, e0, F0, w0⟩ body { st with X := st.X.set j (cLK L K (.loop { lp with state := .busy })) } Q) :
    JQ ⟨N, some L, e0, F0, w0⟩ .normal st (ThenB P L body Q) := fun a w ⟨e, hst⟩ =>
  ⟨_, run_beginRound (hst.xs _ (List.mem_of_getElem? hX)).1 hs, h a _ ⟨e, hst.putL hX _⟩⟩
/-- What a round has come to. -/
def RQ (Bs : Base) {σ τ γ : Type} (L K : Nat) (lp : Loop) (Xr : σ → γ → List Chunk) (Xs : τ → γ → List Chunk) (code : τ → Code) (y : σ ⊕ τ) : Exit → Act → World → Prop
  | .normal, a, w => ∃ s' q', y = .inl s' ∧ StR Bs ⟨[], cLK L K (.loop { lp with state := .busy }) :: Xr s' q', []⟩ a w
  | .ret, a, w => ∃ t q', y = .inr t ∧ code t = .ret ∧ StR Bs ⟨[], cLK L K (.loop { lp with state := .busy }) :: Xs t q', []⟩ a w
  | .exit i, a, w => ∃ t q', y = .inr t ∧ code t = .exit i ∧ StR Bs ⟨[], cLK L K (.loop { lp with state := .busy }) :: Xs t q', []⟩ a w
  | _, _, _ => False
theorem JQ.rnext {σ τ γ : Type} {L K : Nat} {lp : Loop} {Xr : σ → γ → List Chunk} {Xs : τ → γ → List Chunk} {code : τ → Code} {r : σ ⊕ τ} {s' : σ} (q' : γ) (hy : r = .inl s') (i : Imp Bs st ⟨[], cLK L K (.loop { lp with state := .busy }) :: Xr s' q', []⟩) :
    JQ Bs .normal st (RQ Bs L K lp Xr Xs code r) := fun a w h => ⟨s', q', hy, i a w h⟩
/-- A round's state as the call of yield hands it back. -/
theorem round_back {N L K : Nat} {e0 : Env} {F0 : Nat → Prop} {w0 : World} {lp : Loop} {o : Obj} {X : List Chunk} {ρ : List (Nat × SV1)} {tm : Array Value} {b : Bool} (hρ : ∀ t sv, look ρ t = some sv → SVR e0 sv (tm.getD t undef))
    (h : StE ⟨N, some L, e0, F0, w0⟩ ⟨[], cLK L K (.loop lp) :: X, []⟩ e a w) : Back e0 w0 F0 [cAll (cLK L K o :: X) ρ tm] (.one (.val (S rB b))) (.returned (.bool b)) (w.putObj L o) := by
  have h' : StE ⟨N, some L, e0, F0, w0⟩ ⟨[], cLK L K o :: X, []⟩ e a (w.putObj L o) := h.putL (j := 0) rfl o
  have hb := h'.base
  refine ⟨e, .bool b, rfl, hb.le, hb.mu, ⟨hb.os, hb.tape, hb.output, hb.size, hb.old⟩, h'.frz, fun c hc => ?_, List.pairwise_singleton .., fun c hc b hbf => ?_, rfl⟩
  · cases List.mem_singleton.1 hc
    exact ⟨h'.xs, h'.dj, fun t sv ht => (hρ t sv ht).mono hb.le⟩
  · cases List.mem_singleton.1 hc
    obtain ⟨c, hc, hf⟩ := hbf
    exact hb.foot c hc b hf

theorem JC.rangeFunc {σ τ γ γ' α δ : Type} {go : Operand} {ps : Array Tmp} {assign body : Code} {gf : FuncId} {cps : List VP} {js : List Nat} {Xit : List Chunk} {X' : γ' → List Chunk} {qf : γ' → γ} {sv : γ' → SV1} {r : σ ⊕ τ}
    (enc : α → δ → List VP) (ox : α → δ → List Chunk) (Y : σ → α → Option (σ ⊕ τ)) (Xr : σ → γ → List Chunk) (Xs : τ → γ → List Chunk) (code : τ → Code) (ρ : List (Nat × SV1)) (s0 : σ) (q0 : γ)
    (hro : Bs.ro = none) (hg : HasO st go (.one (.val (CLO gf cps)))) (hcl : callable P gf = true) (hp : picks st.X js = some (Xit, Xr s0 q0)) (hρ : SubR st.ρ ρ) (hps : ∀ a z, (enc a z).length = ps.toList.length) (hnd : ps.toList.Nodup) (hlt' : (ps.toList.all fun p => Nat.blt p Bs.N) = true)
    (hbody : ∀ (e0 : Env) (w0 : World) (F0 : Nat → Prop) (L K : Nat) (lp : Loop) (s : σ) (q : γ) (u : α) (z : δ) (y : σ ⊕ τ), Y s u = some y → lp.state = .ready →
      JC P ⟨Bs.N, some L, e0, F0, w0⟩ assign ⟨ps.toList.zip ((enc u z).map fun p => .one (.val p)) ++ ρ, cLK L K (.loop lp) :: (Xr s q ++ ox u z), []⟩ (ThenB P L body (RQ ⟨Bs.N, some L, e0, F0, w0⟩ L K lp Xr Xs code y)))
    (hsim : ∀ (L : Nat) (C : σ ⊕ τ → γ → Chunk), YSim P L enc ox Y C → Sim P gf (YLD L :: cps) (C (.inl s0) q0 :: Xit) (fun g => C r (qf g) :: X' g) sv)
    (hdone : ∀ s' K g, r = .inl s' → JQ Bs .normal ⟨ρ, cdef K :: (Xr s' (qf g) ++ X' g), K :: st.df⟩ Q)
    (hstop : ∀ u K g, r = .inr u → JC P Bs (code u) ⟨ρ, cdef K :: (Xs u (qf g) ++ X' g), K :: st.df⟩ Q) : JC P Bs (.rangeFunc go ps assign body) st Q := by
  have hlt : ∀ p ∈ ps.toList, p < Bs.N := fun p hp => by
    have := List.all_eq_true.1 hlt' p hp
    simpa [Nat.blt_eq] using this
  intro a w ⟨e, hst⟩
  obtain ⟨cs, hcs, hcr⟩ : ∃ cs : List Value, a.eval go = .func (.func gf) #[] cs.toArray ∧ ArgsR e cps cs := hg.get hst
  refine wpIn_rangeFunc ?_
  intro fn hfn
  show ∃ l mark w1 d w1' f args w2, _
  have hro' : (WF Bs.ro).round = none := hro
  rw [hro']
  obtain ⟨rec, hrec⟩ : ∃ rec : LoopState → Option Code → Loop, rec = fun s p => { state := s, pending := p, fn, tmps := a.tmps, params := ps, assign, body, defers := w.heap.size } := ⟨_, rfl⟩
  have hrst : ∀ s p, (rec s p).state = s := fun s p => by rw [hrec]
  have hrpd : ∀ s p, (rec s p).pending = p := fun s p => by rw [hrec]
  have hrbz : ∀ s p s', { rec s p with state := s' } = rec s' p := fun s p s' => by rw [hrec]
  have hrbz2 : ∀ s p s' p', { rec s p with state := s', pending := p' } = rec s' p' := fun s p s' p' => by rw [hrec]
  let L := w.heap.size + 1
  let K := w.heap.size
  let C : σ ⊕ τ → γ → Chunk := CL L K rec ρ a.tmps Xr Xs code
  obtain ⟨W1, hW1⟩ : ∃ W1, (w.alloc (.deferred (some []))).alloc (.loop (rec .ready none)) = W1 := ⟨_, rfl⟩
  have hs1 : W1.heap.size = w.heap.size + 2 := by rw [← hW1, World.size_alloc, World.size_alloc]
  have hL1 : W1.heap[L]? = some (.loop (rec .ready none)) := by
    rw [← hW1]; have := World.alloc_heap_new (w.alloc (.deferred (some []))) (.loop (rec .ready none)); rwa [World.size_alloc] at this
  have hK1 : W1.heap[K]? = some (.deferred (some [])) := by
    rw [← hW1]; exact (Below.heap_alloc _ _ _ (by rw [World.size_alloc]; exact Nat.lt_succ_self _)).trans (World.alloc_heap_new w _)
  have hk1 : Kept w W1 := by
    have := (((Below.refl _ w).alloc (Nat.le_refl _) (.deferred (some []))).alloc (by simp) (.loop (rec .ready none)) : Below w.heap.size w _)
    rw [hW1] at this
    exact .of_below this
  have hρ0 : ∀ t sv, look ρ t = some sv → SVR e sv (a.tmps.getD t undef) := fun t sv ht => hst.sl t sv (hρ.get ht)
  have hperm := picks_perm hp
  have hst1 : StE Bs { st with X := C (.inl s0) q0 :: Xit } e a W1 := by
    have h0 := hst.keep hk1
    have hdX : (Xr s0 q0).Pairwise Dj := (List.pairwise_append.1 (hperm.pairwise hst.dj (fun {_ _} h => Dj.symm h))).2.1
    have := hst.turn (A := Xr s0 q0) (B := Xit) (C := [C (.inl s0) q0]) (w' := W1) (hperm.trans List.perm_append_comm) (Env.le.refl e) (fun ad v hm => .inl hm) (hk1.x _) (frz_kept hst.frz hk1) (fun c hc => ?_) (List.pairwise_singleton ..) (fun c hc b hb => ?_)
    · exact this
    · cases List.mem_singleton.1 hc
      refine ⟨fun c hc => ?_, List.pairwise_cons.2 ⟨fun c hc b hb hb' => ?_, hdX⟩, hρ0⟩
      · rcases List.mem_cons.1 hc with rfl | hc
        · exact ⟨hL1, hK1, by show w.heap.size + 1 ≠ w.heap.size; omega, fun ad v hm => by have := mu_lt hst hm; exact ⟨by show ad.block ≠ w.heap.size + 1; omega, by show ad.block ≠ w.heap.size; omega⟩⟩
        · exact h0.xs c (hperm.mem_iff.2 (List.mem_append_right _ hc))
      · have := c.lt (hst.xs c (hperm.mem_iff.2 (List.mem_append_right _ hc))) b hb'
        rcases hb with rfl | rfl
        · have : w.heap.size + 1 < w.heap.size := this
          omega
        · have : w.heap.size < w.heap.size := this
          omega
    · cases List.mem_singleton.1 hc
      obtain ⟨c, hc, hf⟩ := hb
      rcases List.mem_cons.1 hc with rfl | hc
      · rcases hf with rfl | rfl
        · exact .inr (Nat.le_succ _)
        · exact .inr (Nat.le_refl _)
      · exact .inl ⟨c, hc, hf⟩
  have hY : YSim P L enc ox Y C := by
    intro s u z y q hy e1 w1 vs hfrz hX hdj hvs
    obtain ⟨hxs, hdx, hsl⟩ : (C (.inl s) q).R e1 w1 := hX _ (List.mem_cons_self ..)
    have hdj' := List.pairwise_cons.1 hdj
    obtain ⟨k1, k2, k3, k4⟩ : (cLK L K (.loop (rec .ready none))).R e1 w1 := hxs _ (List.mem_cons_self ..)
    have hvl : vs.length = ps.toList.length := by rw [hvs.1, hps]
    have hyr := run_yield (P := P) (args := vs.toArray) k1 (by rw [hrec]; simpa using hvl)
    refine ⟨_, _, _, _, hyr, ?_⟩
    have e1' : (rec .ready none).tmps = a.tmps := by rw [hrec]
    have e2' : (rec .ready none).params = ps := by rw [hrec]
    have e3' : (rec .ready none).assign = assign := by rw [hrec]
    have e4' : (rec .ready none).body = body := by rw [hrec]
    rw [e1', e2', e3', e4']
    have hfold : (ps.zip vs.toArray).foldl (fun tmps (t, a) => tmps.setIfInBounds t a) a.tmps = (ps.toList.zip vs).foldl (fun t p => t.setIfInBounds p.1 p.2) a.tmps := by
      rw [← Array.foldl_toList, Array.toList_zip]
    rw [hfold]
    refine RoundIn.mono (roundIn_of_wpIn (F := WF none) (n := 0) trivial (R := fun en w' => ∃ g, Back e1 w1 (footX (C (.inl s) q :: ox u z)) [C y g] (.one (.val (S rB y.isLeft))) en w') ?_) (fun _ _ h => h)
    have hJ := hbody e1 w1 (footX (C (.inl s) q :: ox u z)) L K (rec .ready none) s q u z y hy (hrst _ _) { tmps := (ps.toList.zip vs).foldl (fun t p => t.setIfInBounds p.1 p.2) a.tmps, defers := [] } w1
      ⟨e1, by show Array.size (List.foldl (fun t p => t.setIfInBounds p.1 p.2) a.tmps (ps.toList.zip vs)) = _; rw [fold_size]; exact hst.nt, rfl, hfrz, fun c hc => (List.mem_append.1 (show c ∈ (cLK L K (.loop (rec .ready none)) :: Xr s q) ++ ox u z from hc)).elim (hxs c) fun h => hX c (List.mem_cons_of_mem _ h), List.pairwise_append.2 ⟨hdx, hdj'.2, fun c hc d hd b hb hb' => hdj'.1 d hd b ⟨c, hc, hb⟩ hb'⟩, look_fold ps.toList (enc u z) vs a.tmps ρ hnd (hps u z) hvs (fun p hp => by rw [hst.nt]; exact hlt p hp) hsl,
        ⟨Env.le.refl _, rfl, rfl, rfl, Nat.le_refl _, fun _ _ _ => rfl, fun c hc b hb => .inl ((List.mem_append.1 (show c ∈ (cLK L K (.loop (rec .ready none)) :: Xr s q) ++ ox u z from hc)).elim (fun h => ⟨_, List.mem_cons_self .., c, h, hb⟩) fun h => ⟨c, List.mem_cons_of_mem _ h, hb⟩), fun _ _ h => .inl h⟩⟩
    refine wpIn_mono (F := WF (some L)) hJ ?_
    intro ex a1 w2 hq
    cases ex with
    | normal =>
      obtain ⟨w3, hbr, hbd⟩ := hq
      refine ⟨w3, hbr, wpIn_mono (F := WF (some L)) hbd ?_⟩
      intro ex a2 w4 hq
      cases ex with
      | normal =>
        obtain ⟨s', q', rfl, e2, h2⟩ := hq
        have hlk := (h2.xs _ (List.mem_cons_self ..)).1
        refine ⟨_, _, run_endRound none hlk, q', ?_⟩
        have := round_back (b := true) (o := .loop (rec .ready none)) hsl h2
        rw [hrbz, hrbz2]
        exact this
      | ret =>
        obtain ⟨u', q', rfl, hcd, e2, h2⟩ := hq
        have hlk := (h2.xs _ (List.mem_cons_self ..)).1
        refine ⟨_, _, run_endRound (some .ret) hlk, q', ?_⟩
        have := round_back (b := false) (o := .loop (rec .done (some (code u')))) hsl h2
        rw [hrbz, hrbz2, ← hcd]
        exact this
      | exit i =>
        obtain ⟨u', q', rfl, hcd, e2, h2⟩ := hq
        have hlk := (h2.xs _ (List.mem_cons_self ..)).1
        refine ⟨_, _, run_endRound (some (.exit i)) hlk, q', ?_⟩
        have := round_back (b := false) (o := .loop (rec .done (some (code u')))) hsl h2
        rw [hrbz, hrbz2, ← hcd]
        exact this
      | goto t => exact hq.elim
      | panic c => exact hq.elim
      | outgrown => exact hq.elim
    | ret => exact hq.elim
    | exit i => exact hq.elim
    | goto t => exact hq.elim
    | panic c => exact hq.elim
    | outgrown => exact hq.elim
  have hcall := hsim L C hY e W1 (.func (.yield L) #[] #[] :: cs) hst1.frz hst1.xs hst1.dj ⟨by simp [hcr.1], fun i p hi => by
    cases i with
    | zero => cases hi; rfl
    | succ i => exact hcr.2 i p (by simpa using hi)⟩
  refine ⟨L, [{ target := .collected K, args := #[] }], W1, { target := .fn (.func gf) cs.toArray, args := #[.func (.yield L) #[] #[]] }, W1, gf, #[.func (.yield L) #[] #[]] ++ cs.toArray, W1, ?_, ?_, ?_, ?_, (fun h => by cases h), ?_⟩
  · rw [← hW1, hrec]; exact run_enterLoop_outer _ _ _ _ _
  · simp only [resolve, hcs]
    simp [go_sem]
  · intro f' _; trivial
  · simp [invoke, go_sem, run_callFunc hcl]
  · have hargs : (#[.func (.yield L) #[] #[]] ++ cs.toArray : Array Value) = (Value.func (.yield L) #[] #[] :: cs).toArray := by simp
    rw [hargs]
    refine CallsIn.mono (F := WF Bs.ro) hcall fun en w' ⟨gq, hb⟩ => ?_
    obtain ⟨e', v, rfl, hst', hv⟩ := hst1.back (A := C (.inl s0) q0 :: Xit) (B := []) (by simp) hb
    rw [List.append_nil] at hst'
    have fin : ∀ (s : LoopState) (pd : Option Code) (X2 : List Chunk), s ≠ .busy → C r (qf gq) = cAll (cLK L K (.loop (rec s pd)) :: X2) ρ a.tmps →
        ∃ w4, (Instr.endLoop L).run P w' = .ok pd w4 ∧ StE Bs ⟨ρ, cdef K :: (X2 ++ X' gq), K :: st.df⟩ e' { a with defers := mark K :: a.defers } w4 := by
      intro s pd X2 hsb hC
      obtain ⟨hxs, hdx, hsl⟩ : (cAll (cLK L K (.loop (rec s pd)) :: X2) ρ a.tmps).R e' w' := by rw [← hC]; exact hst'.xs _ (List.mem_cons_self ..)
      obtain ⟨k1, k2, k3, k4⟩ := hxs _ (List.mem_cons_self ..)
      have hrun := run_endLoop (P := P) k1 (by rw [hrst]; exact hsb)
      refine ⟨w'.putObj L (.loop { rec s pd with state := .exhausted }), hrun.trans (congrArg (fun p => Result.ok p _) (hrpd s pd)), ?_⟩
      have hLlt := lt_of_block k1
      have hoth : ∀ b, b ≠ L → (w'.putObj L (.loop { rec s pd with state := .exhausted })).heap[b]? = w'.heap[b]? := fun b hb => World.putObj_heap_other hb
      have hdx' := List.pairwise_cons.1 hdx
      have h2 := hst'.turn (A := [C r (qf gq)]) (B := X' gq) (C := cdef K :: X2) (e' := e') (w' := w'.putObj L (.loop { rec s pd with state := .exhausted })) (List.Perm.refl _) (Env.le.refl e') (fun ad v hm => .inl hm)
        ⟨rfl, rfl, rfl, by simp, fun b _ hb => hoth b fun hh => hb ⟨_, List.mem_singleton.2 rfl, by rw [hC]; exact ⟨_, List.mem_cons_self .., .inl hh⟩⟩⟩
        (fun ad v hm => by rw [World.cell?_of_block (hoth _ (k4 ad v hm).1)]; exact hst'.frz ad v hm)
        (fun c hc => ?_) (List.pairwise_cons.2 ⟨fun c hc b hb hb' => hdx'.1 c hc b (.inr hb) hb', hdx'.2⟩) (fun c hc b hb => .inl ⟨_, List.mem_singleton.2 rfl, ?_⟩)
      · exact ⟨h2.nt, by show mark K :: a.defers = mark K :: st.df.map mark; rw [h2.df], h2.frz, h2.xs, h2.dj, hsl, h2.base⟩
      · rcases List.mem_cons.1 hc with rfl | hc
        · exact ⟨(hoth K (Ne.symm k3)).trans k2, fun ad v hm => (k4 ad v hm).2⟩
        · refine c.kept (hxs c (List.mem_cons_of_mem _ hc)) (Env.le.refl e') (fun ad v hm _ => hm) fun b hb => hoth b fun hh => hdx'.1 c hc b (.inl hh) hb
      · rw [hC]
        rcases List.mem_cons.1 hc with rfl | hc
        · exact ⟨_, List.mem_cons_self .., .inr hb⟩
        · exact ⟨c, List.mem_cons_of_mem _ hc, hb⟩
    cases hr : r with
    | inl s' =>
      obtain ⟨w4, h4, h5⟩ := fin .ready none (Xr s' (qf gq)) (by decide) (by rw [hr]; rfl)
      exact ⟨none, w4, h4, hdone s' K gq hr _ _ ⟨e', h5⟩⟩
    | inr u =>
      obtain ⟨w4, h4, h5⟩ := fin .done (some (code u)) (Xs u (qf gq)) (by decide) (by rw [hr]; rfl)
      exact ⟨some (code u), w4, h4, hstop u K gq hr _ _ ⟨e', h5⟩⟩
end
end Go.Proofs.Ytbmimaabgclhjaa.Fw
