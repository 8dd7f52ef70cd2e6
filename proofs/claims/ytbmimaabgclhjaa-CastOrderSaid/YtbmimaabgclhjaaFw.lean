/- Courses over maps, in whatever order. -/
import Derived.Test.YtbmimaabgclhjaaFv
namespace Go.Proofs.Ytbmimaabgclhjaa.Fw
open Go Go.RowKit Go.MapKept
set_option linter.unusedVariables false
set_option linter.unusedSimpArgs false

theorem foldO_step {E σ τ : Type} {body : σ → E → Option (σ ⊕ τ)} {fin : σ → Option τ} {rem rem' : List E} {e : E} {s : σ} {r : τ} (h : ∀ l, l.Perm rem → foldO body fin l s = some r) (hp : rem.Perm (e :: rem')) :
    ∃ x, body s e = some x ∧ (∀ t, x = .inr t → t = r) ∧ ∀ s', x = .inl s' → ∀ l, l.Perm rem' → foldO body fin l s' = some r := by
  have h1 := h (e :: rem') hp.symm
  cases hb : body s e with
  | none => simp [foldO, hb] at h1
  | some x =>
    refine ⟨x, rfl, fun t ht => ?_, fun s' hs l hl => ?_⟩
    · subst ht; simpa [foldO, hb] using h1
    · subst hs
      have h2 := h (e :: l) ((hl.cons e).trans hp.symm)
      simpa [foldO, hb] using h2
theorem foldO_end {E σ τ : Type} {body : σ → E → Option (σ ⊕ τ)} {fin : σ → Option τ} {s : σ} {r : τ} (h : ∀ l, l.Perm ([] : List E) → foldO body fin l s = some r) : fin s = some r := h [] (List.Perm.refl _)

section
variable {P : Program} {Bs : Base} {st : St} {e : Env} {a : Act} {w : World} {t kt et ty : TypeId} {d : Nat} {x y z : Operand} {pos : String} {af : Array Edge} {g : Option (Nat × Bool)} {K V : Type} {pk : K → VP} {pv : V → VP} {Q : Exit → Act → World → Prop}
theorem JC.mloop {σ E τ γ : Type} {c : Code} {stf : σ → List E → γ → St} {body : σ → E → Option (σ ⊕ τ)} {fin : σ → Option τ} {l0 : List E} {s : σ} {q : γ} {r : τ} (hm : rangeM l0 body fin s = some r)
    (round : ∀ s rem q, (∀ l, l.Perm rem → foldO body fin l s = some r) → JC P Bs c (stf s rem q) (Exit.then (fun a w => ∃ s' rem' q', rem'.length < rem.length ∧ (∀ l, l.Perm rem' → foldO body fin l s' = some r) ∧ StR Bs (stf s' rem' q') a w) Q)) : JC P Bs (.loop c) (stf s l0 q) Q := by
  intro a w hst b kk cs hro hb hr
  have key : ∀ n s rem q a w, rem.length = n → (∀ l, l.Perm rem → foldO body fin l s = some r) → StR Bs (stf s rem q) a w → ∃ e a' w', Q e a' w' ∧ ArrivesIn (Machine.fenced P (WF Bs.ro)) P (lone (b.atR a (.code c :: .inLoop c :: kk)) cs w) b kk cs e a' w' := by
    intro n
    induction n using Nat.strongRecOn with
    | _ n ih =>
      intro s rem q a w hn h hst
      obtain ⟨ex, a₁, w₁, hq, harr⟩ := round s rem q h a w hst b (.inLoop c :: kk) cs hro hb hr
      cases ex with
      | normal =>
        obtain ⟨s', rem', q', hlt, h', hst'⟩ := hq
        obtain ⟨e₂, a₂, w₂, hq₂, harr₂⟩ := ih rem'.length (by omega) s' rem' q' a₁ w₁ rfl h' hst'
        exact ⟨e₂, a₂, w₂, hq₂, .of_steps (StepsIn.trans harr (.one (fenced_calm hb hr rfl) stepR_inLoop)) harr₂⟩
      | exit id => exact ⟨_, a₁, w₁, hq, .pass (x := .inLoop c) rfl (fun _ _ => .inl (by simp)) harr⟩
      | goto l => exact ⟨_, a₁, w₁, hq, .pass (x := .inLoop c) rfl (fun _ _ => .inl (by simp)) harr⟩
      | ret => exact ⟨_, a₁, w₁, hq, .pass (x := .inLoop c) rfl (fun _ _ => .inl (by simp)) harr⟩
      | panic ch => exact ⟨_, a₁, w₁, hq, .pass (x := .inLoop c) rfl (fun _ _ => .inl (by simp)) harr⟩
      | outgrown => exact ⟨_, a₁, w₁, hq, .pass (x := .inLoop c) rfl (fun _ _ => .inl (by simp)) harr⟩
  obtain ⟨ex, a', w', hq, harr⟩ := key l0.length s l0 q a w rfl (rangeM_some hm) hst
  exact ⟨ex, a', w', hq, .of_steps (.one (fenced_calm hb hr rfl) stepR_loop) harr⟩
/-- What is still to come: some entries, and what they are. -/
def Rem (pk : K → VP) (pv : V → VP) (e : Env) (rem : List (K × V)) (left : List MapEntry) : Prop := ∃ l', MRel pk pv e rem l' ∧ l'.Perm left
theorem Rem.pick {e : Env} : ∀ {rem : List (K × V)} {l' : List MapEntry} {en : MapEntry}, MRel pk pv e rem l' → en ∈ l' → ∃ kv rem' l'', rem.Perm (kv :: rem') ∧ l'.Perm (en :: l'') ∧ MRel pk pv e rem' l'' ∧ (pk kv.1).p e en.key ∧ (pv kv.2).p e en.val
  | [], [], en, _, hm => by cases hm
  | q :: rem, z :: l', en, ⟨a, b, c⟩, hm => by
    rcases List.mem_cons.1 hm with rfl | hm
    · exact ⟨q, rem, l', List.Perm.refl _, List.Perm.refl _, c, a, b⟩
    · obtain ⟨kv, rem', l'', h1, h2, h3, h4, h5⟩ := Rem.pick c hm
      exact ⟨kv, q :: rem', z :: l'', (h1.cons q).trans (List.Perm.swap _ _ _), (h2.cons z).trans (List.Perm.swap _ _ _), ⟨a, b, h3⟩, h4, h5⟩
  | [], _ :: _, _, h, _ => h.elim
  | _ :: _, [], _, h, _ => h.elim

/-- A map over which a course is under way: its iterator's block; what is still to come; what came last. -/
def cmapI (ob : Option Nat) (r : Nat) (pk : K → VP) (pv : V → VP) (x : Option (List (K × V))) (rem : List (K × V)) (cur : Option (K × V)) : Chunk where
  foot c := ob = some c ∨ c = r
  R e w := (∀ ad v, e.mu ad = some v → ad.block ≠ r) ∧ ((ob = none ∧ x = none ∧ rem = [] ∧ cur = none ∧ w.heap[r]? = some (.mapIter none 0 #[] 0)) ∨
    ∃ (b : Nat) (l : List (K × V)) (es : Array MapEntry) (clock since c0 : Nat) (seen : Array Nat), ob = some b ∧ x = some l ∧ b ≠ r ∧ w.heap[b]? = some (.map es clock) ∧ MP pk pv e l es.toList ∧ Stamped es clock ∧ (∀ ad v, e.mu ad = some v → ad.block ≠ b) ∧
      w.heap[r]? = some (.mapIter (some b) since seen c0) ∧ (∀ en ∈ es.toList, en.born < since) ∧ since ≤ c0 ∧ since ≤ clock ∧ Rem pk pv e rem (leftOf es seen).toList ∧
      ∀ kv, cur = some kv → ∃ (en : MapEntry) (seen' : Array Nat), en ∈ es.toList ∧ seen = seen'.push en.born ∧ c0 = clock ∧ (pk kv.1).p e en.key ∧ (pv kv.2).p e en.val)
  lt := fun h c hc => by
    obtain ⟨_, h⟩ := h
    rcases h with ⟨h1, _, _, _, h2⟩ | ⟨b, l, es, clock, since, c0, seen, hb, _, _, h1, _, _, _, h2, _⟩
    · rcases hc with hc | rfl
      · rw [h1] at hc; cases hc
      · exact lt_of_block h2
    · rcases hc with hc | rfl
      · rw [hb] at hc; cases hc; exact lt_of_block h1
      · exact lt_of_block h2
  kept := fun h he hmu hk => by
    obtain ⟨h0, h⟩ := h
    refine ⟨fun ad v hm hb => h0 ad v (hmu ad v hm (.inr hb)) hb, ?_⟩
    rcases h with ⟨h1, h2, h3, h4, h5⟩ | ⟨b, l, es, clock, since, c0, seen, hb, hx, hne, h1, h2, h3, h4, h5, h6, h7, h8, ⟨l', h9, h10⟩, h11⟩
    · exact .inl ⟨h1, h2, h3, h4, (hk r (.inr rfl)).trans h5⟩
    · refine .inr ⟨b, l, es, clock, since, c0, seen, hb, hx, hne, (hk b (.inl hb)).trans h1, h2.mono he, h3, fun ad v hm hbl => h4 ad v (hmu ad v hm (.inl (by rw [hbl]; exact hb))) hbl, (hk r (.inr rfl)).trans h5, h6, h7, h8, ⟨l', h9.mono he, h10⟩, fun kv hc => ?_⟩
      obtain ⟨en, seen', k1, k2, k3, k4, k5⟩ := h11 kv hc
      exact ⟨en, seen', k1, k2, k3, (pk _).mono he k4, (pv _).mono he k5⟩
theorem op_range {ob : Option Nat} {m : Option (List (K × V))} {j : Nat} (hd : d < Bs.N) (ht : P.underlying t = some (.map kt et)) (hX : st.X[j]? = some (cmap ob pk pv m)) (hx : HasO st x (.one (.val (MPV ob)))) :
    OpX P Bs ⟨some d, .range t x, ty, pos, af, g⟩ st (fun r => St.set { st with X := st.X.set j (cmapI ob r pk pv m (m.getD []) none) } d (.one (.val (PTR r 0)))) := .grows hd fun e a w h => by
  have hxv : a.eval x = .map ob := hx.get h
  have hcR := h.xs _ (List.mem_of_getElem? hX)
  rcases hcR with ⟨rfl, rfl⟩ | ⟨b, l, es, clock, rfl, rfl, h1, h2, h3, h4⟩
  · refine ⟨.pointer (some ⟨w.heap.size, 0, none⟩), { w with heap := w.heap.push (.mapIter none 0 #[] 0) }, e, w.heap.size, ?_, ?_, rfl⟩
    · simp [execOp, hxv, Instr.range, run_underlying ht, Result.andThen, newObj, Sem.run]
    · have hk := Kept.push w (.mapIter none 0 #[] 0)
      refine h.turn1 hX (Env.le.refl e) (fun ad v hm => .inl hm) (hk.x _) (frz_kept h.frz hk) (show (cmapI none w.heap.size pk pv none [] none).R e _ from ⟨fun ad v hm => by have := mu_lt h hm; omega, .inl ⟨rfl, rfl, rfl, rfl, by simp⟩⟩) fun c hc => ?_
      have hc : none = some c ∨ c = w.heap.size := hc
      rcases hc with hc | rfl
      · cases hc
      · exact .inr (Nat.le_refl _)
  · have hlt := lt_of_block h1
    refine ⟨.pointer (some ⟨w.heap.size, 0, none⟩), { w with heap := w.heap.push (.mapIter (some b) clock #[] clock) }, e, w.heap.size, ?_, ?_, rfl⟩
    · simp [execOp, hxv, Instr.range, run_underlying ht, Result.andThen, MapKept.run_getObj_map h1, newObj, Sem.run]
    · have hk := Kept.push w (.mapIter (some b) clock #[] clock)
      have e0 : leftOf es #[] = es := by unfold leftOf; rw [Array.filter_eq_self]; simp
      refine h.turn1 hX (Env.le.refl e) (fun ad v hm => .inl hm) (hk.x _) (frz_kept h.frz hk) (show (cmapI (some b) w.heap.size pk pv (some l) l none).R e _ from ⟨fun ad v hm => by have := mu_lt h hm; omega, .inr ⟨b, l, es, clock, clock, clock, #[], rfl, rfl, by omega, (hk.old b hlt).trans h1, h2, h3, h4, by simp, h3.1, Nat.le_refl _, Nat.le_refl _, by rw [e0]; exact h2, fun kv hc => by cases hc⟩⟩) fun c hc => ?_
      have hc : some b = some c ∨ c = w.heap.size := hc
      rcases hc with hc | rfl
      · exact .inl hc
      · exact .inr (Nat.le_refl _)
theorem Imp.endIt {ob : Option Nat} {r : Nat} {m : Option (List (K × V))} {rem : List (K × V)} {cur : Option (K × V)} {j : Nat} (hX : st.X[j]? = some (cmapI ob r pk pv m rem cur)) : Imp Bs st { st with X := st.X.set j (cmap ob pk pv m) } :=
  Imp.chunk hX (fun e w h => by
    obtain ⟨_, h⟩ := h
    rcases h with ⟨h1, h2, _⟩ | ⟨b, l, es, clock, since, c0, seen, hb, hx, _, h1, h2, h3, h4, _⟩
    · exact .inl ⟨h1, h2⟩
    · exact .inr ⟨b, l, es, clock, hb, hx, h1, h2, h3, h4⟩) fun b hb => show ob = some b ∨ b = r from .inl hb
theorem Imp.forget {ob : Option Nat} {r : Nat} {m : Option (List (K × V))} {rem : List (K × V)} {cur : Option (K × V)} {j : Nat} (hX : st.X[j]? = some (cmapI ob r pk pv m rem cur)) : Imp Bs st { st with X := st.X.set j (cmapI ob r pk pv m rem none) } :=
  Imp.chunk hX (fun e w h => by
    obtain ⟨h0, h⟩ := h
    refine ⟨h0, ?_⟩
    rcases h with ⟨h1, h2, h3, h4, h5⟩ | ⟨b, l, es, clock, since, c0, seen, hb, hx, hne, h1, h2, h3, h4, h5, h6, h7, h8, h9, h10⟩
    · exact .inl ⟨h1, h2, h3, rfl, h5⟩
    · exact .inr ⟨b, l, es, clock, since, c0, seen, hb, hx, hne, h1, h2, h3, h4, h5, h6, h7, h8, h9, fun kv hc => by cases hc⟩) fun b hb => hb
theorem perm_born : ∀ {L : List MapEntry} {en : MapEntry}, (L.map (·.born)).Nodup → en ∈ L → L.Perm (en :: L.filter fun x => x.born != en.born)
  | z :: L, en, hn, hm => by
    simp only [List.map_cons, List.nodup_cons] at hn
    rcases List.mem_cons.1 hm with rfl | hm
    · have : (L.filter fun x => x.born != en.born) = L := List.filter_eq_self.2 fun x hx => by
        have : x.born ≠ en.born := fun h => hn.1 (List.mem_map.2 ⟨x, hx, h⟩)
        simpa using this
      rw [List.filter_cons_of_neg (by simp), this]
    · have hne : z.born ≠ en.born := fun h => hn.1 (List.mem_map.2 ⟨en, hm, h.symm⟩)
      rw [List.filter_cons_of_pos (by simpa using hne)]
      exact ((perm_born hn.2 hm).cons z).trans (List.Perm.swap _ _ _)
theorem leftOf_push (es : Array MapEntry) (seen : Array Nat) (n : Nat) : (leftOf es (seen.push n)).toList = (leftOf es seen).toList.filter fun x => x.born != n := by
  unfold leftOf
  simp only [Array.toList_filter, List.filter_filter]
  refine List.filter_congr fun x _ => ?_
  simp only [Array.contains_push]
  cases seen.contains x.born <;> cases h : (x.born == n) <;> simp_all [bne]
theorem Rem.nil {e : Env} {rem : List (K × V)} {left : List MapEntry} (h : Rem pk pv e rem left) (h0 : left = []) : rem = [] := by
  obtain ⟨l', h1, h2⟩ := h
  subst h0
  have := h2.eq_nil
  subst this
  cases rem with
  | nil => rfl
  | cons q r => exact h1.elim
theorem setM_eq (w : World) (b : Nat) (o : Obj) : ChangeMaps.setBlock w b o = setM w b o := rfl
theorem op_next {ob : Option Nat} {r : Nat} {m : Option (List (K × V))} {rem : List (K × V)} {cur : Option (K × V)} {j : Nat} (hd : d < Bs.N) (hX : st.X[j]? = some (cmapI ob r pk pv m rem cur)) (hx : HasO st x (.one (.val (PTR r 0)))) :
    OpX P Bs ⟨some d, .next x false, ty, pos, af, g⟩ st (fun q : PLift (rem = []) ⊕ {p : (K × V) × List (K × V) // rem.Perm (p.1 :: p.2)} => match q with
      | .inl _ => St.set { st with X := st.X.set j (cmapI ob r pk pv m [] none) } d (.tup [.val (S rB false)])
      | .inr p => St.set { st with X := st.X.set j (cmapI ob r pk pv m p.1.2 (some p.1.1)) } d (.tup [.val (S rB true), .val (pk p.1.1.1), .val (pv p.1.1.2)])) := by
  intro a w ⟨e, h⟩ Kk Q hK
  have hxv : a.eval x = .pointer (some ⟨r, 0, none⟩) := hx.get h
  have hR := h.xs _ (List.mem_of_getElem? hX)
  have done : rem = [] → (Instr.next (.pointer (some ⟨r, 0, none⟩)) false ty).run P w = .ok (.tuple #[.bool false]) w → Oper.wpIn (WF Bs.ro) 0 P ⟨some d, .next x false, ty, pos, af, g⟩ a w Kk Q := by
    intro h0 hrun
    refine wpIn_calm (w' := w) (v := .tuple #[.bool false]) (fun _ _ => trivial) (nodefer_ne rfl) (by simp [execOp, hxv, hrun]) (hK (.inl ⟨h0⟩) _ _ ⟨e, ?_⟩)
    subst h0
    refine StE.put (h.turn1 (c' := cmapI ob r pk pv m [] none) hX (Env.le.refl e) (fun ad v hm => .inl hm) ⟨rfl, rfl, rfl, Nat.le_refl _, fun _ _ _ => rfl⟩ h.frz ?_ fun c hc => .inl hc) hd (show SVR e (.tup [.val (S rB false)]) (.tuple #[.bool false]) from ⟨[.bool false], rfl, rfl, fun i s hs => ?_⟩)
    · obtain ⟨k0, hR⟩ := hR
      refine ⟨k0, ?_⟩
      rcases hR with ⟨h1, h2, h3, h4, h5⟩ | ⟨b, l, es, clock, since, c0, seen, hb, hx, hne, h1, h2, h3, h4, h5, h6, h7, h8, h9, h10⟩
      · exact .inl ⟨h1, h2, h3, rfl, h5⟩
      · exact .inr ⟨b, l, es, clock, since, c0, seen, hb, hx, hne, h1, h2, h3, h4, h5, h6, h7, h8, h9, fun kv hc => by cases hc⟩
    · match i, hs with
      | 0, hs => cases hs; exact rfl
  obtain ⟨k0, hR⟩ := hR
  rcases hR with ⟨h1, h2, h3, h4, h5⟩ | ⟨b, l, es, clock, since, c0, seen, rfl, rfl, hne, h1, h2, h3, h4, h5, h6, h7, h8, ⟨l', h9, h10⟩, h11⟩
  · exact done h3 (by simp [Instr.next, getObj, Sem.run, h5, Result.andThen])
  · rcases run_next_at (P := P) w ty r b since c0 seen es clock h5 h1 h6 h7 with ⟨k1, k2⟩ | ⟨en, k1, w1, k2, k3⟩
    · refine done (Rem.nil ⟨l', h9, h10⟩ ?_) k2
      exact List.eq_nil_of_length_eq_zero (by simpa using k1)
    · obtain ⟨kv, rem', l'', p1, p2, p3, p4, p5⟩ := Rem.pick h9 (h10.mem_iff.2 k1)
      rw [setM_eq] at k3
      refine wpIn_calm (w' := setM w1 r (.mapIter (some b) since (seen.push en.born) clock)) (v := .tuple #[.bool true, en.key, en.val]) (fun _ _ => trivial) (nodefer_ne rfl) (by simp [execOp, hxv, k3]) (hK (.inr ⟨(kv, rem'), p1⟩) _ _ ⟨e, ?_⟩)
      have hheap : w1.heap = w.heap := by rcases k2 with rfl | rfl <;> rfl
      have hrlt : r < w.heap.size := lt_of_block h5
      have hk : KeptX (· = r) w (setM w1 r (.mapIter (some b) since (seen.push en.born) clock)) := by
        refine ⟨?_, ?_, ?_, ?_, fun c _ hc => ?_⟩
        · rcases k2 with rfl | rfl <;> rfl
        · rcases k2 with rfl | rfl <;> rfl
        · rcases k2 with rfl | rfl <;> rfl
        · simp [Fw.setM, hheap]
        · rw [setM_ne hc, hheap]
      have hes : en ∈ es.toList := by
        have := k1
        unfold leftOf at this
        rw [Array.toList_filter] at this
        exact (List.mem_filter.1 this).1
      have hnb : ((leftOf es seen).toList.map (·.born)).Nodup := by
        unfold leftOf
        rw [Array.toList_filter]
        exact (List.filter_sublist.map _).nodup h3.2.1
      refine StE.put (h.turn1 (c' := cmapI (some b) r pk pv (some l) rem' (some kv)) hX (Env.le.refl e) (fun ad v hm => .inl hm) (hk.foot fun c hc => show some b = some c ∨ c = r from .inr hc) (fun ad v hm => ?_) (show (cmapI (some b) r pk pv (some l) rem' (some kv)).R e _ from ⟨k0, .inr ⟨b, l, es, clock, since, clock, seen.push en.born, rfl, rfl, hne, ?_, h2, h3, h4, ?_, h6, h8, h8, ⟨l'', p3, ?_⟩, fun kv' hkv => ?_⟩⟩) fun c hc => .inl hc) hd (show SVR e (.tup [.val (S rB true), .val (pk kv.1), .val (pv kv.2)]) (.tuple #[.bool true, en.key, en.val]) from ⟨[.bool true, en.key, en.val], rfl, rfl, fun i s hs => ?_⟩)
      · rw [World.cell?_of_block (show (setM w1 r _).heap[ad.block]? = w.heap[ad.block]? by rw [setM_ne (k0 ad v hm), hheap])]
        exact h.frz ad v hm
      · rw [setM_ne hne, hheap]; exact h1
      · exact setM_at (by rw [hheap]; exact hrlt)
      · rw [leftOf_push]
        exact ((p2.symm.trans h10).trans (perm_born hnb k1)).cons_inv
      · cases hkv
        exact ⟨en, seen, hes, rfl, rfl, p4, p5⟩
      · match i, hs with
        | 0, hs => cases hs; exact rfl
        | 1, hs => cases hs; exact p4
        | 2, hs => cases hs; exact p5
theorem JL.next {ops : Array Oper} {os : List Oper} {ob : Option Nat} {r : Nat} {m : Option (List (K × V))} {rem : List (K × V)} {cur : Option (K × V)} {j : Nat} (hd : d < Bs.N) (hX : st.X[j]? = some (cmapI ob r pk pv m rem cur)) (hx : HasO st x (.one (.val (PTR r 0))))
    (h0 : rem = [] → JL P Bs ops os (St.set { st with X := st.X.set j (cmapI ob r pk pv m [] none) } d (.tup [.val (S rB false)])) Q)
    (h1 : ∀ kv rem', rem.Perm (kv :: rem') → JL P Bs ops os (St.set { st with X := st.X.set j (cmapI ob r pk pv m rem' (some kv)) } d (.tup [.val (S rB true), .val (pk kv.1), .val (pv kv.2)])) Q)
    (hg : g = none := by rfl) : JL P Bs ops (⟨some d, .next x false, ty, pos, af, g⟩ :: os) st Q :=
  JL.consX hg (op_next hd hX hx) fun q => match q with
    | .inl h => h0 h.down
    | .inr p => h1 p.1.1 p.1.2 p.2
theorem lenPerm {E : Type} {rem rem' : List E} {e : E} (h : rem.Perm (e :: rem')) : rem'.length < rem.length := by rw [h.length_eq]; simp
theorem JQ.mnext {σ E τ γ : Type} {stf : σ → List E → γ → St} {body : σ → E → Option (σ ⊕ τ)} {fin : σ → Option τ} {r : τ} {s' : σ} {rem rem' : List E} {el : E} (q' : γ) (hp : rem.Perm (el :: rem')) (hf : ∀ l, l.Perm rem' → foldO body fin l s' = some r) (i : Imp Bs st (stf s' rem' q')) :
    JQ Bs .normal st (Exit.then (fun a w => ∃ s' rem' q', rem'.length < rem.length ∧ (∀ l, l.Perm rem' → foldO body fin l s' = some r) ∧ StR Bs (stf s' rem' q') a w) Q) :=
  fun a w hst => ⟨s', rem', q', lenPerm hp, hf, i a w hst⟩
theorem op_entry {ob : Option Nat} {r : Nat} {m : Option (List (K × V))} {rem : List (K × V)} {kv : K × V} {j : Nat} (hd : d < Bs.N) (hX : st.X[j]? = some (cmapI ob r pk pv m rem (some kv))) (hx : HasO st x (.one (.val (PTR r 0)))) :
    OpStep P Bs ⟨some d, .entry x, ty, pos, af, g⟩ st (st.set d (.tup [.val (pk kv.1), .val (pv kv.2)])) := .value hd fun e a w h => by
  have hxv : a.eval x = .pointer (some ⟨r, 0, none⟩) := hx.get h
  obtain ⟨k0, hR⟩ := h.xs _ (List.mem_of_getElem? hX)
  rcases hR with ⟨h1, h2, h3, h4, h5⟩ | ⟨b, l, es, clock, since, c0, seen, rfl, rfl, hne, h1, h2, h3, h4, h5, h6, h7, h8, h9, h11⟩
  · cases h4
  · obtain ⟨en, seen', k1, rfl, rfl, k4, k5⟩ := h11 kv rfl
    have := run_entry_at (P := P) w r b since seen' es c0 en h5 h1 k1 h3.2.1
    exact ⟨.tuple #[en.key, en.val], by simp [execOp, hxv, this], [en.key, en.val], rfl, rfl, fun i s hs => by
      match i, hs with
      | 0, hs => cases hs; exact k4
      | 1, hs => cases hs; exact k5⟩
variable [DecidableEq K]
end
theorem Imp.pick {Bs : Base} {st : St} {A B Y : List Chunk} {js : List Nat} (hX : picks st.X js = some (A, B)) (hY : Y = A ++ B) : Imp Bs st { st with X := Y } := fun a w ⟨e, h⟩ => ⟨e, by rw [hY]; exact h.perm (picks_perm hX)⟩
end Go.Proofs.Ytbmimaabgclhjaa.Fw
