/- Courses over maps, in whatever order. -/
import Derived.Test.YtklnihlchhhhlaaGreatFv
namespace Go.Proofs.YtklnihlchhhhlaaGreat.Fw
open Go Go.RowKit Go.MapKept
set_option linter.unusedVariables false
set_option linter.unusedSimpArgs false

section
variable {P : Program} {Bs : Base} {st : St} {e : Env} {a : Act} {w : World} {t kt et ty : TypeId} {d : Nat} {x y z : Operand} {pos : String} {af : Array Edge} {g : Option (Nat × Bool)} {K V : Type} {pk : K → VP} {pv : V → VP} {Q : Exit → Act → World → Prop}
def Rem (pk : K → VP) (pv : V → VP) (e : Env) (rem : List (K × V)) (left : List MapEntry) : Prop := ∃ l', MRel pk pv e rem l' ∧ l'.Perm left
theorem Rem.pick {e : Env} : ∀ {rem : List (K × V)} {l' : List MapEntry} {en : MapEntry}, MRel pk pv e rem l' → en ∈ l' → ∃ kv rem' l'', rem.Perm (kv :: rem') ∧ l'.Perm (en :: l'') ∧ MRel pk pv e rem' l'' ∧ (pk kv.1).p e en.key ∧ (pv kv.2).p e en.val
  | [], [], en, _, hm => by cases hm
  | q :: rem, z :: l', en, ⟨a, b, c⟩, hm => by
    rcases List.mem_cons.1 hm with rfl | hm
    · exact ⟨q, rem, l', List.Perm.refl _, List.Perm.refl _, c, a, b⟩
    · obtain ⟨kv, rem', l'', h1, h2, h3, h4, h5⟩ := Rem.pick c hm
      exact ⟨kv, q :: rem', z :: l'', (h1.cons q).trans (List.Perm.swap _ _ _), (h2.cons z).trans (List.Perm.swap _ _ _), ⟨a, b, h3⟩, h4, h5⟩
  | [], _ :: _, _, h, _ => h.elim
  | _ :: _, [], _, h, _ => h.elim

def ZiH (ob : Option Nat) (r : Nat) (pk : K → VP) (pv : V → VP) (x : Option (List (K × V))) (rem : List (K × V)) (cur : Option (K × V)) : ZbE where
  foot c := ob = some c ∨ c = r
  R e w := (∀ ad v, e.mu ad = some v → ad.block ≠ r) ∧ ((ob = none ∧ x = none ∧ rem = [] ∧ cur = none ∧ w.heap[r]? = some (.mapIter none 0 #[] 0)) ∨
    ∃ (b : Nat) (l : List (K × V)) (es : Array MapEntry) (clock since c0 : Nat) (seen : Array Nat), ob = some b ∧ x = some l ∧ b ≠ r ∧ w.heap[b]? = some (.map es clock) ∧ MP pk pv e l es.toList ∧ Stamped es clock ∧ (∀ ad v, e.mu ad = some v → ad.block ≠ b) ∧
      w.heap[r]? = some (.mapIter (some b) since seen c0) ∧ (∀ en ∈ es.toList, en.born < since) ∧ since ≤ c0 ∧ since ≤ clock ∧ Rem pk pv e rem (leftOf es seen).toList ∧
      ∀ kv, cur = some kv → ∃ (en : MapEntry) (seen' : Array Nat), en ∈ es.toList ∧ seen = seen'.push en.born ∧ c0 = clock ∧ (pk kv.1).p e en.key ∧ (pv kv.2).p e en.val)
  lt := fun h c hc => by
    obtain ⟨_, h⟩ := h
    rcases h with ⟨h1, _, _, _, h2⟩ | ⟨b, l, es, clock, since, c0, seen, hb, _, _, h1, _, _, _, h2, _⟩
    · rcases hc with hc | rfl
      · rw [h1] at hc; cases hc
      · exact Zbg h2
    · rcases hc with hc | rfl
      · rw [hb] at hc; cases hc; exact Zbg h1
      · exact Zbg h2
  kept := fun h he hmu hk => by
    obtain ⟨h0, h⟩ := h
    refine ⟨fun ad v hm hb => h0 ad v (hmu ad v hm (.inr hb)) hb, ?_⟩
    rcases h with ⟨h1, h2, h3, h4, h5⟩ | ⟨b, l, es, clock, since, c0, seen, hb, hx, hne, h1, h2, h3, h4, h5, h6, h7, h8, ⟨l', h9, h10⟩, h11⟩
    · exact .inl ⟨h1, h2, h3, h4, (hk r (.inr rfl)).trans h5⟩
    · refine .inr ⟨b, l, es, clock, since, c0, seen, hb, hx, hne, (hk b (.inl hb)).trans h1, h2.mono he, h3, fun ad v hm hbl => h4 ad v (hmu ad v hm (.inl (by rw [hbl]; exact hb))) hbl, (hk r (.inr rfl)).trans h5, h6, h7, h8, ⟨l', h9.mono he, h10⟩, fun kv hc => ?_⟩
      obtain ⟨en, seen', k1, k2, k3, k4, k5⟩ := h11 kv hc
      exact ⟨en, seen', k1, k2, k3, (pk _).mono he k4, (pv _).mono he k5⟩
theorem Zjo : ∀ {L : List MapEntry} {en : MapEntry}, (L.map (·.born)).Nodup → en ∈ L → L.Perm (en :: L.filter fun x => x.born != en.born)
  | z :: L, en, hn, hm => by
    simp only [List.map_cons, List.nodup_cons] at hn
    rcases List.mem_cons.1 hm with rfl | hm
    · have : (L.filter fun x => x.born != en.born) = L := List.filter_eq_self.2 fun x hx => by
        have : x.born ≠ en.born := fun h => hn.1 (List.mem_map.2 ⟨x, hx, h⟩)
        simpa using this
      rw [List.filter_cons_of_neg (by simp), this]
    · have hne : z.born ≠ en.born := fun h => hn.1 (List.mem_map.2 ⟨en, hm, h.symm⟩)
      rw [List.filter_cons_of_pos (by simpa using hne)]
      exact ((Zjo hn.2 hm).cons z).trans (List.Perm.swap _ _ _)
theorem ZjG (es : Array MapEntry) (seen : Array Nat) (n : Nat) : (leftOf es (seen.push n)).toList = (leftOf es seen).toList.filter fun x => x.born != n := by
  unfold leftOf
  simp only [Array.toList_filter, List.filter_filter]
  refine List.filter_congr fun x _ => ?_
  simp only [Array.contains_push]
  cases seen.contains x.born <;> cases h : (x.born == n) <;> simp_all [bne]
theorem Rem.nil {e : Env} {rem : List (K × V)} {left : List MapEntry} (h : Rem pk pv e rem left) (h0 : left = []) : rem = [] := by
  obtain ⟨l', h1, h2⟩ := h
  subst h0
  have := h2.eq_nil
  subst this
  cases rem with
  | nil => rfl
  | cons q r => exact h1.elim
theorem Zni (w : World) (b : Nat) (o : Obj) : ChangeMaps.setBlock w b o = setM w b o := rfl
theorem Zm9 {ob : Option Nat} {r : Nat} {m : Option (List (K × V))} {rem : List (K × V)} {cur : Option (K × V)} {j : Nat} (hd : d < Bs.N) (hX : st.X[j]? = some (ZiH ob r pk pv m rem cur)) (hx : HasO st x (.one (.val (PTR r 0)))) :
    OpX P Bs ⟨some d, .next x false, ty, pos, af, g⟩ st (fun q : PLift (rem = []) ⊕ {p : (K × V) × List (K × V) // rem.Perm (p.1 :: p.2)} => match q with
      | .inl _ => St.set { st with X := st.X.set j (ZiH ob r pk pv m [] none) } d (.tup [.val (S rB false)])
      | .inr p => St.set { st with X := st.X.set j (ZiH ob r pk pv m p.1.2 (some p.1.1)) } d (.tup [.val (S rB true), .val (pk p.1.1.1), .val (pv p.1.1.2)])) := by
  intro a w ⟨e, h⟩ Kk Q hK
  have hxv : a.eval x = .pointer (some ⟨r, 0, none⟩) := hx.get h
  have hR := h.xs _ (List.mem_of_getElem? hX)
  have done : rem = [] → (Instr.next (.pointer (some ⟨r, 0, none⟩)) false ty).run P w = .ok (.tuple #[.bool false]) w → Oper.wpIn (WF Bs.ro) 0 P ⟨some d, .next x false, ty, pos, af, g⟩ a w Kk Q := by
    intro h0 hrun
    refine Zeo (w' := w) (v := .tuple #[.bool false]) (fun _ _ => trivial) (ZcU rfl) (by simp [execOp, hxv, hrun]) (hK (.inl ⟨h0⟩) _ _ ⟨e, ?_⟩)
    subst h0
    refine StE.put (h.turn1 (c' := ZiH ob r pk pv m [] none) hX (Env.le.refl e) (fun ad v hm => .inl hm) ⟨rfl, rfl, rfl, Nat.le_refl _, fun _ _ _ => rfl⟩ h.frz ?_ fun c hc => .inl hc) hd (show SVR e (.tup [.val (S rB false)]) (.tuple #[.bool false]) from ⟨[.bool false], rfl, rfl, fun i s hs => ?_⟩)
    · obtain ⟨k0, hR⟩ := hR
      refine ⟨k0, ?_⟩
      rcases hR with ⟨h1, h2, h3, h4, h5⟩ | ⟨b, l, es, clock, since, c0, seen, hb, hx, hne, h1, h2, h3, h4, h5, h6, h7, h8, h9, h10⟩
      · exact .inl ⟨h1, h2, h3, rfl, h5⟩
      · exact .inr ⟨b, l, es, clock, since, c0, seen, hb, hx, hne, h1, h2, h3, h4, h5, h6, h7, h8, h9, fun kv hc => by cases hc⟩
    · match i, hs with
      | 0, hs => cases hs; exact rfl
  obtain ⟨k0, hR⟩ := hR
  rcases hR with ⟨h1, h2, h3, h4, h5⟩ | ⟨b, l, es, clock, since, c0, seen, rfl, rfl, hne, h1, h2, h3, h4, h5, h6, h7, h8, ⟨l', h9, h10⟩, h11⟩
  · exact done h3 (by simp [Instr.next, getObj, Sem.run, h5, Result.andThen])
  · rcases run_next_at (P := P) w ty r b since c0 seen es clock h5 h1 h6 h7 with ⟨k1, k2⟩ | ⟨en, k1, w1, k2, k3⟩
    · refine done (Rem.nil ⟨l', h9, h10⟩ ?_) k2
      exact List.eq_nil_of_length_eq_zero (by simpa using k1)
    · obtain ⟨kv, rem', l'', p1, p2, p3, p4, p5⟩ := Rem.pick h9 (h10.mem_iff.2 k1)
      rw [Zni] at k3
      refine Zeo (w' := setM w1 r (.mapIter (some b) since (seen.push en.born) clock)) (v := .tuple #[.bool true, en.key, en.val]) (fun _ _ => trivial) (ZcU rfl) (by simp [execOp, hxv, k3]) (hK (.inr ⟨(kv, rem'), p1⟩) _ _ ⟨e, ?_⟩)
      have hheap : w1.heap = w.heap := by rcases k2 with rfl | rfl <;> rfl
      have hrlt : r < w.heap.size := Zbg h5
      have hk : Zgk (· = r) w (setM w1 r (.mapIter (some b) since (seen.push en.born) clock)) := by
        refine ⟨?_, ?_, ?_, ?_, fun c _ hc => ?_⟩
        · rcases k2 with rfl | rfl <;> rfl
        · rcases k2 with rfl | rfl <;> rfl
        · rcases k2 with rfl | rfl <;> rfl
        · simp [Fw.setM, hheap]
        · rw [ZhM hc, hheap]
      have hes : en ∈ es.toList := by
        have := k1
        unfold leftOf at this
        rw [Array.toList_filter] at this
        exact (List.mem_filter.1 this).1
      have hnb : ((leftOf es seen).toList.map (·.born)).Nodup := by
        unfold leftOf
        rw [Array.toList_filter]
        exact (List.filter_sublist.map _).nodup h3.2.1
      refine StE.put (h.turn1 (c' := ZiH (some b) r pk pv (some l) rem' (some kv)) hX (Env.le.refl e) (fun ad v hm => .inl hm) (hk.foot fun c hc => show some b = some c ∨ c = r from .inr hc) (fun ad v hm => ?_) (show (ZiH (some b) r pk pv (some l) rem' (some kv)).R e _ from ⟨k0, .inr ⟨b, l, es, clock, since, clock, seen.push en.born, rfl, rfl, hne, ?_, h2, h3, h4, ?_, h6, h8, h8, ⟨l'', p3, ?_⟩, fun kv' hkv => ?_⟩⟩) fun c hc => .inl hc) hd (show SVR e (.tup [.val (S rB true), .val (pk kv.1), .val (pv kv.2)]) (.tuple #[.bool true, en.key, en.val]) from ⟨[.bool true, en.key, en.val], rfl, rfl, fun i s hs => ?_⟩)
      · rw [World.cell?_of_block (show (setM w1 r _).heap[ad.block]? = w.heap[ad.block]? by rw [ZhM (k0 ad v hm), hheap])]
        exact h.frz ad v hm
      · rw [ZhM hne, hheap]; exact h1
      · exact ZlW (by rw [hheap]; exact hrlt)
      · rw [ZjG]
        exact ((p2.symm.trans h10).trans (Zjo hnb k1)).cons_inv
      · cases hkv
        exact ⟨en, seen, hes, rfl, rfl, p4, p5⟩
      · match i, hs with
        | 0, hs => cases hs; exact rfl
        | 1, hs => cases hs; exact p4
        | 2, hs => cases hs; exact p5
theorem JL.next {ops : Array Oper} {os : List Oper} {ob : Option Nat} {r : Nat} {m : Option (List (K × V))} {rem : List (K × V)} {cur : Option (K × V)} {j : Nat} (hd : d < Bs.N) (hX : st.X[j]? = some (ZiH ob r pk pv m rem cur)) (hx : HasO st x (.one (.val (PTR r 0))))
    (h0 : rem = [] → JL P Bs ops os (St.set { st with X := st.X.set j (ZiH ob r pk pv m [] none) } d (.tup [.val (S rB false)])) Q)
    (h1 : ∀ kv rem', rem.Perm (kv :: rem') → JL P Bs ops os (St.set { st with X := st.X.set j (ZiH ob r pk pv m rem' (some kv)) } d (.tup [.val (S rB true), .val (pk kv.1), .val (pv kv.2)])) Q)
    (hg : g = none := by rfl) : JL P Bs ops (⟨some d, .next x false, ty, pos, af, g⟩ :: os) st Q :=
  JL.consX hg (Zm9 hd hX hx) fun q => match q with
    | .inl h => h0 h.down
    | .inr p => h1 p.1.1 p.1.2 p.2
variable [DecidableEq K]
end
theorem Imp.pick {Bs : Base} {st : St} {A B Y : List ZbE} {js : List Nat} (hX : ZgJ st.X js = some (A, B)) (hY : Y = A ++ B) : Imp Bs st { st with X := Y } := fun a w ⟨e, h⟩ => ⟨e, by rw [hY]; exact h.perm (Zdt hX)⟩
end Go.Proofs.YtklnihlchhhhlaaGreat.Fw
