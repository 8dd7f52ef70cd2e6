/- Rows that a call has made out of others: their head, if they have no room, is whatever it was. -/
import Derived.Test.YtkbkdfcakpbojaaFw
namespace Go.Proofs.Ytkbkdfcakpbojaa.Fw
open Go Go.RowKit
set_option linter.unusedVariables false
set_option linter.unusedSimpArgs false

/-- A row's head; without room it may point anywhere. -/
def HDE (ob : Option Nat) (n c : Nat) : VP := ⟨fun _ v => ∃ base : Option Addr, v = .slice base n c ∧ (c ≠ 0 → base = ob.map fun b => ⟨b, 0, none⟩), fun _ h => h⟩
instance (ob : Option Nat) (n c : Nat) : OneP (HDE ob n c) := ⟨fun _ _ ⟨_, h, _⟩ => by subst h; rfl⟩
theorem wkTE {ob : Option Nat} {n c : Nat} : ∀ e v, (HDR ob 0 n c).p e v → (HDE ob n c).p e v := fun e v h => ⟨_, h, fun _ => rfl⟩
theorem Wk.toE {K : Env → Prop} {ob : Option Nat} {n c : Nat} : Wk K (rW (HDR ob 0 n c)) () (rW (HDE ob n c)) () := fun e vs _ ⟨v, h, k, h1⟩ => ⟨v, h, wkTE e v k, h1⟩
theorem wkLenE {ob : Option Nat} {n m c : Nat} (h : n = m) : ∀ e v, (HDE ob n c).p e v → (HDE ob m c).p e v := fun e v k => h ▸ k
theorem Wk.lenE {K : Env → Prop} {ob : Option Nat} {n m c : Nat} (h : n = m) : Wk K (rW (HDE ob n c)) () (rW (HDE ob m c)) () := fun e vs _ k => h ▸ k
theorem Wk.hde {T : Type} {r : Rep T} {xs : List T} {ob : Option Nat} {cap : Nat} : Wk (KL r xs ob cap) (rW (HDE ob xs.length cap)) () (rL r) xs := fun e vs hK ⟨v, h, ⟨base, hv, hb⟩, _⟩ => by
  subst h
  subst hv
  by_cases hc : cap = 0
  · obtain ⟨ad, c, h1, h2, h3, h4⟩ := hK
    have hc2 : c = cap := by cases h1; rfl
    have h0 : xs.length = 0 := by omega
    exact ⟨_, rfl, base, cap, rfl, by omega, fun _ => hc, fun h => by omega⟩
  · rw [hb hc]
    exact ⟨_, rfl, hK⟩

section
variable {P : Program} {Bs : Base} {st st' : St} {d : Nat} {ty t t' el : TypeId} {pos : String} {af : Array Edge} {g : Option (Nat × Bool)} {x y z : Operand} {Q : Exit → Act → World → Prop} {l : List Oper} {ops : Array Oper}
variable {e : Env} {a : Act} {w : World}
theorem op_lenE {ob : Option Nat} {n c : Nat} (hd : d < Bs.N) (hu : P.underlying t = some (.slice el)) (hx : HasO st x (.one (.val (HDE ob n c)))) :
    OpStep P Bs ⟨some d, .call { callee := .builtin .len, args := #[x], argTypes := #[t] }, ty, pos, af, g⟩ st (st.set d (.one (.val (S (rI .i64) n)))) :=
  .value hd fun e a w h => by
    obtain ⟨base, hv, _⟩ : ∃ base : Option Addr, a.eval x = .slice base n c ∧ _ := hx.get h
    exact ⟨.int .i64 n, by simp [execOp, resolve, invoke, builtin, Builtin.len_, hv, run_underlying hu, goInt], rfl⟩
/-- Where a row has elements its head is known. -/
theorem head_of {T : Type} {r : Rep T} {xs : List T} {ob : Option Nat} {fz cap j : Nat} (hst : StE Bs st e a w) (hX : st.X[j]? = some (cown ob r xs fz cap)) (hx : HasO st x (.one (.val (HDE ob xs.length cap)))) (h0 : 0 < xs.length) :
    a.eval x = .slice (ob.map fun b => ⟨b, 0, none⟩) xs.length cap := by
  obtain ⟨base, hv, hb⟩ : ∃ base : Option Addr, a.eval x = .slice base xs.length cap ∧ (cap ≠ 0 → base = ob.map fun b => ⟨b, 0, none⟩) := hx.get hst
  have hcap : xs.length ≤ cap := by
    rcases hst.xs _ (List.mem_of_getElem? hX) with ⟨h1, h2, h3, h4⟩ | ⟨b, cs, el, fr, hb, h5, h6, h0, _⟩
    · subst h2; simp
    · exact h0
  rw [hv, hb (by omega)]
theorem op_indexAddrEF {T : Type} {r : Rep T} {xs : List T} {ob : Option Nat} {fz cap j : Nat} {k : IntKind} {i : Int} {n : Nat} (hd : d < Bs.N) (hu : P.underlying t = some (.slice el)) (hs : tySz P el r.sz = true) (hX : st.X[j]? = some (cown ob r xs fz cap))
    (hx : HasO st x (.one (.val (HDE ob xs.length cap)))) (hy : HasO st y (.one (.val (S (rI k) i)))) (h : inO xs i = some n) :
    OpStep P Bs ⟨some d, .indexAddr t x y, ty, pos, af, g⟩ st (st.set d (.one (.val (EPT ob (n * r.sz))))) :=
  .value hd fun e a w hst => by
    obtain ⟨h0, h1, h2⟩ := inO_some h
    subst h2
    have hv := head_of hst hX hx (by omega)
    rcases hst.xs _ (List.mem_of_getElem? hX) with ⟨_, k2, _⟩ | ⟨b, cs, el', fr, hob, k1, k2, k0, k3, k4, _⟩
    · rw [k2] at h1; simp at h1
    · subst hob
      have hi : a.eval y = .int k i := by have := hy.get hst; simpa [SVR, SWR, S, rI] using this
      have hrun := rIndexSl (P := P) (w := w) (n := xs.length) (c := cap) (b := b) (off := 0) (k := k) hu hs h0 (show i < (xs.length : Int) by omega)
      rw [Nat.zero_add] at hrun
      rw [Option.map_some] at hv
      exact ⟨.pointer (some ⟨b, i.toNat * r.sz, none⟩), by simp only [execOp, hv, hi, Sem.run_bind, hrun, Result.andThen, Sem.run_pure], b, rfl, rfl⟩
theorem op_convES {src dst : TypeId} {xs : List UInt8} {ob : Option Nat} {fz cap j : Nat} (hd : d < Bs.N) (hs : P.underlying src = some (.slice el)) (he : P.underlying el = some (.int .u8)) (hu : P.underlying dst = some .string) (hX : st.X[j]? = some (cown ob (rU UInt8) xs fz cap)) (hx : HasO st x (.one (.val (HDE ob xs.length cap)))) :
    OpStep P Bs ⟨some d, .convert src dst x, ty, pos, af, g⟩ st (st.set d (.one (.val (S rS xs)))) :=
  .value hd fun e a w h => by
    obtain ⟨base, hv, hb⟩ : ∃ base : Option Addr, a.eval x = .slice base xs.length cap ∧ (cap ≠ 0 → base = ob.map fun b => ⟨b, 0, none⟩) := hx.get h
    refine ⟨.string (bs xs), ?_, rfl⟩
    have hrun := bytes_run (P := P) (w := w) (c := cap) (xs := xs) (aa := base) hs he hu fun h0 => by
      have hv2 := head_of h hX hx h0
      rcases h.xs _ (List.mem_of_getElem? hX) with ⟨_, k2, _⟩ | ⟨b, cs, el', fr, hob, k1, k2, k0, k3, k4, _⟩
      · subst k2; simp at h0
      · subst hob
        have hbb : base = some ⟨b, 0, none⟩ := by rw [hv] at hv2; injection hv2
        refine ⟨b, 0, hbb, fun i hi => ?_⟩
        have h1 := k4 i hi
        have h1 : (cs.drop (i * 1)).take 1 = [.int .u8 (xs[i].toNat : Int)] := h1
        rw [cell_of k1]
        have : ((cs.drop (i * 1)).take 1)[0]? = some (.int .u8 (xs[i].toNat : Int)) := by rw [h1]; rfl
        rw [List.getElem?_take_of_lt (by omega), List.getElem?_drop] at this
        simpa using this
    simp only [execOp, hv, Sem.run_bind, hrun, Result.andThen, Sem.run_pure]
/-- append onto an empty list that has no room: a row of the call's own. -/
theorem op_appendCE {T : Type} {r : Rep T} {xs ys zs : List T} {bytes : Nat} {zv : Value} {dy : TypeDesc} (hd : d < Bs.N) (hu : P.underlying t = some (.slice el)) (hu' : P.underlying t' = some dy) (hni : notInt dy = true) (hel : tyB P el r.sz bytes zv) (hz : zv.cells.size = r.sz) (hb0 : 0 < bytes)
    (hx : HasO st x (.one (.val (S (rLc r) xs)))) (hsrc : ∀ e a w, StE Bs st e a w → ∃ fl, Src P e a w r ys y fl) (h : apE bytes xs ys = some zs) :
    OpX P Bs ⟨some d, .call { callee := .builtin .append, args := #[x, y], argTypes := #[t, t'] }, ty, pos, af, g⟩ st (fun q : Option Nat × Nat => St.set { st with X := st.X ++ [cown q.1 r zs 0 q.2] } d (.one (.val (HDE q.1 zs.length q.2)))) := by
  obtain ⟨hxs, hb, rfl⟩ : xs = [] ∧ (0 + ys.length) * bytes ≤ 140737488355328 ∧ ys = zs := by
    unfold apE at h
    split at h
    · rename_i hh
      obtain ⟨h1, h2⟩ := apL_some h
      exact ⟨List.isEmpty_iff.1 hh, by simpa using h1, by simpa using h2⟩
    · cases h
  subst hxs
  refine .grows hd fun e a w hst => ?_
  obtain ⟨v0, hv0, ad, hv, hc, hn, hm⟩ := hx.get hst
  have hv0 : a.eval x = v0 := by simpa using hv0
  rw [hv] at hv0
  by_cases hys : ys = []
  · subst hys
    obtain ⟨fl, hs⟩ := hsrc e a w hst
    obtain ⟨i, hi, hi1, hi2, hi3⟩ := hel
    have hsize : ∀ w, (sizeOf el).run P w = .ok r.sz w := fun w => by simp [sizeOf, typeInfo, program, Sem.run, hi, hi1]
    have hfl : fl = [] := List.eq_nil_of_length_eq_zero (by rw [hs.len]; simp)
    subst hfl
    refine ⟨.slice ad 0 0, w, e, (none, 0), ?_, ?_, ad, rfl, fun h => absurd rfl h⟩
    · cases ad with
      | none =>
        have hrun := run_append_none (P := P) (t := t) (t' := t') (ty := ty) (w := w) hu hu' hni (hsize w) (hs.lenOf w) (show 0 + ([] : List T).length ≤ 0 by simp) (hs.cells w rfl)
        simp only [execOp, resolve, invoke, builtin, List.map_toArray, List.map_cons, List.map_nil, hv0, Sem.run_bind, Sem.run_bind', Sem.run_pure, Result.andThen]
        simp only [List.length_nil] at hrun ⊢
        rw [hrun]
      | some ad =>
        have hrun := run_append_room (P := P) (t := t) (t' := t') (ty := ty) (w := w) (w' := w) hu hu' hni (hsize w) (hs.lenOf w) (show ([] : List T).length + ([] : List T).length ≤ ([] : List T).length by simp) (hs.cells w rfl) (ad := ad) (by simp [storeCells])
        simp only [execOp, resolve, invoke, builtin, List.map_toArray, List.map_cons, List.map_nil, hv0, Sem.run_bind, Sem.run_bind', Sem.run_pure, Result.andThen, hrun]
        simp
    · exact hst.newE (Kept.refl w) (c := cown none r ([] : List T) 0 0) (.inl ⟨rfl, rfl, rfl, rfl⟩) fun b hb => by cases hb
  · have hpos : 0 < ys.length := List.length_pos_iff.2 hys
    have hh : Head P e w r ([] : List T) ad ([] : List T).length [] := ⟨by simp, fun i hi => by simp at hi, fun w' hw => by
      cases ad with
      | none => simp [Builtin.firstCells]
      | some ad => simp [Builtin.firstCells, loadCells, loadCellsFrom]⟩
    obtain ⟨nc, cells, hrun, h1, h2, h3, h4⟩ := grow_run (d := d) (ty := ty) (pos := pos) (af := af) (g := g) hu hu' hni hel hz hb0 hst hv0 (Nat.le_refl _) hh (hsrc e a w hst) (by simpa using hb) (by simp only [List.length_nil]; omega)
    have hk := drewalloc_kept w (.cells cells.toArray el (0, 0))
    have hat := drewalloc_at w (.cells cells.toArray el (0, 0))
    simp only [List.nil_append, List.length_nil, Nat.zero_add] at hrun h1 h3
    refine ⟨.slice (some ⟨w.heap.size, 0, none⟩) ys.length nc, w.drew.alloc (.cells cells.toArray el (0, 0)), e, (some w.heap.size, nc), hrun, ?_, _, rfl, fun _ => rfl⟩
    refine hst.newE hk (.inr ⟨w.heap.size, cells, el, (0, 0), rfl, hat, thawed00 _, h1, by rw [h2]; exact Nat.le_refl _, h3, fun ad v hm hab => by have := mu_lt hst hm; omega, Nat.zero_le _, fun k u hk => by simp at hk⟩) fun b hb => by cases hb; exact Nat.le_refl _
theorem op_appendCEL {T : Type} {r : Rep T} {xs ys zs : List T} {bytes : Nat} {zv : Value} {dy : TypeDesc} (hd : d < Bs.N) (hu : P.underlying t = some (.slice el)) (hu' : P.underlying t' = some dy) (hni : notInt dy = true) (hel : tyB P el r.sz bytes zv) (hz : zv.cells.size = r.sz) (hb0 : 0 < bytes)
    (hx : HasO st x (.one (.val (S (rLc r) xs)))) (hy : HasO st y (.one (.val (S (rL r) ys)))) (h : apE bytes xs ys = some zs) :
    OpX P Bs ⟨some d, .call { callee := .builtin .append, args := #[x, y], argTypes := #[t, t'] }, ty, pos, af, g⟩ st (fun q : Option Nat × Nat => St.set { st with X := st.X ++ [cown q.1 r zs 0 q.2] } d (.one (.val (HDE q.1 zs.length q.2)))) := op_appendCE hd hu hu' hni hel hz hb0 hx (fun e a w hst => Src.list hst hy) h
theorem Imp.dropE {ρ : List (Nat × SV1)} {X : List Chunk} {df : List Nat} {d j : Nat} {T : Type} {r : Rep T} {xs : List T} {ob : Option Nat} {fz cap : Nat} (hX : X[j]? = some (cown ob r xs fz cap)) : Imp Bs ⟨(d, .one (.val (HDE ob xs.length cap))) :: ρ, X, df⟩ ⟨(d, .one (.val (S (rL r) xs))) :: ρ, X.eraseIdx j, df⟩ :=
  Imp.frz hX (ImpK.slotW (s := d) (look_cons_self ..) Wk.hde fun e a w hk hst => by
    have h1 := hst.weak (ρ' := (d, .one (.val (S (rL r) xs))) :: ρ) (fun t sv ht => by
      rcases look_cons ht with ⟨rfl, rfl⟩ | ⟨hne, h⟩
      · exact look_cons_self ..
      · rw [look_cons_ne _ _ (Ne.symm hne), look_cons_ne _ _ (Ne.symm hne)]; exact h)
    have h2 := perm_set (X := X.set j (cown ob r xs xs.length cap)) (j := j) (c := cown ob r xs xs.length cap) (by rw [List.getElem?_set_self (List.getElem?_eq_some_iff.1 hX).1])
    rw [erase_set] at h2
    have h3 := h1.perm h2
    exact h3.drop (A := X.eraseIdx j) (B := [cown ob r xs xs.length cap]) (List.perm_append_comm (l₁ := [cown ob r xs xs.length cap])))
end
end Go.Proofs.Ytkbkdfcakpbojaa.Fw
