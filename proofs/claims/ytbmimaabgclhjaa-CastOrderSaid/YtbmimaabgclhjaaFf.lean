/- Slices: lists in frozen memory; rows that the call has to itself. -/
import Derived.Test.YtbmimaabgclhjaaFe
namespace Go.Proofs.Ytbmimaabgclhjaa.Fw
open Go Go.RowKit
set_option linter.unusedVariables false
set_option linter.unusedSimpArgs false

/-- A pointer to frozen cells. -/
def PT {T : Type} (r : Rep T) (x : T) : VP :=
  ⟨fun e v => ∃ b off cs, v = .pointer (some ⟨b, off, none⟩) ∧ r.rel e x cs ∧ Mu e b off cs, fun h ⟨b, off, cs, h1, h2, h3⟩ => ⟨b, off, cs, h1, r.mono h h2, h3.mono h⟩⟩
/-- More cells are frozen: those of a block of which nothing was known from 'lo' on. -/
def Env.add (e : Env) (b lo : Nat) (cs : List Value) : Env :=
  ⟨fun ad => if ad.block = b ∧ ad.spot = none ∧ lo ≤ ad.off ∧ ad.off < lo + cs.length then cs[ad.off - lo]? else e.mu ad⟩
theorem Env.add_le {e : Env} {b lo : Nat} {cs : List Value} (h : ∀ ad v, e.mu ad = some v → ad.block = b → ad.off < lo) : e.le (e.add b lo cs) :=
  ⟨fun {ad v} hm => by
    simp only [Env.add]
    rw [if_neg]
    · exact hm
    · rintro ⟨h1, _, h2, _⟩; have := h ad v hm h1; omega⟩
theorem Env.add_mu {e : Env} {b lo : Nat} {cs : List Value} : Mu (e.add b lo cs) b lo cs := fun j u hj => by
  have := (List.getElem?_eq_some_iff.1 hj).1
  show (if b = b ∧ (none : Option Nat) = none ∧ lo ≤ lo + j ∧ lo + j < lo + cs.length then cs[lo + j - lo]? else e.mu ⟨b, lo + j, none⟩) = some u
  rw [if_pos ⟨rfl, rfl, by omega, by omega⟩, show lo + j - lo = j from by omega]
  exact hj
theorem Env.add_inv {e : Env} {b lo : Nat} {cs : List Value} {ad : Addr} {v : Value} (h : (e.add b lo cs).mu ad = some v) : e.mu ad = some v ∨ (ad.block = b ∧ ad.spot = none ∧ lo ≤ ad.off ∧ ad.off < lo + cs.length ∧ cs[ad.off - lo]? = some v) := by
  simp only [Env.add] at h
  split at h
  · rename_i hc; exact .inr ⟨hc.1, hc.2.1, hc.2.2.1, hc.2.2.2, h⟩
  · exact .inl h

/-- The cells of a frozen list, one behind the other. -/
theorem LR.flat {T : Type} {r : Rep T} {e : Env} {xs : List T} {v : Value} (h : LR r e xs v) :
    ∃ (a : Option Addr) (c : Nat) (fl : List Value), v = .slice a xs.length c ∧ xs.length ≤ c ∧ (a = none → c = 0) ∧ fl.length = xs.length * r.sz ∧ (∀ i (h : i < xs.length), r.rel e xs[i] ((fl.drop (i * r.sz)).take r.sz)) ∧
      (0 < xs.length → ∃ b off, a = some ⟨b, off, none⟩ ∧ Mu e b off fl) := by
  obtain ⟨a, c, h1, h2, h3, h4⟩ := h
  rcases Nat.eq_zero_or_pos xs.length with h0 | h0
  · have hx : xs = [] := List.eq_nil_of_length_eq_zero h0
    subst hx
    exact ⟨a, c, [], h1, h2, h3, by simp, fun i hi => by simp at hi, fun h => by simp at h⟩
  · obtain ⟨b, off, ha, h5⟩ := h4 h0
    have key : ∀ n, n ≤ xs.length → ∃ fl : List Value, fl.length = n * r.sz ∧ (∀ i (h : i < xs.length), i < n → r.rel e xs[i] ((fl.drop (i * r.sz)).take r.sz)) ∧ Mu e b off fl := by
      intro n
      induction n with
      | zero => intro _; exact ⟨[], by simp, fun i _ hi => by omega, fun j u hj => by simp at hj⟩
      | succ n ih =>
        intro hn
        obtain ⟨fl, hl, hr, hm⟩ := ih (by omega)
        obtain ⟨cs, hc, hmc⟩ := h5 n (by omega)
        have hcl := r.len hc
        refine ⟨fl ++ cs, by simp [hl, hcl, Nat.add_mul], fun i hi hin => ?_, fun j u hj => ?_⟩
        · by_cases hlt : i < n
          · have hle : i * r.sz + r.sz ≤ fl.length := by
              have := Nat.mul_le_mul_right r.sz (show i + 1 ≤ n by omega)
              rw [Nat.add_mul] at this; omega
            have : ((fl ++ cs).drop (i * r.sz)).take r.sz = (fl.drop (i * r.sz)).take r.sz := by
              rw [List.drop_append_of_le_length (by omega), List.take_append_of_le_length (by simp; omega)]
            rw [this]; exact hr i hi hlt
          · have : i = n := by omega
            subst this
            have : ((fl ++ cs).drop (i * r.sz)).take r.sz = cs := by
              rw [← hl, List.drop_left', ← hcl, List.take_length]; rfl
            rw [this]; exact hc
        · by_cases hjl : j < fl.length
          · rw [List.getElem?_append_left hjl] at hj; exact hm j u hj
          · rw [List.getElem?_append_right (by omega)] at hj
            have := hmc (j - fl.length) u hj
            rwa [show off + n * r.sz + (j - fl.length) = off + j from by omega] at this
    obtain ⟨fl, hl, hr, hm⟩ := key xs.length (Nat.le_refl _)
    exact ⟨_, c, fl, h1, h2, h3, hl, fun i hi => hr i hi hi, fun _ => ⟨b, off, ha, hm⟩⟩
theorem LR.of_flat {T : Type} {r : Rep T} {e : Env} {xs : List T} {b off c : Nat} {fl : List Value} (hc : xs.length ≤ c) (hr : ∀ i (h : i < xs.length), r.rel e xs[i] ((fl.drop (i * r.sz)).take r.sz)) (hm : Mu e b off fl) :
    LR r e xs (.slice (some ⟨b, off, none⟩) xs.length c) :=
  ⟨_, c, rfl, hc, (fun h => by cases h), fun _ => by
    refine ⟨b, off, rfl, fun i hi => ⟨_, hr i hi, fun j u hj => ?_⟩⟩
    have hjs : j < r.sz := by
      rcases Nat.lt_or_ge j r.sz with h | h
      · exact h
      · rw [List.getElem?_eq_none (by simp; omega)] at hj; cases hj
    rw [List.getElem?_take_of_lt hjs, List.getElem?_drop] at hj
    have := hm _ u hj
    rwa [← Nat.add_assoc] at this⟩

section
variable {P : Program} {Bs : Base} {st st' : St} {d : Nat} {ty t t' el : TypeId} {pos : String} {af : Array Edge} {g : Option (Nat × Bool)} {x y z : Operand}
variable {e : Env} {a : Act} {w : World}

theorem rIndexSl {n c sz b off : Nat} {k : IntKind} {i : Int} (hu : P.underlying t = some (.slice el)) (hs : tySz P el sz = true) (h0 : 0 ≤ i) (h1 : i < n) :
    (Instr.indexAt t (.slice (some ⟨b, off, none⟩) n c) (.int k i)).run P w = .ok (.pointer (some ⟨b, off + i.toNat * sz, none⟩)) w := by
  simp [Instr.indexAt, asIntOf, run_underlying hu, h0, h1, rSize hs, add_none]
/-- An element of a frozen list. -/
theorem op_indexAddrL {T : Type} {r : Rep T} {xs : List T} {k : IntKind} {i : Int} {u : T} (hd : d < Bs.N) (hu : P.underlying t = some (.slice el)) (hs : tySz P el r.sz = true)
    (hx : HasO st x (.one (.val (S (rL r) xs)))) (hy : HasO st y (.one (.val (S (rI k) i)))) (h0 : 0 ≤ i) (h1 : i.toNat < xs.length) (hr : xs[i.toNat] = u) :
    OpStep P Bs ⟨some d, .indexAddr t x y, ty, pos, af, g⟩ st (st.set d (.one (.val (PT r u)))) :=
  .value hd fun e a w h => by
    obtain ⟨v, hv0, aa, c, hv, hc, hn, hm⟩ := hx.get h
    have hv0 : a.eval x = v := by simpa using hv0
    have hi : a.eval y = .int k i := by have := hy.get h; simpa [SVR, SWR, S, rI] using this
    obtain ⟨b, off, haa, hm'⟩ := hm (by omega)
    subst haa
    obtain ⟨cs, hcs, hmu⟩ := hm' i.toNat h1
    rw [hr] at hcs
    refine ⟨_, ?_, b, off + i.toNat * r.sz, cs, rfl, hcs, hmu⟩
    have hrun := rIndexSl (P := P) (w := w) (n := xs.length) (c := c) (b := b) (off := off) (k := k) hu hs h0 (show i < (xs.length : Int) by omega)
    simp only [execOp, hv0, hv, hi, Sem.run_bind, hrun, Result.andThen, Sem.run_pure]
theorem mu_cells (h : StE Bs st e a w) {b off : Nat} {cs : List Value} (hm : Mu e b off cs) : ∀ j u, cs[j]? = some u → w.cell? ((⟨b, off, none⟩ : Addr).add j) = some u := fun j u hj => by
  rw [add_none]; exact h.frz _ _ (hm j u hj)
theorem op_loadPS {T : Type} {r : Rep T} {u : T} (hd : d < Bs.N) (ht : tyS P t = true) (hs : r.sz = 1) (hx : HasO st x (.one (.val (PT r u)))) : OpStep P Bs ⟨some d, .load t x, ty, pos, af, g⟩ st (st.set d (.one (.val (S r u)))) :=
  .value hd fun e a w h => by
    obtain ⟨b, off, cs, hv, hc, hm⟩ := hx.get h
    have hl := r.len hc
    rw [hs] at hl
    obtain ⟨c, rfl⟩ := List.length_eq_one_iff.1 hl
    have hcell := mu_cells h hm 0 c rfl
    simp only [add_none, Nat.add_zero] at hcell
    exact ⟨c, by simp [execOp, hv, Instr.loadAt, Instr.sureAddr, loadVar, rIsAggS ht, hcell], hc⟩
theorem op_loadPA {T : Type} {r : Rep T} {u : T} (hd : d < Bs.N) (ht : tyA P t r.sz = true) (hx : HasO st x (.one (.val (PT r u)))) : OpStep P Bs ⟨some d, .load t x, ty, pos, af, g⟩ st (st.set d (.one (.val (A r u)))) :=
  .value hd fun e a w h => by
    obtain ⟨b, off, cs, hv, hc, hm⟩ := hx.get h
    refine ⟨.agg cs.toArray, ?_, cs, rfl, hc⟩
    simp only [execOp, hv, Instr.loadAt, Instr.sureAddr, loadVar, Sem.run_bind, Sem.run_pure, Result.andThen, rIsAggA ht, if_true, rSize (tyA_sz ht)]
    rw [rloadCells P (r.len hc) (mu_cells h hm)]
theorem op_fieldAddrP {T U : Type} {r : Rep T} {v : T} {s : Rep U} {u : U} {f off : Nat} (hd : d < Bs.N) (ht : tyF P t f off = true) (hx : HasO st x (.one (.val (PT r v)))) (hc : Comp r v off s u) :
    OpStep P Bs ⟨some d, .fieldAddr t x f, ty, pos, af, g⟩ st (st.set d (.one (.val (PT s u)))) :=
  .value hd fun e a w h => by
    obtain ⟨b, o, cs, hv, hr, hm⟩ := hx.get h
    refine ⟨_, by simp only [execOp, hv, Sem.run_bind, rFieldAt ht, Result.andThen, Sem.run_pure], b, o + off, _, rfl, hc e cs hr, fun j u hj => ?_⟩
    by_cases hjs : j < s.sz
    · rw [List.getElem?_take_of_lt hjs, List.getElem?_drop] at hj
      rw [Nat.add_assoc]; exact hm _ u hj
    · rw [List.getElem?_eq_none (by simp; omega)] at hj; cases hj

/-- len. -/
theorem op_lenL {T : Type} {r : Rep T} {xs : List T} (hd : d < Bs.N) (hu : P.underlying t = some (.slice el)) (hx : HasO st x (.one (.val (S (rL r) xs)))) :
    OpStep P Bs ⟨some d, .call { callee := .builtin .len, args := #[x], argTypes := #[t] }, ty, pos, af, g⟩ st (st.set d (.one (.val (S (rI .i64) xs.length)))) :=
  .value hd fun e a w h => by
    obtain ⟨v, hv0, aa, c, hv, hc, hn, hm⟩ := hx.get h
    have hv0 : a.eval x = v := by simpa using hv0
    exact ⟨.int .i64 xs.length, by simp [execOp, resolve, invoke, builtin, Builtin.len_, hv0, hv, run_underlying hu, goInt], rfl⟩
theorem op_lenS {s : List UInt8} (hd : d < Bs.N) (hu : P.underlying t = some .string) (hx : HasO st x (.one (.val (S rS s)))) :
    OpStep P Bs ⟨some d, .call { callee := .builtin .len, args := #[x], argTypes := #[t] }, ty, pos, af, g⟩ st (st.set d (.one (.val (S (rI .i64) s.length)))) :=
  .value hd fun e a w h => by
    have hv : a.eval x = .string (bs s) := by have := hx.get h; simpa [SVR, SWR, S, rS] using this
    exact ⟨.int .i64 s.length, by simp [execOp, resolve, invoke, builtin, Builtin.len_, hv, run_underlying hu, goInt, bs_size], rfl⟩
theorem op_lenH {ob : Option Nat} {off n c : Nat} (hd : d < Bs.N) (hu : P.underlying t = some (.slice el)) (hx : HasO st x (.one (.val (HDR ob off n c)))) :
    OpStep P Bs ⟨some d, .call { callee := .builtin .len, args := #[x], argTypes := #[t] }, ty, pos, af, g⟩ st (st.set d (.one (.val (S (rI .i64) n)))) :=
  .value hd fun e a w h => by
    have hv : a.eval x = .slice (ob.map fun b => ⟨b, off, none⟩) n c := hx.get h
    exact ⟨.int .i64 n, by simp [execOp, resolve, invoke, builtin, Builtin.len_, hv, run_underlying hu, goInt], rfl⟩

theorem HasO.nilH : HasO st (.const (.slice none 0 0)) (.one (.val (HDR none 0 0 0))) := .const fun e => rfl
theorem wkNil {T : Type} {r : Rep T} : ∀ e v, (HDR none 0 0 0).p e v → (S (rL r) []).p e v := fun e v h => by
  have : v = .slice none 0 0 := h
  subst this
  exact Zr.list r e

/-- What is known of a row's block, where the row is frozen whole. -/
theorem own_freeze (h : StE Bs st e a w) {T : Type} {r : Rep T} {xs : List T} {ob : Option Nat} {fz cap j : Nat} (hX : st.X[j]? = some (cown ob r xs fz cap)) :
    ∃ e', e.le e' ∧ StE Bs { st with X := st.X.set j (cown ob r xs xs.length cap) } e' a w ∧ (∀ c, xs.length ≤ c → (ob = none → c = 0) → LR r e' xs (.slice (ob.map fun b => ⟨b, 0, none⟩) xs.length c)) := by
  rcases h.xs _ (List.mem_of_getElem? hX) with ⟨h1, h2, h3, h4⟩ | ⟨b, cs, el, fr, hb, h5, h6, h0, h7, h8, h9, h10, h11⟩
  · subst h1; subst h2; subst h3
    refine ⟨e, Env.le.refl e, ?_, fun c _ hc => ?_⟩
    · have := h.perm (X := st.X.set j (cown none r ([] : List T) 0 cap)) (by
        have h1 := perm_set hX
        exact h1.trans (set_perm (d := cown none r ([] : List T) 0 cap) hX))
      exact this
    · have := hc rfl
      subst this
      obtain ⟨v, hv, hl⟩ := Zr.list r e
      cases hv
      exact hl
  · subst hb
    have hsz : b < w.heap.size := lt_of_block h5
    let e' := e.add b (fz * r.sz) ((cs.drop (fz * r.sz)).take ((xs.length - fz) * r.sz))
    have hle : e.le e' := Env.add_le h9
    have hfl : fz * r.sz ≤ cs.length := Nat.le_trans (Nat.mul_le_mul_right _ (Nat.le_trans h10 h0)) h7
    have hxl : xs.length * r.sz ≤ cs.length := Nat.le_trans (Nat.mul_le_mul_right _ h0) h7
    have hcl : ((cs.drop (fz * r.sz)).take ((xs.length - fz) * r.sz)).length = (xs.length - fz) * r.sz := by
      have : (xs.length - fz) * r.sz = xs.length * r.sz - fz * r.sz := Nat.sub_mul ..
      simp; omega
    have hsplit : fz * r.sz + (xs.length - fz) * r.sz = xs.length * r.sz := by rw [← Nat.add_mul]; congr 1; omega
    have hinv : ∀ ad v, e'.mu ad = some v → e.mu ad = some v ∨ (ad.block = b ∧ ad.spot = none ∧ fz * r.sz ≤ ad.off ∧ ad.off < xs.length * r.sz ∧ cs[ad.off]? = some v) := fun ad v hm => by
      rcases Env.add_inv hm with h | ⟨h1, h2, h3, h4, h5⟩
      · exact .inl h
      · rw [hcl] at h4
        rw [List.getElem?_take_of_lt (by omega), List.getElem?_drop] at h5
        exact .inr ⟨h1, h2, h3, by omega, by rwa [show fz * r.sz + (ad.off - fz * r.sz) = ad.off from by omega] at h5⟩
    have hmu : Mu e' b 0 (cs.take (xs.length * r.sz)) := fun i u hi => by
      have hil : i < xs.length * r.sz := by
        rcases Nat.lt_or_ge i (xs.length * r.sz) with h | h
        · exact h
        · rw [List.getElem?_eq_none (by simp; omega)] at hi; cases hi
      rw [List.getElem?_take_of_lt hil] at hi
      by_cases hif : i < fz * r.sz
      · exact hle.mu (h11 i u (by rw [List.getElem?_take_of_lt hif]; exact hi))
      · have := Env.add_mu (e := e) (b := b) (lo := fz * r.sz) (cs := (cs.drop (fz * r.sz)).take ((xs.length - fz) * r.sz)) (i - fz * r.sz) u (by rw [List.getElem?_take_of_lt (by omega), List.getElem?_drop, show fz * r.sz + (i - fz * r.sz) = i from by omega]; exact hi)
        rwa [show fz * r.sz + (i - fz * r.sz) = 0 + i from by omega] at this
    have hrel' : ∀ i (hi : i < xs.length), r.rel e' xs[i] ((cs.drop (i * r.sz)).take r.sz) := fun i hi => r.mono hle (h8 i hi)
    refine ⟨e', hle, ?_, fun c hc _ => ?_⟩
    · refine h.turn1 hX hle (fun ad v hm => ?_) ⟨rfl, rfl, rfl, Nat.le_refl _, fun _ _ _ => rfl⟩ (fun ad v hm => ?_) ?_ (fun c hc => .inl hc)
      · rcases hinv ad v hm with h1 | ⟨h1, _⟩
        · exact .inl h1
        · exact .inr (.inr (by rw [h1]; exact rfl))
      · rcases hinv ad v hm with h1 | ⟨h1, h2, _, _, h3⟩
        · exact h.frz ad v h1
        · obtain ⟨ab, off, sp⟩ := ad
          simp only at h1 h2 h3
          subst h1; subst h2
          rw [cell_of h5]; exact h3
      · exact .inr ⟨b, cs, el, fr, rfl, h5, h6, h0, h7, hrel', fun ad v hm hab => by
          rcases hinv ad v hm with h1 | ⟨_, _, _, h1, _⟩
          · have := h9 ad v h1 hab
            exact Nat.lt_of_lt_of_le this (Nat.mul_le_mul_right _ h10)
          · exact h1, Nat.le_refl _, hmu⟩
    · refine LR.of_flat hc (fun i hi => ?_) hmu
      have := hrel' i hi
      have hle2 : i * r.sz + r.sz ≤ xs.length * r.sz := by
        have := Nat.mul_le_mul_right r.sz (show i + 1 ≤ xs.length by omega)
        rw [Nat.add_mul] at this; omega
      rw [List.drop_take, List.take_take, Nat.min_eq_left (by omega)]
      exact this
end
end Go.Proofs.Ytbmimaabgclhjaa.Fw
