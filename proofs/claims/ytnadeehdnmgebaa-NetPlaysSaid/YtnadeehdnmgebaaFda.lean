/- Parts of a row that are put behind its beginning (slices.Delete). -/
import Derived.Test.YtnadeehdnmgebaaFs
namespace Go.Proofs.Ytnadeehdnmgebaa.Fw
open Go Go.RowKit
set_option linter.unusedVariables false
set_option linter.unusedSimpArgs false

section
variable {P : Program} {Bs : Base} {st st' : St} {d : Nat} {ty t t' el : TypeId} {pos : String} {af : Array Edge} {g : Option (Nat × Bool)} {x y z : Operand} {Q : Exit → Act → World → Prop} {l : List Oper} {ops : Array Oper} {os : List Oper}
variable {e : Env} {a : Act} {w : World}
theorem cap_of {T : Type} {r : Rep T} {xs : List T} {ob : Option Nat} {fz cap j : Nat} (hst : StE Bs st e a w) (hX : st.X[j]? = some (cown ob r xs fz cap)) : xs.length ≤ cap := by
  rcases hst.xs _ (List.mem_of_getElem? hX) with ⟨h1, h2, h3, h4⟩ | ⟨b, cs, el, fr, hb, h5, h6, h0, _⟩
  · subst h2; simp
  · exact h0
theorem some_of {T : Type} {r : Rep T} {xs : List T} {ob : Option Nat} {fz cap j : Nat} (hst : StE Bs st e a w) (hX : st.X[j]? = some (cown ob r xs fz cap)) (h : 0 < cap) : ∃ b, ob = some b := by
  rcases hst.xs _ (List.mem_of_getElem? hX) with ⟨h1, h2, h3, h4⟩ | ⟨b, cs, el, fr, hb, _⟩
  · omega
  · exact ⟨b, hb⟩
/-- append onto nil itself: a new row. -/
theorem op_appendN {T : Type} {r : Rep T} {ys zs : List T} {bytes : Nat} {zv : Value} {dy : TypeDesc} (hd : d < Bs.N) (hu : P.underlying t = some (.slice el)) (hu' : P.underlying t' = some dy) (hni : notInt dy = true) (hel : tyB P el r.sz bytes zv) (hz : zv.cells.size = r.sz) (hsz : 0 < r.sz) (hb0 : 0 < bytes)
    (hx : HasO st x (.one (.val (HDR none 0 0 0)))) (hsrc : ∀ e a w, StE Bs st e a w → ∃ fl, Src P e a w r ys y fl) (hb : (([] : List T).length + ys.length) * bytes ≤ 140737488355328 ∧ [] ++ ys = zs) :
    OpX P Bs ⟨some d, .call { callee := .builtin .append, args := #[x, y], argTypes := #[t, t'] }, ty, pos, af, g⟩ st (fun q : Option Nat × Nat => St.set { st with X := st.X ++ [cown q.1 r zs 0 q.2] } d (.one (.val (HDR q.1 0 zs.length q.2)))) := by
  obtain ⟨hb, rfl⟩ := hb
  refine .grows hd fun e a w hst => ?_
  have h1 := hst.nilown r
  have hX : ({ st with X := st.X ++ [cown none r ([] : List T) 0 0] } : St).X[st.X.length]? = some (cown none r ([] : List T) 0 0) := by simp
  obtain ⟨v, w', e', q, g1, g2, g3⟩ := append_run (d := d) (ty := ty) (pos := pos) (af := af) (g := g) hu hu' hni hel hz hsz hb0 hX h1 (hx.get hst) (hsrc e a w hst) hb
  refine ⟨v, w', e', q, g1, ?_, g3⟩
  have : (st.X ++ [cown none r ([] : List T) 0 0]).set st.X.length (cown q.1 r ([] ++ ys) 0 q.2) = st.X ++ [cown q.1 r ([] ++ ys) 0 q.2] := by simp
  have g2' : StE Bs { st with X := (st.X ++ [cown none r ([] : List T) 0 0]).set st.X.length (cown q.1 r ([] ++ ys) 0 q.2) } e' a w' := g2
  rw [this] at g2'
  exact g2'
/-- A row's room, as a fact. -/
theorem JL.capF {T : Type} {r : Rep T} {xs : List T} {ob : Option Nat} {fz cap j : Nat} (hX : st.X[j]? = some (cown ob r xs fz cap)) (h : xs.length ≤ cap → JL P Bs ops os st Q) : JL P Bs ops os st Q := fun a w ⟨e, hst⟩ => h (cap_of hst hX) a w ⟨e, hst⟩
theorem JL.xF {T : Type} {r : Rep T} {xs : List T} {ob : Option Nat} {fz cap j : Nat} (hX : st.X[j]? = some (cown ob r xs fz cap)) (h : (xs.length ≤ cap ∧ (xs.length ≠ 0 → ∃ b, ob = some b)) → JL P Bs ops os st Q) : JL P Bs ops os st Q := fun a w ⟨e, hst⟩ =>
  h ⟨cap_of hst hX, fun hn => some_of hst hX (by have := cap_of hst hX; omega)⟩ a w ⟨e, hst⟩
theorem Wk.toX {K : Env → Prop} {ob : Option Nat} {n cap sz : Nat} (h : n ≤ cap ∧ (n ≠ 0 → ∃ b, ob = some b)) : Wk K (rW (HDE ob n cap)) () (rW (HDX ob (0 * sz) n)) () := fun e vs _ ⟨v, hv, ⟨base, hb, hc⟩, h1⟩ =>
  ⟨v, hv, ⟨base, cap, hb, h.1, fun hn => by
    obtain ⟨b, hb'⟩ := h.2 hn
    refine ⟨b, hb', ?_⟩
    rw [hc (by have := h.1; omega), hb', Nat.zero_mul]; rfl⟩, h1⟩
theorem viewN_some {o n k m : Nat} {l h : Int} (hr : viewN o n l h = some (k, m)) : 0 ≤ l ∧ l ≤ h ∧ h ≤ n ∧ o + l.toNat = k ∧ h.toNat - l.toNat = m := by
  unfold viewN at hr
  split at hr
  · rename_i hc
    cases hr
    exact ⟨hc.1, hc.2.1, hc.2.2, rfl, rfl⟩
  · cases hr
theorem op_sliceEc {T : Type} {r : Rep T} {xs : List T} {ob : Option Nat} {fz cap j k m L n : Nat} {lo hi mx : Option Operand} {l h mm : Int} (hd : d < Bs.N) (hu : P.underlying t = some (.slice el)) (hs : tySz P el r.sz = true) (hX : st.X[j]? = some (cown ob r xs fz cap))
    (hx : HasO st x (.one (.val (HDE ob n cap)))) (hn : n ≤ cap) (hL : ∀ e a w, StE Bs st e a w → L ≤ cap) (hl : OptN st lo 0 l) (hh : OptN st hi n h) (hm : OptN st mx cap mm) (hmh : mx ≠ none → hi ≠ none) (hmL : h ≤ mm ∧ mm ≤ cap) (hr : viewN 0 L l h = some (k, m)) :
    OpStep P Bs ⟨some d, .slice t x lo hi mx, ty, pos, af, g⟩ st (st.set d (.one (.val (HDX ob (k * r.sz) m)))) :=
  .value hd fun e a w hst => by
    obtain ⟨h0, h1, h2, rfl, rfl⟩ := viewN_some hr
    have hLc := hL e a w hst
    obtain ⟨base, hv, hb⟩ : ∃ base : Option Addr, a.eval x = .slice base n cap ∧ (cap ≠ 0 → base = ob.map fun b => ⟨b, 0, none⟩) := hx.get hst
    have hbd := rBounds (P := P) hst (isSl := true) hl hh hm hmh h0 h1 hmL.1 hmL.2 hn
    refine ⟨.slice (if mm.toNat = l.toNat then base else base.map (·.add (l.toNat * r.sz))) (h.toNat - l.toNat) (mm.toNat - l.toNat), ?_, _, _, rfl, by omega, fun hpos => ?_⟩
    · simp only [execOp, hv, Instr.sliceAt, Instr.slice, Sem.run_bind, run_underlying hu, Result.andThen, hbd, rSize hs, Sem.run_pure]
    · obtain ⟨b, rfl⟩ := some_of hst hX (by omega)
      refine ⟨b, rfl, ?_⟩
      rw [if_neg (by omega), hb (by omega)]
      simp [add_none]
/-- A part of a row. -/
theorem op_sliceE {T : Type} {r : Rep T} {xs : List T} {ob : Option Nat} {fz cap j k m : Nat} {lo hi : Option Operand} {l h : Int} (hd : d < Bs.N) (hu : P.underlying t = some (.slice el)) (hs : tySz P el r.sz = true) (hX : st.X[j]? = some (cown ob r xs fz cap))
    (hx : HasO st x (.one (.val (HDE ob xs.length cap)))) (hl : OptN st lo 0 l) (hh : OptN st hi xs.length h) (hr : viewN 0 xs.length l h = some (k, m)) :
    OpStep P Bs ⟨some d, .slice t x lo hi none, ty, pos, af, g⟩ st (st.set d (.one (.val (HDX ob (k * r.sz) m)))) := fun a w hst => by
  obtain ⟨e, hst'⟩ := hst
  have hc := cap_of hst' hX
  obtain ⟨h0, h1, h2, _, _⟩ := viewN_some hr
  exact op_sliceEc hd hu hs hX hx hc (fun e a w h => cap_of h hX) hl hh (mx := none) (mm := (cap : Int)) OptN.none (fun h => absurd rfl h) ⟨by omega, by omega⟩ hr a w ⟨e, hst'⟩
theorem op_sliceE3 {T : Type} {r : Rep T} {xs : List T} {ob : Option Nat} {fz cap j k m : Nat} {lo : Option Operand} {hi mx : Operand} {l h : Int} (hd : d < Bs.N) (hu : P.underlying t = some (.slice el)) (hs : tySz P el r.sz = true) (hX : st.X[j]? = some (cown ob r xs fz cap))
    (hx : HasO st x (.one (.val (HDE ob xs.length cap)))) (hl : OptN st lo 0 l) (hh : OptN st (some hi) xs.length h) (hm : OptN st (some mx) cap (xs.length : Int)) (hr : viewN 0 xs.length l h = some (k, m)) :
    OpStep P Bs ⟨some d, .slice t x lo (some hi) (some mx), ty, pos, af, g⟩ st (st.set d (.one (.val (HDX ob (k * r.sz) m)))) := fun a w hst => by
  obtain ⟨e, hst'⟩ := hst
  have hc := cap_of hst' hX
  obtain ⟨h0, h1, h2, _, _⟩ := viewN_some hr
  exact op_sliceEc hd hu hs hX hx hc (fun e a w h => cap_of h hX) hl hh hm (fun _ h => by cases h) ⟨by omega, by omega⟩ hr a w ⟨e, hst'⟩
/-- What lies behind a row's elements, within its room. -/
theorem op_sliceTE {T : Type} {r : Rep T} {xs : List T} {ob : Option Nat} {fz cap j k m L : Nat} {lo hi : Operand} {l h : Int} (hd : d < Bs.N) (hu : P.underlying t = some (.slice el)) (hs : tySz P el r.sz = true) (hX : st.X[j]? = some (cown ob r xs fz cap))
    (hx : HasO st x (.one (.val (HDE ob xs.length cap)))) (hL : L ≤ cap) (hl : OptN st (some lo) 0 l) (hh : OptN st (some hi) xs.length h) (hr : viewN 0 L l h = some (k, m)) :
    OpStep P Bs ⟨some d, .slice t x (some lo) (some hi) none, ty, pos, af, g⟩ st (st.set d (.one (.val (HDX ob (k * r.sz) m)))) := fun a w hst => by
  obtain ⟨e, hst'⟩ := hst
  have hc := cap_of hst' hX
  obtain ⟨h0, h1, h2, _, _⟩ := viewN_some hr
  exact op_sliceEc hd hu hs hX hx hc (fun e a w h => hL) hl hh (mx := none) (mm := (cap : Int)) OptN.none (fun h => absurd rfl h) ⟨by omega, by omega⟩ hr a w ⟨e, hst'⟩
/-- A row's beginning. -/
theorem op_slicePE {T : Type} {r : Rep T} {xs : List T} {ob : Option Nat} {fz cap j k m : Nat} {hi : Operand} {h : Int} (hd : d < Bs.N) (hu : P.underlying t = some (.slice el)) (hs : tySz P el r.sz = true) (hX : st.X[j]? = some (cown ob r xs fz cap))
    (hx : HasO st x (.one (.val (HDE ob xs.length cap)))) (hh : OptN st (some hi) xs.length h) (hr : viewN 0 xs.length 0 h = some (k, m)) :
    OpStep P Bs ⟨some d, .slice t x none (some hi) none, ty, pos, af, g⟩ st (st.set d (.one (.val (HDE ob m cap)))) :=
  .value hd fun e a w hst => by
    obtain ⟨h0, h1, h2, rfl, rfl⟩ := viewN_some hr
    have hc := cap_of hst hX
    obtain ⟨base, hv, hb⟩ : ∃ base : Option Addr, a.eval x = .slice base xs.length cap ∧ (cap ≠ 0 → base = ob.map fun b => ⟨b, 0, none⟩) := hx.get hst
    have hbd := rBounds (P := P) hst (isSl := true) (lo := none) (mx := none) (cap := cap) (l := 0) (m := cap) rfl hh rfl (fun h => absurd rfl h) (by omega) h1 (by omega) (by omega) hc
    refine ⟨.slice (if (cap : Int).toNat = (0 : Int).toNat then base else base.map (·.add ((0 : Int).toNat * r.sz))) (h.toNat - (0 : Int).toNat) ((cap : Int).toNat - (0 : Int).toNat), ?_, ?_⟩
    · simp only [Option.map_none] at hbd
      simp only [execOp, hv, Instr.sliceAt, Instr.slice, Sem.run_bind, run_underlying hu, Result.andThen, Option.map_none, hbd, rSize hs, Sem.run_pure]
    · refine ⟨if (cap : Int).toNat = (0 : Int).toNat then base else base.map (·.add ((0 : Int).toNat * r.sz)), by simp, fun hne => ?_⟩
      rw [if_neg (by omega), hb hne]
      cases ob <;> simp [add_none]
theorem StE.shrink {T : Type} {r : Rep T} {xs : List T} {ob : Option Nat} {cap j : Nat} (hst : StE Bs st e a w) (hX : st.X[j]? = some (cown ob r xs 0 cap)) (n : Nat) : StE Bs { st with X := st.X.set j (cown ob r (xs.take n) 0 cap) } e a w := by
  have hR : (cown ob r (xs.take n) 0 cap).R e w := by
    rcases hst.xs _ (List.mem_of_getElem? hX) with ⟨h1, h2, h3, h4⟩ | ⟨b, cs, el', fr, hb, k1, k2, k3, k4, k5, k6, k7, k8⟩
    · exact .inl ⟨h1, by rw [h2]; simp, rfl, h4⟩
    · refine .inr ⟨b, cs, el', fr, hb, k1, k2, by simp; omega, k4, fun i hi => ?_, k6, Nat.zero_le _, k8⟩
      have hi' : i < xs.length := by simp at hi; omega
      have := k5 i hi'
      simpa using this
  exact hst.turn1 hX (Env.le.refl e) (fun ad v hm => .inl hm) ⟨rfl, rfl, rfl, Nat.le_refl _, fun _ _ _ => rfl⟩ hst.frz hR (fun b hb => .inl hb)
/-- append where there is room. -/
theorem append_room {T : Type} {r : Rep T} {xs ys : List T} {b cap j bytes : Nat} {zv : Value} {dy : TypeDesc} (hu : P.underlying t = some (.slice el)) (hu' : P.underlying t' = some dy) (hni : notInt dy = true) (hel : tyB P el r.sz bytes zv)
    (hX : st.X[j]? = some (cown (some b) r xs 0 cap)) (hst : StE Bs st e a w) (hv : a.eval x = .slice (some ⟨b, 0, none⟩) xs.length cap) (hsrc : ∃ fl, Src P e a w r ys y fl) (hroom : xs.length + ys.length ≤ cap) :
    ∃ w' : World, (execOp a.eval ⟨some d, .call { callee := .builtin .append, args := #[x, y], argTypes := #[t, t'] }, ty, pos, af, g⟩).run P w = .ok (.value (.slice (some ⟨b, 0, none⟩) (xs.length + ys.length) cap)) w' ∧
      StE Bs { st with X := st.X.set j (cown (some b) r (xs ++ ys) 0 cap) } e a w' := by
  obtain ⟨fl, hs⟩ := hsrc
  obtain ⟨i, hi, hi1, hi2, hi3⟩ := hel
  have hsize : ∀ w, (sizeOf el).run P w = .ok r.sz w := fun w => by simp [sizeOf, typeInfo, program, Sem.run, hi, hi1]
  rcases hst.xs _ (List.mem_of_getElem? hX) with ⟨h1, _⟩ | ⟨b', cs, el', fr, hob, h5, h6, h0, h7, h8, h9, h10, h11⟩
  · cases h1
  · cases hob
    have hfl := hs.len
    have hmul : (xs.length + ys.length) * r.sz ≤ cs.length := Nat.le_trans (Nat.mul_le_mul_right _ hroom) h7
    rw [Nat.add_mul] at hmul
    have hlay : (lay cs (xs.length * r.sz) fl).length = cs.length := lay_length (by omega)
    have hlt := lt_of_block h5
    refine ⟨setB w b (lay cs (xs.length * r.sz) fl) el' fr, ?_, ?_⟩
    · have hst2 := rstoreCells P fl w b (xs.length * r.sz) 0 cs el' fr hs.one h5 (by omega) h6
      simp only [Nat.add_zero] at hst2
      have hrun := run_append_room (P := P) (t := t) (t' := t') (ty := ty) (w := w) hu hu' hni (hsize w) (hs.lenOf w) hroom (hs.cells w rfl) (ad := ⟨b, 0, none⟩) (by rw [add_none, Nat.zero_add]; simpa using hst2)
      simp only [execOp, resolve, invoke, builtin, List.map_toArray, List.map_cons, List.map_nil, hv, Sem.run_bind, Sem.run_bind', Sem.run_pure, Result.andThen, hrun]
    · have hkeep : ∀ k, k < xs.length * r.sz → (lay cs (xs.length * r.sz) fl)[k]? = cs[k]? := fun k hk => lay_get_lt hk (by omega)
      refine hst.turn1 hX (Env.le.refl e) (fun ad v hm => .inl hm) ⟨rfl, rfl, rfl, by rw [setB_size]; exact Nat.le_refl _, fun c _ hc => setB_ne fun h => hc (by rw [h]; rfl)⟩ (fun ad v hm => ?_) (.inr ⟨b, lay cs (xs.length * r.sz) fl, el', fr, rfl, setB_at hlt, by rw [hlay]; exact h6, by simpa using hroom, by rw [hlay]; exact h7,
        rel_append (tl := []) h8 hs.rel hkeep fun k hk => lay_get_mid (by omega) (by omega), h9, Nat.zero_le _, fun k u hk => by simp at hk⟩) (fun c hc => .inl hc)
      have hab : ad.block ≠ b := fun hb => by have := h9 ad v hm hb; omega
      rw [World.cell?_of_block (setB_ne hab)]; exact hst.frz ad v hm
theorem apP_some {T : Type} {xs zs : List T} {n o m : Nat} (h : apP xs n o m = some zs) : n + m ≤ xs.length ∧ o + m ≤ xs.length ∧ xs.take n ++ (xs.drop o).take m = zs := by
  unfold apP at h
  split at h
  · rename_i hc; cases h; exact ⟨hc.1, hc.2, rfl⟩
  · cases h
/-- A row's part is put behind its beginning. -/
theorem op_appendPE {T : Type} {r : Rep T} {xs zs : List T} {ob : Option Nat} {cap j n o m bytes : Nat} {zv : Value} {dy : TypeDesc} (hd : d < Bs.N) (hu : P.underlying t = some (.slice el)) (hu' : P.underlying t' = some dy) (hni : notInt dy = true) (hel : tyB P el r.sz bytes zv)
    (hX : st.X[j]? = some (cown ob r xs 0 cap)) (hx : HasO st x (.one (.val (HDE ob n cap)))) (hy : HasO st y (.one (.val (HDX ob (o * r.sz) m)))) (h : apP xs n o m = some zs) :
    OpStep P Bs ⟨some d, .call { callee := .builtin .append, args := #[x, y], argTypes := #[t, t'] }, ty, pos, af, g⟩ st (St.set { st with X := st.X.set j (cown ob r zs 0 cap) } d (.one (.val (HDE ob zs.length cap)))) := by
  obtain ⟨h1, h2, rfl⟩ := apP_some h
  refine .grows hd fun e a w hst => ?_
  have hc := cap_of hst hX
  obtain ⟨base, hv, hb⟩ : ∃ base : Option Addr, a.eval x = .slice base n cap ∧ (cap ≠ 0 → base = ob.map fun b => ⟨b, 0, none⟩) := hx.get hst
  have hview : viewL xs o m = some ((xs.drop o).take m) := by
    unfold viewL
    by_cases h0 : m = 0
    · subst h0; simp
    · rw [if_neg h0, if_pos h2]
  have hsrc := Src.view (P := P) hX hview hst hy
  have hyl : ((xs.drop o).take m).length = m := by simp; omega
  have htl : (xs.take n).length = n := by simp; omega
  have hlen : (xs.take n ++ (xs.drop o).take m).length = n + m := by rw [List.length_append, htl, hyl]
  by_cases h0 : cap = 0
  · have hxs : xs = [] := List.eq_nil_of_length_eq_zero (by omega)
    subst hxs
    have hn : n = 0 := by simp at h1; omega
    have hm : m = 0 := by simp at h1; omega
    subst hn; subst hm; subst h0
    obtain ⟨fl, hs⟩ := hsrc
    obtain ⟨i, hi, hi1, hi2, hi3⟩ := hel
    have hsize : ∀ w, (sizeOf el).run P w = .ok r.sz w := fun w => by simp [sizeOf, typeInfo, program, Sem.run, hi, hi1]
    have hfl : fl = [] := List.eq_nil_of_length_eq_zero (by rw [hs.len]; simp)
    subst hfl
    refine ⟨.slice base 0 0, w, e, ?_, ?_, base, by simp, fun h => absurd rfl h⟩
    · cases base with
      | none =>
        have hrun := run_append_none (P := P) (t := t) (t' := t') (ty := ty) (w := w) (cap := 0) hu hu' hni (hsize w) (hs.lenOf w) (by simp) (hs.cells w rfl)
        simp only [execOp, resolve, invoke, builtin, List.map_toArray, List.map_cons, List.map_nil, hv, Sem.run_bind, Sem.run_bind', Sem.run_pure, Result.andThen]
        simp only [List.take_nil, List.drop_nil, List.length_nil] at hrun ⊢
        rw [hrun]
      | some ad =>
        have hrun := run_append_room (P := P) (t := t) (t' := t') (ty := ty) (w := w) (w' := w) (sl := 0) (cap := 0) hu hu' hni (hsize w) (hs.lenOf w) (by simp) (hs.cells w rfl) (ad := ad) (by simp [storeCells])
        simp only [execOp, resolve, invoke, builtin, List.map_toArray, List.map_cons, List.map_nil, hv, Sem.run_bind, Sem.run_bind', Sem.run_pure, Result.andThen, hrun]
        simp
    · have := hst.shrink hX 0
      simpa using this
  · obtain ⟨b, rfl⟩ := some_of hst hX (by omega)
    have hbase := hb h0
    rw [hbase] at hv
    have hst' := hst.shrink hX n
    have hX' : ({ st with X := st.X.set j (cown (some b) r (xs.take n) 0 cap) } : St).X[j]? = some (cown (some b) r (xs.take n) 0 cap) := by
      show (st.X.set j _)[j]? = _
      rw [List.getElem?_set_self (List.getElem?_eq_some_iff.1 hX).1]
    obtain ⟨w', hrun, hE⟩ := append_room (d := d) (ty := ty) (pos := pos) (af := af) (g := g) hu hu' hni hel hX' hst' (by rw [hv, htl]; rfl) hsrc (by rw [hyl, htl]; omega)
    refine ⟨_, w', e, hrun, ?_, some ⟨b, 0, none⟩, by rw [hlen, htl, hyl], fun _ => rfl⟩
    have e1 : (st.X.set j (cown (some b) r (xs.take n) 0 cap)).set j (cown (some b) r (xs.take n ++ (xs.drop o).take m) 0 cap) = st.X.set j (cown (some b) r (xs.take n ++ (xs.drop o).take m) 0 cap) := List.set_set ..
    have hE' : StE Bs { st with X := (st.X.set j (cown (some b) r (xs.take n) 0 cap)).set j (cown (some b) r (xs.take n ++ (xs.drop o).take m) 0 cap) } e a w' := hE
    rw [e1] at hE'
    exact hE'
/-- What lies behind a row's elements is cleared. -/
theorem op_clearT {T : Type} {r : Rep T} {xs : List T} {x0 : T} {ob : Option Nat} {cap j o m L : Nat} {zv : Value} {l h : Int} (hu : P.underlying t = some (.slice el)) (hz : tyZ P el zv) (hzr : Zr r x0 zv.cells.toList)
    (hX : st.X[j]? = some (cown ob r xs 0 cap)) (hx : HasO st x (.one (.val (HDX ob (o * r.sz) m)))) (hL : L ≤ cap) (hr : viewN 0 L l h = some (o, m)) (hl : l = (xs.length : Int)) :
    OpStep P Bs ⟨none, .call { callee := .builtin .clear, args := #[x], argTypes := #[t] }, ty, pos, af, g⟩ st st := fun a w ⟨e, hst⟩ K Q hK => by
  obtain ⟨h0, h1, h2, h3, h4⟩ := viewN_some hr
  obtain ⟨base, c, hv, hc, hn⟩ : ∃ (base : Option Addr) (c : Nat), a.eval x = .slice base m c ∧ m ≤ c ∧ (m ≠ 0 → ∃ b, ob = some b ∧ base = some ⟨b, o * r.sz, none⟩) := hx.get hst
  have hzz : ∀ w, (zeroValue el).run P w = .ok zv w := fun w => by
    unfold tyZ at hz
    cases hi : P.info? el with
    | none => rw [hi] at hz; cases hz
    | some i => rw [hi] at hz; simp [zeroValue, typeInfo, program, Sem.run, hi, show i.zero = some zv from hz]
  by_cases hm : m = 0
  · subst hm
    refine wpIn_calm (w' := w) (v := .tuple #[]) (fun _ _ => trivial) (nodefer_ne rfl) ?_ (hK _ _ ⟨e, hst⟩)
    simp only [execOp, resolve, invoke, builtin, Sem.run_bind, Sem.run_pure, Result.andThen]
    have : (Builtin.clear_ #[t] ty (Array.map a.eval #[x])).run P w = .ok (.tuple #[]) w := by
      cases base <;> simp [Builtin.clear_, hv, run_underlying hu, Result.andThen]
    rw [this]
  · obtain ⟨b, rfl, rfl⟩ := hn hm
    rcases hst.xs _ (List.mem_of_getElem? hX) with ⟨q1, _⟩ | ⟨b', cs, el', fr, hob, k1, k2, k3, k4, k5, k6, k7, k8⟩
    · cases q1
    · cases hob
      have hzl : zv.cells.size = r.sz := by rw [← Array.length_toList]; exact r.len (hzr e)
      have hzc : (Builtin.zeroCells zv.cells m).toList.length = m * r.sz := by simp [Builtin.zeroCells, hzl]
      have hone : ∀ v ∈ (Builtin.zeroCells zv.cells m).toList, one1 v = true := fun v hv => by
        simp only [Builtin.zeroCells, Array.toList_map, Array.toList_range, List.mem_map, List.mem_range] at hv
        obtain ⟨i, hi, rfl⟩ := hv
        have hpos : 0 < zv.cells.size := by
          rcases Nat.eq_zero_or_pos zv.cells.size with h | h
          · rw [h] at hi; simp at hi
          · exact h
        rw [getElem!_pos zv.cells (i % zv.cells.size) (Nat.mod_lt _ hpos)]
        exact r.one (hzr e) _ (by simp)
      have hle : (o + m) * r.sz ≤ cs.length := Nat.le_trans (Nat.mul_le_mul_right _ (show o + m ≤ cap by omega)) k4
      rw [Nat.add_mul] at hle
      have hs2 := rstoreCells P _ w b (o * r.sz) 0 cs el' fr hone k1 (by rw [hzc]; omega) k2
      simp only [Nat.add_zero] at hs2
      have hlay : (lay cs (o * r.sz) (Builtin.zeroCells zv.cells m).toList).length = cs.length := lay_length (by rw [hzc]; omega)
      have hlt := lt_of_block k1
      refine wpIn_calm (w' := setB w b (lay cs (o * r.sz) (Builtin.zeroCells zv.cells m).toList) el' fr) (v := .tuple #[]) (fun _ _ => trivial) (nodefer_ne rfl) ?_ (hK _ _ ⟨e, ?_⟩)
      · simp only [execOp, resolve, invoke, builtin, Sem.run_bind, Sem.run_pure, Result.andThen]
        have : (Builtin.clear_ #[t] ty (Array.map a.eval #[x])).run P w = .ok (.tuple #[]) (setB w b (lay cs (o * r.sz) (Builtin.zeroCells zv.cells m).toList) el' fr) := by
          obtain ⟨m', rfl⟩ : ∃ m', m = m' + 1 := ⟨m - 1, by omega⟩
          simp [Builtin.clear_, hv, run_underlying hu, Result.andThen, hzz, hs2]
        rw [this]
      · have hkeep : ∀ k, k < xs.length * r.sz → (lay cs (o * r.sz) (Builtin.zeroCells zv.cells m).toList)[k]? = cs[k]? := fun k hk => lay_get_lt (by rw [show o = xs.length by omega]; exact hk) (by omega)
        have hset : st.X.set j (cown (some b) r xs 0 cap) = st.X := by
          apply List.ext_getElem?
          intro i
          by_cases hi : j = i
          · subst hi; rw [List.getElem?_set_self (List.getElem?_eq_some_iff.1 hX).1, hX]
          · rw [List.getElem?_set_ne hi]
        have := hst.turn1 (c' := cown (some b) r xs 0 cap) (w' := setB w b (lay cs (o * r.sz) (Builtin.zeroCells zv.cells m).toList) el' fr) hX (Env.le.refl e) (fun ad v hm => .inl hm) ⟨rfl, rfl, rfl, by rw [setB_size]; exact Nat.le_refl _, fun c _ hc => setB_ne fun h => hc (by rw [h]; rfl)⟩ (fun ad v hm => ?_)
          (.inr ⟨b, _, el', fr, rfl, setB_at hlt, by rw [hlay]; exact k2, k3, by rw [hlay]; exact k4, fun i hi => ?_, k6, Nat.zero_le _, fun k u hk => by simp at hk⟩) (fun c hc => .inl hc)
        · rw [hset] at this
          exact this
        · have hab : ad.block ≠ b := fun hb => by have := k6 ad v hm hb; omega
          rw [World.cell?_of_block (setB_ne hab)]; exact hst.frz ad v hm
        · have heq : ((lay cs (o * r.sz) (Builtin.zeroCells zv.cells m).toList).drop (i * r.sz)).take r.sz = (cs.drop (i * r.sz)).take r.sz := by
            apply List.ext_getElem?
            intro k
            by_cases hk : k < r.sz
            · rw [List.getElem?_take_of_lt hk, List.getElem?_take_of_lt hk, List.getElem?_drop, List.getElem?_drop]
              refine hkeep _ ?_
              have := Nat.mul_le_mul_right r.sz (show i + 1 ≤ xs.length by omega)
              rw [Nat.add_mul] at this; omega
            · rw [List.getElem?_eq_none (by simp; omega), List.getElem?_eq_none (by simp; omega)]
          rw [heq]
          exact k5 i hi
end
end Go.Proofs.Ytnadeehdnmgebaa.Fw
