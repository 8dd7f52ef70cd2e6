/- Parts of a row that are put behind its beginning (slices.Delete). -/
import Derived.Test.YtipchpbcjkhnaaaFs
namespace Go.Proofs.Ytipchpbcjkhnaaa.Fw
open Go Go.RowKit
set_option linter.unusedVariables false
set_option linter.unusedSimpArgs false

section
variable {P : Program} {Bs : Base} {st st' : St} {d : Nat} {ty t t' el : TypeId} {pos : String} {af : Array Edge} {g : Option (Nat × Bool)} {x y z : Operand} {Q : Exit → Act → World → Prop} {l : List Oper} {ops : Array Oper} {os : List Oper}
variable {e : Env} {a : Act} {w : World}
theorem Zkd {T : Type} {r : Rep T} {xs : List T} {ob : Option Nat} {fz cap j : Nat} (hst : StE Bs st e a w) (hX : st.X[j]? = some (cown ob r xs fz cap)) : xs.length ≤ cap := by
  rcases hst.xs _ (List.mem_of_getElem? hX) with ⟨h1, h2, h3, h4⟩ | ⟨b, cs, el, fr, hb, h5, h6, h0, _⟩
  · subst h2; simp
  · exact h0
theorem Zkh {T : Type} {r : Rep T} {xs : List T} {ob : Option Nat} {fz cap j : Nat} (hst : StE Bs st e a w) (hX : st.X[j]? = some (cown ob r xs fz cap)) (h : 0 < cap) : ∃ b, ob = some b := by
  rcases hst.xs _ (List.mem_of_getElem? hX) with ⟨h1, h2, h3, h4⟩ | ⟨b, cs, el, fr, hb, _⟩
  · omega
  · exact ⟨b, hb⟩
theorem ZeN {T : Type} {r : Rep T} {ys zs : List T} {bytes : Nat} {zv : Value} {dy : TypeDesc} (hd : d < Bs.N) (hu : P.underlying t = some (.slice el)) (hu' : P.underlying t' = some dy) (hni : Zee dy = true) (hel : tyB P el r.sz bytes zv) (hz : zv.cells.size = r.sz) (hsz : 0 < r.sz) (hb0 : 0 < bytes)
    (hx : HasO st x (.one (.val (HDR none 0 0 0)))) (hsrc : ∀ e a w, StE Bs st e a w → ∃ fl, Src P e a w r ys y fl) (hb : (([] : List T).length + ys.length) * bytes ≤ 140737488355328 ∧ [] ++ ys = zs) :
    OpX P Bs ⟨some d, .call { callee := .builtin .append, args := #[x, y], argTypes := #[t, t'] }, ty, pos, af, g⟩ st (fun q : Option Nat × Nat => St.set { st with X := st.X ++ [cown q.1 r zs 0 q.2] } d (.one (.val (HDR q.1 0 zs.length q.2)))) := by
  obtain ⟨hb, rfl⟩ := hb
  refine .grows hd fun e a w hst => ?_
  have h1 := hst.nilown r
  have hX : ({ st with X := st.X ++ [cown none r ([] : List T) 0 0] } : St).X[st.X.length]? = some (cown none r ([] : List T) 0 0) := by simp
  obtain ⟨v, w', e', q, g1, g2, g3⟩ := Zgd (d := d) (ty := ty) (pos := pos) (af := af) (g := g) hu hu' hni hel hz hsz hb0 hX h1 (hx.get hst) (hsrc e a w hst) hb
  refine ⟨v, w', e', q, g1, ?_, g3⟩
  have : (st.X ++ [cown none r ([] : List T) 0 0]).set st.X.length (cown q.1 r ([] ++ ys) 0 q.2) = st.X ++ [cown q.1 r ([] ++ ys) 0 q.2] := by simp
  have g2' : StE Bs { st with X := (st.X ++ [cown none r ([] : List T) 0 0]).set st.X.length (cown q.1 r ([] ++ ys) 0 q.2) } e' a w' := g2
  rw [this] at g2'
  exact g2'
theorem Zgs {o n k m : Nat} {l h : Int} (hr : Zhx o n l h = some (k, m)) : 0 ≤ l ∧ l ≤ h ∧ h ≤ n ∧ o + l.toNat = k ∧ h.toNat - l.toNat = m := by
  unfold Zhx at hr
  split at hr
  · rename_i hc
    cases hr
    exact ⟨hc.1, hc.2.1, hc.2.2, rfl, rfl⟩
  · cases hr
theorem ZiA {T : Type} {r : Rep T} {xs : List T} {ob : Option Nat} {fz cap j k m L n : Nat} {lo hi mx : Option Operand} {l h mm : Int} (hd : d < Bs.N) (hu : P.underlying t = some (.slice el)) (hs : tySz P el r.sz = true) (hX : st.X[j]? = some (cown ob r xs fz cap))
    (hx : HasO st x (.one (.val (HDE ob n cap)))) (hn : n ≤ cap) (hL : ∀ e a w, StE Bs st e a w → L ≤ cap) (hl : OptN st lo 0 l) (hh : OptN st hi n h) (hm : OptN st mx cap mm) (hmh : mx ≠ none → hi ≠ none) (hmL : h ≤ mm ∧ mm ≤ cap) (hr : Zhx 0 L l h = some (k, m)) :
    Zag P Bs ⟨some d, .slice t x lo hi mx, ty, pos, af, g⟩ st (st.set d (.one (.val (HDX ob (k * r.sz) m)))) :=
  .value hd fun e a w hst => by
    obtain ⟨h0, h1, h2, rfl, rfl⟩ := Zgs hr
    have hLc := hL e a w hst
    obtain ⟨base, hv, hb⟩ : ∃ base : Option Addr, a.eval x = .slice base n cap ∧ (cap ≠ 0 → base = ob.map fun b => ⟨b, 0, none⟩) := hx.get hst
    have hbd := Zjh (P := P) hst (isSl := true) hl hh hm hmh h0 h1 hmL.1 hmL.2 hn
    refine ⟨.slice (if mm.toNat = l.toNat then base else base.map (·.add (l.toNat * r.sz))) (h.toNat - l.toNat) (mm.toNat - l.toNat), ?_, _, _, rfl, by omega, fun hpos => ?_⟩
    · simp only [execOp, hv, Instr.sliceAt, Instr.slice, Sem.run_bind, run_underlying hu, Result.andThen, hbd, Zf8 hs, Sem.run_pure]
    · obtain ⟨b, rfl⟩ := Zkh hst hX (by omega)
      refine ⟨b, rfl, ?_⟩
      rw [if_neg (by omega), hb (by omega)]
      simp [Zcw]
theorem Zjn {T : Type} {r : Rep T} {xs : List T} {ob : Option Nat} {fz cap j k m : Nat} {lo hi : Option Operand} {l h : Int} (hd : d < Bs.N) (hu : P.underlying t = some (.slice el)) (hs : tySz P el r.sz = true) (hX : st.X[j]? = some (cown ob r xs fz cap))
    (hx : HasO st x (.one (.val (HDE ob xs.length cap)))) (hl : OptN st lo 0 l) (hh : OptN st hi xs.length h) (hr : Zhx 0 xs.length l h = some (k, m)) :
    Zag P Bs ⟨some d, .slice t x lo hi none, ty, pos, af, g⟩ st (st.set d (.one (.val (HDX ob (k * r.sz) m)))) := fun a w hst => by
  obtain ⟨e, hst'⟩ := hst
  have hc := Zkd hst' hX
  obtain ⟨h0, h1, h2, _, _⟩ := Zgs hr
  exact ZiA hd hu hs hX hx hc (fun e a w h => Zkd h hX) hl hh (mx := none) (mm := (cap : Int)) OptN.none (fun h => absurd rfl h) ⟨by omega, by omega⟩ hr a w ⟨e, hst'⟩
end
end Go.Proofs.Ytipchpbcjkhnaaa.Fw
