/- More steps: variables with a first value, texts' marks, statements whose order is open and whose last step turns memory. -/
import Derived.Test.YtlkofkegbkkhbaaFm
namespace Go.Proofs.Ytlkofkegbkkhbaa.Fw
open Go Go.RowKit
set_option linter.unusedVariables false
set_option linter.unusedSimpArgs false

section
variable {M : HM} {P : Program} {Bs : Base} {st st' : St M} {d : Nat} {ty t t' el : TypeId} {pos : String} {af : Array Edge} {g : Option (Nat × Bool)} {x y z : Operand} {Q : Exit → Act → World → Prop} {l : List Oper} {ops : Array Oper}
theorem box_core {T : Type} {r : Rep T} {u : T} {val : Value} {vs : List Value} (hd : d < Bs.N) {e : Env} {β : List (Option Nat)} {F : Nat → Prop} {a : Act} {w : World} (h : StE Bs st e β F a w) (hv : a.eval x = val) (hc : val.cells.toList = vs) (hr : r.rel e u vs) :
    ∃ v w' e' β' F', (execOp a.eval ⟨some d, .box t x, ty, pos, af, g⟩).run P w = .ok (.value v) w' ∧ StE Bs { st with X := st.X ++ [BX.var T r u] } e' β' F' a w' ∧ SVR e' β' (st.X ++ [BX.var T r u]) w' (.one (.ptr st.X.length 0)) v := by
  have hk := Kept.push w (.cells val.cells t)
  refine ⟨.pointer (some ⟨w.heap.size, 0, none⟩), { w with heap := w.heap.push (.cells val.cells t) }, e, β ++ [some w.heap.size], F, ?_, ?_, ?_⟩
  · simp [execOp, Instr.box, newVar, newRow, newObj, Sem.run, hv]
  · refine (h.keep hk).box (bx := .var T r u) ⟨w.heap.size, val.cells.toList, t, (0, 0), rfl, by simp, thawed00 _, by rw [hc]; exact hr, fun ad v hm => ?_⟩ fun b hb => ?_
    · have := mu_lt h hm; omega
    · cases hb
      exact ⟨h.base.size, fun hF => by have := h.fsz _ hF; omega, fun j hj => by have := (h.bf j _ hj).2; omega⟩
  · exact ⟨w.heap.size, by rw [← h.bl]; simp, rfl⟩
/-- A variable in memory that has a value from the beginning. -/
theorem op_boxS {T : Type} {r : Rep T} {u : T} (hd : d < Bs.N) (hx : HasO st x (.one (.val (S r u)))) :
    OpStep P Bs ⟨some d, .box t x, ty, pos, af, g⟩ st (St.set { st with X := st.X ++ [BX.var T r u] } d (.one (.ptr st.X.length 0))) :=
  .grows hd fun e β F a w h => by
    have hrel : r.rel e u [a.eval x] := hx.get h
    exact box_core hd h rfl (cells_S (r := r) (u := u) (v := a.eval x) (e := e) hrel).1 hrel
theorem op_boxA {T : Type} {r : Rep T} {u : T} (hd : d < Bs.N) (hx : HasO st x (.one (.val (A r u)))) :
    OpStep P Bs ⟨some d, .box t x, ty, pos, af, g⟩ st (St.set { st with X := st.X ++ [BX.var T r u] } d (.one (.ptr st.X.length 0))) :=
  .grows hd fun e β F a w h => by
    obtain ⟨vs, hv, hrel⟩ : ∃ vs : List Value, a.eval x = .agg vs.toArray ∧ r.rel e u vs := hx.get h
    exact box_core hd h hv (by simp [Value.cells]) hrel
theorem op_loadSg {T U : Type} {r : Rep T} {v : T} {s : Rep U} {u u' : U} {j off : Nat} (hd : d < Bs.N) (ht : tyS P t = true) (hx : HasO st x (.one (.ptr j off))) (hX : st.X[j]? = some (.var T r v)) (hc : Comp r v off s u) (hs : s.sz = 1) (he : u = u') :
    OpStep P Bs ⟨some d, .load t x, ty, pos, af, g⟩ st (st.set d (.one (.val (S s u')))) := by subst he; exact op_loadS hd ht hx hX hc hs
theorem op_loadAg {T U : Type} {r : Rep T} {v : T} {s : Rep U} {u u' : U} {j off : Nat} (hd : d < Bs.N) (ht : tyA P t s.sz = true) (hx : HasO st x (.one (.ptr j off))) (hX : st.X[j]? = some (.var T r v)) (hc : Comp r v off s u) (he : u = u') :
    OpStep P Bs ⟨some d, .load t x, ty, pos, af, g⟩ st (st.set d (.one (.val (A s u')))) := by subst he; exact op_loadA hd ht hx hX hc
theorem op_storeSg {T U : Type} {r : Rep T} {v v' v'' : T} {s : Rep U} {u : U} {j off : Nat} (ht : tyS P t = true) (hx : HasO st x (.one (.ptr j off))) (hy : HasO st y (.one (.val (S s u)))) (hX : st.X[j]? = some (.var T r v)) (hs : s.sz = 1) (hu : Upd r v off s u v') (he : v' = v'') :
    OpStep P Bs ⟨none, .store t x y, ty, pos, af, g⟩ st { st with X := st.X.set j (.var T r v'') } := by subst he; exact op_storeS ht hx hy hX hs hu
theorem op_storeAg {T U : Type} {r : Rep T} {v v' v'' : T} {s : Rep U} {u : U} {j off : Nat} (ht : tyA P t s.sz = true) (hx : HasO st x (.one (.ptr j off))) (hy : HasO st y (.one (.val (A s u)))) (hX : st.X[j]? = some (.var T r v)) (hu : Upd r v off s u v') (he : v' = v'') :
    OpStep P Bs ⟨none, .store t x y, ty, pos, af, g⟩ st { st with X := st.X.set j (.var T r v'') } := by subst he; exact op_storeA ht hx hy hX hu
theorem freeze_at {w : World} {b n : Nat} {cs : List Value} {el : TypeId} {fr : Nat × Nat} (h : w.heap[b]? = some (.cells cs.toArray el fr)) : w.freeze ⟨b, n, none⟩ 1 = setB w b cs el (if fr.1 == fr.2 then (n, n + 1) else (min fr.1 n, max fr.2 (n + 1))) := by
  unfold World.freeze setB
  rw [if_neg (by decide)]
  congr 1
  apply Array.ext
  · simp
  · intro i h1 h2
    obtain ⟨hb, hh⟩ := Array.getElem?_eq_some_iff.1 h
    simp only [Array.getElem_modify, Array.getElem_setIfInBounds]
    by_cases e : b = i
    · subst e
      simp [hh]
    · rw [Array.getElem_setIfInBounds_ne (by simpa using h1) e]; simp [e]
/-- '[]byte("..")': a row of the call's own is marked. -/
theorem op_markO {xs : List UInt8} {fz j : Nat} (hd : d < Bs.N) (hu : P.underlying t = some (.slice el)) (he : P.underlying el = some (.int .u8)) (hX : st.X[j]? = some (.own UInt8 (rU UInt8) xs fz)) (hx : HasO st x (.one (.own j))) (hn : 0 < xs.length) :
    OpStep P Bs ⟨some d, .convert t t x, ty, pos, af, g⟩ st (st.set d (.one (.own j))) :=
  .grows hd fun e β F a w h => by
    rcases own_at h hX hx with ⟨_, h0, _⟩ | ⟨b, c, cs, el', fr, hj, hv, hb, hth, hlen, hrel, hmu, hfz, hM⟩
    · rw [h0] at hn; simp at hn
    · have hlt := lt_of_block hb
      have hsh : (shape b).run P w = .ok (some (el', cs.length)) w := by simp [World.shape?, hb]
      have hth' : Thawed cs.length (if fr.1 == fr.2 then (cs.length, cs.length + 1) else (min fr.1 cs.length, max fr.2 (cs.length + 1))) := by
        split
        · exact .inr (Nat.le_refl _)
        · rename_i hne
          rcases hth with h | h
          · exact absurd (by simpa using h) hne
          · exact .inr (by simp; omega)
      have hbx : ∀ fr', Thawed cs.length fr' → BoxR e (setB w b cs el' fr') (.own UInt8 (rU UInt8) xs fz) (some b) := fun fr' hth' => .inr ⟨b, cs, el', fr', rfl, setB_at hlt, hth', hlen, hrel, hmu, hfz, hM⟩
      have hrelay := h.relay (fr' := if fr.1 == fr.2 then (cs.length, cs.length + 1) else (min fr.1 cs.length, max fr.2 (cs.length + 1))) (bx' := .own UInt8 (rU UInt8) xs fz) hj hb rfl (fun _ _ _ => rfl) (fun ad u' hm _ => muspot h hm) (hbx _ hth') (fun T r xs' fz' hX' => by
        rw [hX] at hX'; cases hX'; exact ⟨xs, fz, rfl, rfl⟩)
      have hXX : st.X.set j (.own UInt8 (rU UInt8) xs fz) = st.X := by
        have hjl : j < st.X.length := (List.getElem?_eq_some_iff.1 hX).1
        apply List.ext_getElem?
        intro i
        by_cases hij : i = j
        · subst hij; rw [List.getElem?_set_self hjl, hX]
        · rw [List.getElem?_set_ne (Ne.symm hij)]
      rw [hXX] at hrelay
      refine ⟨.slice (some ⟨b, 0, none⟩) xs.length c, _, e, β, F, ?_, hrelay, ?_⟩
      · rw [← freeze_at hb]
        simp [execOp, hv, convert, run_underlying hu, run_underlying he, markStringish, hsh]
      · obtain ⟨T', r', xs', fz', h1, h2⟩ := hx.get h
        rw [hX] at h1
        cases h1
        rcases h2 with ⟨h2, _⟩ | ⟨b', c', cs', el2, fr', h2, h3, h4, h5, h6⟩
        · rw [hj] at h2; cases h2
        · rw [hj] at h2
          cases h2
          rw [hv] at h3
          injection h3 with h3 h3' h3''
          subst h3''
          rw [hb] at h5
          injection h5 with h5
          injection h5 with h5 h5' h5''
          have h5 : cs = cs' := by simpa using h5
          subst h5
          exact ⟨UInt8, rU UInt8, xs, fz, hX, .inr ⟨b, c, cs, el', _, hj, rfl, h4, setB_at hlt, h6⟩⟩
end
end Go.Proofs.Ytlkofkegbkkhbaa.Fw
