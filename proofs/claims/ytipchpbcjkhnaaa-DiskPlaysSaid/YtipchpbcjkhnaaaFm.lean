/- Steps in the form in which the printed walks take them. -/
import Derived.Test.YtipchpbcjkhnaaaFl
namespace Go.Proofs.Ytipchpbcjkhnaaa.Fw
open Go Go.RowKit
set_option linter.unusedVariables false
set_option linter.unusedSimpArgs false

section
variable {P : Program} {Bs : Base} {st st' : St} {d : Nat} {ty t t' el : TypeId} {pos : String} {af : Array Edge} {g : Option (Nat × Bool)} {x y z : Operand} {Q : Exit → Act → World → Prop} {l : List Oper} {ops : Array Oper}
theorem ltB {d N : Nat} (h : Nat.blt d N = true) : d < N := Nat.le_of_ble_eq_true h
theorem lb {d N : Nat} (h : Nat.blt d N = true := by rfl) : d < N := Nat.le_of_ble_eq_true h
theorem ld {d N : Nat} (h : Nat.blt d N = true := by rfl) : ∀ k, some d = some k → k < N := fun k hk => by cases hk; exact ltB h
theorem tyB.of {sz bytes : Nat} {v : Value} (h : (P.info? t).map (fun i => (i.size, i.bytes, i.zero)) = some (sz, bytes, some v)) : tyB P t sz bytes v := by
  obtain ⟨i, h1, h2⟩ := Option.map_eq_some_iff.1 h
  injection h2 with h3 h4
  injection h4 with h4 h5
  exact ⟨i, h1, h3, h4, h5⟩
theorem Zas {α β : Type} {x : Option α} {K : α → Option β} {r : β} (h : Option.bind x K = some r) : ∃ v, x = some v ∧ K v = some r := Option.bind_eq_some_iff.1 h
theorem Zbc {α : Type} {b : Bool} {p q : Option α} {r : α} (h : (if b = true then p else q) = some r) : (b = true ∧ p = some r) ∨ (b = false ∧ q = some r) := by
  cases b
  · exact .inr ⟨rfl, h⟩
  · exact .inl ⟨rfl, h⟩
theorem JC.at {c : Code} (st : St) (h : JC P Bs c st Q) : JC P Bs c st Q := h
abbrev ov (p : VP) : SV1 := .one (.val p)
theorem JL.at {os : List Oper} (st : St) (h : JL P Bs ops os st Q) : JL P Bs ops os st Q := h
theorem JQ.at {ex : Exit} (st : St) (h : JQ Bs ex st Q) : JQ Bs ex st Q := h
theorem JC.condT {c : Operand} {x y : Code} {b : Bool} (hc : HasO st c (.one (.val (S rB b)))) (hb : b = true) (h : JC P Bs x st Q) : JC P Bs (.cond c x y) st Q := JC.cond hc (fun _ => h) (fun hf => by rw [hb] at hf; cases hf)
theorem JC.condF {c : Operand} {x y : Code} {b : Bool} (hc : HasO st c (.one (.val (S rB b)))) (hb : b = false) (h : JC P Bs y st Q) : JC P Bs (.cond c x y) st Q := JC.cond hc (fun hf => by rw [hb] at hf; cases hf) (fun _ => h)
theorem JC.seqJ {x y : Code} {γ : Type} {stj : γ → St} (h2 : ∀ q, JC P Bs y (stj q) Q) (h1 : JC P Bs x st (Exit.then (fun a w => ∃ q, StR Bs (stj q) a w) Q)) : JC P Bs (.seq x y) st Q := fun a w hst =>
  wpIn_seq (wpIn_mono (h1 a w hst) fun e a w q => by cases e <;> first | (obtain ⟨g, q⟩ := q; exact h2 g a w q) | exact q)
theorem JC.seqK {α γ : Type} {x y : Code} {stj : α → γ → St} {p : α → Prop} (h2 : ∀ v q, p v → JC P Bs y (stj v q) Q) (h1 : JC P Bs x st (Exit.then (fun a w => ∃ v q, p v ∧ StR Bs (stj v q) a w) Q)) : JC P Bs (.seq x y) st Q := fun a w hst =>
  wpIn_seq (wpIn_mono (h1 a w hst) fun e a w q => by cases e <;> first | (obtain ⟨v, g, hv, q⟩ := q; exact h2 v g hv a w q) | exact q)
theorem JQ.join {γ : Type} {stj : γ → St} (q : γ) (i : Imp Bs st (stj q)) : JQ Bs .normal st (Exit.then (fun a w => ∃ q, StR Bs (stj q) a w) Q) := fun a w hst => ⟨q, i a w hst⟩
theorem JQ.joinK {α γ : Type} {stj : α → γ → St} {p : α → Prop} (v : α) (q : γ) (hv : p v) (i : Imp Bs st (stj v q)) : JQ Bs .normal st (Exit.then (fun a w => ∃ v q, p v ∧ StR Bs (stj v q) a w) Q) := fun a w hst => ⟨v, q, hv, i a w hst⟩
theorem Zap {T : Type} {r : Rep T} {xs : List T} {ob : Option Nat} {fz cap j : Nat} {k : IntKind} {i : Int} {n : Nat} (hd : d < Bs.N) (hu : P.underlying t = some (.slice el)) (hs : tySz P el r.sz = true) (hX : st.X[j]? = some (cown ob r xs fz cap))
    (hx : HasO st x (.one (.val (HDR ob 0 xs.length cap)))) (hy : HasO st y (.one (.val (S (rI k) i)))) (h : inO xs i = some n) :
    Zag P Bs ⟨some d, .indexAddr t x y, ty, pos, af, g⟩ st (st.set d (.one (.val (EPT ob (n * r.sz))))) := by
  obtain ⟨h0, h1, h2⟩ := ZjX h
  subst h2
  exact ZgI hd hu hs hX hx hy h0 h1
theorem Ze0 {T : Type} {r : Rep T} {xs ys : List T} {ob : Option Nat} {cap j i : Nat} {u : T} (ht : tyS P t = true) (hs : r.sz = 1) (hX : st.X[j]? = some (cown ob r xs 0 cap)) (hx : HasO st x (.one (.val (EPT ob (i * r.sz))))) (hy : HasO st y (.one (.val (S r u)))) (h : ZfP xs i u = some ys) :
    Zag P Bs ⟨none, .store t x y, ty, pos, af, g⟩ st { st with X := st.X.set j (cown ob r ys 0 cap) } := by
  obtain ⟨hi, he⟩ := Zfj h
  exact Zgm (off := 0) ht hs hX hx hy (List.getElem?_eq_getElem hi) (Upd.self r _ _) he
theorem ZaZ {T : Type} {r : Rep T} {xs : List T} {k : IntKind} {i : Int} {u : T} (hd : d < Bs.N) (hu : P.underlying t = some (.slice el)) (hs : tySz P el r.sz = true)
    (hx : HasO st x (.one (.val (S (rL r) xs)))) (hy : HasO st y (.one (.val (S (rI k) i)))) (h : idxL xs i = some u) :
    Zag P Bs ⟨some d, .indexAddr t x y, ty, pos, af, g⟩ st (st.set d (.one (.val (PT r u)))) := by
  obtain ⟨h0, h1, h2⟩ := Zg5 h
  exact ZgH hd hu hs hx hy h0 h1 h2
theorem Zc2 {s : List UInt8} {k : IntKind} {i : Int} {u : UInt8} (hd : d < Bs.N) (hu : P.underlying t = some .string) (hx : HasO st x (.one (.val (S rS s)))) (hy : HasO st y (.one (.val (S (rI k) i)))) (h : idxL s i = some u) :
    Zag P Bs ⟨some d, .index t x y, ty, pos, af, g⟩ st (st.set d (.one (.val (S (rU UInt8) u)))) := by
  obtain ⟨h0, h1, h2⟩ := Zg5 h
  exact ZhN hd hu hx hy h0 h1 h2
theorem Zaw {c : Operand} {b : Bool} {sv : SV1} (hd : d < Bs.N) (hc : HasO st c (.one (.val (S rB b)))) (hb : b = true) (hx : HasO st x sv) : Zag P Bs ⟨some d, .pick c x y, ty, pos, af, g⟩ st (st.set d sv) :=
  Zjs (sv2 := sv) (sv3 := sv) hd hc (fun _ => hx) (fun h => by rw [hb] at h; cases h)
theorem Zar {c : Operand} {b : Bool} {sv : SV1} (hd : d < Bs.N) (hc : HasO st c (.one (.val (S rB b)))) (hb : b = false) (hy : HasO st y sv) : Zag P Bs ⟨some d, .pick c x y, ty, pos, af, g⟩ st (st.set d sv) :=
  Zjs (sv2 := sv) (sv3 := sv) hd hc (fun h => by rw [hb] at h; cases h) (fun _ => hy)
theorem Zcg {T : Type} {r : Rep T} {xs ys zs : List T} {ob : Option Nat} {fz cap j bytes : Nat} {zv : Value} {dy : TypeDesc} (hd : d < Bs.N) (hu : P.underlying t = some (.slice el)) (hu' : P.underlying t' = some dy) (hni : Zee dy = true) (hel : tyB P el r.sz bytes zv) (hz : zv.cells.size = r.sz) (hsz : 0 < r.sz) (hb0 : 0 < bytes)
    (hX : st.X[j]? = some (cown ob r xs fz cap)) (hx : HasO st x (.one (.val (HDR ob 0 xs.length cap)))) (hy : HasO st y (.one (.val (S (rL r) ys)))) (h : apL bytes xs ys = some zs) :
    OpX P Bs ⟨some d, .call { callee := .builtin .append, args := #[x, y], argTypes := #[t, t'] }, ty, pos, af, g⟩ st (fun q : Option Nat × Nat => St.set { st with X := st.X.set j (cown q.1 r zs fz q.2) } d (.one (.val (HDR q.1 0 zs.length q.2)))) :=
  Zf1 hd hu hu' hni hel hz hsz hb0 hX hx (fun e a w hst => Src.list hst hy) (Zek h)
theorem Zil {T : Type} {r : Rep T} {xs ys zs : List T} {ob ob' : Option Nat} {fz cap j fz' cap' j' bytes : Nat} {zv : Value} {dy : TypeDesc} (hd : d < Bs.N) (hu : P.underlying t = some (.slice el)) (hu' : P.underlying t' = some dy) (hni : Zee dy = true) (hel : tyB P el r.sz bytes zv) (hz : zv.cells.size = r.sz) (hsz : 0 < r.sz) (hb0 : 0 < bytes)
    (hX : st.X[j]? = some (cown ob r xs fz cap)) (hx : HasO st x (.one (.val (HDR ob 0 xs.length cap)))) (hX' : st.X[j']? = some (cown ob' r ys fz' cap')) (hy : HasO st y (.one (.val (HDR ob' 0 ys.length cap')))) (h : apL bytes xs ys = some zs) :
    OpX P Bs ⟨some d, .call { callee := .builtin .append, args := #[x, y], argTypes := #[t, t'] }, ty, pos, af, g⟩ st (fun q : Option Nat × Nat => St.set { st with X := st.X.set j (cown q.1 r zs fz q.2) } d (.one (.val (HDR q.1 0 zs.length q.2)))) :=
  Zf1 hd hu hu' hni hel hz hsz hb0 hX hx (fun e a w hst => Src.own hX' hst hy) (Zek h)
theorem ZiL {T : Type} {r : Rep T} {x0 : T} {n : Int} {zv : Value} {bytes : Nat} {ys : List T} (hd : d < Bs.N) (hu : P.underlying t = some (.slice el)) (hel : tyB P el r.sz bytes zv) (hz : Zr r x0 zv.cells.toList) (hx : HasO st x (.one (.val (S (rI .i64) n)))) (hy : HasO st y (.one (.val (S (rI .i64) n))))
    (h : mkL bytes n x0 = some ys) : OpX P Bs ⟨some d, .makeSlice t x y, ty, pos, af, g⟩ st (fun b => St.set { st with X := st.X ++ [cown (some b) r ys 0 n.toNat] } d (.one (.val (HDR (some b) 0 ys.length n.toNat)))) := by
  obtain ⟨⟨h0, h1, h2⟩, rfl⟩ := ZjG h
  exact ZjU hd hu hel hz rfl hx hy h0 h1 h2
theorem Zhz {T : Type} {r : Rep T} {xs ys : List T} {lo : Option Operand} {hi mx : Operand} {l h : Int} (hd : d < Bs.N) (hu : P.underlying t = some (.slice el)) (hs : tySz P el r.sz = true) (hx : HasO st x (.one (.val (S (rL r) xs))))
    (hl : OptN st lo 0 l) (hh : OptN st (some hi) xs.length h) (hm : OptN st (some mx) xs.length h) (k : subL xs l h = some ys) :
    Zag P Bs ⟨some d, .slice t x lo (some hi) (some mx), ty, pos, af, g⟩ st (st.set d (.one (.val (S (rLc r) ys)))) := by
  obtain ⟨⟨h0, h1, h2⟩, h3⟩ := Zg4 k
  exact Zij hd hu hs hx hl hh hm (by simp) h0 h1 h2 h3
theorem ZcJ {T : Type} {r : Rep T} {xs ys : List T} {lo hi : Option Operand} {l h : Int} (hd : d < Bs.N) (hu : P.underlying t = some (.slice el)) (hs : tySz P el r.sz = true) (hx : HasO st x (.one (.val (S (rL r) xs))))
    (hl : OptN st lo 0 l) (hh : OptN st hi xs.length h) (k : subL xs l h = some ys) :
    Zag P Bs ⟨some d, .slice t x lo hi none, ty, pos, af, g⟩ st (st.set d (.one (.val (S (rL r) ys)))) := by
  obtain ⟨⟨h0, h1, h2⟩, h3⟩ := Zg4 k
  exact Zjb (m := 0) hd hu hs hx hl hh (.inl rfl) h0 h1 h2 h3
theorem ZcX.nil {ρ : List (Nat × SV1)} : ZcX ρ [] := trivial
theorem ZcX.cons {ρ l : List (Nat × SV1)} {s : Nat} {sv : SV1} (h : look ρ s = some sv) (k : ZcX ρ l) : ZcX ρ ((s, sv) :: l) := ⟨h, k⟩
theorem Zdc.nil {e : Env} : Zdc e [] [] := ⟨rfl, fun i p h => by simp at h⟩
theorem Zdc.cons {e : Env} {p : VP} {ps : List VP} {v : Value} {vs : List Value} (h : p.p e v) (k : Zdc e ps vs) : Zdc e (p :: ps) (v :: vs) := ⟨by simp [k.1], fun i q hi => by
  obtain _ | i := i
  · simp at hi; subst hi; exact h
  · simp at hi
    exact k.2 i q hi⟩
theorem hdl {fs : List Fact} {ρ : List (Nat × SV1)} {o : Oper} (hd : ∀ (k : Nat) (g : Fact) (d : Nat), fs[k]? = some g → g.d = some d → k ∈ ZbS o → look ρ d = some g.sv) (k d : Nat) {sv : SV1} (h : fs[k]? = some ⟨some d, sv⟩) (hk : k ∈ ZbS o) : look ρ d = some sv := hd k _ d h rfl hk
theorem hl {fs : List Fact} {ρ : List (Nat × SV1)} {o : Oper} (hd : ∀ (k : Nat) (g : Fact) (d : Nat), fs[k]? = some g → g.d = some d → k ∈ ZbS o → look ρ d = some g.sv) (k d : Nat) {sv : SV1} (h : fs[k]? = some ⟨some d, sv⟩) (hk : k ∈ ZbS o := by decide +kernel) : look ρ d = some sv := hd k _ d h rfl hk
theorem hdq {fs : List Fact} {ρ : List (Nat × SV1)} (hd : ∀ (k : Nat) (g : Fact) (d : Nat), fs[k]? = some g → g.d = some d → look ρ d = some g.sv) (k d : Nat) {sv : SV1} (h : fs[k]? = some ⟨some d, sv⟩) : look ρ d = some sv := hd k _ d h rfl
end
end Go.Proofs.Ytipchpbcjkhnaaa.Fw
