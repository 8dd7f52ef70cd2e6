/- Steps in the form in which the printed walks take them, the second part. -/
import Derived.Test.YtipchpbcjkhnaaaFn
import Derived.Test.YtipchpbcjkhnaaaFk
namespace Go.Proofs.Ytipchpbcjkhnaaa.Fw
open Go Go.RowKit
set_option linter.unusedVariables false
set_option linter.unusedSimpArgs false

theorem Zr.w {p : VP} {v : Value} (h1 : one1 v = true) (h : ∀ e, p.p e v := by intro e; rfl) : Zr (rW p) () [v] := fun e => ⟨v, rfl, h e, h1⟩
theorem Zr.two {T U : Type} {r : Rep T} {s : Rep U} {x : T} {y : U} {a b cs : List Value} (ha : Zr r x a) (hb : Zr s y b) (h : a ++ b = cs) : Zr (rP r s) (x, y) cs := by subst h; exact Zr.pair ha hb
theorem UpdR.U {T U : Type} {r : Rep T} {x x' : T} {off : Nat} {s : Rep U} {y' : U} (h : UpdR r x off s y' r x') : Upd r x off s y' x' := ⟨h.1, h.2.2⟩
theorem Wk.st {K : Env → Prop} {T U V : Type} {r : Rep T} {x : T} {s : Rep U} {f : V → U} {y : V} (h : Wk K r x s (f y)) : Wk K r x (rM f s) y := fun e vs hk hr => h e vs hk hr
def HL (ob : Option Nat) {T : Type} (r : Rep T) (xs : List T) (cap : Nat) : VP := ⟨fun e v => v = .slice (ob.map fun b => ⟨b, 0, none⟩) xs.length cap ∧ LR r e xs v, fun h k => ⟨k.1, k.2.mono h⟩⟩
instance (ob : Option Nat) {T : Type} (r : Rep T) (xs : List T) (cap : Nat) : OneP (HL ob r xs cap) := ⟨fun _ _ h => by rw [h.1]; rfl⟩
section
variable {T : Type} {r : Rep T} {xs : List T} {ob : Option Nat} {cap : Nat} {K : Env → Prop}
theorem wkHL : ∀ e v, (HL ob r xs cap).p e v → (S (rL r) xs).p e v := fun e v h => ⟨v, rfl, h.2⟩
theorem Wk.hh : Wk K (rW (HL ob r xs cap)) () (rW (HDR ob 0 xs.length cap)) () := fun e vs _ ⟨v, h1, h2, h3⟩ => ⟨v, h1, h2.1, h3⟩
theorem Wk.hl : Wk K (rW (HL ob r xs cap)) () (rL r) xs := fun e vs _ ⟨v, h1, h2, h3⟩ => ⟨v, h1, h2.2⟩
theorem Wk.own : Wk (KL r xs ob cap) (rW (HDR ob 0 xs.length cap)) () (rW (HL ob r xs cap)) () := fun e vs hk ⟨v, h1, h2, h3⟩ => ⟨v, h1, ⟨h2, by rw [show v = _ from h2]; exact hk⟩, h3⟩
end
section
variable {P : Program} {Bs : Base} {st st' : St} {d : Nat} {ty t t' el : TypeId} {pos : String} {af : Array Edge} {g : Option (Nat × Bool)} {x y z : Operand} {Q : Exit → Act → World → Prop} {l : List Oper} {ops : Array Oper}
variable {e : Env} {a : Act} {w : World}
theorem Imp.sub {ρ' : List (Nat × SV1)} (hs : SubR st.ρ ρ') : Imp Bs st { st with ρ := ρ' } := fun a w ⟨e, h⟩ => ⟨e, h.weak fun t sv ht => hs.get ht⟩
theorem Zag.at {o : Oper} (s1 s2 : St) (h : Zag P Bs o s1 s2) : Zag P Bs o s1 s2 := h
def ZiE : Value → Bool
  | .pointer none | .nilIface | .nilFunc => false
  | .func (.method _) _ _ => false
  | _ => true
theorem Zae {p : VP} (hd : d < Bs.N) (hx : HasO st x (.one (.val p))) (hk : ∀ e v, p.p e v → ZiE v = true) : Zag P Bs ⟨some d, .nilCheck x, ty, pos, af, g⟩ st (st.set d (.one (.val p))) :=
  .value hd fun e a w hst => by
    have h1 := hx.get hst
    have h2 := hk e _ h1
    refine ⟨a.eval x, ?_, h1⟩
    simp only [execOp]
    cases hv : a.eval x <;> rw [hv] at h2 <;> try rfl
    · rename_i o; cases o
      · simp [ZiE] at h2
      · rfl
    · rename_i f _ _; cases f <;> simp [ZiE] at h2 <;> rfl
    · simp [ZiE] at h2
    · simp [ZiE] at h2
theorem ImpK.slotH {T : Type} {r : Rep T} {xs : List T} {ob : Option Nat} {cap s : Nat} {st'' : St} (hs : look st.ρ s = some (.one (.val (HDR ob 0 xs.length cap)))) (t : ImpK Bs (KL r xs ob cap) { st with ρ := (s, .one (.val (HL ob r xs cap))) :: st.ρ } st'') : ImpK Bs (KL r xs ob cap) st st'' :=
  ImpK.slot (q := HL ob r xs cap) hs (fun e v hk hv => ⟨hv, by rw [show v = _ from hv]; exact hk⟩) t
theorem Imp.dropF {ρ : List (Nat × SV1)} {X : List ZaQ} {df : List Nat} {d j : Nat} {T : Type} {r : Rep T} {xs : List T} {ob : Option Nat} {fz cap : Nat} (hX : X[j]? = some (cown ob r xs fz cap)) : Imp Bs ⟨(d, .one (.val (HDR ob 0 xs.length cap))) :: ρ, X, df⟩ ⟨(d, .one (.val (S (rL r) xs))) :: ρ, X.eraseIdx j, df⟩ :=
  Imp.frz hX (ImpK.slotW (s := d) (ZbO ..) Wk.hdr fun e a w hk hst => by
    have h1 := hst.weak (ρ' := (d, .one (.val (S (rL r) xs))) :: ρ) (fun t sv ht => by
      rcases ZdW ht with ⟨rfl, rfl⟩ | ⟨hne, h⟩
      · exact ZbO ..
      · rw [ZbM _ _ (Ne.symm hne), ZbM _ _ (Ne.symm hne)]; exact h)
    have h2 := Zer (X := X.set j (cown ob r xs xs.length cap)) (j := j) (c := cown ob r xs xs.length cap) (by rw [List.getElem?_set_self (List.getElem?_eq_some_iff.1 hX).1])
    rw [Zhb] at h2
    have h3 := h1.perm h2
    exact h3.drop (A := X.eraseIdx j) (B := [cown ob r xs xs.length cap]) (List.perm_append_comm (l₁ := [cown ob r xs xs.length cap])))
theorem andL {a b : Bool} (h : (a && b) = true) : a = true := by cases a <;> simp_all
theorem andR {a b : Bool} (h : (a && b) = true) : b = true := by cases a <;> simp_all
theorem andI {a b : Bool} (h : a = true) (k : b = true) : (a && b) = true := by rw [h, k]; rfl
theorem notT {a : Bool} (h : a = false) : (!a) = true := by rw [h]; rfl
theorem notF {a : Bool} (h : (!a) = true) : a = false := by cases a <;> simp_all
theorem Zgc {a : Bool} (h : a = true) : (!a) = false := by rw [h]; rfl
theorem Zga {a b : Bool} (h : a = false) : (a && b) = false := by rw [h]; rfl
theorem Zf7 {a b : Bool} (h : b = false) : (a && b) = false := by rw [h]; cases a <;> rfl
theorem ZaY.eqB {q b : Bool} {o : Option (Nat × Bool)} (h : ZaY Bs ops st o q) (hq : q = b) : ZaY Bs ops st o b := hq ▸ h
theorem ifT {α : Type} {b : Bool} {p q r : α} (h : (if b = true then p else q) = r) (hb : b = true) : p = r := by rw [if_pos hb] at h; exact h
theorem HasO.cnd {q : Bool} {s s' : SV1} (h : HasO st x (bif q then s else s')) (hq : q = true) : HasO st x s := by subst hq; exact h
theorem ZaY.isT {gi dg : Nat} {b : Bool} (hdN : dg < Bs.N) (hg : Zd9 ops gi = some dg) (hb : look st.ρ dg = some (.one (.val (S rB b)))) : ZaY Bs ops st (some (gi, true)) b := by
  have := ZaY.val (pol := true) hg hdN hb
  rwa [show (b == true) = b from by cases b <;> rfl] at this
theorem ZaY.isF {gi dg : Nat} {b : Bool} (hdN : dg < Bs.N) (hg : Zd9 ops gi = some dg) (hb : look st.ρ dg = some (.one (.val (S rB b)))) : ZaY Bs ops st (some (gi, false)) (!b) := by
  have := ZaY.val (pol := false) hg hdN hb
  rwa [show (b == false) = !b from by cases b <;> rfl] at this
theorem ZaY.cT {gi dg : Nat} {q b : Bool} (hdN : dg < Bs.N) (hg : Zd9 ops gi = some dg) (hb : look st.ρ dg = some (bif q then .one (.val (S rB b)) else .one .und)) : ZaY Bs ops st (some (gi, true)) (q && b) := by
  cases q
  · exact ZaY.und hg hdN hb
  · exact ZaY.isT hdN hg hb
theorem ZaY.cF {gi dg : Nat} {q b : Bool} (hdN : dg < Bs.N) (hg : Zd9 ops gi = some dg) (hb : look st.ρ dg = some (bif q then .one (.val (S rB b)) else .one .und)) : ZaY Bs ops st (some (gi, false)) (q && !b) := by
  cases q
  · exact ZaY.und hg hdN hb
  · exact ZaY.isF hdN hg hb
theorem JL.cnd {o : Oper} {os : List Oper} {q : Bool} {sv : SV1} (hg : ZaY Bs ops st o.guard q) (hdst : o.dst = some d) (hd : d < Bs.N) (hs : q = true → Zag P Bs o st (setO st (some d) sv)) (h : JL P Bs ops os (st.set d (bif q then sv else .one .und)) Q) : JL P Bs ops (o :: os) st Q := by
  cases q
  · exact JL.skip hg (fun k hk => by rw [hdst] at hk; cases hk; exact hd) (by rw [hdst]; exact h)
  · exact JL.run hg (hs rfl) h
theorem Zit.cnd {base : List (Nat × SV1)} {fs : Gh → List Fact} {rs : Gh → List RE} {df : List Nat} {i : Nat} {o : Oper} {f : Gh → Fact} {q : Bool} {sv : Gh → SV1} (hfd : ∀ γ, (f γ).d = o.dst) (hf : ∀ γ, (f γ).sv = bif q then sv γ else .one .und) (hdN : ∀ d, o.dst = some d → d < Bs.N) (hl : ∀ γ, ZaC (lays i (rs γ)) = ZaC (Zc8 i (rs γ)))
    (h : ∀ γ ρ B, Zev base ρ → (∀ (k : Nat) (g : Fact) (d : Nat), (fs γ)[k]? = some g → g.d = some d → k ∈ ZbS o → look ρ d = some g.sv) →
      ZaY Bs ops (⟨ρ, ZaC (Zc8 i (rs γ)) ++ (ZaC (ZcE i (rs γ)) ++ B), df⟩ : St) o.guard q ∧
      (q = true → Zag P Bs o (⟨ρ, ZaC (Zc8 i (rs γ)) ++ (ZaC (ZcE i (rs γ)) ++ B), df⟩ : St) (setO ⟨ρ, ZaC (lays i (rs γ)) ++ (ZaC (ZcE i (rs γ)) ++ B), df⟩ (f γ).d (sv γ)))) : Zit P Bs ops base fs rs df i [] o f := by
  cases q
  · exact .skip fun γ ρ B hb hd => ⟨(h γ ρ B hb hd).1, hl γ, hfd γ, by rw [hf]; rfl, hdN⟩
  · exact .run fun γ ρ B hb hd => ⟨(h γ ρ B hb hd).1, by rw [hf]; exact (h γ ρ B hb hd).2 rfl⟩
theorem Za8 {T : Type} {r : Rep T} {u v z : T} {c : Operand} {b : Bool} (hd : d < Bs.N) (hc : HasO st c (.one (.val (S rB b)))) (hx : b = true → HasO st x (.one (.val (S r u)))) (hy : b = false → HasO st y (.one (.val (S r v)))) (h : (bif b then u else v) = z) : Zag P Bs ⟨some d, .pick c x y, ty, pos, af, g⟩ st (st.set d (.one (.val (S r z)))) := by
  subst h
  cases b
  · exact Zar hd hc rfl (hy rfl)
  · exact Zaw hd hc rfl (hx rfl)
def ZhP (P : Program) (t : TypeId) : Bool := match P.underlying t with | some (.func _ _ _) => true | _ => false
theorem Zh0 {f : FuncId} {qs : List VP} {neg : Bool} (hd : d < Bs.N) (hu : ZhP P t = true) (hx : HasO st x (.one (.val (CLO f qs)))) (hy : HasO st y (.one (.val NILF))) :
    Zag P Bs ⟨some d, .binOp (if neg then .neq else .eql) t x y t', ty, pos, af, g⟩ st (st.set d (.one (.val (S rB neg)))) := by
  unfold ZhP at hu
  split at hu
  · rename_i h; exact ZkB hd h hx hy
  · cases hu

theorem jc {ops : Array Oper} {os : List Oper} {Q : Exit → Act → World → Prop} {o : Oper} {st' : St} (hs : Zag P Bs o st st') (h : JL P Bs ops os st' Q) (hg : o.guard = none := by rfl) : JL P Bs ops (o :: os) st Q := JL.cons hg hs h
theorem jx {ops : Array Oper} {os : List Oper} {Q : Exit → Act → World → Prop} {o : Oper} {γ : Type} {st' : γ → St} (hs : OpX P Bs o st st') (h : ∀ g, JL P Bs ops os (st' g) Q) (hg : o.guard = none := by rfl) : JL P Bs ops (o :: os) st Q := JL.consX hg hs h
theorem dS {ops : Array Oper} {base : List (Nat × SV1)} {fs : Gh → List Fact} {rs : Gh → List RE} {df : List Nat} {i : Nat} {o : Oper} {os : List Oper} {f : Gh → Fact} {gs : Gh → List Fact} {afts : List (List Nat)} (j : Nat)
    (h : ∀ γ ρ B, Zev base ρ → (∀ (k : Nat) (g : Fact) (d : Nat), (fs γ)[k]? = some g → g.d = some d → k ∈ ZbS o → look ρ d = some g.sv) → Zag P Bs o ⟨ρ, B, df⟩ (setO ⟨ρ, B, df⟩ (f γ).d (f γ).sv))
    (t : Zat P Bs ops base fs rs df j os gs afts) (hj : i + 1 = j := by rfl) (hd : ∀ γ, (f γ).d = o.dst := by exact fun _ => rfl) (hX : ∀ γ, ZaC (Zc8 i (rs γ)) = [] ∧ ZaC (ZcE i (rs γ)) = [] ∧ ZaC (lays i (rs γ)) = [] := by exact fun _ => ⟨rfl, rfl, rfl⟩) (hg : o.guard = none := by rfl) :
    Zat P Bs ops base fs rs df i (o :: os) (fun γ => f γ :: gs γ) ([] :: afts) :=
  Zat.cons hj hd (.run fun γ ρ B hb hdn => by
    obtain ⟨h1, h2, h3⟩ := hX γ
    rw [h1, h2, h3]
    refine ⟨by rw [hg]; exact .none, h γ ρ B hb hdn⟩) t
theorem dC {ops : Array Oper} {base : List (Nat × SV1)} {fs : Gh → List Fact} {rs : Gh → List RE} {df : List Nat} {i : Nat} {o : Oper} {os : List Oper} {f : Gh → Fact} {gs : Gh → List Fact} {afts : List (List Nat)} (j : Nat) (q : Bool) (sv : Gh → SV1)
    (h : ∀ γ ρ B, Zev base ρ → (∀ (k : Nat) (g : Fact) (d : Nat), (fs γ)[k]? = some g → g.d = some d → k ∈ ZbS o → look ρ d = some g.sv) → ZaY Bs ops (⟨ρ, B, df⟩ : St) o.guard q ∧ (q = true → Zag P Bs o ⟨ρ, B, df⟩ (setO ⟨ρ, B, df⟩ (f γ).d (sv γ))))
    (t : Zat P Bs ops base fs rs df j os gs afts) (hj : i + 1 = j := by rfl) (hd : ∀ γ, (f γ).d = o.dst := by exact fun _ => rfl) (hf : ∀ γ, (f γ).sv = bif q then sv γ else .one .und := by exact fun _ => rfl) (hdN : ∀ d, o.dst = some d → d < Bs.N := by exact fun d h => by cases h; exact ltB rfl) (hX : ∀ γ, ZaC (Zc8 i (rs γ)) = [] ∧ ZaC (ZcE i (rs γ)) = [] ∧ ZaC (lays i (rs γ)) = [] := by exact fun _ => ⟨rfl, rfl, rfl⟩) :
    Zat P Bs ops base fs rs df i (o :: os) (fun γ => f γ :: gs γ) ([] :: afts) :=
  Zat.cons hj hd (.cnd (q := q) (sv := sv) hd hf hdN (fun γ => by obtain ⟨h1, h2, h3⟩ := hX γ; rw [h1, h3]) fun γ ρ B hb hdn => by
    obtain ⟨h1, h2, h3⟩ := hX γ
    rw [h1, h2, h3]
    exact h γ ρ B hb hdn) t
theorem JL.sub {ops : Array Oper} {os : List Oper} {Q : Exit → Act → World → Prop} (st' : St) (hs : SubR st.ρ st'.ρ) (hX : st.X = st'.X) (hd : st.df = st'.df) (h : JL P Bs ops os st' Q) : JL P Bs ops os st Q := by
  obtain ⟨ρ, X, df⟩ := st; obtain ⟨ρ', X', df'⟩ := st'
  simp only at hX hd; subst hX; subst hd
  exact JL.pre (Imp.sub hs) h
theorem JL.nrm {ops : Array Oper} {os : List Oper} {Q : Exit → Act → World → Prop} (st' : St) (js : List Nat) {B : List ZaQ} (hX : Zed st.X js = some (st'.X, B)) (hs : SubR st.ρ st'.ρ) (hd : st.df = st'.df) (h : JL P Bs ops os st' Q) : JL P Bs ops os st Q := by
  obtain ⟨ρ, X, df⟩ := st; obtain ⟨ρ', X', df'⟩ := st'
  simp only at hX hd; subst hd
  exact JL.pre (Imp.norm hX hs) h
end
end Go.Proofs.Ytipchpbcjkhnaaa.Fw
