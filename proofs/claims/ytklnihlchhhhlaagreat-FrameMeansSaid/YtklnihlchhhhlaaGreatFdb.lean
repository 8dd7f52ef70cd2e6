/- Functions by name, as values; calls of one of several. -/
import Derived.Test.YtklnihlchhhhlaaGreatFda
namespace Go.Proofs.YtklnihlchhhhlaaGreat.Fw
open Go Go.RowKit
set_option linter.unusedVariables false
set_option linter.unusedSimpArgs false

def fnV : Option FuncId → Value
  | none => .nilFunc
  | some f => .func (.func f) #[] #[]
def rFn : Rep (Option FuncId) := ⟨1, fun _ x vs => vs = [fnV x], fun h => by simp [h], fun {e x vs} h => by subst h; intro v hv; simp at hv; subst hv; cases x <;> rfl, fun _ h => h⟩
theorem Zr.fn : Zr rFn none [.nilFunc] := fun _ => rfl
theorem Zpr {f : FuncId} : ∀ e v, (CLO f []).p e v → (S rFn (some f)).p e v := fun e v ⟨vs, h, k⟩ => by
  have : vs = [] := List.eq_nil_of_length_eq_zero (by simpa using k.1)
  subst this
  subst h
  rfl
theorem Zg1 {x : Option FuncId} {f : FuncId} (hx : x = some f) : ∀ e v, (S rFn x).p e v → (CLO f []).p e v := fun e v h => by
  subst hx
  have h : [v] = [fnV (some f)] := h
  injection h with h
  exact ⟨[], h, rfl, fun i p hp => by simp at hp⟩
theorem Wk.clo {K : Env → Prop} {f : FuncId} : Wk K (rW (CLO f [])) () rFn (some f) := fun e vs _ ⟨v, h, k, _⟩ => by
  subst h
  exact Zpr e v k
theorem Zgu {α : Type} {G c : Prop} [Decidable c] {p q : Option α} {r : α} (h : (if c then p else q) = some r) (t : c → p = some r → G) (f : q = some r → G) : G := by
  by_cases hc : c
  · rw [if_pos hc] at h; exact t hc h
  · rw [if_neg hc] at h; exact f h
theorem Zo5 {α : Type} {G : Prop} {r : α} (h : (none : Option α) = some r) : G := nomatch h
theorem Zfd {α : Type} {c : Prop} [Decidable c] {p q : Option α} {r : α} (h : (if c then p else q) = some r) : (c ∧ p = some r) ∨ q = some r := by
  by_cases hc : c
  · rw [if_pos hc] at h; exact .inl ⟨hc, h⟩
  · rw [if_neg hc] at h; exact .inr h
def BND (f : FuncId) (ps : List VP) : VP := ⟨fun e v => ∃ vs : List Value, v = .func (.func f) vs.toArray #[] ∧ Zez e ps vs, fun he ⟨vs, a, b⟩ => ⟨vs, a, b.mono he⟩⟩
instance (f : FuncId) (ps : List VP) : OneP (BND f ps) := ⟨fun _ _ ⟨_, h, _⟩ => by subst h; rfl⟩
section
variable {P : Program} {Bs : Base} {st : St} {d : Nat} {ty : TypeId} {pos : String} {af : Array Edge} {g : Option (Nat × Bool)}
theorem Zeh {f : FuncId} {xs : List Operand} {cps : List VP} (hd : d < Bs.N) (ha : Zhj st xs cps) : Zao P Bs ⟨some d, .makeFunc (.func f) xs.toArray #[], ty, pos, af, g⟩ st (st.set d (.one (.val (BND f cps)))) :=
  .value hd fun e a w h => ⟨_, by simp [execOp, Instr.makeFunc]; rfl, xs.map a.eval, by simp, ha.get h⟩
theorem ZlP {a : Act} {w : World} {f : FuncId} {fo : Operand} {xs : List Operand} {ats : Array TypeId} {dst : Option Nat} {cs : List Value} (hc : Zav P f = true) (hf : a.eval fo = .func (.func f) cs.toArray #[]) :
    (execOp a.eval ⟨dst, .call { callee := .value fo, args := xs.toArray, argTypes := ats }, ty, pos, af, g⟩).run P w = .ok (.enter f (cs ++ xs.map a.eval).toArray) w := by
  simp only [execOp, resolve, Sem.run_bind, hf, Deferred.ofValue, Sem.run_pure, Result.andThen, invoke]
  have : (cs.toArray ++ Array.map a.eval xs.toArray) ++ (#[] : Array Value) = (cs ++ xs.map a.eval).toArray := by simp
  rw [this]
  exact Zho hc
theorem Zhy {f : FuncId} {fo : Operand} {xs : List Operand} {ats : Array TypeId} {args cps : List VP} {Xin rest : List ZbE} {γ : Type} {X' : γ → List ZbE} {sv : γ → SV1} {js : List Nat} {dst : Option Nat} (hd : ∀ d, dst = some d → d < Bs.N) (hc : Zav P f = true)
    (hs : Sim P f (cps ++ args) Xin X' sv) (hf : HasO st fo (.one (.val (BND f cps)))) (ha : Zhj st xs args) (hp : ZgJ st.X js = some (Xin, rest)) :
    OpX P Bs ⟨dst, .call { callee := .value fo, args := xs.toArray, argTypes := ats }, ty, pos, af, g⟩ st (fun q => setO { st with X := X' q ++ rest } dst (sv q)) := by
  intro a w ⟨e, hst⟩ K Q hK
  obtain ⟨cs, hcs, hcr⟩ : ∃ cs : List Value, a.eval fo = .func (.func f) cs.toArray #[] ∧ Zez e cps cs := hf.get hst
  have hr := ZlP (P := P) (w := w) (ty := ty) (pos := pos) (af := af) (g := g) (xs := xs) (ats := ats) (dst := dst) hc hcs
  refine ⟨fun _ _ => trivial, ?_⟩
  rw [Oper.semAt_eq _ _ _ (ZcU rfl), hr]
  refine ⟨fun h => (by simp at h), ?_⟩
  have hperm := Zdt hp
  have hXin : ∀ c ∈ Xin, c ∈ st.X := fun c hc => hperm.mem_iff.2 (List.mem_append_left _ hc)
  have hdj : Xin.Pairwise Dj := (List.pairwise_append.1 (hperm.pairwise hst.dj (fun {_ _} h => Dj.symm h))).1
  have hcall := hs e w _ hst.frz (fun c hc => hst.xs c (hXin c hc)) hdj (hcr.append (ha.get hst))
  refine CallsIn.mono (F := WF Bs.ro) hcall fun en w' ⟨q, hb⟩ => ?_
  obtain ⟨e', v, rfl, hst', hv⟩ := hst.back hperm hb
  exact hK q _ _ ⟨e', hst'.putO hd hv⟩
end
def GS2 (A B : Type) {α β : Type} : α ⊕ β → Type
  | .inl _ => A
  | .inr _ => B
def fS2 {A B C α β : Type} (f : α → A → C) (g : β → B → C) : (r : α ⊕ β) → GS2 A B r → C
  | .inl r => fun q => f r q
  | .inr r => fun q => g r q
theorem lE {a b : Nat} (h : Nat.ble a b = true) : a ≤ b := Nat.le_of_ble_eq_true h
theorem cT {T V : Type} {r : Rep T} {x : T} {o' : Nat} {q : Rep V} {z : V} (k : Comp r x o' q z) (hl : Nat.ble (o' + q.sz) r.sz = true) : Comp r x (0 + o') q z := Comp.trans (Comp.self r x) k (lE hl)
section
variable {P : Program} {Bs : Base} {st : St} {ops : Array Oper} {os : List Oper} {Q : Exit → Act → World → Prop}
theorem jmv {d t : Nat} {ty : TypeId} {pos : String} {af : Array Edge} {sv : SV1} (hd : Nat.blt d Bs.N = true) (hx : look st.ρ t = some sv) (h : JL P Bs ops os (st.set d sv) Q) : JL P Bs ops (⟨some d, .move (.tmp t), ty, pos, af, none⟩ :: os) st Q := jc (ZaC (ltB hd) (.tmp hx)) h
theorem jn {y : Code} (h : JC P Bs y st Q) : JL P Bs ops [] st (Exit.then (fun a w => y.wpIn (WF Bs.ro) 0 P Q a w) Q) := JL.nil (JQ.then h)
theorem jr {id : Nat} {l : List Oper} {y : Code} (h : JL P Bs l.toArray l st (Exit.then (fun a w => y.wpIn (WF Bs.ro) 0 P Q a w) Q)) : JC P Bs (.seq (.region id l.toArray false) y) st Q := JC.seq (JC.region h)
theorem Zao.lk {o : Oper} (st : St) {d : Option Nat} {sv : SV1} (h : Zao P Bs o st (setO st d sv)) : Zao P Bs o st (setO st d sv) := h
theorem lkB {o : Oper} {ρ : List (Nat × SV1)} {B : List ZbE} {df : List Nat} {d : Option Nat} {sv : SV1} (h : Zao P Bs o ⟨ρ, B, df⟩ (setO ⟨ρ, B, df⟩ d sv)) : Zao P Bs o ⟨ρ, B, df⟩ (setO ⟨ρ, B, df⟩ d sv) := h
theorem dR {base : List (Nat × SV1)} {fs : Gh → List Fact} {rs : Gh → List RE} {df : List Nat} {i : Nat} {o : Oper} {f : Gh → Fact} {gs : Gh → List Fact} {aft : List Nat} {afts : List (List Nat)} (j : Nat)
    (h : ∀ γ ρ B, ZeZ base ρ → (∀ (k : Nat) (g : Fact) (d : Nat), (fs γ)[k]? = some g → g.d = some d → k ∈ ZbF o → look ρ d = some g.sv) → Zao P Bs o (⟨ρ, ZaE (Zda i (rs γ)) ++ (ZaE (ZcK i (rs γ)) ++ B), df⟩ : St) (setO ⟨ρ, ZaE (lays i (rs γ)) ++ (ZaE (ZcK i (rs γ)) ++ B), df⟩ (f γ).d (f γ).sv))
    (t : ZaF P Bs ops base fs rs df j os gs afts) (hj : i + 1 = j := by rfl) (hd : ∀ γ, (f γ).d = o.dst := by exact fun _ => rfl) (hg : o.guard = none := by rfl) : ZaF P Bs ops base fs rs df i (o :: os) (fun γ => f γ :: gs γ) (aft :: afts) :=
  ZaF.cons hj hd (.run fun γ ρ B hb hdn => ⟨by rw [hg]; exact .none, h γ ρ B hb hdn⟩) t
theorem dY {base : List (Nat × SV1)} {fs : Gh → List Fact} {rs : Gh → List RE} {df : List Nat} {i : Nat} {o : Oper} {f : Gh → Fact} {gs : Gh → List Fact} {aft : List Nat} {afts : List (List Nat)} (j : Nat)
    (h : ∀ γ ρ B, ZeZ base ρ → (∀ (k : Nat) (g : Fact) (d : Nat), (fs γ)[k]? = some g → g.d = some d → k ∈ ZbF o → look ρ d = some g.sv) → ZbK Bs ops (⟨ρ, ZaE (Zda i (rs γ)) ++ (ZaE (ZcK i (rs γ)) ++ B), df⟩ : St) o.guard true ∧ Zao P Bs o (⟨ρ, ZaE (Zda i (rs γ)) ++ (ZaE (ZcK i (rs γ)) ++ B), df⟩ : St) (setO ⟨ρ, ZaE (lays i (rs γ)) ++ (ZaE (ZcK i (rs γ)) ++ B), df⟩ (f γ).d (f γ).sv))
    (t : ZaF P Bs ops base fs rs df j os gs afts) (hj : i + 1 = j := by rfl) (hd : ∀ γ, (f γ).d = o.dst := by exact fun _ => rfl) : ZaF P Bs ops base fs rs df i (o :: os) (fun γ => f γ :: gs γ) (aft :: afts) := ZaF.cons hj hd (.run h) t
theorem dK {base : List (Nat × SV1)} {fs : Gh → List Fact} {rs : Gh → List RE} {df : List Nat} {i : Nat} {o : Oper} {f : Gh → Fact} {gs : Gh → List Fact} {aft : List Nat} {afts : List (List Nat)} (j : Nat)
    (h : ∀ γ ρ B, ZeZ base ρ → (∀ (k : Nat) (g : Fact) (d : Nat), (fs γ)[k]? = some g → g.d = some d → k ∈ ZbF o → look ρ d = some g.sv) → ZbK Bs ops (⟨ρ, ZaE (Zda i (rs γ)) ++ (ZaE (ZcK i (rs γ)) ++ B), df⟩ : St) o.guard false)
    (t : ZaF P Bs ops base fs rs df j os gs afts) (hj : i + 1 = j := by rfl) (hd : ∀ γ, (f γ).d = o.dst := by exact fun _ => rfl) (hl : ∀ γ, ZaE (lays i (rs γ)) = ZaE (Zda i (rs γ)) := by exact fun _ => rfl) (hs : ∀ γ, (f γ).sv = .one .und := by exact fun _ => rfl) (hN : ∀ d, o.dst = some d → d < Bs.N := by exact fun d h => by cases h; exact ltB rfl) : ZaF P Bs ops base fs rs df i (o :: os) (fun γ => f γ :: gs γ) (aft :: afts) :=
  ZaF.cons hj hd (.skip fun γ ρ B hb hdn => ⟨h γ ρ B hb hdn, hl γ, hd γ, hs γ, hN⟩) t
theorem tl {fs : List Fact} {ρ : List (Nat × SV1)} {o : Oper} {X : List ZbE} {df : List Nat} (hd : ∀ (k : Nat) (g : Fact) (d : Nat), fs[k]? = some g → g.d = some d → k ∈ ZbF o → look ρ d = some g.sv) (k d : Nat) {sv : SV1} (h : fs[k]? = some ⟨some d, sv⟩ := by rfl) (hk : k ∈ ZbF o := by decide +kernel) : HasO (⟨ρ, X, df⟩ : St) (.tmp d) sv := .tmp (hd k _ d h rfl hk)
theorem lI {G : Prop} {α β : Type} {e : α} {K : α → Option β} {r : β} (h : lt1 e K = some r) (k : ∀ v, e = v → K v = some r → G) : G := k _ rfl h
theorem bI {G : Prop} {α β : Type} {x : Option α} {K : α → Option β} {r : β} (h : Option.bind x K = some r) (k : ∀ v, x = some v → K v = some r → G) : G := match Zaz h with | ⟨v, a, b⟩ => k v a b
theorem jif {c : Operand} {x y : Code} {b : Bool} {α : Type} {p q : Option α} {r : α} (hc : HasO st c (.one (.val (S rB b)))) (h : (if b = true then p else q) = some r) (ht : b = true → p = some r → JC P Bs x st Q) (hf : b = false → q = some r → JC P Bs y st Q) : JC P Bs (.cond c x y) st Q := by
  rcases ZcY h with ⟨hb, h⟩ | ⟨hb, h⟩
  · exact JC.condT hc hb (ht hb h)
  · exact JC.condF hc hb (hf hb h)
theorem jT {d gi dg : Nat} {o : Oper} {b : Bool} (sv : SV1) (ho : o.guard = some (gi, true)) (hg : Zey ops gi = some dg) (hb : look st.ρ dg = some (.one (.val (S rB b)))) (hdst : o.dst = some d) (hs : (b) = true → Zao P Bs o st (setO st (some d) sv)) (h : JL P Bs ops os (st.set d (bif b then sv else .one .und)) Q) (hN : Nat.blt dg Bs.N = true := by rfl) (hd : Nat.blt d Bs.N = true := by rfl) : JL P Bs ops (o :: os) st Q := JL.cnd (by rw [ho]; exact ZbK.isT (ltB hN) hg hb) hdst (ltB hd) hs h
theorem jF {d gi dg : Nat} {o : Oper} {b : Bool} (sv : SV1) (ho : o.guard = some (gi, false)) (hg : Zey ops gi = some dg) (hb : look st.ρ dg = some (.one (.val (S rB b)))) (hdst : o.dst = some d) (hs : (!b) = true → Zao P Bs o st (setO st (some d) sv)) (h : JL P Bs ops os (st.set d (bif !b then sv else .one .und)) Q) (hN : Nat.blt dg Bs.N = true := by rfl) (hd : Nat.blt d Bs.N = true := by rfl) : JL P Bs ops (o :: os) st Q := JL.cnd (by rw [ho]; exact ZbK.isF (ltB hN) hg hb) hdst (ltB hd) hs h
theorem dT {base : List (Nat × SV1)} {fs : Gh → List Fact} {rs : Gh → List RE} {df : List Nat} {i gi : Nat} {o : Oper} {f : Gh → Fact} {gs : Gh → List Fact} {afts : List (List Nat)} (j k d : Nat) (b : Bool) (sv : Gh → SV1) (h : ∀ γ ρ B, ZeZ base ρ → (∀ (k : Nat) (g : Fact) (d : Nat), (fs γ)[k]? = some g → g.d = some d → k ∈ ZbF o → look ρ d = some g.sv) → (b) = true → Zao P Bs o ⟨ρ, B, df⟩ (setO ⟨ρ, B, df⟩ (f γ).d (sv γ)))
    (t : ZaF P Bs ops base fs rs df j os gs afts) (ho : o.guard = some (gi, true) := by rfl) (hg : Zey ops gi = some d := by rfl) (hN : Nat.blt d Bs.N = true := by rfl) (hk : ∀ γ, (fs γ)[k]? = some ⟨some d, .one (.val (S rB b))⟩ := by exact fun _ => rfl) (hdep : k ∈ ZbF o := by decide +kernel)
    (hj : i + 1 = j := by rfl) (hd : ∀ γ, (f γ).d = o.dst := by exact fun _ => rfl) (hf : ∀ γ, (f γ).sv = bif b then sv γ else .one .und := by exact fun _ => rfl) (hdN : ∀ d, o.dst = some d → d < Bs.N := by exact fun d h => by cases h; exact ltB rfl) (hX : ∀ γ, ZaE (Zda i (rs γ)) = [] ∧ ZaE (ZcK i (rs γ)) = [] ∧ ZaE (lays i (rs γ)) = [] := by exact fun _ => ⟨rfl, rfl, rfl⟩) : ZaF P Bs ops base fs rs df i (o :: os) (fun γ => f γ :: gs γ) ([] :: afts) :=
  dC j (b) sv (fun γ ρ B hb hdn => ⟨by rw [ho]; exact ZbK.isT (ltB hN) hg (hdn k _ d (hk γ) rfl hdep), h γ ρ B hb hdn⟩) t hj hd hf hdN hX
theorem dF {base : List (Nat × SV1)} {fs : Gh → List Fact} {rs : Gh → List RE} {df : List Nat} {i gi : Nat} {o : Oper} {f : Gh → Fact} {gs : Gh → List Fact} {afts : List (List Nat)} (j k d : Nat) (b : Bool) (sv : Gh → SV1) (h : ∀ γ ρ B, ZeZ base ρ → (∀ (k : Nat) (g : Fact) (d : Nat), (fs γ)[k]? = some g → g.d = some d → k ∈ ZbF o → look ρ d = some g.sv) → (!b) = true → Zao P Bs o ⟨ρ, B, df⟩ (setO ⟨ρ, B, df⟩ (f γ).d (sv γ)))
    (t : ZaF P Bs ops base fs rs df j os gs afts) (ho : o.guard = some (gi, false) := by rfl) (hg : Zey ops gi = some d := by rfl) (hN : Nat.blt d Bs.N = true := by rfl) (hk : ∀ γ, (fs γ)[k]? = some ⟨some d, .one (.val (S rB b))⟩ := by exact fun _ => rfl) (hdep : k ∈ ZbF o := by decide +kernel)
    (hj : i + 1 = j := by rfl) (hd : ∀ γ, (f γ).d = o.dst := by exact fun _ => rfl) (hf : ∀ γ, (f γ).sv = bif !b then sv γ else .one .und := by exact fun _ => rfl) (hdN : ∀ d, o.dst = some d → d < Bs.N := by exact fun d h => by cases h; exact ltB rfl) (hX : ∀ γ, ZaE (Zda i (rs γ)) = [] ∧ ZaE (ZcK i (rs γ)) = [] ∧ ZaE (lays i (rs γ)) = [] := by exact fun _ => ⟨rfl, rfl, rfl⟩) : ZaF P Bs ops base fs rs df i (o :: os) (fun γ => f γ :: gs γ) ([] :: afts) :=
  dC j (!b) sv (fun γ ρ B hb hdn => ⟨by rw [ho]; exact ZbK.isF (ltB hN) hg (hdn k _ d (hk γ) rfl hdep), h γ ρ B hb hdn⟩) t hj hd hf hdN hX
theorem dA {base : List (Nat × SV1)} {fs : Gh → List Fact} {rs : Gh → List RE} {df : List Nat} {i gi : Nat} {o : Oper} {f : Gh → Fact} {gs : Gh → List Fact} {afts : List (List Nat)} (j k d : Nat) (q b : Bool) (sv : Gh → SV1) (h : ∀ γ ρ B, ZeZ base ρ → (∀ (k : Nat) (g : Fact) (d : Nat), (fs γ)[k]? = some g → g.d = some d → k ∈ ZbF o → look ρ d = some g.sv) → (q && b) = true → Zao P Bs o ⟨ρ, B, df⟩ (setO ⟨ρ, B, df⟩ (f γ).d (sv γ)))
    (t : ZaF P Bs ops base fs rs df j os gs afts) (ho : o.guard = some (gi, true) := by rfl) (hg : Zey ops gi = some d := by rfl) (hN : Nat.blt d Bs.N = true := by rfl) (hk : ∀ γ, (fs γ)[k]? = some ⟨some d, bif q then .one (.val (S rB b)) else .one .und⟩ := by exact fun _ => rfl) (hdep : k ∈ ZbF o := by decide +kernel)
    (hj : i + 1 = j := by rfl) (hd : ∀ γ, (f γ).d = o.dst := by exact fun _ => rfl) (hf : ∀ γ, (f γ).sv = bif q && b then sv γ else .one .und := by exact fun _ => rfl) (hdN : ∀ d, o.dst = some d → d < Bs.N := by exact fun d h => by cases h; exact ltB rfl) (hX : ∀ γ, ZaE (Zda i (rs γ)) = [] ∧ ZaE (ZcK i (rs γ)) = [] ∧ ZaE (lays i (rs γ)) = [] := by exact fun _ => ⟨rfl, rfl, rfl⟩) : ZaF P Bs ops base fs rs df i (o :: os) (fun γ => f γ :: gs γ) ([] :: afts) :=
  dC j (q && b) sv (fun γ ρ B hb hdn => ⟨by rw [ho]; exact ZbK.cT (ltB hN) hg (hdn k _ d (hk γ) rfl hdep), h γ ρ B hb hdn⟩) t hj hd hf hdN hX
theorem dB {base : List (Nat × SV1)} {fs : Gh → List Fact} {rs : Gh → List RE} {df : List Nat} {i gi : Nat} {o : Oper} {f : Gh → Fact} {gs : Gh → List Fact} {afts : List (List Nat)} (j k d : Nat) (q b : Bool) (sv : Gh → SV1) (h : ∀ γ ρ B, ZeZ base ρ → (∀ (k : Nat) (g : Fact) (d : Nat), (fs γ)[k]? = some g → g.d = some d → k ∈ ZbF o → look ρ d = some g.sv) → (q && !b) = true → Zao P Bs o ⟨ρ, B, df⟩ (setO ⟨ρ, B, df⟩ (f γ).d (sv γ)))
    (t : ZaF P Bs ops base fs rs df j os gs afts) (ho : o.guard = some (gi, false) := by rfl) (hg : Zey ops gi = some d := by rfl) (hN : Nat.blt d Bs.N = true := by rfl) (hk : ∀ γ, (fs γ)[k]? = some ⟨some d, bif q then .one (.val (S rB b)) else .one .und⟩ := by exact fun _ => rfl) (hdep : k ∈ ZbF o := by decide +kernel)
    (hj : i + 1 = j := by rfl) (hd : ∀ γ, (f γ).d = o.dst := by exact fun _ => rfl) (hf : ∀ γ, (f γ).sv = bif q && !b then sv γ else .one .und := by exact fun _ => rfl) (hdN : ∀ d, o.dst = some d → d < Bs.N := by exact fun d h => by cases h; exact ltB rfl) (hX : ∀ γ, ZaE (Zda i (rs γ)) = [] ∧ ZaE (ZcK i (rs γ)) = [] ∧ ZaE (lays i (rs γ)) = [] := by exact fun _ => ⟨rfl, rfl, rfl⟩) : ZaF P Bs ops base fs rs df i (o :: os) (fun γ => f γ :: gs γ) ([] :: afts) :=
  dC j (q && !b) sv (fun γ ρ B hb hdn => ⟨by rw [ho]; exact ZbK.cF (ltB hN) hg (hdn k _ d (hk γ) rfl hdep), h γ ρ B hb hdn⟩) t hj hd hf hdN hX
theorem eT {base : List (Nat × SV1)} {fs : Gh → List Fact} {rs : Gh → List RE} {df : List Nat} {i gi : Nat} {o : Oper} {f : Gh → Fact} {gs : Gh → List Fact} {afts : List (List Nat)} (j k d : Nat) (b : Bool) (sv : Gh → SV1) (h : ∀ γ ρ B, ZeZ base ρ → (∀ (k : Nat) (g : Fact) (d : Nat), (fs γ)[k]? = some g → g.d = some d → k ∈ ZbF o → look ρ d = some g.sv) → (b) = true → Zao P Bs o (⟨ρ, ZaE (Zda i (rs γ)) ++ (ZaE (ZcK i (rs γ)) ++ B), df⟩ : St) (setO ⟨ρ, ZaE (lays i (rs γ)) ++ (ZaE (ZcK i (rs γ)) ++ B), df⟩ (f γ).d (sv γ)))
    (t : ZaF P Bs ops base fs rs df j os gs afts) (ho : o.guard = some (gi, true) := by rfl) (hg : Zey ops gi = some d := by rfl) (hN : Nat.blt d Bs.N = true := by rfl) (hk : ∀ γ, (fs γ)[k]? = some ⟨some d, .one (.val (S rB b))⟩ := by exact fun _ => rfl) (hdep : k ∈ ZbF o := by decide +kernel)
    (hj : i + 1 = j := by rfl) (hd : ∀ γ, (f γ).d = o.dst := by exact fun _ => rfl) (hf : ∀ γ, (f γ).sv = bif b then sv γ else .one .und := by exact fun _ => rfl) (hdN : ∀ d, o.dst = some d → d < Bs.N := by exact fun d h => by cases h; exact ltB rfl) (hl : ∀ γ, ZaE (lays i (rs γ)) = ZaE (Zda i (rs γ)) := by exact fun _ => rfl) : ZaF P Bs ops base fs rs df i (o :: os) (fun γ => f γ :: gs γ) ([] :: afts) :=
  ZaF.cons hj hd (.cnd (q := b) (sv := sv) hd hf hdN hl fun γ ρ B hb hdn => ⟨by rw [ho]; exact ZbK.isT (ltB hN) hg (hdn k _ d (hk γ) rfl hdep), h γ ρ B hb hdn⟩) t
theorem eF {base : List (Nat × SV1)} {fs : Gh → List Fact} {rs : Gh → List RE} {df : List Nat} {i gi : Nat} {o : Oper} {f : Gh → Fact} {gs : Gh → List Fact} {afts : List (List Nat)} (j k d : Nat) (b : Bool) (sv : Gh → SV1) (h : ∀ γ ρ B, ZeZ base ρ → (∀ (k : Nat) (g : Fact) (d : Nat), (fs γ)[k]? = some g → g.d = some d → k ∈ ZbF o → look ρ d = some g.sv) → (!b) = true → Zao P Bs o (⟨ρ, ZaE (Zda i (rs γ)) ++ (ZaE (ZcK i (rs γ)) ++ B), df⟩ : St) (setO ⟨ρ, ZaE (lays i (rs γ)) ++ (ZaE (ZcK i (rs γ)) ++ B), df⟩ (f γ).d (sv γ)))
    (t : ZaF P Bs ops base fs rs df j os gs afts) (ho : o.guard = some (gi, false) := by rfl) (hg : Zey ops gi = some d := by rfl) (hN : Nat.blt d Bs.N = true := by rfl) (hk : ∀ γ, (fs γ)[k]? = some ⟨some d, .one (.val (S rB b))⟩ := by exact fun _ => rfl) (hdep : k ∈ ZbF o := by decide +kernel)
    (hj : i + 1 = j := by rfl) (hd : ∀ γ, (f γ).d = o.dst := by exact fun _ => rfl) (hf : ∀ γ, (f γ).sv = bif !b then sv γ else .one .und := by exact fun _ => rfl) (hdN : ∀ d, o.dst = some d → d < Bs.N := by exact fun d h => by cases h; exact ltB rfl) (hl : ∀ γ, ZaE (lays i (rs γ)) = ZaE (Zda i (rs γ)) := by exact fun _ => rfl) : ZaF P Bs ops base fs rs df i (o :: os) (fun γ => f γ :: gs γ) ([] :: afts) :=
  ZaF.cons hj hd (.cnd (q := !b) (sv := sv) hd hf hdN hl fun γ ρ B hb hdn => ⟨by rw [ho]; exact ZbK.isF (ltB hN) hg (hdn k _ d (hk γ) rfl hdep), h γ ρ B hb hdn⟩) t
theorem eA {base : List (Nat × SV1)} {fs : Gh → List Fact} {rs : Gh → List RE} {df : List Nat} {i gi : Nat} {o : Oper} {f : Gh → Fact} {gs : Gh → List Fact} {afts : List (List Nat)} (j k d : Nat) (q b : Bool) (sv : Gh → SV1) (h : ∀ γ ρ B, ZeZ base ρ → (∀ (k : Nat) (g : Fact) (d : Nat), (fs γ)[k]? = some g → g.d = some d → k ∈ ZbF o → look ρ d = some g.sv) → (q && b) = true → Zao P Bs o (⟨ρ, ZaE (Zda i (rs γ)) ++ (ZaE (ZcK i (rs γ)) ++ B), df⟩ : St) (setO ⟨ρ, ZaE (lays i (rs γ)) ++ (ZaE (ZcK i (rs γ)) ++ B), df⟩ (f γ).d (sv γ)))
    (t : ZaF P Bs ops base fs rs df j os gs afts) (ho : o.guard = some (gi, true) := by rfl) (hg : Zey ops gi = some d := by rfl) (hN : Nat.blt d Bs.N = true := by rfl) (hk : ∀ γ, (fs γ)[k]? = some ⟨some d, bif q then .one (.val (S rB b)) else .one .und⟩ := by exact fun _ => rfl) (hdep : k ∈ ZbF o := by decide +kernel)
    (hj : i + 1 = j := by rfl) (hd : ∀ γ, (f γ).d = o.dst := by exact fun _ => rfl) (hf : ∀ γ, (f γ).sv = bif q && b then sv γ else .one .und := by exact fun _ => rfl) (hdN : ∀ d, o.dst = some d → d < Bs.N := by exact fun d h => by cases h; exact ltB rfl) (hl : ∀ γ, ZaE (lays i (rs γ)) = ZaE (Zda i (rs γ)) := by exact fun _ => rfl) : ZaF P Bs ops base fs rs df i (o :: os) (fun γ => f γ :: gs γ) ([] :: afts) :=
  ZaF.cons hj hd (.cnd (q := q && b) (sv := sv) hd hf hdN hl fun γ ρ B hb hdn => ⟨by rw [ho]; exact ZbK.cT (ltB hN) hg (hdn k _ d (hk γ) rfl hdep), h γ ρ B hb hdn⟩) t
theorem eB {base : List (Nat × SV1)} {fs : Gh → List Fact} {rs : Gh → List RE} {df : List Nat} {i gi : Nat} {o : Oper} {f : Gh → Fact} {gs : Gh → List Fact} {afts : List (List Nat)} (j k d : Nat) (q b : Bool) (sv : Gh → SV1) (h : ∀ γ ρ B, ZeZ base ρ → (∀ (k : Nat) (g : Fact) (d : Nat), (fs γ)[k]? = some g → g.d = some d → k ∈ ZbF o → look ρ d = some g.sv) → (q && !b) = true → Zao P Bs o (⟨ρ, ZaE (Zda i (rs γ)) ++ (ZaE (ZcK i (rs γ)) ++ B), df⟩ : St) (setO ⟨ρ, ZaE (lays i (rs γ)) ++ (ZaE (ZcK i (rs γ)) ++ B), df⟩ (f γ).d (sv γ)))
    (t : ZaF P Bs ops base fs rs df j os gs afts) (ho : o.guard = some (gi, false) := by rfl) (hg : Zey ops gi = some d := by rfl) (hN : Nat.blt d Bs.N = true := by rfl) (hk : ∀ γ, (fs γ)[k]? = some ⟨some d, bif q then .one (.val (S rB b)) else .one .und⟩ := by exact fun _ => rfl) (hdep : k ∈ ZbF o := by decide +kernel)
    (hj : i + 1 = j := by rfl) (hd : ∀ γ, (f γ).d = o.dst := by exact fun _ => rfl) (hf : ∀ γ, (f γ).sv = bif q && !b then sv γ else .one .und := by exact fun _ => rfl) (hdN : ∀ d, o.dst = some d → d < Bs.N := by exact fun d h => by cases h; exact ltB rfl) (hl : ∀ γ, ZaE (lays i (rs γ)) = ZaE (Zda i (rs γ)) := by exact fun _ => rfl) : ZaF P Bs ops base fs rs df i (o :: os) (fun γ => f γ :: gs γ) ([] :: afts) :=
  ZaF.cons hj hd (.cnd (q := q && !b) (sv := sv) hd hf hdN hl fun γ ρ B hb hdn => ⟨by rw [ho]; exact ZbK.cF (ltB hN) hg (hdn k _ d (hk γ) rfl hdep), h γ ρ B hb hdn⟩) t
theorem tR {t : Nat} {sv : SV1} (h : look st.ρ t = some sv := by rfl) : HasO st (.tmp t) sv := .tmp h
theorem so {α : Type} {a b : α} (h : some a = some b) : a = b := Option.some.inj h
theorem cs {α : Type} {a b : α} (h : a = b) : some a = some b := congrArg some h
theorem jk {o : Oper} {gi dg : Nat} {pol b : Bool} (ho : o.guard = some (gi, pol)) (hc : b = !pol) (h : JL P Bs ops os (setO st o.dst (.one .und)) Q) (hg : Zey ops gi = some dg := by rfl) (hN : Nat.blt dg Bs.N = true := by rfl) (hb : look st.ρ dg = some (.one (.val (S rB b))) := by rfl) (hd : ∀ d, o.dst = some d → d < Bs.N := by exact fun d h => by cases h; exact ltB rfl) : JL P Bs ops (o :: os) st Q :=
  JL.skip (by rw [ho]; exact ZbK.no hg (ltB hN) hb hc) hd h
theorem kn {base : List (Nat × SV1)} {fs : Gh → List Fact} {rs : Gh → List RE} {df : List Nat} {i : Nat} {o : Oper} {f : Gh → Fact} {gs : Gh → List Fact} {aft : List Nat} {afts : List (List Nat)} {gi : Nat} {pol b : Bool} (j k d : Nat) (ho : o.guard = some (gi, pol)) (hc : b = !pol)
    (t : ZaF P Bs ops base fs rs df j os gs afts) (hg : Zey ops gi = some d := by rfl) (hN : Nat.blt d Bs.N = true := by rfl) (hk : ∀ γ, (fs γ)[k]? = some ⟨some d, .one (.val (S rB b))⟩ := by exact fun _ => rfl) (hdep : k ∈ ZbF o := by decide +kernel)
    (hj : i + 1 = j := by rfl) (hd : ∀ γ, (f γ).d = o.dst := by exact fun _ => rfl) (hl : ∀ γ, ZaE (lays i (rs γ)) = ZaE (Zda i (rs γ)) := by exact fun _ => rfl) (hs : ∀ γ, (f γ).sv = .one .und := by exact fun _ => rfl) (hNo : ∀ d, o.dst = some d → d < Bs.N := by exact fun d h => by cases h; exact ltB rfl) : ZaF P Bs ops base fs rs df i (o :: os) (fun γ => f γ :: gs γ) (aft :: afts) :=
  dK j (fun γ ρ B hb hdn => by rw [ho]; exact .no hg (ltB hN) (hdn k _ d (hk γ) rfl hdep) hc) t hj hd hl hs hNo
theorem dm {base : List (Nat × SV1)} {fs : Gh → List Fact} {rs : Gh → List RE} {df : List Nat} {i d' : Nat} {ty : TypeId} {pos : String} {af : Array Edge} {f : Gh → Fact} {gs : Gh → List Fact} {afts : List (List Nat)} (j k d : Nat)
    (t : ZaF P Bs ops base fs rs df j os gs afts) (hN : Nat.blt d' Bs.N = true := by rfl) (hd : ∀ γ, (f γ).d = some d' := by exact fun _ => rfl) (hk : ∀ γ, (fs γ)[k]? = some ⟨some d, (f γ).sv⟩ := by exact fun _ => rfl) (hdep : k ∈ ZbF (⟨some d', .move (.tmp d), ty, pos, af, none⟩ : Oper) := by decide +kernel)
    (hj : i + 1 = j := by rfl) (hX : ∀ γ, ZaE (Zda i (rs γ)) = [] ∧ ZaE (ZcK i (rs γ)) = [] ∧ ZaE (lays i (rs γ)) = [] := by exact fun _ => ⟨rfl, rfl, rfl⟩) : ZaF P Bs ops base fs rs df i ((⟨some d', .move (.tmp d), ty, pos, af, none⟩ : Oper) :: os) (fun γ => f γ :: gs γ) ([] :: afts) :=
  dS j (fun γ ρ B hb hdn => by rw [hd γ]; exact ZaC (ltB hN) (.tmp (hdn k ⟨some d, (f γ).sv⟩ d (hk γ) rfl hdep))) t hj hd hX rfl
theorem db {base : List (Nat × SV1)} {fs : Gh → List Fact} {rs : Gh → List RE} {df : List Nat} {i d' : Nat} {ty : TypeId} {pos : String} {af : Array Edge} {f : Gh → Fact} {gs : Gh → List Fact} {afts : List (List Nat)} (j d : Nat)
    (t : ZaF P Bs ops base fs rs df j os gs afts) (hN : Nat.blt d' Bs.N = true := by rfl) (hd : ∀ γ, (f γ).d = some d' := by exact fun _ => rfl) (hk : ∀ γ, look base d = some (f γ).sv := by exact fun _ => rfl)
    (hj : i + 1 = j := by rfl) (hX : ∀ γ, ZaE (Zda i (rs γ)) = [] ∧ ZaE (ZcK i (rs γ)) = [] ∧ ZaE (lays i (rs γ)) = [] := by exact fun _ => ⟨rfl, rfl, rfl⟩) : ZaF P Bs ops base fs rs df i ((⟨some d', .move (.tmp d), ty, pos, af, none⟩ : Oper) :: os) (fun γ => f γ :: gs γ) ([] :: afts) :=
  dS j (fun γ ρ B hb hdn => by rw [hd γ]; exact ZaC (ltB hN) (.tmp (hb d _ (hk γ)))) t hj hd hX rfl
theorem jd {fn : Func} {t : Nat} {rest : List ZbE} {X' : Unit → List ZbE} {sv : Unit → SV1} (s : SW) (hr : fn.results = ([.tmp t] : List ResultVar).toArray) (h : look st.ρ t = some (.one s)) (hX : ZgJ st.X [] = some ([], rest)) (hdf : st.df = []) (hX' : [] = X' ()) (hsv : mkR [s] = sv ()) :
    JQ Bs .ret st (bodyPostM (WF none) 0 P fn fun en w' => ∃ g, Back Bs.e0 Bs.w0 Bs.F0 (X' g) (sv g) en w') := JQ.done (js := []) (ss := [s]) () (.inl rfl) (.nil hdf) hr (.cons (.tmp h) .nil) hX hX' hsv
theorem jo {t : Nat} {sv : SV1} {st' : Unit → St} {A B : List ZbE} (hX : ZgJ st.X [] = some (A, B)) (hs : look st.ρ t = some sv) (hst : ⟨[(t, sv)], A, st.df⟩ = st' ()) : JQ Bs .normal st (Exit.then (fun a w => ∃ q, StR Bs (st' q) a w) Q) := JQ.join () (by rw [← hst]; exact Imp.norm (js := []) hX (.cons hs .nil))
def nn (n : Nat) : List (List Nat) := List.replicate n []
def ZmC (l : List Oper) : List Nat := l.filterMap (·.dst)
def Zkg : List Nat → Bool
  | [] => true
  | d :: l => !l.contains d && Zkg l
theorem Zit : ∀ {l : List Nat}, Zkg l = true → l.Nodup
  | [], _ => .nil
  | d :: l, h => by
    simp only [Zkg, Bool.and_eq_true, Bool.not_eq_true', List.contains_eq_mem, decide_eq_false_iff_not] at h
    exact List.nodup_cons.2 ⟨h.1, Zit h.2⟩
def ZoT (l : List Oper) : List Nat → Bool := fun bs => (ZmC l).all fun d => !bs.contains d
theorem JC.anyF {id : Nat} {base : List (Nat × SV1)} {fs : Gh → List Fact} {rs : Gh → List RE} {l : List Oper} {afts : List (List Nat)} {js : List Nat} (hm : P.follows .mixedOrders = true) (hsub : Zdo st.ρ base)
    (hX : ∀ γ, ZgJ st.X js = some (ZaE ((rs γ).filter fun r => r.p.isNone), [])) (hsteps : ZaF P Bs l.toArray base fs rs st.df 0 l fs afts)
    (htopo : (topo l && Zkg (ZmC l)) = true) (hok : ∀ γ, dOk l (rs γ) afts = true) (hin : ∀ γ, inOk l.length (rs γ) = true) (hds : ∀ γ, dsts (fs γ) = ZmC l) (hdis : ZoT l (base.map (·.1)) = true) {ρ' : Gh → List (Nat × SV1)} {X' : Gh → List ZbE}
    (hρ : ∀ γ ρ, ZeZ base ρ → (∀ (k : Nat) (g : Fact) (d : Nat), (fs γ)[k]? = some g → g.d = some d → look ρ d = some g.sv) → Zdo ρ (ρ' γ)) (hX' : ∀ γ, ZaE ((rs γ).filter fun r => r.k.isNone) = X' γ)
    (h : ∀ γ, JQ Bs .normal (⟨ρ' γ, X' γ, st.df⟩ : St) Q) : JC P Bs (.region id l.toArray true) st Q := by
  have h1 := Bool.and_eq_true_iff.1 htopo
  refine JC.anyE (kl := []) (kk := 0) (ds := ZmC l) (bs := base.map (·.1)) hm hsub hX hsteps h1.1 hok rfl hin hds rfl (Zit h1.2) ?_ rfl (fun _ d h => by cases h) (fun γ ρ hb hd => hρ γ ρ (fun t sv ht => hb t sv ht (by simp)) hd) hX' h
  have hdis := List.all_eq_true.1 hdis
  rw [List.all_eq_true]
  intro d hd
  have := hdis d hd
  rw [this]; rfl
end
end Go.Proofs.YtklnihlchhhhlaaGreat.Fw
