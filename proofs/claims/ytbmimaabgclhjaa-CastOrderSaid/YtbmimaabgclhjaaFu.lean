/- Maps: keys, the piece of memory, what the operations do. -/
import Derived.Test.YtbmimaabgclhjaaFr
import Derived.Maps.RangeRun
import Derived.WideKeyRuns
namespace Go.Proofs.Ytbmimaabgclhjaa.Fw
open Go Go.RowKit Go.MapKept
set_option linter.unusedVariables false
set_option linter.unusedSimpArgs false

/-- What a key's type must do. -/
structure KeyT (P : Program) (t : TypeId) {K : Type} (p : K → VP) : Prop where
  inj : ∀ {e e' : Env} {x y : K} {u v : Value}, (p x).p e u → (p y).p e' v → (u = v ↔ x = y)
  check : ∀ {e : Env} {x : K} {u : Value} (em : Bool) (w : World), (p x).p e u → (Instr.checkKey em 10000 t u).run P w = .ok () w
  find : ∀ {e : Env} {x : K} {u : Value} (w : World) (es : List MapEntry), (p x).p e u → (∀ en ∈ es, ∃ e' y, (p y).p e' en.key) →
    ((Instr.findKey t u es).run P w = .ok none w ∧ ∀ en ∈ es, en.key ≠ u) ∨ ∃ j en, (Instr.findKey t u es).run P w = .ok (some (j, en.val)) w ∧ es[j]? = some en ∧ en.key = u
  stays : ∀ {e : Env} {x : K} {u : Value} (w : World), (p x).p e u → (Instr.keyThatStays u u).run P w = .ok u w
section
variable {P : Program} {t kt et : TypeId}
theorem KeyT.scalar {K : Type} {p : K → VP} {d : TypeDesc} (hd : P.underlying t = some d) (hk : ∀ {e x u}, (p x).p e u → IsKey d u) (hi : ∀ {e e' : Env} {x y : K} {u v : Value}, (p x).p e u → (p y).p e' v → (u = v ↔ x = y)) : KeyT P t p where
  inj := hi
  check em w h := run_checkKey hd (hk h) em 9999
  find w es h hes := by
    rcases findNow_spec (hk h) es 0 (fun en hen => let ⟨e', y, hy⟩ := hes en hen; hk hy) with ⟨h1, h2⟩ | ⟨j, en, h1, h2, h3⟩
    · exact .inl ⟨run_findKey hd h1, h2⟩
    · exact .inr ⟨j, en, by rw [Nat.zero_add] at h1; exact run_findKey hd h1, h2, h3⟩
  stays w h := run_keyThatStays (hk h)
theorem KeyT.int {k : IntKind} (hd : P.underlying t = some (.int k)) : KeyT P t (fun x : Int => S (rI k) x) := .scalar hd (fun {e x u} h => by
    obtain rfl : u = .int k x := by simpa [S, rI] using h
    simp [IsKey]) fun {e e' x y u v} h h' => by
    obtain rfl : u = .int k x := by simpa [S, rI] using h
    obtain rfl : v = .int k y := by simpa [S, rI] using h'
    simp
theorem KeyT.u {U : Type} [UK U] (hd : P.underlying t = some (.int (UK.k U))) : KeyT P t (fun x : U => S (rU U) x) := .scalar hd (fun {e x u} h => by
    obtain rfl : u = .int (UK.k U) (UN.toN x) := by simpa [S, rU] using h
    simp [IsKey]) fun {e e' x y u v} h h' => by
    obtain rfl : u = .int (UK.k U) (UN.toN x) := by simpa [S, rU] using h
    obtain rfl : v = .int (UK.k U) (UN.toN y) := by simpa [S, rU] using h'
    constructor
    · intro hh
      simp only [Value.int.injEq, true_and] at hh
      exact UN.inj (by exact_mod_cast hh)
    · rintro rfl; rfl
/-- A reading that hangs on nothing but the value. -/
structure KeyR {T : Type} (r : Rep T) : Prop where
  any : ∀ {e e' : Env} {x : T} {vs : List Value}, r.rel e x vs → r.rel e' x vs
  det : ∀ {e : Env} {x : T} {vs us : List Value}, r.rel e x vs → r.rel e x us → vs = us
  inj : ∀ {e : Env} {x y : T} {vs : List Value}, r.rel e x vs → r.rel e y vs → x = y
  bits : ∀ {e : Env} {x : T} {vs : List Value}, r.rel e x vs → ∀ v ∈ vs, ∀ m, Instr.sameBits m v v = true
theorem KeyR.int {k : IntKind} : KeyR (rI k) := ⟨fun h => h, fun h h' => by
    have h : _ = _ := h; have h' : _ = _ := h'; rw [h, h'], fun {e x y vs} h h' => by
    have h : vs = [.int k x] := h; have h' : vs = [.int k y] := h'; rw [h] at h'; simpa using h', fun {e x vs} h v hv m => by
    have h : vs = [.int k x] := h; subst h; obtain rfl := List.mem_singleton.1 hv; cases m <;> simp [Instr.sameBits]⟩
theorem KeyR.u {U : Type} [UK U] : KeyR (rU U) := ⟨fun h => h, fun h h' => by
    have h : _ = _ := h; have h' : _ = _ := h'; rw [h, h'], fun {e x y vs} h h' => by
    have h : vs = [.int (UK.k U) (UN.toN x)] := h; have h' : vs = [.int (UK.k U) (UN.toN y)] := h'; rw [h] at h'
    simp only [List.cons.injEq, Value.int.injEq, true_and, and_true] at h'
    exact UN.inj (by exact_mod_cast h'), fun {e x vs} h v hv m => by
    have h : vs = [.int (UK.k U) (UN.toN x)] := h; subst h; obtain rfl := List.mem_singleton.1 hv; cases m <;> simp [Instr.sameBits]⟩
theorem KeyR.bool : KeyR rB := ⟨fun h => h, fun h h' => by
    have h : _ = _ := h; have h' : _ = _ := h'; rw [h, h'], fun {e x y vs} h h' => by
    have h : vs = [.bool x] := h; have h' : vs = [.bool y] := h'; rw [h] at h'; simpa using h', fun {e x vs} h v hv m => by
    have h : vs = [.bool x] := h; subst h; obtain rfl := List.mem_singleton.1 hv; cases m <;> simp [Instr.sameBits]⟩
theorem KeyR.unit : KeyR r0 := ⟨fun h => h, fun h h' => by
    have h : _ = _ := h; have h' : _ = _ := h'; rw [h, h'], fun h h' => rfl, fun {e x vs} h v hv m => by
    have h : vs = [] := h; subst h; simp at hv⟩
theorem KeyR.pair {T U : Type} {r : Rep T} {s : Rep U} (hr : KeyR r) (hs : KeyR s) : KeyR (rP r s) := ⟨fun ⟨a, b, h1, h2, h3⟩ => ⟨a, b, h1, hr.any h2, hs.any h3⟩, fun ⟨a, b, h1, h2, h3⟩ ⟨a', b', h1', h2', h3'⟩ => by
    rw [h1, h1', hr.det h2 h2', hs.det h3 h3'], fun {e x y vs} ⟨a, b, h1, h2, h3⟩ ⟨a', b', h1', h2', h3'⟩ => by
    have := List.append_inj (h1.symm.trans h1') (by rw [r.len h2, r.len h2'])
    obtain ⟨rfl, rfl⟩ := this
    exact Prod.ext (hr.inj h2 h2') (hs.inj h3 h3'), fun {e x vs} ⟨a, b, h1, h2, h3⟩ v hv m => by
    subst h1
    exact (List.mem_append.1 hv).elim (fun h => hr.bits h2 v h m) (fun h => hs.bits h3 v h m)⟩
theorem KeyR.map {T U : Type} {f : U → T} {r : Rep T} (hr : KeyR r) (hf : ∀ {x y}, f x = f y → x = y) : KeyR (rM f r) := ⟨fun h => hr.any (show r.rel _ (f _) _ from h), fun h h' => hr.det (show r.rel _ (f _) _ from h) h', fun h h' => hf (hr.inj (show r.rel _ (f _) _ from h) h'), fun h => hr.bits (show r.rel _ (f _) _ from h)⟩

/-- The fields of a struct that is a key. -/
def ChkF (P : Program) (us : List Value) (fs : List Field) : Prop := ∀ f ∈ fs, f.name ≠ "_" ∧ ∃ v, (∀ w, (part f.type us.toArray f.offset).run P w = .ok v w) ∧ ∀ em d w, (Instr.checkKey em (d + 1) f.type v).run P w = .ok () w
theorem run_checkStruct {us : List Value} {fs : Array Field} (hu : P.underlying t = some (.struct fs)) (h : ChkF P us fs.toList) (em : Bool) (w : World) : (Instr.checkKey em 10000 t (.agg us.toArray)).run P w = .ok () w := by
  rw [Instr.checkKey]
  simp only [Sem.run_bind, run_underlying hu, Result.andThen_ok]
  rw [← Array.forIn_toList]
  generalize fs.toList = L at h
  induction L with
  | nil => simp
  | cons f L ih =>
    obtain ⟨hn, v, p1, p2⟩ := h f (by simp)
    simp only [List.forIn_cons, Sem.run_bind, hn, ne_eq, not_false_eq_true, if_true, Result.andThen_ok, p1, p2, Sem.run_pure]
    exact ih (fun y hy => h y (by simp [hy]))
def ChkR (P : Program) (fs : List Field) (off : Nat) {T : Type} (r : Rep T) : Prop := ∀ e x us, r.rel e x (us.drop off) → ChkF P us fs
theorem ChkR.nil {off : Nat} : ChkR P [] off r0 := fun e x us _ f hf => by cases hf
theorem ChkR.cons {off : Nat} {f : Field} {fs : List Field} {T U : Type} {r : Rep T} {s : Rep U} {d : TypeDesc} (hnm : f.name ≠ "_") (ho : f.offset = off) (ht : tyS P f.type = true) (hs : r.sz = 1) (hd : P.underlying f.type = some d) (hk : ∀ {e x u}, (S r x).p e u → IsKey d u) (k : ChkR P fs (off + 1) s) :
    ChkR P (f :: fs) off (rP r s) := fun e x us ⟨a, b, hab, ha, hb⟩ g hg => by
  obtain ⟨k1, k2⟩ := drop_app hab ((r.len ha).trans hs)
  rcases List.mem_cons.1 hg with rfl | hg
  · obtain ⟨u, rfl⟩ := List.length_eq_one_iff.1 ((r.len ha).trans hs)
    exact ⟨hnm, u, fun w => by rw [ho]; exact rPartS (b := true) (vs := []) ht k1, fun em d' w => run_checkKey hd (hk (x := x.1) (e := e) ha) em d'⟩
  · exact k e x.2 us (k2 ▸ hb) g hg
theorem isKeyI {k : IntKind} {e : Env} {x : Int} {u : Value} (h : (S (rI k) x).p e u) : IsKey (.int k) u := by
  obtain rfl : u = .int k x := by simpa [S, rI] using h
  simp [IsKey]
theorem isKeyU {U : Type} [UK U] {e : Env} {x : U} {u : Value} (h : (S (rU U) x).p e u) : IsKey (.int (UK.k U)) u := by
  obtain rfl : u = .int (UK.k U) (UN.toN x) := by simpa [S, rU] using h
  simp [IsKey]
theorem KeyT.struct {n : Nat} {fs : Array Field} {T U : Type} {r : Rep T} {g : U → T} {q : U → U → Bool} (hu : P.underlying t = some (.struct fs)) (hq : EqA P n t (rM g r) q) (hn : n ≤ 10000) (hf : ∀ {x y}, q x y = true ↔ x = y) (hg : ∀ {x y}, g x = g y → x = y) (hr : KeyR r) (hc : ChkR P fs.toList 0 r) : KeyT P t (fun x : U => A (rM g r) x) where
  inj {e e' x y u v} h h' := by
    obtain ⟨us, rfl, h1⟩ := h
    obtain ⟨vs, rfl, h2⟩ := h'
    have h2' := (hr.map hg).any (e' := e) h2
    constructor
    · intro hh
      obtain rfl : us = vs := by simpa using hh
      exact (hr.map hg).inj h1 h2'
    · rintro rfl
      rw [(hr.map hg).det h1 h2']
  check {e x u} em w h := by
    obtain ⟨us, rfl, h1⟩ := h
    exact run_checkStruct hu (hc e (g x) us h1) em w
  find {e x u} w es h hes := by
    rw [run_findKey_eq w (by rw [hu])]
    obtain ⟨us, rfl, h1⟩ := h
    have key : ∀ (es : List MapEntry) (i : Nat), (∀ en ∈ es, ∃ e' y, (A (rM g r) y).p e' en.key) → ((Instr.findAsking t (.agg us.toArray) es i).run P w = .ok none w ∧ ∀ en ∈ es, en.key ≠ .agg us.toArray) ∨ ∃ j en, (Instr.findAsking t (.agg us.toArray) es i).run P w = .ok (some (i + j, en.val)) w ∧ es[j]? = some en ∧ en.key = .agg us.toArray := by
      intro es
      induction es with
      | nil => intro i _; exact .inl ⟨by simp [Instr.findAsking], fun en hen => by cases hen⟩
      | cons en es ih =>
        intro i hall
        obtain ⟨e', y, vs, hk, h2⟩ := hall en (by simp)
        have h2' := (hr.map hg).any (e' := e) h2
        have hrun : (Op.equal t (.agg us.toArray) en.key).run P w = .ok (q x y) w := by
          have := hq (10000 - n) e x y us vs w h1 h2'
          rw [show 10000 - n + n = 10000 by omega] at this
          rw [hk]; exact this
        cases hqq : q x y with
        | true =>
          obtain rfl := hf.1 hqq
          refine .inr ⟨0, en, by simp [Instr.findAsking, hrun, hqq, Result.andThen], rfl, ?_⟩
          rw [hk, (hr.map hg).det h1 h2']
        | false =>
          have hne : en.key ≠ .agg us.toArray := by
            intro hh
            rw [hk] at hh
            obtain rfl : vs = us := by simpa using hh
            obtain rfl := (hr.map hg).inj h1 h2'
            rw [hf.2 rfl] at hqq; cases hqq
          rcases ih (i + 1) (fun z hz => hall z (by simp [hz])) with ⟨k1, k2⟩ | ⟨j, z, k1, k2, k3⟩
          · exact .inl ⟨by simp [Instr.findAsking, hrun, hqq, Result.andThen, k1], fun z hz => (List.mem_cons.1 hz).elim (fun h => h ▸ hne) (fun h => k2 z h)⟩
          · refine .inr ⟨j + 1, z, ?_, by simpa using k2, k3⟩
            simp only [Instr.findAsking, Sem.run_bind, hrun, hqq, Result.andThen_ok, Bool.false_eq_true, if_false, k1]
            rw [show i + 1 + j = i + (j + 1) by omega]
    rcases key es 0 hes with h3 | ⟨j, en, h3, h4, h5⟩
    · exact .inl h3
    · exact .inr ⟨j, en, by rw [Nat.zero_add] at h3; exact h3, h4, h5⟩
  stays {e x u} w h := by
    obtain ⟨us, rfl, h1⟩ := h
    have hb := (hr.map hg).bits h1
    have hs : Instr.sameBits 10000 (.agg us.toArray) (.agg us.toArray) = true := by
      show Instr.sameBits (9999 + 1) (.agg us.toArray) (.agg us.toArray) = true
      simp only [Instr.sameBits, beq_self_eq_true, Bool.true_and, List.all_eq_true]
      intro p hp
      obtain ⟨i, hi, e1⟩ := List.getElem_of_mem hp
      rw [List.getElem_zip] at e1
      rw [← e1]
      exact hb _ (List.getElem_mem _) 9999
    simp [Instr.keyThatStays, hs]
end
end Go.Proofs.Ytbmimaabgclhjaa.Fw
