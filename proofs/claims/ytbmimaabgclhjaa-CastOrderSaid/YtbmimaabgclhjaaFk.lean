/- Arguments as they are read; the row. -/
import Derived.Test.YtbmimaabgclhjaaFj
import Derived.ProofKit
import Derived.OpenShut
import Derived.ShutString
import Derived.ChangeOld
import Derived.SizedLaws
import Derived.Carry
namespace Go.Proofs.Ytbmimaabgclhjaa.Fw
open Go Go.RowKit Go.ChangeShapes Go.WideShapes
set_option linter.unusedVariables false
set_option linter.unusedSimpArgs false

/-- Of the memory in which a call begins nothing turns. -/
def env0 (W : World) : Env := ⟨fun ad => if ad.spot = none then W.cell? ad else none⟩
theorem env0_frz {W : World} : ∀ ad v, (env0 W).mu ad = some v → W.cell? ad = some v := fun ad v h => by
  simp only [env0] at h
  split at h
  · exact h
  · cases h
theorem env0_mu {W : World} {b off : Nat} {cs : List Value} (h : ∀ j u, cs[j]? = some u → W.cell? ⟨b, off + j, none⟩ = some u) : Mu (env0 W) b off cs := fun j u hj => by
  simp only [env0, if_true]
  exact h j u hj

def Okw (P : Program) {H : Type} (t : TypeId) (d : DataW H) : Prop := (d.weights P t).all (· ≤ reachBytes) = true
/-- Whatever is read at a type is of this reading. -/
def Rd (P : Program) (t : TypeId) {T : Type} (r : Rep T) (fit : T → Prop) : Prop :=
  ∀ {H : Type} (enc : TypeId × Value → H) (W : World) (base : Nat) (spare : Nat → Bool) (held : Bool) (fuel : Nat) (cs : List Value) (x : DataW H × List MemPlace),
    DataW.trod enc P W base spare held fuel t cs = some x → Okw P t x.1 → ∃ y, r.rel (env0 W) y cs ∧ fit y
section
variable {P : Program} {t e : TypeId}
theorem Rd.int {k : IntKind} (ht : P.underlying t = some (.int k)) : Rd P t (rI k) (fun y => k.min ≤ y ∧ y ≤ k.max) := by
  intro H enc W base spare held fuel cs x h _
  obtain ⟨n, rfl, _, hw⟩ := DataW.trod_int ht h
  exact ⟨n, rfl, by simpa [Lit.wf] using hw⟩
theorem Rd.u {U : Type} [UK U] (ht : P.underlying t = some (.int (UK.k U))) : Rd P t (rU U) (fun _ => True) := by
  intro H enc W base spare held fuel cs x h _
  obtain ⟨n, rfl, _, hw⟩ := DataW.trod_int ht h
  have hb : (UK.k U).bits = UN.bits U := UK.hbits
  have hs : (UK.k U).signed = false := UK.hsign
  have hw : (UK.k U).min ≤ n ∧ n ≤ (UK.k U).max := by simpa [Lit.wf] using hw
  simp only [IntKind.min, IntKind.max, hs, Bool.false_eq_true, if_false, hb] at hw
  have hp : 0 < 2 ^ UN.bits U := Nat.two_pow_pos _
  have hc : ((2 ^ UN.bits U : Nat) : Int) = (2 : Int) ^ UN.bits U := by norm_cast
  refine ⟨UN.ofN n.toNat, ?_, trivial⟩
  show _ = _
  rw [UN.toN_ofN, Nat.mod_eq_of_lt (by omega), Int.toNat_of_nonneg hw.1]
theorem Rd.bool (ht : P.underlying t = some .bool) : Rd P t rB (fun _ => True) := by
  intro H enc W base spare held fuel cs x h _
  cases fuel with
  | zero => cases h
  | succ f =>
    unfold DataW.trod at h
    rw [ht] at h
    split at h <;> first | (rename_i b _; exact ⟨b, rfl, trivial⟩) | simp_all
theorem Rd.str (ht : P.underlying t = some .string) : Rd P t rS (fun y => y.length ≤ 140737488351232) := by
  intro H enc W base spare held fuel cs x h hw
  cases fuel with
  | zero => cases h
  | succ f =>
    unfold DataW.trod at h
    rw [ht] at h
    split at h <;> (try (simp_all; done))
    rename_i s _
    split at h <;> simp only [Option.some.injEq, reduceCtorEq] at h
    subst h
    refine ⟨s.data.toList, ?_, ?_⟩
    · show _ = _
      rfl
    · have : s.data.toList.length ≤ reachBytes := by simpa [Okw, DataW.weights] using hw
      simpa [reachBytes] using this
theorem mapM_some {α β : Type} {f : α → Option β} : ∀ {l : List α} {ys : List β}, l.mapM f = some ys → ys.length = l.length ∧ ∀ (i : Nat) (a : α), l[i]? = some a → ∃ b, ys[i]? = some b ∧ f a = some b
  | [], ys, h => by simp at h; subst h; exact ⟨rfl, fun i a h => by simp at h⟩
  | a :: l, ys, h => by
    rw [List.mapM_cons] at h
    simp only [Option.bind_eq_bind, Option.bind_eq_some_iff, Option.pure_def, Option.some.injEq] at h
    obtain ⟨b, hb, bs, hbs, rfl⟩ := h
    obtain ⟨h1, h2⟩ := mapM_some hbs
    refine ⟨by simp [h1], fun i a' ha => ?_⟩
    obtain _ | i := i
    · simp at ha; subst ha; exact ⟨b, rfl, hb⟩
    · exact h2 i a' (by simpa using ha)
theorem weightsAll_mem {H : Type} {e : TypeId} : ∀ {l : List (DataW H)}, (DataW.weightsAll P e l).all (· ≤ reachBytes) = true → ∀ d ∈ l, Okw P e d
  | [], _, d, hd => by cases hd
  | a :: l, h, d, hd => by
    simp only [DataW.weightsAll, List.all_append, Bool.and_eq_true] at h
    rcases List.mem_cons.1 hd with rfl | hd
    · exact h.1
    · exact weightsAll_mem h.2 d hd
theorem choose_list {T : Type} {n : Nat} {p : Nat → T → Prop} (h : ∀ i, i < n → ∃ y, p i y) : ∃ ys : List T, ys.length = n ∧ ∀ i (hi : i < ys.length), p i ys[i] := by
  induction n with
  | zero => exact ⟨[], rfl, fun i hi => by simp at hi⟩
  | succ n ih =>
    obtain ⟨ys, h1, h2⟩ := ih fun i hi => h i (by omega)
    obtain ⟨y, hy⟩ := h n (by omega)
    refine ⟨ys ++ [y], by simp [h1], fun i hi => ?_⟩
    by_cases hin : i < ys.length
    · rw [List.getElem_append_left hin]; exact h2 i hin
    · have : i = n := by simp at hi; omega
      subst this
      rw [List.getElem_append_right (by omega)]
      simpa [h1] using hy
theorem cells_some {W : World} {base n : Nat} {a : Addr} {cs : List Value} (h : W.cells? base a n = some cs) : cs.length = n ∧ ∀ j u, cs[j]? = some u → W.cell? (a.add j) = some u := by
  unfold World.cells? at h
  split at h
  · obtain ⟨h1, h2⟩ := mapM_some h
    simp at h1
    refine ⟨h1, fun j u hj => ?_⟩
    have hjn : j < n := by rw [← h1]; exact (List.getElem?_eq_some_iff.1 hj).1
    obtain ⟨b, hb, hf⟩ := h2 j j (by simp [hjn])
    rw [hj] at hb; cases hb
    exact hf
  · cases h
theorem Rd.slice {T : Type} {r : Rep T} {fit : T → Prop} {B : Nat} (hu : P.underlying t = some (.slice e)) (he : Rd P e r fit) (hc : P.cellsOf e = r.sz) (hs0 : 0 < r.sz) (hB : P.bytesOf e = B) :
    Rd P t (rL r) (fun ys => ys.length * B ≤ 140737488351232 ∧ ∀ y ∈ ys, fit y) := by
  intro H enc W base spare held fuel cs x h hw
  cases fuel with
  | zero => cases h
  | succ f =>
    unfold DataW.trod at h
    rw [hu] at h
    split at h <;> simp_all only [Option.some.injEq, reduceCtorEq, TypeDesc.slice.injEq]
    · subst h
      exact ⟨[], Zr.list r _, by simp⟩
    · rename_i a len cap hue
      subst hue
      split at h
      · rename_i hcond
        simp only [Option.bind_eq_some_iff, Option.map_eq_some_iff] at h
        obtain ⟨elems, hel, rest, _, rfl⟩ := h
        obtain ⟨h1, h2⟩ := mapM_some hel
        simp only [List.length_range] at h1
        have hw' : ((elems.length + rest.length) * P.bytesOf e) ≤ reachBytes ∧ (DataW.weightsAll P e (elems.map (·.1))).all (· ≤ reachBytes) = true := by
          simp only [Okw, DataW.weights, hu, List.all_cons, List.all_append, Bool.and_eq_true, List.length_map, decide_eq_true_eq] at hw
          exact ⟨hw.1, hw.2.1⟩
        have hel' : ∀ i, i < len → ∃ y, ((∃ cs, r.rel (env0 W) y cs ∧ ∀ j u, cs[j]? = some u → W.cell? ((a.add (i * r.sz)).add j) = some u) ∧ fit y) := fun i hi => by
          obtain ⟨xx, hxx, hf⟩ := h2 i i (by simp [hi])
          simp only [hc, Option.bind_eq_some_iff] at hf
          obtain ⟨cs, hcs, htr⟩ := hf
          obtain ⟨h3, h4⟩ := cells_some hcs
          obtain ⟨y, hy, hfit⟩ := he enc W base spare held f cs xx htr (weightsAll_mem hw'.2 xx.1 (List.mem_map.2 ⟨xx, List.mem_of_getElem? hxx, rfl⟩))
          exact ⟨y, ⟨cs, hy, h4⟩, hfit⟩
        obtain ⟨ys, hy1, hy2⟩ := choose_list hel'
        refine ⟨ys, ⟨_, rfl, some a, cap, by rw [hy1], by omega, (fun h => by cases h), fun hpos => ?_⟩, ?_, fun y hy => ?_⟩
        · obtain ⟨ab, ao, sp⟩ := a
          have hsp : sp = none := by
            obtain ⟨y, ⟨cs, hcs, hcell⟩, _⟩ := hel' 0 (by omega)
            have hl := r.len hcs
            have hc0 := hcell 0 (cs[0]'(by omega)) (List.getElem?_eq_getElem _)
            simp only [Nat.zero_mul, Addr.add, if_true] at hc0
            unfold World.cell? at hc0
            split at hc0
            · split at hc0
              · cases hc0
              · rename_i hs; simpa using hs
            · cases hc0
          subst hsp
          refine ⟨ab, ao, rfl, fun i hi => ?_⟩
          obtain ⟨⟨cs, h5, h6⟩, _⟩ := hy2 i hi
          exact ⟨cs, h5, env0_mu fun j u hj => by have := h6 j u hj; rwa [add_none, add_none] at this⟩
        · have := hw'.1
          rw [hB] at this
          rw [hy1, ← h1]
          exact Nat.le_trans (Nat.mul_le_mul_right _ (Nat.le_add_right _ _)) this
        · obtain ⟨i, hi, rfl⟩ := List.mem_iff_getElem.1 hy
          exact (hy2 i hi).2
      · cases h
theorem Rd.arr {T : Type} {r : Rep T} {fit : T → Prop} {n : Nat} [Inhabited T] (hu : P.underlying t = some (.array n e)) (he : Rd P e r fit) (hc : P.cellsOf e = r.sz) (hn : P.cellsOf t = n * r.sz) : Rd P t (rV n r) (fun v => ∀ i (h : i < n), fit v[i]) := by
  intro H enc W base spare held fuel cs x h hw
  cases fuel with
  | zero => cases h
  | succ f =>
    unfold DataW.trod at h
    rw [hu] at h
    dsimp only at h
    split at h
    · rename_i hlen
      simp only [Option.map_eq_some_iff] at h
      obtain ⟨xs, hxs, rfl⟩ := h
      obtain ⟨h1, h2⟩ := mapM_some hxs
      simp only [List.length_range] at h1
      have hw' : (DataW.weightsAll P e (xs.map (·.1))).all (· ≤ reachBytes) = true := by simpa only [Okw, DataW.weights, hu] using hw
      have hel : ∀ i, i < n → ∃ y, (r.rel (env0 W) y ((cs.drop (i * r.sz)).take r.sz)) ∧ fit y := fun i hi => by
        obtain ⟨xx, hxx, hf⟩ := h2 i i (by simp [hi])
        rw [hc] at hf
        exact he enc W base spare held f _ xx hf (weightsAll_mem hw' xx.1 (List.mem_map.2 ⟨xx, List.mem_of_getElem? hxx, rfl⟩))
      obtain ⟨ys, hy1, hy2⟩ := choose_list hel
      let v : Vector T n := ⟨ys.toArray, by simp [hy1]⟩
      have hv : ∀ i (h : i < n), v[i] = ys[i]'(by omega) := fun i h => by simp [v]
      refine ⟨v, ⟨by rw [hlen, hn], ?_, fun i hi => by rw [hv i hi]; exact (hy2 i (by omega)).1⟩, fun i hi => by rw [hv i hi]; exact (hy2 i (by omega)).2⟩
      have hfl := flat_one (r := r) (e := env0 W) (xs := ys) (fl := cs) (by rw [hlen, hn, hy1]) (fun i hi => (hy2 i hi).1)
      exact hfl
    · cases h
/-- A struct's fields, one behind the other. -/
def RdL (P : Program) (fs : List Field) (off : Nat) {T : Type} (r : Rep T) (fit : T → Prop) : Prop :=
  ∀ {H : Type} (enc : TypeId × Value → H) (W : World) (base : Nat) (spare : Nat → Bool) (held : Bool) (fuel : Nat) (cs : List Value) (xs : List (DataW H × List MemPlace)),
    (fs.mapM fun f => DataW.trod enc P W base spare held fuel f.type ((cs.drop f.offset).take (P.cellsOf f.type))) = some xs → (DataW.weightsEach P (fs.map (·.type)) (xs.map (·.1))).all (· ≤ reachBytes) = true → cs.length = off + r.sz → ∃ y, r.rel (env0 W) y (cs.drop off) ∧ fit y
theorem RdL.nil {off : Nat} : RdL P [] off r0 (fun _ => True) := by
  intro H enc W base spare held fuel cs xs h _ hl
  exact ⟨(), List.drop_eq_nil_of_le (by simp [r0] at hl; omega), trivial⟩
theorem RdL.cons {T U : Type} {r : Rep T} {s : Rep U} {fit : T → Prop} {fit' : U → Prop} {f : Field} {fs : List Field} {off : Nat} (ho : f.offset = off) (hc : P.cellsOf f.type = r.sz) (h1 : Rd P f.type r fit) (h2 : RdL P fs (off + r.sz) s fit') : RdL P (f :: fs) off (rP r s) (fun y => fit y.1 ∧ fit' y.2) := by
  intro H enc W base spare held fuel cs xs h hw hl
  rw [List.mapM_cons] at h
  simp only [Option.bind_eq_bind, Option.bind_eq_some_iff, Option.pure_def, Option.some.injEq] at h
  obtain ⟨x, hx, xs', hxs', rfl⟩ := h
  simp only [List.map_cons, DataW.weightsEach, List.all_append, Bool.and_eq_true] at hw
  rw [ho, hc] at hx
  obtain ⟨y, hy, hfy⟩ := h1 enc W base spare held fuel _ x hx hw.1
  obtain ⟨z, hz, hfz⟩ := h2 enc W base spare held fuel cs xs' hxs' hw.2 (by simp [rP] at hl; omega)
  refine ⟨(y, z), ⟨_, _, ?_, hy, hz⟩, hfy, hfz⟩
  rw [← List.drop_drop, List.take_append_drop]
theorem Rd.struct {T U : Type} {r : Rep T} {fit : T → Prop} {fs : Array Field} {f : U → T} (g : T → U) (hfg : ∀ y, f (g y) = y) (hu : P.underlying t = some (.struct fs)) (hc : P.cellsOf t = r.sz) (h : RdL P fs.toList 0 r fit) : Rd P t (rM f r) (fun y => fit (f y)) := by
  intro H enc W base spare held fuel cs x hx hw
  cases fuel with
  | zero => cases hx
  | succ fu =>
    unfold DataW.trod at hx
    rw [hu] at hx
    dsimp only at hx
    split at hx
    · rename_i hlen
      simp only [Option.map_eq_some_iff] at hx
      obtain ⟨xs, hxs, rfl⟩ := hx
      have hw' : (DataW.weightsEach P (fs.toList.map (·.type)) (xs.map (·.1))).all (· ≤ reachBytes) = true := by simpa only [Okw, DataW.weights, hu] using hw
      obtain ⟨y, hy, hfy⟩ := h enc W base spare held fu cs xs hxs hw' (by omega)
      exact ⟨g y, by show r.rel _ (f (g y)) _; rw [hfg]; simpa using hy, by show fit (f (g y)); rw [hfg]; exact hfy⟩
    · cases hx

/-! ### arguments -/
def scalarT (P : Program) (t : TypeId) : Bool := match P.underlying t with | some .bool => true | some (.int _) => true | some .string => true | some (.slice _) => true | _ => false
theorem okWide_cells {W : World} {b0 : Nat} {v : Value} (hs : scalarT P t = true) (hval : Value.okWide P W .any b0 t v) : v.cells.toList = [v] := by
  unfold scalarT at hs
  split at hs
  · rename_i h; obtain ⟨b, rfl⟩ := okWide_bool h hval; rfl
  · rename_i h; obtain ⟨b, rfl⟩ := okWide_int h hval; rfl
  · rename_i h; obtain ⟨b, rfl⟩ := okWide_string h hval; rfl
  · rename_i h; obtain ⟨a, b, c, rfl⟩ := okWide_slice h hval; rfl
  · cases hs
theorem argS {T : Type} {r : Rep T} {fit : T → Prop} {H : Type} {enc : TypeId × Value → H} {W : World} {base b0 : Nat} {spare : Nat → Bool} {held : Bool} {v : Value} {d : DataW H} {ps : List MemPlace} (hrd : Rd P t r fit) (hs : scalarT P t = true) (hval : Value.okWide P W .any b0 t v)
    (hd : DataW.Trod enc P W base spare held t v d ps) (hw : Okw P t d) : ∃ y, (S r y).p (env0 W) v ∧ fit y := by
  obtain ⟨fuel, hf⟩ := hd
  obtain ⟨y, hy, hfit⟩ := hrd enc W base spare held fuel _ _ hf hw
  rw [okWide_cells hs hval] at hy
  exact ⟨y, hy, hfit⟩
theorem weightsEach_cons {H : Type} {ts : List TypeId} {d : DataW H} {ds : List (DataW H)} (h : (DataW.weightsEach P (t :: ts) (d :: ds)).all (· ≤ reachBytes) = true) : Okw P t d ∧ (DataW.weightsEach P ts ds).all (· ≤ reachBytes) = true := by
  simp only [DataW.weightsEach, List.all_append, Bool.and_eq_true] at h
  exact h
/-- The law's call. -/
theorem Sim.law {f : FuncId} {args : List VP} {γ : Type} (h : Sim P f args [] (fun _ : γ => []) (fun _ => .one (.val (S rB true)))) {W : World} {vs : List Value} (ha : ArgsR (env0 W) args vs) : Calls P f vs.toArray W fun e W' => e = .returned (.bool true) ∧ Below W.heap.size W W' := by
  refine (callsIn_wide (n := 0)).1 (CallsIn.mono (F := Fence.wide) (h (env0 W) W vs env0_frz (fun c hc => by cases hc) List.Pairwise.nil ha) fun e W' ⟨q, hb⟩ => ?_)
  obtain ⟨e', v, h1, h2, h3, h4, _, _, _, _, h5⟩ := hb
  have hv : v = .bool true := by simpa [SVR, SWR, S, rB] using h5
  subst hv
  exact ⟨h1, (⟨h4.os, h4.tape, h4.output, h4.size, fun b hb => h4.old b hb fun ⟨c, hc, _⟩ => by cases hc⟩ : Kept W W').below⟩
end
end Go.Proofs.Ytbmimaabgclhjaa.Fw
