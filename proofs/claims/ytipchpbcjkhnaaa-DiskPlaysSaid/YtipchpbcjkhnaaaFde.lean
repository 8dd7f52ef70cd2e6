/- Maps of pointers: each entry has a variable of its own; they are told as maps of what lies there. -/
import Derived.Test.YtipchpbcjkhnaaaFdc
import Derived.Test.YtipchpbcjkhnaaaFdq
namespace Go.Proofs.Ytipchpbcjkhnaaa.Fw
open Go Go.RowKit Go.MapKept
set_option linter.unusedVariables false
set_option linter.unusedSimpArgs false

theorem HasO.cx {st : St} {X : List ZaQ} {x : Operand} {sv : SV1} (h : HasO st x sv) : HasO { st with X := X } x sv := by
  induction h with
  | tmp h => exact .tmp h
  | const h => exact .const h
  | func => exact .func
  | global => exact .global
  | wk _ k ih => exact .wk ih k
section
variable {P : Program} {Bs : Base} {st st1 st' : St} {o : Oper}
theorem Zag.conj {st1' : St} (i : Imp Bs st st1) (h : Zag P Bs o st1 st1') (k : Imp Bs st1' st') : Zag P Bs o st st' := fun a w hst K Q hK => h a w (i a w hst) K Q fun a' w' h' => hK a' w' (k a' w' h')
theorem OpX.conj {γ : Type} {st1' st' : γ → St} (i : Imp Bs st st1) (h : OpX P Bs o st1 st1') (k : ∀ q, Imp Bs (st1' q) (st' q)) : OpX P Bs o st st' := fun a w hst K Q hK => h a w (i a w hst) K Q fun g a' w' h' => hK g a' w' (k g a' w' h')
end
section
variable {K V U : Type} [DecidableEq K]
theorem ZeL {k : K} : ∀ {l : List (K × V)} {i : Nat}, mpos k l = some i → ∃ v, l[i]? = some (k, v)
  | [], i, h => by cases h
  | p :: l, i, h => by
    by_cases hk : k = p.1
    · simp only [mpos, hk, if_true, Option.some.injEq] at h
      subst h; exact ⟨p.2, by rw [hk]; rfl⟩
    · simp only [mpos, hk, if_false, Option.map_eq_some_iff] at h
      obtain ⟨j, hj, rfl⟩ := h
      obtain ⟨v, hv⟩ := ZeL hj
      exact ⟨v, by simpa using hv⟩
theorem Zfw {f : K → V → U} {k : K} : ∀ {l : List (K × V)}, mpos k (l.map fun p => (p.1, f p.1 p.2)) = mpos k l
  | [] => rfl
  | p :: l => by
    by_cases hk : k = p.1
    · simp [mpos, hk]
    · simp [mpos, hk, Zfw (l := l)]
theorem ZjS {f : K → V → U} {k : K} {l : List (K × V)} : mget k (l.map fun p => (p.1, f p.1 p.2)) = (mget k l).map (f k) := by
  unfold mget
  rw [Zfw]
  cases h : mpos k l with
  | none => rfl
  | some i => obtain ⟨v, hv⟩ := ZeL h; simp [hv]
theorem Zfa {A B : Type} (f : A → B) : ∀ (l : List A) (i : Nat), (l.map f).eraseIdx i = (l.eraseIdx i).map f
  | [], _ => rfl
  | _ :: _, 0 => rfl
  | a :: l, i + 1 => by simp [Zfa f l i]
theorem Zh5 {f : K → V → U} {k : K} {l : List (K × V)} : mdel k (l.map fun p => (p.1, f p.1 p.2)) = (mdel k l).map fun p => (p.1, f p.1 p.2) := by
  unfold mdel
  rw [Zfw]
  cases h : mpos k l with
  | none => rfl
  | some i => exact Zfa _ _ _
theorem ZfB {k : K} {v : V} {l : List (K × V)} (h : mget k l = some v) : ∃ i, mpos k l = some i ∧ l[i]? = some (k, v) := by
  unfold mget at h
  cases hp : mpos k l with
  | none => rw [hp] at h; cases h
  | some i =>
    obtain ⟨u, hu⟩ := ZeL hp
    rw [hp] at h; simp [hu] at h
    exact ⟨i, rfl, by rw [hu, h]⟩
end
def ZeX (c d : ZaQ) : ZaQ where
  foot b := c.foot b ∨ d.foot b
  R e w := c.R e w ∧ d.R e w ∧ Dj c d
  lt := fun h b hb => hb.elim (c.lt h.1 b) (d.lt h.2.1 b)
  kept := fun h he hmu hk => ⟨c.kept h.1 he (fun ad v hm hf => hmu ad v hm (.inl hf)) (fun b hb => hk b (.inl hb)), d.kept h.2.1 he (fun ad v hm hf => hmu ad v hm (.inr hf)) (fun b hb => hk b (.inr hb)), h.2.2⟩
def ZbB {T : Type} (r : Rep T) (l : List (Nat × T)) : ZaQ where
  foot b := b ∈ l.map Prod.fst
  R e w := (∀ p ∈ l, (cvar p.1 r p.2).R e w) ∧ (l.map Prod.fst).Nodup
  lt := fun h b hb => by
    obtain ⟨p, hp, rfl⟩ := List.mem_map.1 hb
    exact (cvar p.1 r p.2).lt (h.1 p hp) p.1 rfl
  kept := fun h he hmu hk => ⟨fun p hp => (cvar p.1 r p.2).kept (h.1 p hp) he (fun ad v hm hf => hmu ad v hm (by rw [show ad.block = p.1 from hf]; exact List.mem_map_of_mem hp)) (fun b hb => hk b (by rw [show b = p.1 from hb]; exact List.mem_map_of_mem hp)), h.2⟩
section
variable {P : Program} {Bs : Base} {st : St}
theorem Imp.unpair {c d : ZaQ} {j : Nat} (hX : st.X[j]? = some (ZeX c d)) : Imp Bs st { st with X := c :: d :: st.X.eraseIdx j } := fun a w ⟨e, h⟩ => by
  have hc := h.xs _ (List.mem_of_getElem? hX)
  refine ⟨e, h.turn (A := [ZeX c d]) (B := st.X.eraseIdx j) (C := [c, d]) (Zer hX) (Env.le.refl e) (fun ad v hm => .inl hm) ⟨rfl, rfl, rfl, Nat.le_refl _, fun _ _ _ => rfl⟩ h.frz ?_ ?_ ?_⟩
  · intro x hx
    rcases List.mem_cons.1 hx with rfl | hx
    · exact hc.1
    · rw [List.mem_singleton.1 hx]; exact hc.2.1
  · exact List.pairwise_cons.2 ⟨fun x hx => by rw [List.mem_singleton.1 hx]; exact hc.2.2, List.pairwise_singleton _ _⟩
  · intro x hx b hb
    rcases List.mem_cons.1 hx with rfl | hx
    · exact .inl ⟨_, List.mem_singleton.2 rfl, .inl hb⟩
    · rw [List.mem_singleton.1 hx] at hb; exact .inl ⟨_, List.mem_singleton.2 rfl, .inr hb⟩
theorem Imp.join2 {c d f : ZaQ} {Y : List ZaQ} (hX : st.X = c :: d :: Y) (hR : ∀ e w, c.R e w → d.R e w → Dj c d → f.R e w) (hf : ∀ b, f.foot b → c.foot b ∨ d.foot b) : Imp Bs st { st with X := f :: Y } := fun a w ⟨e, h⟩ => by
  have hd := h.dj
  rw [hX] at hd
  have hd := (List.pairwise_cons.1 hd).1 d (List.mem_cons_self ..)
  have h1 := h.xs c (by rw [hX]; exact List.mem_cons_self ..)
  have h2 := h.xs d (by rw [hX]; exact List.mem_cons_of_mem _ (List.mem_cons_self ..))
  refine ⟨e, h.turn (A := [c, d]) (B := Y) (C := [f]) (by rw [hX]; exact List.Perm.refl _) (Env.le.refl e) (fun ad v hm => .inl hm) ⟨rfl, rfl, rfl, Nat.le_refl _, fun _ _ _ => rfl⟩ h.frz ?_ (List.pairwise_singleton _ _) ?_⟩
  · intro x hx; rw [List.mem_singleton.1 hx]; exact hR e w h1 h2 hd
  · intro x hx b hb
    rw [List.mem_singleton.1 hx] at hb
    exact .inl ((hf b hb).elim (fun h => ⟨c, List.mem_cons_self .., h⟩) (fun h => ⟨d, List.mem_cons_of_mem _ (List.mem_cons_self ..), h⟩))
theorem Imp.split2 {c d f : ZaQ} {j : Nat} (hX : st.X[j]? = some f) (hR : ∀ e w, f.R e w → c.R e w ∧ d.R e w ∧ Dj c d) (hf : ∀ b, c.foot b ∨ d.foot b → f.foot b) : Imp Bs st { st with X := c :: d :: st.X.eraseIdx j } := fun a w ⟨e, h⟩ => by
  have hc := hR e w (h.xs _ (List.mem_of_getElem? hX))
  refine ⟨e, h.turn (A := [f]) (B := st.X.eraseIdx j) (C := [c, d]) (Zer hX) (Env.le.refl e) (fun ad v hm => .inl hm) ⟨rfl, rfl, rfl, Nat.le_refl _, fun _ _ _ => rfl⟩ h.frz ?_ ?_ ?_⟩
  · intro x hx
    rcases List.mem_cons.1 hx with rfl | hx
    · exact hc.1
    · rw [List.mem_singleton.1 hx]; exact hc.2.1
  · exact List.pairwise_cons.2 ⟨fun x hx => by rw [List.mem_singleton.1 hx]; exact hc.2.2, List.pairwise_singleton _ _⟩
  · intro x hx b hb
    rcases List.mem_cons.1 hx with rfl | hx
    · exact .inl ⟨_, List.mem_singleton.2 rfl, hf b (.inl hb)⟩
    · rw [List.mem_singleton.1 hx] at hb; exact .inl ⟨_, List.mem_singleton.2 rfl, hf b (.inr hb)⟩
theorem Imp.xset {c d : ZaQ} {j : Nat} (hX : st.X[j]? = some c) : Imp Bs { st with X := d :: st.X.eraseIdx j } { st with X := st.X.set j d } := fun a w ⟨e, h⟩ => ⟨e, h.perm (Zfx hX)⟩
end
section
variable {K T : Type}
def qk (β : K → Nat) (l : List (K × T)) : List (K × Option Nat) := l.map fun p => (p.1, some (β p.1))
def qa (β : K → Nat) (l : List (K × T)) : List (Nat × T) := l.map fun p => (β p.1, p.2)
def cqm (ob : Option Nat) (pk : K → VP) (r : Rep T) (β : K → Nat) (x : Option (List (K × T))) : ZaQ := ZeX (cmap ob pk PTO (x.map (qk β))) (ZbB r (qa β (x.getD [])))
def cqmI (ob : Option Nat) (rr : Nat) (pk : K → VP) (r : Rep T) (β : K → Nat) (x : Option (List (K × T))) (rem : List (K × T)) (cur : Option (K × T)) : ZaQ := ZeX (Zdr ob rr pk PTO (x.map (qk β)) (qk β rem) (cur.map fun p => (p.1, some (β p.1)))) (ZbB r (qa β (x.getD [])))
def updF [DecidableEq K] (β : K → Nat) (k : K) (b : Nat) : K → Nat := fun x => if x = k then b else β x
theorem Zju {β : K → Nat} {x : Option (List (K × T))} : (x.map (qk β)).getD [] = qk β (x.getD []) := by cases x <;> rfl
theorem ZdU {r : Rep T} {l m : List (Nat × T)} (hp : l.Perm m) {e : Env} {w : World} (h : (ZbB r l).R e w) : (ZbB r m).R e w := ⟨fun p hpm => h.1 p (hp.mem_iff.2 hpm), (hp.map Prod.fst).nodup h.2⟩
theorem Zb3 {r : Rep T} {l m : List (Nat × T)} (hp : l.Perm m) {b : Nat} : (ZbB r l).foot b ↔ (ZbB r m).foot b := (hp.map Prod.fst).mem_iff
theorem Zeo {r : Rep T} {b : Nat} {v : T} {l : List (Nat × T)} {e : Env} {w : World} : (ZbB r ((b, v) :: l)).R e w ↔ (cvar b r v).R e w ∧ (ZbB r l).R e w ∧ Dj (cvar b r v) (ZbB r l) := by
  constructor
  · intro h
    have hn := List.nodup_cons.1 h.2
    exact ⟨h.1 _ (List.mem_cons_self ..), ⟨fun p hp => h.1 p (List.mem_cons_of_mem _ hp), hn.2⟩, fun c hc hd => hn.1 (by rw [show c = b from hc] at hd; exact hd)⟩
  · rintro ⟨h1, h2, h3⟩
    refine ⟨fun p hp => ?_, List.nodup_cons.2 ⟨fun hm => h3 b rfl hm, h2.2⟩⟩
    rcases List.mem_cons.1 hp with rfl | hp
    · exact h1
    · exact h2.1 p hp
theorem Zb0 {r : Rep T} {b : Nat} {v : T} {l : List (Nat × T)} {c : Nat} : (ZbB r ((b, v) :: l)).foot c ↔ (cvar b r v).foot c ∨ (ZbB r l).foot c := by
  show c ∈ b :: l.map Prod.fst ↔ c = b ∨ c ∈ l.map Prod.fst
  exact List.mem_cons
end
section
variable {K T : Type} [DecidableEq K]
theorem Zj0 {x : Option (List (K × T))} {k : K} {u : T} (h : ZbF x k = some u) : mget k (x.getD []) = some u := by
  cases x with
  | none => cases h
  | some l => exact h
theorem Zg1 {k : K} {u : T} {l : List (K × T)} (h : mget k l = some u) : l.Perm ((k, u) :: mdel k l) := by
  obtain ⟨i, h1, h2⟩ := ZfB h
  unfold mdel
  rw [h1]
  exact (Zc4 h2).symm
theorem ZgZ {k : K} {u v : T} {l : List (K × T)} (h : mget k l = some u) : (mput k v l).Perm ((k, v) :: mdel k l) := by
  obtain ⟨i, h1, h2⟩ := ZfB h
  unfold mput mdel
  rw [h1]
  have hi : i < l.length := (List.getElem?_eq_some_iff.1 h2).1
  have := Zc4 (l := l.set i (k, v)) (i := i) (x := (k, v)) (by rw [List.getElem?_set_self hi])
  rw [Zf2] at this
  exact this.symm
theorem ZiZ {k : K} {v : T} {l : List (K × T)} (h : mget k l = none) : mput k v l = l ++ [(k, v)] := by
  unfold mget at h
  unfold mput
  cases hp : mpos k l with
  | none => rfl
  | some i => obtain ⟨u, hu⟩ := ZeL hp; rw [hp] at h; simp [hu] at h
theorem ZiV {k : K} {l : List (K × T)} (h : mget k l = none) : mdel k l = l := by
  unfold mget at h
  unfold mdel
  cases hp : mpos k l with
  | none => rfl
  | some i => obtain ⟨u, hu⟩ := ZeL hp; rw [hp] at h; simp [hu] at h
theorem mput_keys {β : K → Nat} {k : K} {u v : T} {l : List (K × T)} (h : mget k l = some u) : qk β (mput k v l) = qk β l := by
  obtain ⟨i, h1, h2⟩ := ZfB h
  unfold mput qk
  rw [h1]
  simp only
  rw [List.map_set]
  apply List.ext_getElem?
  intro j
  by_cases hij : i = j
  · subst hij
    rw [List.getElem?_set_self (by rw [List.length_map]; exact (List.getElem?_eq_some_iff.1 h2).1), List.getElem?_map, h2]
    rfl
  · rw [List.getElem?_set_ne hij]
theorem Zjj {k : K} {u : T} {l : List (K × T)} (h : mget k l = some u) : mput k u l = l := by
  obtain ⟨i, h1, h2⟩ := ZfB h
  unfold mput
  rw [h1]
  apply List.ext_getElem?
  intro j
  by_cases hij : i = j
  · subst hij
    simp only
    rw [List.getElem?_set_self (List.getElem?_eq_some_iff.1 h2).1, h2]
  · simp only
    rw [List.getElem?_set_ne hij]
theorem Zeq {k : K} : ∀ {l : List (K × T)}, mget k l = none → ∀ p ∈ l, p.1 ≠ k
  | [], _, p, hp => by cases hp
  | q :: l, h, p, hp => by
    by_cases hk : k = q.1
    · simp [mget, mpos, hk] at h
    · have h' : mget k l = none := by
        unfold mget at h ⊢
        simp only [mpos, hk, if_false] at h
        cases hm : mpos k l with
        | none => rfl
        | some i => rw [hm] at h; simpa using h
      rcases List.mem_cons.1 hp with rfl | hp
      · exact fun e => hk e.symm
      · exact Zeq h' p hp
end
section
variable {P : Program} {Bs : Base} {st st' : St} {e : Env} {a : Act} {w : World} {t kt et ty : TypeId} {d : Nat} {x y z : Operand} {pos : String} {af : Array Edge} {g : Option (Nat × Bool)} {K T : Type} {pk : K → VP} {r : Rep T} {ob : Option Nat} {β : K → Nat} {k : K} {u : T} {j : Nat}
theorem Zdp {v : Option T} {n : Nat} (h : v = some u) : ∀ e val, (PTO (v.map fun _ => n)).p e val → (PTR n 0).p e val := fun e val k => by subst h; exact k
theorem ZkJ {n : Nat} : ∀ e val, (PTO none).p e val → (PTO ((none : Option T).map fun _ => n)).p e val := fun e val k => k
theorem Zd7 {v : Option T} {n : Nat} {neg b : Bool} (hd : d < Bs.N) (hu : P.underlying t = some (.pointer et)) (hx : HasO st x (.one (.val (PTO (v.map fun _ => n))))) (hy : HasO st y (.one (.val (PTO none)))) (hr : (if neg then !(Option.isNone v) else Option.isNone v) = b) :
    Zag P Bs ⟨some d, .binOp (if neg then .neq else .eql) t x y t, ty, pos, af, g⟩ st (st.set d (.one (.val (S rB b)))) := ZgP (ob := v.map fun _ => n) hd hu hx hy (by rw [← hr]; cases v <;> rfl)
def ZiD [DecidableEq K] (M : ZaQ) (r : Rep T) (β : K → Nat) (k : K) (l : List (K × T)) : ZaQ := ZeX M (ZbB r (qa β (mdel k l)))
theorem Zfm [DecidableEq K] {l : List (K × T)} (h : mget k l = some u) : (qa β l).Perm ((β k, u) :: qa β (mdel k l)) := (Zg1 h).map _
theorem Imp.qtake [DecidableEq K] {M : ZaQ} {l : List (K × T)} (hX : st.X[j]? = some (ZeX M (ZbB r (qa β l)))) (hv : mget k l = some u) : Imp Bs st { st with X := cvar (β k) r u :: ZiD M r β k l :: st.X.eraseIdx j } :=
  Imp.split2 hX (fun e w h => by
    obtain ⟨h1, h2, h3⟩ := h
    have h4 := Zeo.1 (ZdU (Zfm hv) h2)
    refine ⟨h4.1, ⟨h1, h4.2.1, fun b hb hc => h3 b hb ((Zb3 (Zfm hv)).2 (Zb0.2 (.inr hc)))⟩, fun b hb hc => ?_⟩
    rcases hc with hc | hc
    · exact h3 b hc ((Zb3 (Zfm hv)).2 (Zb0.2 (.inl hb)))
    · exact h4.2.2 b hb hc)
  (fun b hb => by
    rcases hb with hb | hb | hb
    · exact .inr ((Zb3 (Zfm hv)).2 (Zb0.2 (.inl hb)))
    · exact .inl hb
    · exact .inr ((Zb3 (Zfm hv)).2 (Zb0.2 (.inr hb))))
theorem Imp.qput [DecidableEq K] {M : ZaQ} {l : List (K × T)} {v : T} {Y : List ZaQ} {ρ : List (Nat × SV1)} {df : List Nat} (hv : mget k l = some u) : Imp Bs ⟨ρ, cvar (β k) r v :: ZiD M r β k l :: Y, df⟩ ⟨ρ, ZeX M (ZbB r (qa β (mput k v l))) :: Y, df⟩ := by
  have hp : (qa β (mput k v l)).Perm ((β k, v) :: qa β (mdel k l)) := (ZgZ hv).map _
  refine Imp.join2 (st := ⟨ρ, cvar (β k) r v :: ZiD M r β k l :: Y, df⟩) rfl (fun e w h1 h2 h3 => ⟨h2.1, ZdU hp.symm (Zeo.2 ⟨h1, h2.2.1, fun b hb hc => h3 b hb (.inr hc)⟩), fun b hb hc => ?_⟩) (fun b hb => ?_)
  · rcases Zb0.1 ((Zb3 hp).1 hc) with hc | hc
    · exact h3 b hc (.inl hb)
    · exact h2.2.2 b hb hc
  · rcases hb with hb | hb
    · exact .inr (.inl hb)
    · exact (Zb0.1 ((Zb3 hp).1 hb)).imp id .inr
theorem Imp.qback [DecidableEq K] {M : ZaQ} {l : List (K × T)} {ρ : List (Nat × SV1)} {df : List Nat} {X : List ZaQ} (hX : X[j]? = some (ZeX M (ZbB r (qa β l)))) (hv : mget k l = some u) : Imp Bs ⟨ρ, cvar (β k) r u :: ZiD M r β k l :: X.eraseIdx j, df⟩ ⟨ρ, X, df⟩ := by
  have h1 := Imp.qput (Bs := Bs) (M := M) (r := r) (β := β) (v := u) (Y := X.eraseIdx j) (ρ := ρ) (df := df) hv
  rw [Zjj hv] at h1
  have h2 := Imp.xset (Bs := Bs) (st := ⟨ρ, X, df⟩) (d := ZeX M (ZbB r (qa β l))) hX
  have h3 : X.set j (ZeX M (ZbB r (qa β l))) = X := by
    apply List.ext_getElem?
    intro i
    by_cases hij : j = i
    · subst hij; rw [List.getElem?_set_self (List.getElem?_eq_some_iff.1 hX).1, hX]
    · rw [List.getElem?_set_ne hij]
  simp only [h3] at h2
  exact h1.trans h2
theorem ZbC [DecidableEq K] {U : Type} {M : ZaQ} {m : Option (List (K × T))} {s : Rep U} {c c' : U} {off : Nat} (hd : d < Bs.N) (ht : tyS P t = true) (hx : HasO st x (.one (.val (PTR (β k) off)))) (hX : st.X[j]? = some (ZeX M (ZbB r (qa β (m.getD []))))) (hv : ZbF m k = some u) (hc : Comp r u off s c) (hs : s.sz = 1) (he : c = c') :
    Zag P Bs ⟨some d, .load t x, ty, pos, af, g⟩ st (st.set d (.one (.val (S s c')))) :=
  (Zam (st := { st with X := cvar (β k) r u :: ZiD M r β k (m.getD []) :: st.X.eraseIdx j }) (j := 0) hd ht hx.cx rfl hc hs he).conj (Imp.qtake hX (Zj0 hv)) (Imp.qback hX (Zj0 hv))
theorem Zkw [DecidableEq K] {m m' : Option (List (K × T))} {v : T} (hv : ZbF m k = some u) (hr : ZfF m k v = some m') : ZeX (cmap ob pk PTO (m.map (qk β))) (ZbB r (qa β (mput k v (m.getD [])))) = cqm ob pk r β m' := by
  cases m with
  | none => cases hv
  | some l =>
    simp only [ZfF, Option.some.injEq] at hr
    subst hr
    unfold cqm
    simp only [Option.map_some, Option.getD_some, mput_keys (show mget k l = some u from hv)]
theorem Zip [DecidableEq K] {U : Type} {m m' : Option (List (K × T))} {v v' : T} {s : Rep U} {c : U} {off : Nat} (ht : tyS P t = true) (hx : HasO st x (.one (.val (PTR (β k) off)))) (hy : HasO st y (.one (.val (S s c)))) (hX : st.X[j]? = some (cqm ob pk r β m)) (hv : ZbF m k = some u) (hs : s.sz = 1) (hu : UpdR r u off s c r v) (he : v = v') (hr : ZfF m k v' = some m') :
    Zag P Bs ⟨none, .store t x y, ty, pos, af, g⟩ st { st with X := st.X.set j (cqm ob pk r β m') } := by
  subst he
  refine (ZaL (st := { st with X := cvar (β k) r u :: ZiD (cmap ob pk PTO (m.map (qk β))) r β k (m.getD []) :: st.X.eraseIdx j }) (j := 0) (v'' := v) ht hx.cx hy.cx rfl hs hu rfl).conj (Imp.qtake (M := cmap ob pk PTO (m.map (qk β))) hX (Zj0 hv)) ?_
  refine (Imp.qput (Zj0 hv)).trans ?_
  rw [Zkw hv hr]
  exact Imp.xset hX
end
section
variable {P : Program} {Bs : Base} {st st' : St} {e : Env} {a : Act} {w : World} {t kt et ty : TypeId} {d : Nat} {x y z : Operand} {pos : String} {af : Array Edge} {g : Option (Nat × Bool)} {K T : Type} {pk : K → VP} {r : Rep T} {ob : Option Nat} {β : K → Nat} {k : K} {u : T} {j : Nat}
theorem Imp.qpair {c f : ZaQ} {ρ : List (Nat × SV1)} {df : List Nat} {X : List ZaQ} {c0 : ZaQ} (hX : X[j]? = some c0) : Imp Bs ⟨ρ, c :: f :: X.eraseIdx j, df⟩ ⟨ρ, X.set j (ZeX c f), df⟩ :=
  (Imp.join2 (st := ⟨ρ, c :: f :: X.eraseIdx j, df⟩) (f := ZeX c f) rfl (fun e w h1 h2 h3 => ⟨h1, h2, h3⟩) (fun b hb => hb)).trans (Imp.xset (st := ⟨ρ, X, df⟩) hX)
theorem Zi6 {X : List ZaQ} {c : ZaQ} (hX : X[j]? = some c) : X.set j c = X := by
  apply List.ext_getElem?
  intro i
  by_cases hij : j = i
  · subst hij; rw [List.getElem?_set_self (List.getElem?_eq_some_iff.1 hX).1, hX]
  · rw [List.getElem?_set_ne hij]
theorem Imp.qself {c f : ZaQ} {ρ : List (Nat × SV1)} {df : List Nat} {X : List ZaQ} (hX : X[j]? = some (ZeX c f)) : Imp Bs ⟨ρ, c :: f :: X.eraseIdx j, df⟩ ⟨ρ, X, df⟩ := by
  have := Imp.qpair (Bs := Bs) (c := c) (f := f) (ρ := ρ) (df := df) hX
  rwa [Zi6 hX] at this
theorem Zc5 [DecidableEq K] {m : Option (List (K × T))} {v : Option T} {zv : Value} (hd : d < Bs.N) (ht : P.underlying t = some (.map kt et)) (K0 : KeyT P kt pk) (hz : tyZ P et zv) (hz0 : zv = .pointer none)
    (hX : st.X[j]? = some (cqm ob pk r β m)) (hx : HasO st x (.one (.val (MPV ob)))) (hy : HasO st y (.one (.val (pk k)))) (hr : ZbF m k = v) :
    Zag P Bs ⟨some d, .lookup t x y false, ty, pos, af, g⟩ st (st.set d (.one (.val (PTO (v.map fun _ => β k))))) := by
  refine (Zjm (st := { st with X := cmap ob pk PTO (m.map (qk β)) :: ZbB r (qa β (m.getD [])) :: st.X.eraseIdx j }) (j := 0) (z0 := none) hd ht K0 hz (fun e => by rw [hz0]; rfl) rfl hx.cx hy.cx ?_).conj (Imp.unpair hX) (Imp.qself hX)
  rw [← hr]
  cases m with
  | none => rfl
  | some l =>
    show ((mget k (l.map fun p => (p.1, some (β p.1)))).getD none) = _
    rw [ZjS (f := fun k _ => some (β k))]
    show _ = (mget k l).map _
    cases mget k l <;> rfl
theorem Zfz {m : Option (List (K × T))} (hd : d < Bs.N) (hu : P.underlying t = some (.map kt et)) (hX : st.X[j]? = some (cqm ob pk r β m)) (hx : HasO st x (.one (.val (MPV ob)))) :
    Zag P Bs ⟨some d, .call { callee := .builtin .len, args := #[x], argTypes := #[t] }, ty, pos, af, g⟩ st (st.set d (.one (.val (S (rI .i64) (List.length (m.getD []) : Int))))) := by
  have h := (Zkp (P := P) (Bs := Bs) (ty := ty) (pos := pos) (af := af) (g := g) (st := { st with X := cmap ob pk PTO (m.map (qk β)) :: ZbB r (qa β (m.getD [])) :: st.X.eraseIdx j }) (j := 0) hd hu rfl hx.cx).conj (Imp.unpair hX) (Imp.qself hX)
  rwa [Zju, qk, List.length_map] at h
theorem ZiN {m : Option (List (K × T))} {neg b : Bool} (hd : d < Bs.N) (hu : P.underlying t = some (.map kt et)) (hX : st.X[j]? = some (cqm ob pk r β m)) (hx : HasO st x (.one (.val (MPV ob)))) (hy : HasO st y (.one (.val (MPV none)))) (hr : (if neg then !(Option.isNone m) else Option.isNone m) = b) :
    Zag P Bs ⟨some d, .binOp (if neg then .neq else .eql) t x y t, ty, pos, af, g⟩ st (st.set d (.one (.val (S rB b)))) :=
  (ZjQ (st := { st with X := cmap ob pk PTO (m.map (qk β)) :: ZbB r (qa β (m.getD [])) :: st.X.eraseIdx j }) (j := 0) hd hu rfl hx.cx hy.cx (by rw [← hr]; cases m <;> rfl)).conj (Imp.unpair hX) (Imp.qself hX)
theorem Ze1 (hd : d < Bs.N) (pk : K → VP) (r : Rep T) (β : K → Nat) :
    OpX P Bs ⟨some d, .makeMap t none, ty, pos, af, g⟩ st (fun b => St.set { st with X := st.X ++ [cqm (some b) pk r β (some [])] } d (.one (.val (MPV (some b))))) :=
  (Zio hd pk (PTO)).conj Imp.refl fun b => by
    have h := Imp.chunk (Bs := Bs) (st := St.set { st with X := st.X ++ [cmap (some b) pk PTO (some [])] } d (.one (.val (MPV (some b))))) (j := st.X.length) (c := cmap (some b) pk PTO (some [])) (c' := cqm (some b) pk r β (some [])) (by simp [St.set])
      (fun e w h => ⟨h, ⟨fun p hp => (by cases hp), List.nodup_nil⟩, fun c _ hc => (by cases hc)⟩) (fun c hc => hc.elim id fun hc => (by cases hc))
    simpa [St.set] using h
theorem ZkQ [DecidableEq K] {β : K → Nat} {b : Nat} {v : T} {l : List (K × T)} (hn : (qa β l).map Prod.fst |>.Nodup) : (qa (updF β k b) (mput k v l)).Perm ((b, v) :: qa β (mdel k l)) := by
  have key : ∀ p ∈ mdel k l, p.1 ≠ k → (updF β k b p.1, p.2) = (β p.1, p.2) := fun p _ h => by simp [updF, h]
  cases hm : mget k l with
  | none =>
    have hk := Zeq hm
    rw [ZiZ hm, ZiV hm]
    unfold qa
    rw [List.map_append]
    refine List.perm_append_comm.trans ?_
    have : (l.map fun p => (updF β k b p.1, p.2)) = l.map fun p => (β p.1, p.2) := List.map_congr_left fun p hp => by simp [updF, hk p hp]
    rw [this]
    simp [updF]
  | some u =>
    have hp := ZgZ (v := v) hm
    have hd := Zg1 hm
    have hn' : (((k, u) :: mdel k l).map fun p => β p.1).Nodup := by
      have h1 : ((qa β l).map Prod.fst) = l.map fun p => β p.1 := by unfold qa; rw [List.map_map]; rfl
      rw [h1] at hn
      exact (hd.map _).nodup hn
    have hk : ∀ p ∈ mdel k l, p.1 ≠ k := fun p hp e => (List.nodup_cons.1 hn').1 (List.mem_map.2 ⟨p, hp, by rw [e]⟩)
    refine (hp.map _).trans ?_
    have : ((mdel k l).map fun p => (updF β k b p.1, p.2)) = (mdel k l).map fun p => (β p.1, p.2) := List.map_congr_left fun p hp => by simp [updF, hk p hp]
    simp only [List.map_cons]
    rw [this]
    simp [updF, qa]
theorem ZkW [DecidableEq K] {β : K → Nat} {b : Nat} {v : T} {l : List (K × T)} (hn : ((qa β l).map Prod.fst).Nodup) : mput k (some b) (qk β l) = qk (updF β k b) (mput k v l) := by
  unfold qk
  unfold mput
  rw [Zfw (f := fun k _ => some (β k))]
  cases hm : mpos k l with
  | none =>
    have hg : mget k l = none := by unfold mget; rw [hm]; rfl
    have hk := Zeq hg
    simp only [List.map_append, List.map_cons, List.map_nil]
    have : (l.map fun p => (p.1, some (updF β k b p.1))) = l.map fun p => (p.1, some (β p.1)) := List.map_congr_left fun p hp => by simp [updF, hk p hp]
    rw [this]
    simp [updF]
  | some i =>
    obtain ⟨u, hu⟩ := ZeL hm
    simp only [List.map_set]
    apply List.ext_getElem?
    intro n
    by_cases hin : i = n
    · subst hin
      have hl := (List.getElem?_eq_some_iff.1 hu).1
      rw [List.getElem?_set_self (by simpa using hl), List.getElem?_set_self (by simpa using hl)]
      simp [updF]
    · rw [List.getElem?_set_ne hin, List.getElem?_set_ne hin, List.getElem?_map, List.getElem?_map]
      cases hn' : l[n]? with
      | none => rfl
      | some p =>
        have hne : p.1 ≠ k := by
          intro e
          have h1 : ((qa β l).map Prod.fst)[i]? = some (β k) := by simp [qa, hu]
          have h2 : ((qa β l).map Prod.fst)[n]? = some (β k) := by simp [qa, hn', e]
          have h3 : i < ((qa β l).map Prod.fst).length := (List.getElem?_eq_some_iff.1 h1).1
          exact hin ((List.getElem?_inj h3 hn).1 (h1.trans h2.symm))
        simp [updF, hne]
end
section
variable {P : Program} {Bs : Base} {st st' : St} {e : Env} {a : Act} {w : World} {t kt et ty : TypeId} {d : Nat} {x y z : Operand} {pos : String} {af : Array Edge} {g : Option (Nat × Bool)} {K T : Type} {pk : K → VP} {r : Rep T} {ob : Option Nat} {β : K → Nat} {k : K} {u : T} {j : Nat}
theorem Imp.frontN {A C Y : List ZaQ} (hX : st.X = A ++ Y) (hR : ∀ e w, (∀ c ∈ A, c.R e w) → A.Pairwise Dj → (∀ c ∈ C, c.R e w) ∧ C.Pairwise Dj) (hf : ∀ c ∈ C, ∀ b, c.foot b → ∃ d ∈ A, d.foot b) : Imp Bs st { st with X := C ++ Y } := fun a w ⟨e, h⟩ => by
  have hd := h.dj
  rw [hX] at hd
  have h1 := hR e w (fun c hc => h.xs c (by rw [hX]; exact List.mem_append_left _ hc)) (List.pairwise_append.1 hd).1
  exact ⟨e, h.turn (A := A) (B := Y) (C := C) (by rw [hX]) (Env.le.refl e) (fun ad v hm => .inl hm) ⟨rfl, rfl, rfl, Nat.le_refl _, fun _ _ _ => rfl⟩ h.frz h1.1 h1.2 fun c hc b hb => .inl (hf c hc b hb)⟩
theorem ZgD [DecidableEq K] {o : Op} {m m' : Option (List (K × T))} {b : Nat} {v : T} {T' : Type} {r' : Rep T'} {v' : T'} {Y : List ZaQ} {js : List Nat} (ho : o = .mapUpdate t x y z ∨ o = .insert t x y z) (ht : P.underlying t = some (.map kt et)) (K0 : KeyT P kt pk) (hp : Zed st.X js = some ([cqm ob pk r β m, cvar b r' v'], Y)) (hw : Wk KT r' v' r v)
    (hx : HasO st x (.one (.val (MPV ob)))) (hy : HasO st y (.one (.val (pk k)))) (hz : HasO st z (.one (.val (PTR b 0)))) (hr : ZfF m k v = some m') :
    Zag P Bs ⟨none, o, ty, pos, af, g⟩ st { st with X := cqm ob pk r (updF β k b) m' :: Y } := by
  cases m with
  | none => cases hr
  | some l =>
    simp only [ZfF, Option.some.injEq] at hr
    subst hr
    have hz' : HasO st z (.one (.val (PTO (some b)))) := hz.wk fun e v h => h
    have i0 : Imp Bs st { st with X := cqm ob pk r β (some l) :: cvar b r' v' :: Y } := Imp.pick hp rfl
    have i1 : Imp Bs st { st with X := cqm ob pk r β (some l) :: cvar b r v :: Y } := i0.trans (Imp.chunk (st := { st with X := cqm ob pk r β (some l) :: cvar b r' v' :: Y }) (j := 1) rfl (ZkR fun e vs h => hw e vs trivial h) fun _ h => h)
    have i2 : Imp Bs { st with X := cqm ob pk r β (some l) :: cvar b r v :: Y } { st with X := cmap ob pk PTO (some (qk β l)) :: ZbB r (qa β l) :: cvar b r v :: Y } := Imp.unpair (st := { st with X := cqm ob pk r β (some l) :: cvar b r v :: Y }) (j := 0) rfl
    have hop : Zag P Bs ⟨none, o, ty, pos, af, g⟩ { st with X := cmap ob pk PTO (some (qk β l)) :: ZbB r (qa β l) :: cvar b r v :: Y } { st with X := cmap ob pk PTO (some (mput k (some b) (qk β l))) :: ZbB r (qa β l) :: cvar b r v :: Y } := by
      rcases ho with rfl | rfl
      · exact ZgU (st := { st with X := cmap ob pk PTO (some (qk β l)) :: ZbB r (qa β l) :: cvar b r v :: Y }) (j := 0) ht K0 rfl hx.cx hy.cx hz'.cx rfl
      · exact ZiX (st := { st with X := cmap ob pk PTO (some (qk β l)) :: ZbB r (qa β l) :: cvar b r v :: Y }) (j := 0) ht K0 rfl hx.cx hy.cx hz'.cx rfl
    refine hop.conj (i1.trans i2) ?_
    refine Imp.frontN (st := { st with X := cmap ob pk PTO (some (mput k (some b) (qk β l))) :: ZbB r (qa β l) :: cvar b r v :: Y }) (A := [cmap ob pk PTO (some (mput k (some b) (qk β l))), ZbB r (qa β l), cvar b r v]) (C := [cqm ob pk r (updF β k b) (some (mput k v l))]) rfl (fun e w hR hD => ?_) (fun c hc b' hb => ?_)
    · have h1 := hR _ (List.mem_cons_self ..)
      have h2 := hR _ (List.mem_cons_of_mem _ (List.mem_cons_self ..))
      have h3 := hR _ (List.mem_cons_of_mem _ (List.mem_cons_of_mem _ (List.mem_cons_self ..)))
      have d1 := (List.pairwise_cons.1 hD).1
      have d2 := (List.pairwise_cons.1 (List.pairwise_cons.1 hD).2).1
      have d12 := d1 _ (List.mem_cons_self ..)
      have d13 := d1 _ (List.mem_cons_of_mem _ (List.mem_cons_self ..))
      have d23 := d2 _ (List.mem_cons_self ..)
      have hpm := ZkQ (β := β) (k := k) (b := b) (v := v) (l := l) h2.2
      have hsub : ∀ p ∈ qa β (mdel k l), p ∈ qa β l := fun p hp => by
        obtain ⟨q, hq, rfl⟩ := List.mem_map.1 hp
        refine List.mem_map.2 ⟨q, ?_, rfl⟩
        unfold mdel at hq
        cases hm : mpos k l with
        | none => rw [hm] at hq; exact hq
        | some i => rw [hm] at hq; exact List.mem_of_mem_eraseIdx hq
      have hsl : (qa β (mdel k l)).Sublist (qa β l) := by
        refine List.Sublist.map _ ?_
        unfold mdel
        cases hm : mpos k l with
        | none => exact List.Sublist.refl _
        | some i => exact List.eraseIdx_sublist ..
      have hA : (ZbB r ((b, v) :: qa β (mdel k l))).R e w := Zeo.2 ⟨h3, ⟨fun p hp => h2.1 p (hsub p hp), h2.2.sublist (hsl.map _)⟩, fun c hc hd => d23 c ((hsl.map Prod.fst).mem hd) hc⟩
      refine ⟨fun c hc => ?_, List.pairwise_singleton _ _⟩
      rw [List.mem_singleton.1 hc]
      refine ⟨?_, ZdU hpm.symm hA, fun c hc hd => ?_⟩
      · rw [ZkW h2.2] at h1; exact h1
      · rcases Zb0.1 ((Zb3 hpm).1 hd) with hd | hd
        · exact d13 c hc hd
        · exact d12 c hc ((hsl.map Prod.fst).mem hd)
    · rw [List.mem_singleton.1 hc] at hb
      rcases hb with hb | hb
      · exact ⟨_, List.mem_cons_self .., hb⟩
      · have h2 : b' ∈ (qa (updF β k b) (mput k v l)).map Prod.fst := hb
        obtain ⟨p, hp, rfl⟩ := List.mem_map.1 h2
        obtain ⟨q, hq, rfl⟩ := List.mem_map.1 hp
        by_cases hqk : q.1 = k
        · refine ⟨cvar b r v, List.mem_cons_of_mem _ (List.mem_cons_of_mem _ (List.mem_cons_self ..)), ?_⟩
          show updF β k b q.1 = b
          simp [updF, hqk]
        · refine ⟨ZbB r (qa β l), List.mem_cons_of_mem _ (List.mem_cons_self ..), ?_⟩
          show updF β k b q.1 ∈ _
          have hq' : q ∈ l := by
            unfold mput at hq
            cases hm : mpos k l with
            | none =>
              rw [hm] at hq
              rcases List.mem_append.1 hq with hq | hq
              · exact hq
              · rw [List.mem_singleton.1 hq] at hqk; exact absurd rfl hqk
            | some i =>
              rw [hm] at hq
              rcases List.mem_or_eq_of_mem_set hq with hq | hq
              · exact hq
              · rw [hq] at hqk; exact absurd rfl hqk
          refine List.mem_map.2 ⟨(β q.1, q.2), List.mem_map.2 ⟨q, hq', rfl⟩, by simp [updF, hqk]⟩
theorem ZiC [DecidableEq K] {m m' : Option (List (K × T))} {kt' : TypeId} {dst : Option Nat} (hdst : dst = none) (ht : P.underlying t = some (.map kt et)) (K0 : KeyT P kt pk) (hX : st.X[j]? = some (cqm ob pk r β m)) (hx : HasO st x (.one (.val (MPV ob)))) (hy : HasO st y (.one (.val (pk k)))) (hr : Zgw m k = m') :
    Zag P Bs ⟨dst, .call { callee := .builtin .delete, args := #[x, y], argTypes := #[t, kt'] }, ty, pos, af, g⟩ st { st with X := st.X.set j (cqm ob pk r β m') } := by
  subst hr
  refine (Zhk (st := { st with X := cmap ob pk PTO (m.map (qk β)) :: ZbB r (qa β (m.getD [])) :: st.X.eraseIdx j }) (j := 0) hdst ht K0 rfl hx.cx hy.cx rfl).conj (Imp.unpair hX) ?_
  have e1 : Zgw (m.map (qk β)) k = (Zgw m k).map (qk β) := by
    cases m with
    | none => rfl
    | some l => exact congrArg some (Zh5 (f := fun k _ => some (β k)))
  have hsl : (qa β ((Zgw m k).getD [])).Sublist (qa β (m.getD [])) := by
    cases m with
    | none => exact List.Sublist.refl _
    | some l =>
      refine List.Sublist.map _ ?_
      show (mdel k l).Sublist l
      unfold mdel
      cases hm : mpos k l with
      | none => exact List.Sublist.refl _
      | some i => exact List.eraseIdx_sublist ..
  rw [e1]
  exact (Imp.join2 (st := { st with X := cmap ob pk PTO ((Zgw m k).map (qk β)) :: ZbB r (qa β (m.getD [])) :: st.X.eraseIdx j }) (f := cqm ob pk r β (Zgw m k)) rfl
    (fun e w h1 h2 h3 => ⟨h1, ⟨fun p hp => h2.1 p (hsl.mem hp), h2.2.sublist (hsl.map _)⟩, fun b hb hc => h3 b hb ((hsl.map Prod.fst).mem hc)⟩)
    (fun b hb => hb.imp id fun hb => (hsl.map Prod.fst).mem hb)).trans (Imp.xset hX)
theorem ZhK [DecidableEq K] {m m' : Option (List (K × T))} {kt' : TypeId} {dst : Option Nat} {Y : List ZaQ} {js : List Nat} (hdst : dst = none) (ht : P.underlying t = some (.map kt et)) (K0 : KeyT P kt pk) (hp : Zed st.X js = some ([cqm ob pk r β m], Y)) (hx : HasO st x (.one (.val (MPV ob)))) (hy : HasO st y (.one (.val (pk k)))) (hv : ZbF m k = some u) (hr : Zgw m k = m') :
    Zag P Bs ⟨dst, .call { callee := .builtin .delete, args := #[x, y], argTypes := #[t, kt'] }, ty, pos, af, g⟩ st { st with X := cqm ob pk r β m' :: cvar (β k) r u :: Y } := by
  subst hr
  cases m with
  | none => cases hv
  | some l =>
    have hv : mget k l = some u := hv
    have i1 : Imp Bs st { st with X := cqm ob pk r β (some l) :: Y } := Imp.pick hp rfl
    have i2 : Imp Bs { st with X := cqm ob pk r β (some l) :: Y } { st with X := cmap ob pk PTO (some (qk β l)) :: ZbB r (qa β l) :: Y } := Imp.unpair (st := { st with X := cqm ob pk r β (some l) :: Y }) (j := 0) rfl
    refine (Zhk (st := { st with X := cmap ob pk PTO (some (qk β l)) :: ZbB r (qa β l) :: Y }) (j := 0) hdst ht K0 rfl hx.cx hy.cx rfl).conj (i1.trans i2) ?_
    have e1 : mdel k (qk β l) = qk β (mdel k l) := Zh5 (f := fun k _ => some (β k))
    have hq := Zfm (β := β) hv
    refine Imp.frontN (st := { st with X := cmap ob pk PTO (some (mdel k (qk β l))) :: ZbB r (qa β l) :: Y }) (A := [cmap ob pk PTO (some (mdel k (qk β l))), ZbB r (qa β l)]) (C := [cqm ob pk r β (some (mdel k l)), cvar (β k) r u]) rfl (fun e w hR hD => ?_) (fun c hc b hb => ?_)
    · have h1 := hR _ (List.mem_cons_self ..)
      have h2 := Zeo.1 (ZdU hq (hR _ (List.mem_cons_of_mem _ (List.mem_cons_self ..))))
      have d12 := (List.pairwise_cons.1 hD).1 _ (List.mem_cons_self ..)
      rw [e1] at h1
      refine ⟨fun c hc => ?_, ?_⟩
      · rcases List.mem_cons.1 hc with rfl | hc
        · exact ⟨h1, h2.2.1, fun b hb hc => d12 b hb ((Zb3 hq).2 (Zb0.2 (.inr hc)))⟩
        · rw [List.mem_singleton.1 hc]; exact h2.1
      · refine List.pairwise_cons.2 ⟨fun c hc => ?_, List.pairwise_singleton _ _⟩
        rw [List.mem_singleton.1 hc]
        intro b hb hd
        rcases hb with hb | hb
        · exact d12 b hb ((Zb3 hq).2 (Zb0.2 (.inl hd)))
        · exact h2.2.2 b hd hb
    · rcases List.mem_cons.1 hc with rfl | hc
      · rcases hb with hb | hb
        · exact ⟨_, List.mem_cons_self .., hb⟩
        · exact ⟨_, List.mem_cons_of_mem _ (List.mem_cons_self ..), (Zb3 hq).2 (Zb0.2 (.inr hb))⟩
      · rw [List.mem_singleton.1 hc] at hb
        exact ⟨_, List.mem_cons_of_mem _ (List.mem_cons_self ..), (Zb3 hq).2 (Zb0.2 (.inl hb))⟩
theorem ZgX {m : Option (List (K × T))} (hd : d < Bs.N) (ht : P.underlying t = some (.map kt et)) (hX : st.X[j]? = some (cqm ob pk r β m)) (hx : HasO st x (.one (.val (MPV ob)))) :
    OpX P Bs ⟨some d, .range t x, ty, pos, af, g⟩ st (fun rr => St.set { st with X := st.X.set j (cqmI ob rr pk r β m (m.getD []) none) } d (.one (.val (PTR rr 0)))) := by
  refine (ZjB (st := { st with X := cmap ob pk PTO (m.map (qk β)) :: ZbB r (qa β (m.getD [])) :: st.X.eraseIdx j }) (j := 0) hd ht rfl hx.cx).conj (Imp.unpair hX) fun rr => ?_
  have := Imp.qpair (Bs := Bs) (c := Zdr ob rr pk PTO (m.map (qk β)) ((m.map (qk β)).getD []) none) (f := ZbB r (qa β (m.getD []))) (ρ := (d, .one (.val (PTR rr 0))) :: st.ρ) (df := st.df) hX
  rw [Zju] at this ⊢
  exact this
theorem Imp.endItQ {rr : Nat} {m : Option (List (K × T))} {rem : List (K × T)} {cur : Option (K × T)} (hX : st.X[j]? = some (cqmI ob rr pk r β m rem cur)) : Imp Bs st { st with X := st.X.set j (cqm ob pk r β m) } :=
  (Imp.unpair hX).trans ((Imp.endIt (st := { st with X := Zdr ob rr pk PTO (m.map (qk β)) (qk β rem) (cur.map fun p => (p.1, some (β p.1))) :: ZbB r (qa β (m.getD [])) :: st.X.eraseIdx j }) (j := 0) rfl).trans (Imp.qpair hX))
theorem Imp.forgetQ {rr : Nat} {m : Option (List (K × T))} {rem : List (K × T)} {cur : Option (K × T)} (hX : st.X[j]? = some (cqmI ob rr pk r β m rem cur)) : Imp Bs st { st with X := st.X.set j (cqmI ob rr pk r β m rem none) } :=
  (Imp.unpair hX).trans ((Imp.forget (st := { st with X := Zdr ob rr pk PTO (m.map (qk β)) (qk β rem) (cur.map fun p => (p.1, some (β p.1))) :: ZbB r (qa β (m.getD [])) :: st.X.eraseIdx j }) (j := 0) rfl).trans (Imp.qpair hX))
theorem ZgT {rr : Nat} {m : Option (List (K × T))} {rem : List (K × T)} {kv : K × T} (hd : d < Bs.N) (hX : st.X[j]? = some (cqmI ob rr pk r β m rem (some kv))) (hx : HasO st x (.one (.val (PTR rr 0)))) :
    Zag P Bs ⟨some d, .entry x, ty, pos, af, g⟩ st (st.set d (.tup [.val (pk kv.1), .val (PTR (β kv.1) 0)])) :=
  (ZjO (st := { st with X := Zdr ob rr pk PTO (m.map (qk β)) (qk β rem) (some (kv.1, some (β kv.1))) :: ZbB r (qa β (m.getD [])) :: st.X.eraseIdx j }) (j := 0) hd rfl hx.cx).conj (Imp.unpair hX) (Imp.qself hX)
theorem Zir {V : Type} {pv : V → VP} {rr : Nat} {x : Option (List (K × V))} {rem rem' : List (K × V)} {cur : Option (K × V)} (hp : rem.Perm rem') {e : Env} {w : World} (h : (Zdr ob rr pk pv x rem cur).R e w) : (Zdr ob rr pk pv x rem' cur).R e w := by
  obtain ⟨h0, h⟩ := h
  refine ⟨h0, ?_⟩
  rcases h with ⟨h1, h2, h3, h4, h5⟩ | ⟨b, l, es, clock, since, c0, seen, hb, hx, hne, h1, h2, h3, h4, h5, h6, h7, h8, ⟨l', h9, h10⟩, h11⟩
  · subst h3; exact .inl ⟨h1, h2, hp.symm.eq_nil, h4, h5⟩
  · obtain ⟨m', k1, k2⟩ := h9.perm hp
    exact .inr ⟨b, l, es, clock, since, c0, seen, hb, hx, hne, h1, h2, h3, h4, h5, h6, h7, h8, ⟨m', k1, k2.trans h10⟩, h11⟩
theorem ZgF {A B : Type} {f : A → B} {l : List A} {y : B} {m : List B} (h : (l.map f).Perm (y :: m)) : ∃ x l', f x = y ∧ l.Perm (x :: l') ∧ m.Perm (l'.map f) := by
  have hy : y ∈ l.map f := h.mem_iff.2 (List.mem_cons_self ..)
  obtain ⟨x, hx, rfl⟩ := List.mem_map.1 hy
  obtain ⟨i, hi, hxi⟩ := List.getElem_of_mem hx
  have hp : l.Perm (x :: l.eraseIdx i) := (Zc4 (by rw [List.getElem?_eq_getElem hi, hxi])).symm
  exact ⟨x, _, rfl, hp, ((hp.map f).symm.trans h).cons_inv.symm⟩
theorem JL.nextQ {ops : Array Oper} {os : List Oper} {Q : Exit → Act → World → Prop} {rr : Nat} {m : Option (List (K × T))} {rem : List (K × T)} {cur : Option (K × T)} (hd : d < Bs.N) (hX : st.X[j]? = some (cqmI ob rr pk r β m rem cur)) (hx : HasO st x (.one (.val (PTR rr 0))))
    (h0 : rem = [] → JL P Bs ops os (St.set { st with X := st.X.set j (cqmI ob rr pk r β m [] none) } d (.tup [.val (S rB false)])) Q)
    (h1 : ∀ kv rem', rem.Perm (kv :: rem') → JL P Bs ops os (St.set { st with X := st.X.set j (cqmI ob rr pk r β m rem' (some kv)) } d (.tup [.val (S rB true), .val (pk kv.1), .val (PTR (β kv.1) 0)])) Q)
    (hg : g = none := by rfl) : JL P Bs ops (⟨some d, .next x false, ty, pos, af, g⟩ :: os) st Q := by
  refine JL.pre (Imp.unpair hX) (JL.next (st := { st with X := Zdr ob rr pk PTO (m.map (qk β)) (qk β rem) (cur.map fun p => (p.1, some (β p.1))) :: ZbB r (qa β (m.getD [])) :: st.X.eraseIdx j }) (j := 0) hd rfl hx.cx (fun hr => ?_) (fun kv rem' hp => ?_) hg)
  · have hr : rem = [] := List.map_eq_nil_iff.1 hr
    exact JL.pre (Imp.qpair (c := Zdr ob rr pk PTO (m.map (qk β)) [] none) hX) (h0 hr)
  · obtain ⟨q, l', rfl, hq, hm⟩ := ZgF hp
    refine JL.pre ?_ (h1 q l' hq)
    refine Imp.trans (st' := St.set { st with X := Zdr ob rr pk PTO (m.map (qk β)) (qk β l') (some (q.1, some (β q.1))) :: ZbB r (qa β (m.getD [])) :: st.X.eraseIdx j } d (.tup [.val (S rB true), .val (pk q.1), .val (PTO (some (β q.1)))])) ?_ (Imp.qpair (ρ := (d, .tup [.val (S rB true), .val (pk q.1), .val (PTO (some (β q.1)))]) :: st.ρ) hX)
    exact Imp.chunk (st := St.set { st with X := Zdr ob rr pk PTO (m.map (qk β)) rem' (some (q.1, some (β q.1))) :: ZbB r (qa β (m.getD [])) :: st.X.eraseIdx j } d (.tup [.val (S rB true), .val (pk q.1), .val (PTO (some (β q.1)))])) (j := 0) rfl (fun e w h => Zir hm h) (fun b hb => hb)
theorem Imp.mpermQ {l m : List (K × T)} (hX : st.X[j]? = some (cqm ob pk r β (some l))) (hp : l.Perm m) : Imp Bs st { st with X := st.X.set j (cqm ob pk r β (some m)) } :=
  (Imp.unpair hX).trans ((Imp.mperm (st := { st with X := cmap ob pk PTO (some (qk β l)) :: ZbB r (qa β l) :: st.X.eraseIdx j }) (j := 0) rfl (hp.map _)).trans
    ((Imp.chunk (st := { st with X := cmap ob pk PTO (some (qk β m)) :: ZbB r (qa β l) :: st.X.eraseIdx j }) (j := 1) (c' := ZbB r (qa β m)) rfl (fun e w h => ZdU (hp.map _) h) (fun b hb => (Zb3 (hp.map _)).2 hb)).trans (Imp.qpair hX)))
theorem Imp.mpermCQ {l m : List (K × T)} (hX : st.X[j]? = some (cqm ob pk r β (some l))) (hp : Zec l = m) : Imp Bs st { st with X := st.X.set j (cqm ob pk r β (some m)) } := Imp.mpermQ hX (hp ▸ ZdN l)
end
section
variable {P : Program} {Bs : Base} {st st' : St} {t kt et ty : TypeId} {d : Nat} {x y z : Operand} {pos : String} {af : Array Edge} {g : Option (Nat × Bool)} {K T : Type} [DecidableEq K] {pk : K → VP} {r : Rep T} {ob : Option Nat} {β : K → Nat} {k : K} {j : Nat}
theorem ZiF {x m : Option (List (K × T))} {f : T → T} (h : qupd x k f = some m) : ∃ u, ZbF x k = some u ∧ ZfF x k (f u) = some m := by
  unfold qupd at h
  cases hg : ZbF x k with
  | none => rw [hg] at h; cases h
  | some u => rw [hg] at h; exact ⟨u, rfl, h⟩
theorem Zdt {l m : List (K × T)} {f : T → T} (h : Zdz l k f = some m) : qupd (some l) k f = some (some m) := by
  unfold Zdz at h
  show Option.bind (mget k l) _ = _
  cases hg : mget k l with
  | none => rw [hg] at h; cases h
  | some u => rw [hg] at h; exact congrArg some h
theorem ZcV {U : Type} {m m' : Option (List (K × T))} {f : T → T} {s : Rep U} {c : U} {off : Nat} (ht : tyS P t = true) (hx : HasO st x (.one (.val (PTR (β k) off)))) (hy : HasO st y (.one (.val (S s c)))) (hX : st.X[j]? = some (cqm ob pk r β m)) (hs : s.sz = 1) (hu : ∀ u, UpdR r u off s c r (f u)) (h : qupd m k f = some m') :
    Zag P Bs ⟨none, .store t x y, ty, pos, af, g⟩ st { st with X := st.X.set j (cqm ob pk r β m') } := let ⟨u, h1, h2⟩ := ZiF h; Zip ht hx hy hX h1 hs (hu u) rfl h2
theorem ZkS {α β : Type} {a : Option α} {b : Option β} {u : β} (h : andO a b = some u) : ∃ z, a = some z := by
  cases a with
  | none => cases h
  | some z => exact ⟨z, rfl⟩
theorem ZkP {α β : Type} {a : Option α} {b : Option β} {u : β} (h : andO a b = some u) : b = some u := by
  cases a with
  | none => cases h
  | some z => exact h
theorem Zkl {b off : Nat} : ∀ e v, (PTR b off).p e v → (PTR (updF β k b k) off).p e v := fun e v h => by simpa [updF] using h
theorem Zk0 {β' : Type} {v : Option T} {u : β'} {n : Nat} {o : Option β'} (h : andO v o = some u) : ∀ e val, (PTO (v.map fun _ => n)).p e val → (PTR n 0).p e val := by
  obtain ⟨z, rfl⟩ := ZkS h
  exact fun e val k => k
theorem Wk.w {A : Env → Prop} {p q : VP} (h : ∀ e v, p.p e v → q.p e v) : Wk A (rW p) () (rW q) () := fun e vs _ ⟨v, h1, k, h2⟩ => ⟨v, h1, h e v k, h2⟩
theorem Zkt {T : Type} {n : Nat} {z : T} : ∀ e val, (PTR n 0).p e val → (PTO ((some z).map fun _ => n)).p e val := fun e val k => k
end
section
variable {P : Program} {Bs : Base} {st : St} {t ty : TypeId} {x y : Operand} {pos : String} {af : Array Edge} {g : Option (Nat × Bool)}
theorem Zha {T : Type} {xs ys : List T} {i : Nat} {f : T → T} (h : setF xs i f = some ys) : ∃ u, xs[i]? = some u ∧ xs.set i (f u) = ys := by
  unfold setF at h
  cases hu : xs[i]? with
  | none => rw [hu] at h; cases h
  | some u => rw [hu] at h; exact ⟨u, rfl, (Zfj h).2⟩
theorem Zel {T U : Type} {r : Rep T} {xs ys : List T} {ob : Option Nat} {cap j i off : Nat} {f : T → T} {s : Rep U} {q : U} (ht : tyS P t = true) (hs : s.sz = 1) (hX : st.X[j]? = some (cown ob r xs 0 cap)) (hx : HasO st x (.one (.val (EPT ob (i * r.sz + off))))) (hy : HasO st y (.one (.val (S s q)))) (hu : ∀ u, Upd r u off s q (f u)) (h : setF xs i f = some ys) :
    Zag P Bs ⟨none, .store t x y, ty, pos, af, g⟩ st { st with X := st.X.set j (cown ob r ys 0 cap) } := let ⟨u, h1, h2⟩ := Zha h; Zgm ht hs hX hx hy h1 (hu u) h2
theorem Ze8 {T : Type} {xs ys : List T} {i : Nat} {f : T → T} (h : setF xs i f = some ys) : xs.length = ys.length := by
  obtain ⟨u, _, rfl⟩ := Zha h
  simp
end
def encK : List UInt8 → Nat
  | [] => 0
  | b :: l => (b.toNat + 1) + 257 * encK l
theorem ZhW : ∀ {x y : List UInt8}, encK x = encK y → x = y
  | [], [], _ => rfl
  | [], b :: l, h => by simp only [encK] at h; omega
  | b :: l, [], h => by simp only [encK] at h; omega
  | b :: l, c :: m, h => by
    simp only [encK] at h
    have h1 := b.toNat_lt
    have h2 := c.toNat_lt
    have h3 : b.toNat = c.toNat := by omega
    have h4 : encK l = encK m := by omega
    rw [UInt8.toNat_inj.1 h3, ZhW h4]
def deF (c : Nat → Nat) : List UInt8 → Nat := fun x => c (encK x + 1000)
noncomputable def enF (c : Nat → Nat) (f : List UInt8 → Nat) : Nat → Nat := fun n => if n < 1000 then c n else f (@Classical.epsilon (List UInt8) ⟨[]⟩ fun x => encK x = n - 1000)
theorem Zky (c : Nat → Nat) (f : List UInt8 → Nat) : deF (enF c f) = f := by
  funext x
  unfold deF enF
  rw [if_neg (by omega)]
  have h := @Classical.epsilon_spec (List UInt8) (fun y => encK y = encK x + 1000 - 1000) ⟨x, by omega⟩
  exact congrArg f (ZhW (by rw [h]; omega))
theorem ZkD (γ : Gh) (i : Nat) (c : Nat → Nat) (f : List UInt8 → Nat) : deF (updG γ i (enF c f) i) = f := by
  have : updG γ i (enF c f) i = enF c f := by simp [updG]
  rw [this, Zky]
def Zcq (l : List Nat) : ZaQ where
  foot b := b ∈ l
  R e w := (∀ r ∈ l, (cdef r).R e w) ∧ l.Nodup
  lt := fun h b hb => (cdef b).lt (h.1 b hb) b rfl
  kept := fun h he hmu hk => ⟨fun r hr => (cdef r).kept (h.1 r hr) he (fun ad v hm hf => hmu ad v hm (by rw [show ad.block = r from hf]; exact hr)) (fun b hb => hk b (by rw [show b = r from hb]; exact hr)), h.2⟩
section
variable {P : Program} {Bs : Base} {st : St}
theorem Imp.defs1 {ρ : List (Nat × SV1)} {K : Nat} {Y : List ZaQ} {df : List Nat} : Imp Bs ⟨ρ, cdef K :: Y, df⟩ ⟨ρ, Zcq [K] :: Y, df⟩ :=
  Imp.chunk (st := ⟨ρ, cdef K :: Y, df⟩) (j := 0) (c' := Zcq [K]) rfl (fun e w h => ⟨fun r hr => by rw [List.mem_singleton.1 hr]; exact h, by simp⟩) (fun b hb => List.mem_singleton.1 hb)
theorem Zf5 {fn : Func} {R : Ending → World → Prop} {ρ : List (Nat × SV1)} {B : List ZaQ} : ∀ {l : List Nat} {a : Act} {w : World} {e : Env}, StE Bs ⟨ρ, Zcq l :: B, l⟩ e a w → (∀ w', StE Bs ⟨ρ, B, []⟩ e { a with defers := [] } w' → ∃ v, (results fn a.tmps).run P w' = .ok v w' ∧ R (.returned v) w') →
    LeavesInM (WF none) 0 P fn a.tmps R a.defers .returning w
  | [], a, w, e, h, hR => by
    have hdf : a.defers = [] := h.df
    rw [hdf]
    simp only [LeavesInM, LeavesIn]
    have := h.drop (A := B) (B := [Zcq []]) (List.perm_append_comm (l₁ := [Zcq []]) (l₂ := B))
    exact hR w { this with df := rfl }
  | r :: ds, a, w, e, h, hR => by
    have hs : StE Bs ⟨ρ, cdef r :: Zcq ds :: B, r :: ds⟩ e a w := by
      have hc : (Zcq (r :: ds)).R e w := h.xs _ (List.mem_cons_self ..)
      have hn := List.nodup_cons.1 hc.2
      refine h.turn (A := [Zcq (r :: ds)]) (B := B) (C := [cdef r, Zcq ds]) (List.Perm.refl _) (Env.le.refl e) (fun ad v hm => .inl hm) ⟨rfl, rfl, rfl, Nat.le_refl _, fun _ _ _ => rfl⟩ h.frz (fun c hcm => ?_) ?_ (fun c hcm b hb => .inl ⟨_, List.mem_singleton.2 rfl, ?_⟩)
      · rcases List.mem_cons.1 hcm with rfl | hcm
        · exact hc.1 r (List.mem_cons_self ..)
        · rw [List.mem_singleton.1 hcm]; exact ⟨fun x hx => hc.1 x (List.mem_cons_of_mem _ hx), hn.2⟩
      · exact List.pairwise_cons.2 ⟨fun c hcm b hb hb' => by rw [List.mem_singleton.1 hcm] at hb'; rw [show b = r from hb] at hb'; exact hn.1 hb', List.pairwise_singleton _ _⟩
      · rcases List.mem_cons.1 hcm with rfl | hcm
        · rw [show b = r from hb]; exact List.mem_cons_self ..
        · rw [List.mem_singleton.1 hcm] at hb; exact List.mem_cons_of_mem _ hb
    obtain ⟨h1, h2⟩ := hs.unmark (P := P) (A := []) (B := Zcq ds :: B) rfl (List.Perm.refl _)
    rw [h.df]
    have h3 := Zf5 h2 (fun w' h' => hR w' h')
    refine ⟨(by intro h; cases h), Or.inl ⟨r, _, rfl, h1, ?_⟩⟩
    exact h3
theorem JQ.doneL {fn : Func} {xs : List ResultVar} {ss : List SW} {js : List Nat} {X rest B : List ZaQ} {ex : Exit} {γ : Type} {X' : γ → List ZaQ} {sv : γ → SV1} {j : Nat} (q : γ) (hex : ex = .ret ∨ ex = .normal) (hp : Zed st.X [j] = some ([Zcq st.df], B)) (hr : fn.results = xs.toArray) (h : ResO P { st with X := B, df := [] } xs ss) (hX : Zed B js = some (X, rest)) (hX' : X = X' q) (hsv : mkR ss = sv q) :
    JQ Bs ex st (bodyPostM (WF none) 0 P fn fun en w' => ∃ g, Back Bs.e0 Bs.w0 Bs.F0 (X' g) (sv g) en w') := by
  intro a w ⟨e, hst⟩
  have hst1 : StE Bs ⟨st.ρ, Zcq st.df :: B, st.df⟩ e a w := hst.perm (Zcn hp)
  have key : LeavesInM (WF none) 0 P fn a.tmps (fun en w' => ∃ g, Back Bs.e0 Bs.w0 Bs.F0 (X' g) (sv g) en w') a.defers .returning w := Zf5 hst1 fun w' h' => by
    obtain ⟨v, h1, h2⟩ := Zf4 (P := P) hr h h'
    refine ⟨v, h1, q, ?_⟩
    have h3 := (h'.drop (Zcn hX)).out h2
    rw [← hX', ← hsv]
    exact h3
  rcases hex with rfl | rfl <;> exact key
end
end Go.Proofs.Ytipchpbcjkhnaaa.Fw
