/- Maps of pointers: each entry has a variable of its own; they are told as maps of what lies there. -/
import Derived.Test.YtbmimaabgclhjaaFdc
import Derived.Test.YtbmimaabgclhjaaFdq
namespace Go.Proofs.Ytbmimaabgclhjaa.Fw
open Go Go.RowKit Go.MapKept
set_option linter.unusedVariables false
set_option linter.unusedSimpArgs false

section
variable {P : Program} {Bs : Base} {st st1 st' : St} {o : Oper}
end
/-! A map's place of a key. -/
section
variable {K V U : Type} [DecidableEq K]
end
section
variable {P : Program} {Bs : Base} {st : St}
end
/-! Maps of pointers. -/
section
variable {K T : Type}
end
section
variable {K T : Type} [DecidableEq K]
end
section
variable {P : Program} {Bs : Base} {st st' : St} {e : Env} {a : Act} {w : World} {t kt et ty : TypeId} {d : Nat} {x y z : Operand} {pos : String} {af : Array Edge} {g : Option (Nat × Bool)} {K T : Type} {pk : K → VP} {r : Rep T} {ob : Option Nat} {β : K → Nat} {k : K} {u : T} {j : Nat}
end
section
variable {P : Program} {Bs : Base} {st st' : St} {e : Env} {a : Act} {w : World} {t kt et ty : TypeId} {d : Nat} {x y z : Operand} {pos : String} {af : Array Edge} {g : Option (Nat × Bool)} {K T : Type} {pk : K → VP} {r : Rep T} {ob : Option Nat} {β : K → Nat} {k : K} {u : T} {j : Nat}
end
section
variable {P : Program} {Bs : Base} {st st' : St} {e : Env} {a : Act} {w : World} {t kt et ty : TypeId} {d : Nat} {x y z : Operand} {pos : String} {af : Array Edge} {g : Option (Nat × Bool)} {K T : Type} {pk : K → VP} {r : Rep T} {ob : Option Nat} {β : K → Nat} {k : K} {u : T} {j : Nat}
/-! Courses. -/
end
section
variable {P : Program} {Bs : Base} {st st' : St} {t kt et ty : TypeId} {d : Nat} {x y z : Operand} {pos : String} {af : Array Edge} {g : Option (Nat × Bool)} {K T : Type} [DecidableEq K] {pk : K → VP} {r : Rep T} {ob : Option Nat} {β : K → Nat} {k : K} {j : Nat}
theorem Wk.w {A : Env → Prop} {p q : VP} (h : ∀ e v, p.p e v → q.p e v) : Wk A (rW p) () (rW q) () := fun e vs _ ⟨v, h1, k, h2⟩ => ⟨v, h1, h e v k, h2⟩
end
section
variable {P : Program} {Bs : Base} {st : St} {t ty : TypeId} {x y : Operand} {pos : String} {af : Array Edge} {g : Option (Nat × Bool)}
end
/-! Functions of keys among the names that a statement of open order brings. -/
/-! Marks, however many. -/
def cdefs (l : List Nat) : Chunk where
  foot b := b ∈ l
  R e w := (∀ r ∈ l, (cdef r).R e w) ∧ l.Nodup
  lt := fun h b hb => (cdef b).lt (h.1 b hb) b rfl
  kept := fun h he hmu hk => ⟨fun r hr => (cdef r).kept (h.1 r hr) he (fun ad v hm hf => hmu ad v hm (by rw [show ad.block = r from hf]; exact hr)) (fun b hb => hk b (by rw [show b = r from hb]; exact hr)), h.2⟩
section
variable {P : Program} {Bs : Base} {st : St}
theorem Imp.defs1 {ρ : List (Nat × SV1)} {K : Nat} {Y : List Chunk} {df : List Nat} : Imp Bs ⟨ρ, cdef K :: Y, df⟩ ⟨ρ, cdefs [K] :: Y, df⟩ :=
  Imp.chunk (st := ⟨ρ, cdef K :: Y, df⟩) (j := 0) (c' := cdefs [K]) rfl (fun e w h => ⟨fun r hr => by rw [List.mem_singleton.1 hr]; exact h, by simp⟩) (fun b hb => List.mem_singleton.1 hb)
theorem leaves_defs {fn : Func} {R : Ending → World → Prop} {ρ : List (Nat × SV1)} {B : List Chunk} : ∀ {l : List Nat} {a : Act} {w : World} {e : Env}, StE Bs ⟨ρ, cdefs l :: B, l⟩ e a w → (∀ w', StE Bs ⟨ρ, B, []⟩ e { a with defers := [] } w' → ∃ v, (results fn a.tmps).run P w' = .ok v w' ∧ R (.returned v) w') →
    LeavesInM (WF none) 0 P fn a.tmps R a.defers .returning w
  | [], a, w, e, h, hR => by
    have hdf : a.defers = [] := h.df
    rw [hdf]
    simp only [LeavesInM, LeavesIn]
    have := h.drop (A := B) (B := [cdefs []]) (List.perm_append_comm (l₁ := [cdefs []]) (l₂ := B))
    exact hR w { this with df := rfl }
  | r :: ds, a, w, e, h, hR => by
    have hs : StE Bs ⟨ρ, cdef r :: cdefs ds :: B, r :: ds⟩ e a w := by
      have hc : (cdefs (r :: ds)).R e w := h.xs _ (List.mem_cons_self ..)
      have hn := List.nodup_cons.1 hc.2
      refine h.turn (A := [cdefs (r :: ds)]) (B := B) (C := [cdef r, cdefs ds]) (List.Perm.refl _) (Env.le.refl e) (fun ad v hm => .inl hm) ⟨rfl, rfl, rfl, Nat.le_refl _, fun _ _ _ => rfl⟩ h.frz (fun c hcm => ?_) ?_ (fun c hcm b hb => .inl ⟨_, List.mem_singleton.2 rfl, ?_⟩)
      · rcases List.mem_cons.1 hcm with rfl | hcm
        · exact hc.1 r (List.mem_cons_self ..)
        · rw [List.mem_singleton.1 hcm]; exact ⟨fun x hx => hc.1 x (List.mem_cons_of_mem _ hx), hn.2⟩
      · exact List.pairwise_cons.2 ⟨fun c hcm b hb hb' => by rw [List.mem_singleton.1 hcm] at hb'; rw [show b = r from hb] at hb'; exact hn.1 hb', List.pairwise_singleton _ _⟩
      · rcases List.mem_cons.1 hcm with rfl | hcm
        · rw [show b = r from hb]; exact List.mem_cons_self ..
        · rw [List.mem_singleton.1 hcm] at hb; exact List.mem_cons_of_mem _ hb
    obtain ⟨h1, h2⟩ := hs.unmark (P := P) (A := []) (B := cdefs ds :: B) rfl (List.Perm.refl _)
    rw [h.df]
    have h3 := leaves_defs h2 (fun w' h' => hR w' h')
    refine ⟨(by intro h; cases h), Or.inl ⟨r, _, rfl, h1, ?_⟩⟩
    exact h3
theorem JQ.doneL {fn : Func} {xs : List ResultVar} {ss : List SW} {js : List Nat} {X rest B : List Chunk} {ex : Exit} {γ : Type} {X' : γ → List Chunk} {sv : γ → SV1} {j : Nat} (q : γ) (hex : ex = .ret ∨ ex = .normal) (hp : picks st.X [j] = some ([cdefs st.df], B)) (hr : fn.results = xs.toArray) (h : ResO P { st with X := B, df := [] } xs ss) (hX : picks B js = some (X, rest)) (hX' : X = X' q) (hsv : mkR ss = sv q) :
    JQ Bs ex st (bodyPostM (WF none) 0 P fn fun en w' => ∃ g, Back Bs.e0 Bs.w0 Bs.F0 (X' g) (sv g) en w') := by
  intro a w ⟨e, hst⟩
  have hst1 : StE Bs ⟨st.ρ, cdefs st.df :: B, st.df⟩ e a w := hst.perm (picks_perm hp)
  have key : LeavesInM (WF none) 0 P fn a.tmps (fun en w' => ∃ g, Back Bs.e0 Bs.w0 Bs.F0 (X' g) (sv g) en w') a.defers .returning w := leaves_defs hst1 fun w' h' => by
    obtain ⟨v, h1, h2⟩ := results_run (P := P) hr h h'
    refine ⟨v, h1, q, ?_⟩
    have h3 := (h'.drop (picks_perm hX)).out h2
    rw [← hX', ← hsv]
    exact h3
  rcases hex with rfl | rfl <;> exact key
end
end Go.Proofs.Ytbmimaabgclhjaa.Fw
