/- The plain law EventNext. -/
import Derived.Test.YthoggbomakolkaaB
namespace Go.Proofs.Ythoggbomakolkaa
open Go Fw
set_option linter.unusedVariables false
set_option linter.unusedSimpArgs false

theorem refName_eq (k : Nat) (s : List UInt8) : ref09_MayName k s = some (decide (mayName s)) := by
  simp only [ref09_MayName, lt1, Option.bind_some, Option.some.injEq, mayName]
  by_cases h1 : 1 ≤ s.length <;> by_cases h2 : s.length ≤ 32 <;> simp [h1, h2] <;> omega
theorem refVec_eq (k : Nat) (hk : 17 ≤ k) (v : Vc) : ref09_MayVector k v = some (decide (small v)) := by
  have hlp : ∃ t, loopO (fun s => ref09_MayVector.b1 k v s) k (0 : Int) = some t ∧ ((t = .inr false ∧ ¬ small v) ∨ (t = .inl () ∧ small v)) := by
    refine loop_inv (I := fun s => 0 ≤ s ∧ s ≤ 16 ∧ ∀ (i : Nat) (h : i < 16), (i : Int) < s → v[i].toNat ≤ 4611686018427387904) (m := fun s => (16 - s).toNat) _ ?_ k 0 ⟨by omega, by omega, fun i _ h => by omega⟩ (by show (16 - (0 : Int)).toNat < k; omega)
    intro s ⟨h0, h1, h2⟩
    by_cases hlt : s < 16
    · obtain ⟨i, rfl⟩ : ∃ i : Nat, s = i := ⟨s.toNat, by omega⟩
      have hi : i < 16 := by omega
      simp only [ref09_MayVector.b1, lt1, dec_t (show (i : Int) < 16 by omega), if_true, inV_ok (show 0 ≤ (i : Int) by omega) (show (i : Int).toNat < 16 by omega), Option.bind_some, getV, Int.toNat_natCast, UInt64.lt_iff_toNat_lt, show (4611686018427387904 : UInt64).toNat = 4611686018427387904 from rfl, w64_succ (show i < 9223372036854775807 by omega)]
      by_cases hb : 4611686018427387904 < v[i].toNat
      · right
        simp only [hb, decide_true, if_true]
        exact ⟨_, rfl, .inl ⟨rfl, fun h => by have := h i hi; omega⟩⟩
      · left
        simp only [hb, decide_false, Bool.false_eq_true, if_false]
        refine ⟨_, rfl, ⟨by omega, by omega, fun j hj hlt => ?_⟩, by omega⟩
        by_cases hji : j = i
        · subst hji; omega
        · exact h2 j hj (by omega)
    · right
      simp only [ref09_MayVector.b1, lt1, dec_f (show ¬ s < 16 by omega), Bool.false_eq_true, if_false]
      exact ⟨_, rfl, .inr ⟨rfl, fun i hi => h2 i hi (by omega)⟩⟩
  obtain ⟨t, h1, h2⟩ := hlp
  simp only [ref09_MayVector, h1, Option.bind_some]
  rcases h2 with ⟨rfl, h4⟩ | ⟨rfl, h4⟩ <;> simp [h4]
theorem ofI_nat {j : Nat} (h : j < 1000) : (UN.ofI (j : Int) : UInt64) = UInt64.ofNat j := by
  show UInt64.ofNat _ = _
  congr 1
  show ((j : Int) % ((2 ^ 64 : Nat) : Int)).toNat = j
  omega
theorem ofNat_toNat' {j : Nat} (h : j < 1000) : (UInt64.ofNat j).toNat = j := by simp; omega
/-- The vector x with i at a place. -/
def sv (x : Vc) (f : Fin 16) (i : Nat) : Vc := putV x f (UInt64.ofNat i)
theorem sv_get (x : Vc) (f : Fin 16) (i j : Nat) (h : i < 1000) (hj : j < 16) : (sv x f i)[j].toNat = if f.1 = j then i else x[j].toNat := by
  simp only [sv, putV, Vector.getElem_set]
  split
  · exact ofNat_toNat' h
  · rfl
theorem pure_EventNext (y0 : Int) (y1 : (List (List UInt8))) (y2 : (Vector UInt64 16)) (f0 : (IntKind.min .i64 ≤ y0 ∧ y0 ≤ IntKind.max .i64)) (f1 : (List.length y1 * 16 ≤ 140737488351232 ∧ ∀ z0 ∈ y1, (List.length z0 ≤ 140737488351232))) (f2 : (∀ (i : Nat) (h : i < 16), True)) : ∃ k, law09_EventNext k y0 y1 y2 = some true := by
  refine ⟨1026, ?_⟩
  have hk : (1026 : Nat) ≤ 1026 := Nat.le_refl _
  generalize hK : (1026 : Nat) = K at hk
  have hk' : 1026 ≤ K := by omega
  clear hk
  have hkn := known_eq K hk'
  simp only [law09_EventNext, lt1, hkn, Option.bind_some]
  by_cases hcond : y0 < 1 ∨ y0 > 16 ∨ (y1.length : Int) > 60
  · have : (bif (bif decide (y0 < 1) then true else decide (y0 > 16)) then true else decide ((y1.length : Int) > 60)) = true := by
      rcases hcond with h | h | h <;> simp [h]
    rw [this]
    rfl
  · have hc1 : 1 ≤ y0 := by omega
    have hc2 : y0 ≤ 16 := by omega
    have hc3 : y1.length ≤ 60 := by omega
    simp only [dec_f (show ¬ y0 < 1 by omega), dec_f (show ¬ y0 > 16 by omega), dec_f (show ¬ (y1.length : Int) > 60 by omega), cond_false, Bool.false_eq_true, if_false]
    have h16 : (y0 - 1).toNat < 16 := by omega
    simp only [w64_pred hc1 hc2, inV_ok (show 0 ≤ y0 - 1 by omega) h16, Option.bind_some]
    generalize hf : (⟨(y0 - 1).toNat, h16⟩ : Fin 16) = f
    have hfv : f.1 = (y0 - 1).toNat := by rw [← hf]
    -- the names
    have hb1 : ∃ t, loopO (fun s => law09_EventNext.b1 K y1 s) K (0 : Int) = some t ∧ (t = .inr true ∨ (t = .inl () ∧ ∀ (i : Nat) (h : i < y1.length), mayName y1[i])) := by
      refine loop_inv (I := fun s : Int => 0 ≤ s ∧ s ≤ (y1.length : Int) ∧ ∀ (i : Nat) (h : i < y1.length), (i : Int) < s → mayName y1[i]) (m := fun s => ((y1.length : Int) - s).toNat) _ ?_ K 0 ⟨by omega, by omega, fun i _ h => by omega⟩ (by show ((y1.length : Int) - (0 : Int)).toNat < K; omega)
      intro s ⟨h0, h1, h2⟩
      by_cases hlt : s < y1.length
      · obtain ⟨i, rfl⟩ : ∃ i : Nat, s = i := ⟨s.toNat, by omega⟩
        have hi : i < y1.length := by omega
        simp only [law09_EventNext.b1, lt1, dec_t hlt, if_true, idxL_lt hi, Option.bind_some, refName_eq, hkn, w64_succ (show i < 9223372036854775807 by omega)]
        by_cases hb : mayName y1[i]
        · left
          simp only [hb, decide_true, Bool.not_true, Bool.false_eq_true, if_false]
          refine ⟨_, rfl, ⟨by omega, by omega, fun j hj hlt => ?_⟩, by omega⟩
          by_cases hji : j = i
          · subst hji; exact hb
          · exact h2 j hj (by omega)
        · right
          simp only [hb, decide_false, Bool.not_false, if_true]
          exact ⟨_, rfl, .inl rfl⟩
      · right
        simp only [law09_EventNext.b1, lt1, dec_f hlt, Bool.false_eq_true, if_false]
        exact ⟨_, rfl, .inr ⟨rfl, fun i hi => h2 i hi (by omega)⟩⟩
    obtain ⟨t, ht, htt⟩ := hb1
    rw [ht]
    rcases htt with rfl | ⟨rfl, hnames⟩
    · rfl
    simp only [Option.bind_some, refVec_eq K (by omega)]
    by_cases hsm : small (putV y2 f 0)
    · simp only [hsm, decide_true, Bool.not_true, Bool.false_eq_true, if_false]
      generalize hX : putV y2 f 0 = X at hsm
      have hXf : sv X f 0 = X := vc_ext fun j hj => by
        rw [sv_get X f 0 j (by omega) hj]
        split
        · rename_i h
          rw [← hX]
          simp [putV, h]
        · rfl
      have hat : ∀ i, i < 1000 → at_ (sv X f i) y0 = i := fun i hi => by rw [at_lt h16, sv_get X f i _ hi h16, if_pos hfv]
      have hready : ∀ i j, i ≤ 60 → j < y1.length → (h : j < y1.length) → event_Ready K (api_Event.mk (api_Dot.mk y0 (UN.ofI ((j + 1 : Nat) : Int))) y1[j] [] (putV X f (UN.ofI (j : Int))) []) (sv X f i) = some (decide (i = j)) := by
        intro i j hi _ hj
        rw [Ready_nil K hk' _ _ rfl, ofI_nat (show j + 1 < 1000 by omega), ofI_nat (show j < 1000 by omega)]
        congr 1
        rw [decide_eq_decide]
        show (core ⟨⟨y0, UInt64.ofNat (j + 1)⟩, y1[j], [], sv X f j, []⟩ ∧ jn (sv X f i) (sv X f j) = sv X f i ∧ at_ (sv X f i) y0 = (UInt64.ofNat (j + 1)).toNat - 1) ↔ i = j
        rw [ofNat_toNat' (show j + 1 < 1000 by omega), hat i (by omega)]
        constructor
        · intro h; have := h.2.2; omega
        · rintro rfl
          refine ⟨⟨⟨hc1, hc2, ?_, ?_⟩, fun m hm => ?_, ?_, hnames i hj, by simp, by simp⟩, (jn_eq_iff _ _).2 fun m hm => Nat.le_refl _, by omega⟩
          · show 1 ≤ (UInt64.ofNat (i + 1)).toNat
            rw [ofNat_toNat' (by omega)]; omega
          · show (UInt64.ofNat (i + 1)).toNat ≤ _
            rw [ofNat_toNat' (by omega)]; omega
          · show (sv X f i)[m].toNat ≤ _
            rw [sv_get X f i m (by omega) hm]
            split
            · omega
            · exact hsm m hm
          · show at_ (sv X f i) y0 = (UInt64.ofNat (i + 1)).toNat - 1
            rw [hat i (by omega), ofNat_toNat' (by omega)]; omega
      have hunder : ∀ i j, i ≤ 60 → j < y1.length → event_Under K (sv X f i) (api_Dot.mk y0 (UN.ofI ((j + 1 : Nat) : Int))) = some (decide (j < i)) := by
        intro i j hi hj
        rw [under_eq, ofI_nat (show j + 1 < 1000 by omega)]
        congr 1
        rw [decide_eq_decide]
        show mayDot ⟨y0, UInt64.ofNat (j + 1)⟩ ∧ (UInt64.ofNat (j + 1)).toNat ≤ at_ (sv X f i) y0 ↔ j < i
        rw [hat i (by omega), ofNat_toNat' (by omega)]
        constructor
        · intro h; have := h.2; omega
        · intro h
          refine ⟨⟨hc1, hc2, ?_, ?_⟩, by omega⟩
          · show 1 ≤ (UInt64.ofNat (j + 1)).toNat
            rw [ofNat_toNat' (by omega)]; omega
          · show (UInt64.ofNat (j + 1)).toNat ≤ _
            rw [ofNat_toNat' (by omega)]; omega
      have hb3 : ∀ i, i < y1.length → loopO (fun s => law09_EventNext.b3 K y1 y0 X (sv X f i) (i : Int) s) K (0 : Int) = some (.inl ()) := by
        intro i hi
        refine loop_g (n := y1.length) (fun j => ((j : Nat) : Int)) _ rfl ?_ ?_ (by omega)
        · intro j hj
          simp only [law09_EventNext.b3, lt1, dec_t (show (j : Int) < (y1.length : Int) by omega), if_true, w64_succ (show j < 9223372036854775807 by omega), idxL_lt hj, w64_pred hc1 hc2, inV_ok (show 0 ≤ y0 - 1 by omega) h16, hf, Option.bind_some, hready i j (by omega) hj hj, hunder i j (by omega) hj]
          have e1 : ((i : Int) == (j : Int)) = decide (i = j) := by rw [Bool.eq_iff_iff, beq_iff_eq, decide_eq_true_eq]; omega
          have e2 : decide ((j : Int) < (i : Int)) = decide (j < i) := by rw [decide_eq_decide]; omega
          simp only [e1, e2, bne_self_eq_false, Bool.false_eq_true, if_false, Option.bind_some]
        · simp only [law09_EventNext.b3, lt1, dec_f (show ¬ (y1.length : Int) < (y1.length : Int) by omega), Bool.false_eq_true, if_false]
      have hb2 : loopO (fun s => law09_EventNext.b2 K y1 y0 X s.1 s.2) K (X, (0 : Int)) = some (.inl ()) := by
        refine loop_g (n := y1.length) (fun i => (sv X f i, ((i : Nat) : Int))) _ (by rw [hXf]; rfl) ?_ ?_ (by omega)
        · intro i hi
          simp only [law09_EventNext.b2, lt1, dec_t (show (i : Int) < (y1.length : Int) by omega), if_true, hb3 i hi, Option.bind_some, w64_pred hc1 hc2, inV_ok (show 0 ≤ y0 - 1 by omega) h16, hf, w64_succ (show i < 9223372036854775807 by omega), Option.some.injEq, Sum.inl.injEq, Prod.mk.injEq, and_true]
          refine vc_ext fun j hj => ?_
          rw [sv_get X f (i + 1) j (by omega) hj]
          simp only [putV, getV, Vector.getElem_set]
          by_cases hfj : f.1 = j
          · rw [if_pos hfj, if_pos hfj]
            have := sv_get X f i f.1 (by omega) f.2
            rw [if_pos rfl] at this
            rw [UInt64.toNat_add, this]
            show (i + 1) % 2 ^ 64 = i + 1
            omega
          · rw [if_neg hfj, if_neg hfj]
            have := sv_get X f i j (by omega) hj
            rw [if_neg hfj] at this
            exact this
        · simp only [law09_EventNext.b2, lt1, dec_f (show ¬ (y1.length : Int) < (y1.length : Int) by omega), Bool.false_eq_true, if_false]
      rw [hb2]
      rfl
    · simp only [hsm, decide_false, Bool.not_false, if_true]
end Go.Proofs.Ythoggbomakolkaa
