/- The known rows of cursors; joining vectors. -/
import Derived.Test.YtnhiiabdoichlaaC
namespace Go.Proofs.Ytnhiiabdoichlaa
open Go Fw
set_option linter.unusedVariables false
set_option linter.unusedSimpArgs false

def vK : Vector UInt64 16 := (Vector.set (Vector.set (Vector.set (Vector.replicate 16 (0 : UInt64)) 0 (3 : UInt64) (by decide)) 1 (0 : UInt64) (by decide)) 2 (5 : UInt64) (by decide))
set_option maxRecDepth 100000 in
theorem vK_bytes : vecB vK 16 = [(0 : UInt8), (0 : UInt8), (0 : UInt8), (0 : UInt8), (0 : UInt8), (0 : UInt8), (0 : UInt8), (3 : UInt8), (0 : UInt8), (0 : UInt8), (0 : UInt8), (0 : UInt8), (0 : UInt8), (0 : UInt8), (0 : UInt8), (0 : UInt8), (0 : UInt8), (0 : UInt8), (0 : UInt8), (0 : UInt8), (0 : UInt8), (0 : UInt8), (0 : UInt8), (5 : UInt8), (0 : UInt8), (0 : UInt8), (0 : UInt8), (0 : UInt8), (0 : UInt8), (0 : UInt8), (0 : UInt8), (0 : UInt8), (0 : UInt8), (0 : UInt8), (0 : UInt8), (0 : UInt8), (0 : UInt8), (0 : UInt8), (0 : UInt8), (0 : UInt8), (0 : UInt8), (0 : UInt8), (0 : UInt8), (0 : UInt8), (0 : UInt8), (0 : UInt8), (0 : UInt8), (0 : UInt8), (0 : UInt8), (0 : UInt8), (0 : UInt8), (0 : UInt8), (0 : UInt8), (0 : UInt8), (0 : UInt8), (0 : UInt8), (0 : UInt8), (0 : UInt8), (0 : UInt8), (0 : UInt8), (0 : UInt8), (0 : UInt8), (0 : UInt8), (0 : UInt8), (0 : UInt8), (0 : UInt8), (0 : UInt8), (0 : UInt8), (0 : UInt8), (0 : UInt8), (0 : UInt8), (0 : UInt8), (0 : UInt8), (0 : UInt8), (0 : UInt8), (0 : UInt8), (0 : UInt8), (0 : UInt8), (0 : UInt8), (0 : UInt8), (0 : UInt8), (0 : UInt8), (0 : UInt8), (0 : UInt8), (0 : UInt8), (0 : UInt8), (0 : UInt8), (0 : UInt8), (0 : UInt8), (0 : UInt8), (0 : UInt8), (0 : UInt8), (0 : UInt8), (0 : UInt8), (0 : UInt8), (0 : UInt8), (0 : UInt8), (0 : UInt8), (0 : UInt8), (0 : UInt8), (0 : UInt8), (0 : UInt8), (0 : UInt8), (0 : UInt8), (0 : UInt8), (0 : UInt8), (0 : UInt8), (0 : UInt8), (0 : UInt8), (0 : UInt8), (0 : UInt8), (0 : UInt8), (0 : UInt8), (0 : UInt8), (0 : UInt8), (0 : UInt8), (0 : UInt8), (0 : UInt8), (0 : UInt8), (0 : UInt8), (0 : UInt8), (0 : UInt8), (0 : UInt8), (0 : UInt8), (0 : UInt8), (0 : UInt8), (0 : UInt8), (0 : UInt8)] := by decide +kernel
theorem vK_may : mayB vK = true := by decide +kernel
theorem put12 : put ([97] : List UInt8).length 2 = [0, 1] ∧ put ([98] : List UInt8).length 2 = [0, 1] := by decide
set_option maxRecDepth 100000 in
theorem cod_a : ((cdC [115] [97] (vecB vK 16)).toList.map UInt8.toNat).take 4 = [239, 250, 171, 187] := by
  rw [cdC, put12.1, vK_bytes, COD_lit _ _ (by decide) (by decide)]
  decide +kernel
set_option maxRecDepth 100000 in
theorem cod_b : ((cdC [115] [98] (vecB vK 16)).toList.map UInt8.toNat).take 4 = [84, 118, 154, 59] := by
  rw [cdC, put12.2, vK_bytes, COD_lit _ _ (by decide) (by decide)]
  decide +kernel
theorem off_b : OFF [115] [98] (CUR [115] [97] vK) = (Vector.replicate 16 0, 9) := by
  unfold OFF
  have hl := CUR_len [115] [97] vK
  have hvl := vecB_len vK 16 (by omega)
  have e2 : (CUR [115] [97] vK).take 128 = vecB vK 16 := by rw [CUR, List.take_append_of_le_length (by omega), List.take_of_length_le (by omega)]
  have e3 : (CUR [115] [97] vK).drop 128 = (cdC [115] [97] (vecB vK 16)).toList := by rw [CUR]; exact List.drop_left' (by omega)
  rw [if_neg (by decide), if_neg (by omega), if_neg (by simp [hl]), if_neg]
  rintro ⟨_, h⟩
  rw [e2, e3] at h
  have ha := cod_a
  have hb := cod_b
  rw [h, ha] at hb
  revert hb
  decide
theorem known_ok {k : Nat} (hk : k = 4000) : law10_known k = some true := by
  have h1 := bytes_eq hk [115] [97] vK (by decide)
  rw [show (mayN [97] && mayB vK) = true by rw [vK_may]; decide, if_pos rfl] at h1
  have h1 : cursor_Bytes k [115] [97] (Vector.set (Vector.set (Vector.set (Vector.replicate 16 (0 : UInt64)) 0 (3 : UInt64) (by decide)) 1 (0 : UInt64) (by decide)) 2 (5 : UInt64) (by decide)) = some (CUR [115] [97] vK, 0) := h1
  have h2 := bytes_eq hk [115] [] vK (by decide)
  rw [show (mayN [] && mayB vK) = false by rfl, if_neg (by decide)] at h2
  have h2 : cursor_Bytes k [115] [] (Vector.set (Vector.set (Vector.set (Vector.replicate 16 (0 : UInt64)) 0 (3 : UInt64) (by decide)) 1 (0 : UInt64) (by decide)) 2 (5 : UInt64) (by decide)) = some ([], 2) := h2
  have hl := CUR_len [115] [97] vK
  have h3 := of_eq hk [115] [97] (CUR [115] [97] vK) (by decide)
  rw [off_cur [115] [97] vK (by decide) vK_may] at h3
  have h4 := of_eq hk [115] [98] (CUR [115] [97] vK) (by decide)
  rw [off_b] at h4
  have h5 := of_eq hk [115] [97] [] (by decide)
  rw [show OFF [115] [97] [] = (Vector.replicate 16 0, 0) by unfold OFF; rw [if_neg (by decide), if_pos (show ([] : List UInt8).length = 0 from rfl)]] at h5
  have h6 : subL (CUR [115] [97] vK) 1 ((CUR [115] [97] vK).length : Int) = some ((CUR [115] [97] vK).drop 1) := subL_tail (by omega) (by omega)
  have h7 := of_eq hk [115] [97] ((CUR [115] [97] vK).drop 1) (by decide)
  rw [show OFF [115] [97] ((CUR [115] [97] vK).drop 1) = (Vector.replicate 16 0, 9) by unfold OFF; rw [if_neg (by decide), if_neg (by simp [hl]), if_pos (by simp [hl])]] at h7
  have hn : ∀ e, law10_num k e = some () := fun e => rfl
  have b0 : (((CUR [115] [97] vK).length : Int) != 160) = false := by simp [hl]
  have b1 : ((0 : Int) != 0) = false := rfl
  have b2 : ((0 : Int) == 0) = true := rfl
  have b3 : ((9 : Int) == 9) = true := rfl
  have b4 : ((2 : Int) == 2) = true := rfl
  have b5 : eqV (fun x y => x == y) vK (Vector.set (Vector.set (Vector.set (Vector.replicate 16 (0 : UInt64)) 0 (3 : UInt64) (by decide)) 1 (0 : UInt64) (by decide)) 2 (5 : UInt64) (by decide)) = true := (eqV_iff (fun _ _ => beq_iff_eq)).2 rfl
  have b6 : eqV (fun x y => x == y) (Vector.replicate 16 (0 : UInt64)) (Vector.replicate 16 (0 : UInt64)) = true := (eqV_iff (fun _ _ => beq_iff_eq)).2 rfl
  simp only [law10_known, h1, h2, h3, h4, h5, h6, h7, hn, b0, b1, b2, b3, b4, b5, b6, Option.bind_some, lt1, Bool.not_false, Bool.false_eq_true, if_false, if_true, cond_false, cond_true]

abbrev Vc := Vector UInt64 16
def jn (a b : Vc) : Vc := Vector.ofFn fun i => maxU a[i] b[i]
theorem join_eq (k : Nat) (hk : 17 ≤ k) (a b : Vc) : cursor_Join k a b = some (jn a b) := by
  have hl : loopO (fun s => cursor_Join.b1 k b s.1 s.2) k (a, (0 : Int)) = some (jn a b) := by
    refine loop_g (n := 16) (fun i => ((Vector.ofFn fun j : Fin 16 => if j.1 < i then maxU a[j] b[j] else a[j] : Vc), (i : Int))) (jn a b) ?_ ?_ ?_ (by omega)
    · simp only [Nat.not_lt_zero, if_false]
      congr 1
      exact Vector.ext fun i hi => by simp
    · intro i hi
      have h1 : w64 ((i : Int) + 1) = ((i + 1 : Nat) : Int) := w64_succ (by omega)
      have h2 : inV 16 (i : Int) = some ⟨i, hi⟩ := inV_ok (by omega) (by simpa using hi)
      have h3 : idxV b (i : Int) = some b[i] := by simp [idxV, hi]
      simp only [cursor_Join.b1, lt1, dec_t (show (i : Int) < 16 by omega), if_true, h2, h3, h1, Option.bind_some, Option.some.injEq, Sum.inl.injEq, Prod.mk.injEq, and_true]
      refine Vector.ext fun j hj => ?_
      simp only [putV, getV, Vector.getElem_set, Vector.getElem_ofFn]
      by_cases hij : i = j
      · subst hij; simp
      · rw [if_neg hij]
        have : (j < i) ↔ (j < i + 1) := by omega
        simp only [this]
    · simp only [cursor_Join.b1, lt1, dec_f (show ¬ ((16 : Nat) : Int) < 16 by omega), Bool.false_eq_true, if_false, Option.some.injEq, Sum.inr.injEq]
      refine Vector.ext fun j hj => ?_
      simp [jn, hj]
  unfold cursor_Join
  rw [hl]
  rfl
theorem jn_get (a b : Vc) (i : Nat) (h : i < 16) : (jn a b)[i] = maxU a[i] b[i] := by simp [jn]
theorem maxU_toNat (x y : UInt64) : (maxU x y).toNat = max x.toNat y.toNat := by
  unfold maxU
  simp only [UN.toN]
  split <;> omega
theorem jn_toNat (a b : Vc) (i : Nat) (h : i < 16) : (jn a b)[i].toNat = max a[i].toNat b[i].toNat := by rw [jn_get, maxU_toNat]
theorem vc_ext {a b : Vc} (h : ∀ i (h : i < 16), a[i].toNat = b[i].toNat) : a = b := Vector.ext fun i hi => UInt64.toNat_inj.1 (h i hi)
theorem eqVc {a b : Vc} : eqV (fun x y => x == y) a b = decide (a = b) := by
  rw [Bool.eq_iff_iff, eqV_iff (fun _ _ => beq_iff_eq), decide_eq_true_eq]
theorem jn_comm (a b : Vc) : jn a b = jn b a := vc_ext fun i h => by rw [jn_toNat, jn_toNat]; omega
theorem jn_assoc (a b c : Vc) : jn (jn a b) c = jn a (jn b c) := vc_ext fun i h => by simp only [jn_toNat]; omega
theorem jn_left (a b : Vc) : jn (jn a b) a = jn a b := vc_ext fun i h => by simp only [jn_toNat]; omega
/-- Every place at most. -/
theorem jn_eq_iff (a b : Vc) : jn a b = a ↔ ∀ i (h : i < 16), b[i].toNat ≤ a[i].toNat := by
  constructor
  · intro h i hi
    have := jn_toNat a b i hi
    rw [h] at this
    omega
  · intro h
    exact vc_ext fun i hi => by rw [jn_toNat]; have := h i hi; omega

theorem refjoin_eq (k : Nat) (hk : 17 ≤ k) (a b : Vc) : ref09_Join k a b = some (jn a b) := by
  have hl : loopO (fun s => ref09_Join.b1 k b s.1 s.2) k (a, (0 : Int)) = some (jn a b) := by
    refine loop_g (n := 16) (fun i => ((Vector.ofFn fun j : Fin 16 => if j.1 < i then maxU a[j] b[j] else a[j] : Vc), (i : Int))) (jn a b) ?_ ?_ ?_ (by omega)
    · simp only [Nat.not_lt_zero, if_false]
      congr 1
      exact Vector.ext fun i hi => by simp
    · intro i hi
      have h1 : w64 ((i : Int) + 1) = ((i + 1 : Nat) : Int) := w64_succ (by omega)
      have h2 : inV 16 (i : Int) = some ⟨i, hi⟩ := inV_ok (by omega) (by simpa using hi)
      have hg : getV (Vector.ofFn fun j : Fin 16 => if j.1 < i then maxU a[j] b[j] else a[j] : Vc) ⟨i, hi⟩ = a[i] := by simp [getV]
      have hgb : getV b ⟨i, hi⟩ = b[i] := rfl
      simp only [ref09_Join.b1, lt1, dec_t (show (i : Int) < 16 by omega), if_true, h2, hg, hgb, h1, Option.bind_some]
      have e : ∀ x : UInt64, x = maxU a[i] b[i] → putV (Vector.ofFn fun j : Fin 16 => if j.1 < i then maxU a[j] b[j] else a[j] : Vc) ⟨i, hi⟩ x = (Vector.ofFn fun j : Fin 16 => if j.1 < i + 1 then maxU a[j] b[j] else a[j] : Vc) := by
        rintro x rfl
        refine Vector.ext fun j hj => ?_
        simp only [putV, Vector.getElem_set, Vector.getElem_ofFn]
        by_cases hij : i = j
        · subst hij; simp
        · rw [if_neg hij]
          have : (j < i) ↔ (j < i + 1) := by omega
          simp only [Fin.getElem_fin, this]
      by_cases hc : a[i] < b[i]
      · have hm : b[i] = maxU a[i] b[i] := by unfold maxU; exact (if_pos (UInt64.lt_iff_toNat_lt.1 hc)).symm
        simp only [dec_t hc, if_true, Option.bind_some, e _ hm]
      · have hm : a[i] = maxU a[i] b[i] := by unfold maxU; exact (if_neg (fun h => hc (UInt64.lt_iff_toNat_lt.2 h))).symm
        simp only [dec_f hc, Bool.false_eq_true, if_false, Option.bind_some]
        have e2 := e _ hm
        have e3 : putV (Vector.ofFn fun j : Fin 16 => if j.1 < i then maxU a[j] b[j] else a[j] : Vc) ⟨i, hi⟩ a[i] = (Vector.ofFn fun j : Fin 16 => if j.1 < i then maxU a[j] b[j] else a[j] : Vc) := by
          refine Vector.ext fun j hj => ?_
          simp only [putV, Vector.getElem_set, Vector.getElem_ofFn]
          by_cases hij : i = j
          · subst hij; simp
          · rw [if_neg hij]
        rw [← e2, e3]
    · simp only [ref09_Join.b1, lt1, dec_f (show ¬ ((16 : Nat) : Int) < 16 by omega), Bool.false_eq_true, if_false, Option.some.injEq, Sum.inr.injEq]
      refine Vector.ext fun j hj => ?_
      simp [jn, hj]
  unfold ref09_Join
  rw [hl]
  rfl
theorem covers_eq (k : Nat) (hk : 17 ≤ k) (a b : Vc) : cursor_Covers k a b = some (decide (jn a b = a)) := by
  simp only [cursor_Covers, join_eq k hk, Option.bind_some, lt1, eqVc]
theorem refcovers_eq (k : Nat) (hk : 17 ≤ k) (a b : Vc) : ref10_Covers k a b = some (decide (jn a b = a)) := by
  have hl : ∃ t, loopO (fun s => ref10_Covers.b1 k a b s) k (0 : Int) = some t ∧ t = (if jn a b = a then .inl () else .inr false) := by
    refine loop_inv (I := fun s : Int => 0 ≤ s ∧ s ≤ 16 ∧ ∀ (i : Nat) (h : i < 16), (i : Int) < s → b[i].toNat ≤ a[i].toNat) (m := fun s => (16 - s).toNat) _ ?_ k _ ⟨by omega, by omega, fun i _ h => by omega⟩ (by show (16 - (0 : Int)).toNat < k; omega)
    rintro s ⟨h0, h1, h2⟩
    by_cases hlt : s < 16
    · obtain ⟨i, rfl⟩ : ∃ i : Nat, s = i := ⟨s.toNat, by omega⟩
      have hi : i < 16 := by omega
      have hx : inV 16 (i : Int) = some ⟨i, hi⟩ := inV_ok (by omega) (by simpa using hi)
      simp only [ref10_Covers.b1, lt1, dec_t hlt, if_true, hx, getV, Option.bind_some, w64_succ (show i < 9223372036854775807 by omega), UInt64.lt_iff_toNat_lt]
      by_cases hb : a[i].toNat < b[i].toNat
      · right
        simp only [hb, decide_true, if_true]
        refine ⟨_, rfl, ?_⟩
        rw [if_neg (fun h => by have := (jn_eq_iff a b).1 h i hi; omega)]
      · left
        simp only [hb, decide_false, Bool.false_eq_true, if_false]
        refine ⟨_, rfl, ⟨by omega, by omega, fun j hj hlt => ?_⟩, by omega⟩
        by_cases hji : j = i
        · subst hji; omega
        · exact h2 j hj (by omega)
    · right
      simp only [ref10_Covers.b1, lt1, dec_f hlt, Bool.false_eq_true, if_false]
      refine ⟨_, rfl, ?_⟩
      rw [if_pos ((jn_eq_iff a b).2 fun i hi => h2 i hi (by omega))]
  obtain ⟨t, h1, h2⟩ := hl
  simp only [ref10_Covers, h1, Option.bind_some, h2]
  by_cases h : jn a b = a <;> simp [h]
end Go.Proofs.Ytnhiiabdoichlaa
