/- Cursors: what the functions compute. -/
import Derived.Test.YtnhiiabdoichlaaW
namespace Go.Proofs.Ytnhiiabdoichlaa
open Go Fw
set_option linter.unusedVariables false
set_option linter.unusedSimpArgs false

theorem put_getB : ∀ (n : Nat) (b : List UInt8), b.length = n → put (getB b) n = b := by
  intro n
  induction n with
  | zero => intro b hb; rw [List.eq_nil_of_length_eq_zero hb]; rfl
  | succ n ih =>
    intro b hb
    have h1 : b = b.dropLast ++ [b.getLast (by intro h; subst h; simp at hb)] := (List.dropLast_concat_getLast _).symm
    generalize b.getLast (by intro h; subst h; simp at hb) = x at h1
    generalize b.dropLast = c at h1
    subst h1
    have hc : c.length = n := by simpa using hb
    rw [getB_app, put_succ]
    have hx := x.toNat_lt
    rw [show (getB c * 256 + x.toNat) / 256 = getB c by omega, ih c hc]
    congr 2
    apply UInt8.toNat_inj.1
    rw [UInt8.toNat_ofNat']
    omega
theorem put_getU (b : List UInt8) (hb : b.length = 8) : put (getU b).toNat 8 = b := by
  rw [getU_toNat b (by omega)]; exact put_getB 8 b hb
/-- The vector of bytes. -/
def dcV (b : List UInt8) : Vector UInt64 16 := Vector.ofFn fun i => getU ((b.drop (8 * i.1)).take 8)
theorem dcV_get (b : List UInt8) (i : Nat) (h : i < 16) : (dcV b)[i] = getU ((b.drop (8 * i)).take 8) := by simp [dcV]
theorem vecB_dcV (b : List UInt8) (hb : 128 ≤ b.length) : ∀ i, i ≤ 16 → vecB (dcV b) i = b.take (8 * i) := by
  intro i
  induction i with
  | zero => intro _; rfl
  | succ i ih =>
    intro hi
    rw [vecB_succ _ i (by omega), ih (by omega), dcV_get b i (by omega), put_getU _ (by simp; omega), show 8 * (i + 1) = 8 * i + 8 by omega, List.take_add]
theorem dcV_take (b : List UInt8) : dcV (b.take 128) = dcV b := by
  refine Vector.ext fun i hi => ?_
  rw [dcV_get _ i hi, dcV_get _ i hi]
  congr 1
  rw [List.drop_take, List.take_take, Nat.min_eq_left (by omega)]
theorem dcV_vecB (v : Vector UInt64 16) (r : List UInt8) : dcV (vecB v 16 ++ r) = v := by
  have hl := vecB_len v 16 (by omega)
  have h1 := vecB_dcV (vecB v 16 ++ r) (by rw [List.length_append]; omega) 16 (by omega)
  rw [List.take_append_of_le_length (by omega), List.take_of_length_le (by omega)] at h1
  have key : ∀ (u v : Vector UInt64 16) i, i ≤ 16 → vecB u i = vecB v i → ∀ j (hj : j < i) (h : j < 16), u[j] = v[j] := by
    intro u v i
    induction i with
    | zero => intro _ _ j hj; omega
    | succ i ih =>
      intro hi h j hj hj2
      rw [vecB_succ u i (by omega), vecB_succ v i (by omega)] at h
      have h2 := List.append_inj h (by rw [vecB_len u i (by omega), vecB_len v i (by omega)])
      by_cases hji : j = i
      · subst hji
        have := congrArg getU h2.2
        rwa [getU_put8, getU_put8] at this
      · exact ih (by omega) h2.1 j (by omega) hj2
  exact Vector.ext fun j hj => key _ _ 16 (by omega) h1 j hj hj
theorem vecRead (k : Nat) (hk : 200 ≤ k) (b : List UInt8) (hb : b.length = 128) : wire_Reader_Vector k true true b = some (dcV b, ⟨[], true, true⟩) := by
  have h1 := vecB_dcV b (by omega) 16 (by omega)
  rw [List.take_of_length_le (by omega)] at h1
  have h2 : takeR ⟨b, true, true⟩ 128 = (b, true, ⟨[], true, true⟩) := by
    unfold takeR
    rw [if_neg (by simp), if_neg (by simp [hb])]
    have e1 : b.take 128 = b := List.take_of_length_le (by omega)
    have e2 : b.drop 128 = [] := List.drop_of_length_le (by omega)
    show (b.take 128, true, (⟨b.drop 128, true, true⟩ : wire_Reader)) = _
    rw [e1, e2]
  have h3 := vec_loop k (by omega) (dcV b)
  rw [h1] at h3
  have h3 : loopO (fun s => wire_Reader_Vector.b1 k s.1 s.2.1 s.2.2) k (Vector.replicate 16 0, ⟨b, true, true⟩, (0 : Int)) = some (dcV b) := h3
  simp only [wire_Reader_Vector, take1_eq, h2, Option.bind_some, clone_eq k b (by omega), h3]

def mayB (v : Vector UInt64 16) : Bool := v.toList.all fun x => decide (x.toNat ≤ 4611686018427387904)
theorem mayB_iff (v : Vector UInt64 16) : mayB v = true ↔ ∀ i (h : i < 16), v[i].toNat ≤ 4611686018427387904 := by
  unfold mayB
  rw [List.all_eq_true]
  constructor
  · intro h i hi
    have := h v[i] (by simp)
    simpa using this
  · intro h x hx
    obtain ⟨i, hi, rfl⟩ := List.getElem_of_mem hx
    have := h i (by simpa using hi)
    simpa using this
theorem c62 : (4611686018427387904 : UInt64).toNat = 4611686018427387904 := rfl
theorem cursorMay_eq (k : Nat) (hk : 200 ≤ k) (v : Vector UInt64 16) : cursor_May k v = some (mayB v) := by
  have hl : ∃ t, loopO (fun s => cursor_May.b1 k v s.1 s.2) k (true, (0 : Int)) = some t ∧ t = mayB v := by
    refine loop_inv (I := fun s : Bool × Int => s.1 = true ∧ 0 ≤ s.2 ∧ s.2 ≤ 16 ∧ ∀ (i : Nat) (h : i < 16), (i : Int) < s.2 → v[i].toNat ≤ 4611686018427387904) (m := fun s => (16 - s.2).toNat) _ ?_ k _ ⟨rfl, by show (0 : Int) ≤ 0; omega, by show (0 : Int) ≤ 16; omega, fun i _ h => by have : (i : Int) < 0 := h; omega⟩ (by show (16 - (0 : Int)).toNat < k; omega)
    rintro ⟨g, s⟩ ⟨hg, h0, h1, h2⟩
    simp only at hg h0 h1 h2
    subst hg
    by_cases hlt : s < 16
    · obtain ⟨i, rfl⟩ : ∃ i : Nat, s = i := ⟨s.toNat, by omega⟩
      have hi : i < 16 := by omega
      have hx : idxV v (i : Int) = some v[i] := by simp [idxV, hi]
      simp only [cursor_May.b1, lt1, dec_t hlt, if_true, hx, Option.bind_some, w64_succ (show i < 9223372036854775807 by omega), UInt64.le_iff_toNat_le, c62]
      by_cases hb : v[i].toNat ≤ 4611686018427387904
      · left
        simp only [hb, decide_true, Bool.not_true, Bool.false_eq_true, if_false]
        refine ⟨_, rfl, ⟨rfl, by show (0 : Int) ≤ ((i + 1 : Nat) : Int); omega, by show ((i + 1 : Nat) : Int) ≤ 16; omega, fun j hj hlt => ?_⟩, by show (16 - ((i + 1 : Nat) : Int)).toNat < (16 - (i : Int)).toNat; omega⟩
        have hlt : (j : Int) < ((i + 1 : Nat) : Int) := hlt
        by_cases hji : j = i
        · subst hji; exact hb
        · exact h2 j hj (by omega)
      · right
        simp only [hb, decide_false, Bool.not_false, if_true]
        refine ⟨_, rfl, ?_⟩
        cases hm : mayB v with
        | false => rfl
        | true => exact absurd ((mayB_iff v).1 hm i hi) hb
    · right
      simp only [cursor_May.b1, lt1, dec_f hlt, Bool.false_eq_true, if_false]
      exact ⟨_, rfl, ((mayB_iff v).2 fun i hi => h2 i hi (by omega)).symm⟩
  obtain ⟨t, h1, h2⟩ := hl
  simp only [cursor_May, h1, Option.bind_some, h2]
theorem refMay_eq (k : Nat) (hk : 200 ≤ k) (v : Vector UInt64 16) : ref10_May k v = some (mayB v) := by
  have hl : ∃ t, loopO (fun s => ref09_MayVector.b1 k v s) k (0 : Int) = some t ∧ t = (if mayB v = true then .inl () else .inr false) := by
    refine loop_inv (I := fun s : Int => 0 ≤ s ∧ s ≤ 16 ∧ ∀ (i : Nat) (h : i < 16), (i : Int) < s → v[i].toNat ≤ 4611686018427387904) (m := fun s => (16 - s).toNat) _ ?_ k _ ⟨by omega, by omega, fun i _ h => by omega⟩ (by show (16 - (0 : Int)).toNat < k; omega)
    rintro s ⟨h0, h1, h2⟩
    by_cases hlt : s < 16
    · obtain ⟨i, rfl⟩ : ∃ i : Nat, s = i := ⟨s.toNat, by omega⟩
      have hi : i < 16 := by omega
      have hx : inV 16 (i : Int) = some ⟨i, hi⟩ := inV_ok (by omega) (by simpa using hi)
      simp only [ref09_MayVector.b1, lt1, dec_t hlt, if_true, hx, getV, Option.bind_some, w64_succ (show i < 9223372036854775807 by omega), UInt64.lt_iff_toNat_lt, c62]
      by_cases hb : 4611686018427387904 < v[i].toNat
      · right
        simp only [hb, decide_true, if_true]
        refine ⟨_, rfl, ?_⟩
        have : mayB v = false := by
          cases hm : mayB v with
          | false => rfl
          | true => have := (mayB_iff v).1 hm i hi; omega
        rw [this]; rfl
      · left
        simp only [hb, decide_false, Bool.false_eq_true, if_false]
        refine ⟨_, rfl, ⟨by omega, by omega, fun j hj hlt => ?_⟩, by omega⟩
        by_cases hji : j = i
        · subst hji; omega
        · exact h2 j hj (by omega)
    · right
      simp only [ref09_MayVector.b1, lt1, dec_f hlt, Bool.false_eq_true, if_false]
      refine ⟨_, rfl, ?_⟩
      rw [if_pos ((mayB_iff v).2 fun i hi => h2 i hi (by omega))]
  obtain ⟨t, h1, h2⟩ := hl
  simp only [ref10_May, ref09_MayVector, h1, Option.bind_some, h2]
  cases mayB v <;> rfl
def mayN (d : List UInt8) : Bool := decide (1 ≤ d.length) && decide (d.length ≤ 32)
theorem mayDev_eq (k : Nat) (d : List UInt8) : cursor_mayDevice k d = some (mayN d) := by
  simp only [cursor_mayDevice, lt1, Option.bind_some, mayN]
  by_cases h1 : 1 ≤ d.length <;> by_cases h2 : d.length ≤ 32 <;> simp [h1, h2] <;> omega
theorem mayName_eq (k : Nat) (d : List UInt8) : ref09_MayName k d = some (mayN d) := by
  simp only [ref09_MayName, lt1, Option.bind_some, mayN]
  by_cases h1 : 1 ≤ d.length <;> by_cases h2 : d.length ≤ 32 <;> simp [h1, h2] <;> omega
theorem mayN_le {d : List UInt8} (h : mayN d = true) : d.length ≤ 32 := by
  simp only [mayN, Bool.and_eq_true, decide_eq_true_eq] at h
  exact h.2
/-- A cursor's code, and its bytes. -/
noncomputable def cdC (s d b : List UInt8) : Vector UInt8 32 := COD s ((put d.length 2 ++ d) ++ b)
noncomputable def CUR (s d : List UInt8) (v : Vector UInt64 16) : List UInt8 := vecB v 16 ++ (cdC s d (vecB v 16)).toList
theorem CUR_len (s d : List UInt8) (v : Vector UInt64 16) : (CUR s d v).length = 160 := by
  rw [CUR, List.length_append, vecB_len v 16 (by omega)]; simp
theorem code_eq {k : Nat} (hk : k = 4000) (s d b : List UInt8) (hs : s.length ≤ 300) (hd : d.length ≤ 32) (hb : b.length ≤ 200) : cursor_code k s d b = some (cdC s d b) := by
  have h1 := wireBlob_eq k (by omega) d (by omega)
  rw [if_pos (by omega)] at h1
  have h2 := shaCode hk s [put d.length 2 ++ d, b] (by omega) (by simp) (by simp [put_length]; omega)
  simp only [List.flatten_cons, List.flatten_nil, List.append_nil] at h2
  simp only [cursor_code, h1, h2, Option.bind_some, cdC]
theorem sub32 (v : Vector UInt8 32) : subL v.toList 0 (32 : Int) = some v.toList := subL_all v
theorem bytes_eq {k : Nat} (hk : k = 4000) (s d : List UInt8) (v : Vector UInt64 16) (hs : s.length ≤ 300) : cursor_Bytes k s d v = some (if (mayN d && mayB v) = true then (CUR s d v, 0) else ([], 2)) := by
  cases hd : mayN d with
  | false => simp only [cursor_Bytes, lt1, mayDev_eq, hd, Option.bind_some, Bool.not_false, Bool.not_true, Bool.false_eq_true, if_false, cond_true, if_true, Bool.false_and]
  | true =>
    cases hv : mayB v with
    | false => simp only [cursor_Bytes, lt1, mayDev_eq, hd, Option.bind_some, Bool.not_false, Bool.not_true, Bool.false_eq_true, if_false, cond_true, cond_false, if_true, Bool.true_and, cursorMay_eq k (by omega), hv]
    | true =>
      have h1 := code_eq hk s d (vecB v 16) hs (mayN_le hd) (by rw [vecB_len v 16 (by omega)]; omega)
      have h2 : apL 1 (vecB v 16) (cdC s d (vecB v 16)).toList = some (CUR s d v) := apL_ok (by rw [vecB_len v 16 (by omega)]; simp)
      simp only [cursor_Bytes, lt1, mayDev_eq, hd, Option.bind_some, Bool.not_false, Bool.not_true, Bool.false_eq_true, if_false, cond_true, cond_false, if_true, Bool.true_and, cursorMay_eq k (by omega), hv, wireVec_eq k (by omega), h1, sub32, h2]
theorem refBytes_eq {k : Nat} (hk : k = 4000) (s d : List UInt8) (v : Vector UInt64 16) (hs : s.length ≤ 300) (hd : mayN d = true) : ref10_Bytes k s d v = some (CUR s d v) := by
  have hdl := mayN_le hd
  have hvl := vecB_len v 16 (by omega)
  have h0 : apL 1 (put d.length 2 ++ d) (vecB v 16) = some ((put d.length 2 ++ d) ++ vecB v 16) := apL_ok (by rw [hvl, List.length_append, put_length]; omega)
  have h1 := refCode hk s ((put d.length 2 ++ d) ++ vecB v 16) (by omega) (by rw [List.length_append, List.length_append, put_length, hvl]; omega)
  have h2 : apL 1 (vecB v 16) (COD s ((put d.length 2 ++ d) ++ vecB v 16)).toList = some (CUR s d v) := apL_ok (by rw [hvl]; simp)
  simp only [ref10_Bytes, refVec_eq k (by omega), refBlob_eq k (by omega) d (by omega), h0, h1, sub32, h2, Option.bind_some]
theorem equal_eq (k : Nat) (hk : 200 ≤ k) (a b : Vector UInt8 32) : sha_Equal k a b = some (decide (a = b)) := by
  have hl : ∃ t, loopO (fun s => sha_Equal.b1 k a b s.1 s.2) k ((0 : UInt8), (0 : Int)) = some t ∧ (t = 0 ↔ a = b) := by
    refine loop_inv (I := fun s : UInt8 × Int => 0 ≤ s.2 ∧ s.2 ≤ 32 ∧ (s.1 = 0 ↔ ∀ (i : Nat) (h : i < 32), (i : Int) < s.2 → a[i] = b[i])) (m := fun s => (32 - s.2).toNat) _ ?_ k _ ⟨by show (0 : Int) ≤ 0; omega, by show (0 : Int) ≤ 32; omega, ⟨fun _ i _ h => by have : (i : Int) < 0 := h; omega, fun _ => rfl⟩⟩ (by show (32 - (0 : Int)).toNat < k; omega)
    rintro ⟨x, s⟩ ⟨h0, h1, h2⟩
    simp only at h0 h1 h2
    by_cases hlt : s < 32
    · left
      obtain ⟨i, rfl⟩ : ∃ i : Nat, s = i := ⟨s.toNat, by omega⟩
      have hi : i < 32 := by omega
      have hx : inV 32 (i : Int) = some ⟨i, hi⟩ := inV_ok (by omega) (by simpa using hi)
      simp only [sha_Equal.b1, lt1, dec_t hlt, if_true, hx, getV, Option.bind_some, w64_succ (show i < 9223372036854775807 by omega)]
      refine ⟨_, rfl, ⟨by show (0 : Int) ≤ ((i + 1 : Nat) : Int); omega, by show ((i + 1 : Nat) : Int) ≤ 32; omega, ?_⟩, by show (32 - ((i + 1 : Nat) : Int)).toNat < (32 - (i : Int)).toNat; omega⟩
      show (x ||| (a[i] ^^^ b[i])) = 0 ↔ ∀ (j : Nat) (h : j < 32), (j : Int) < ((i + 1 : Nat) : Int) → a[j] = b[j]
      rw [UInt8.or_eq_zero_iff, UInt8.xor_eq_zero_iff, h2]
      constructor
      · rintro ⟨h3, h4⟩ j hj hlt
        by_cases hji : j = i
        · subst hji; exact h4
        · exact h3 j hj (by omega)
      · intro h3
        exact ⟨fun j hj hlt => h3 j hj (by omega), h3 i hi (by omega)⟩
    · right
      simp only [sha_Equal.b1, lt1, dec_f hlt, Bool.false_eq_true, if_false]
      refine ⟨_, rfl, h2.trans ⟨fun h => Vector.ext fun i hi => h i hi (by omega), fun h i hi _ => by rw [h]⟩⟩
  obtain ⟨t, h1, h2⟩ := hl
  simp only [sha_Equal, h1, Option.bind_some, lt1, Option.some.injEq]
  rw [Bool.eq_iff_iff, beq_iff_eq, decide_eq_true_eq, h2]
theorem toV_list {l : List UInt8} (h : l.length = 32) : ∃ v : Vector UInt8 32, toV 32 l = some v ∧ v.toList = l := by
  refine ⟨Vector.ofFn fun i => l[i.1]'(by omega), dif_pos (by omega), ?_⟩
  apply List.ext_getElem
  · simp [h]
  · intro i h1 h2
    simp
theorem toList_inj {n : Nat} {a b : Vector UInt8 n} (h : a.toList = b.toList) : a = b := by
  cases a; cases b; simpa [Vector.toList] using h
noncomputable def OFF (s d b : List UInt8) : Vector UInt64 16 × Int :=
  if mayN d = false then (Vector.replicate 16 0, 2) else if b.length = 0 then (Vector.replicate 16 0, 0) else if b.length ≠ 160 then (Vector.replicate 16 0, 9) else
  if mayB (dcV b) = true ∧ (cdC s d (b.take 128)).toList = b.drop 128 then (dcV b, 0) else (Vector.replicate 16 0, 9)
theorem of_eq {k : Nat} (hk : k = 4000) (s d b : List UInt8) (hs : s.length ≤ 300) : cursor_Of k s d b = some (OFF s d b) := by
  unfold OFF
  cases hd : mayN d with
  | false => simp only [cursor_Of, mayDev_eq, hd, Option.bind_some, lt1, Bool.not_false, if_true]
  | true =>
    rw [if_neg (by simp)]
    by_cases h0 : b.length = 0
    · have h0b : ((b.length : Int) == 0) = true := by simp [h0]
      rw [if_pos h0]
      simp only [cursor_Of, mayDev_eq, hd, Option.bind_some, lt1, Bool.not_true, Bool.false_eq_true, if_false, h0b, if_true]
    · have h0b : ((b.length : Int) == 0) = false := by
        rw [← Bool.not_eq_true, beq_iff_eq]; omega
      rw [if_neg h0]
      by_cases h1 : b.length = 160
      · have h1b : ((b.length : Int) != 160) = false := by simp [h1]
        rw [if_neg (by simp [h1])]
        have e1 : subL b 0 (128 : Int) = some (b.take 128) := subL_head (by omega) (by omega)
        have e2 : subL b (128 : Int) (b.length : Int) = some (b.drop 128) := subL_tail (by omega) (by omega)
        have hl : (b.take 128).length = 128 := by simp; omega
        have e3 := vecRead k (by omega) (b.take 128) hl
        rw [dcV_take] at e3
        have e4 := code_eq hk s d (b.take 128) hs (mayN_le hd) (by omega)
        obtain ⟨w, e5, e6⟩ := toV_list (l := b.drop 128) (by simp; omega)
        have e7 := equal_eq k (by omega) (cdC s d (b.take 128)) w
        cases hm : mayB (dcV b) with
        | false =>
          rw [if_neg (by simp)]
          simp only [cursor_Of, mayDev_eq, hd, Option.bind_some, lt1, Bool.not_true, Bool.not_false, Bool.false_eq_true, if_false, h0b, h1b, e1, e2, clone_eq k _ (show (b.take 128).length ≤ 140737488355328 by omega), e3, cursorMay_eq k (show 200 ≤ k by omega), hm, cond_true, if_true]
        | true =>
          by_cases hc : cdC s d (b.take 128) = w
          · rw [if_pos ⟨rfl, by rw [hc, e6]⟩]
            rw [dec_t hc] at e7
            simp only [cursor_Of, mayDev_eq, hd, Option.bind_some, lt1, Bool.not_true, Bool.not_false, Bool.false_eq_true, if_false, h0b, h1b, e1, e2, clone_eq k _ (show (b.take 128).length ≤ 140737488355328 by omega), e3, cursorMay_eq k (show 200 ≤ k by omega), hm, cond_true, cond_false, if_true, e4, e5, e7]
          · rw [if_neg (fun h => hc (toList_inj (h.2.trans e6.symm)))]
            rw [dec_f hc] at e7
            simp only [cursor_Of, mayDev_eq, hd, Option.bind_some, lt1, Bool.not_true, Bool.not_false, Bool.false_eq_true, if_false, h0b, h1b, e1, e2, clone_eq k _ (show (b.take 128).length ≤ 140737488355328 by omega), e3, cursorMay_eq k (show 200 ≤ k by omega), hm, cond_true, cond_false, if_true, e4, e5, e7]
      · have h1b : ((b.length : Int) != 160) = true := by simp; omega
        rw [if_pos h1]
        simp only [cursor_Of, mayDev_eq, hd, Option.bind_some, lt1, Bool.not_true, Bool.false_eq_true, if_false, h0b, h1b, if_true]
theorem CUR_dcV (s d b : List UInt8) (h : b.length = 160) : CUR s d (dcV b) = b.take 128 ++ (cdC s d (b.take 128)).toList := by
  rw [CUR, vecB_dcV b (by omega) 16 (by omega)]
theorem refOf_eq {k : Nat} (hk : k = 4000) (s d b : List UInt8) (hs : s.length ≤ 300) : ref10_Of k s d b = some (OFF s d b) := by
  unfold OFF
  cases hd : mayN d with
  | false => simp only [ref10_Of, mayName_eq, hd, Option.bind_some, lt1, Bool.not_false, if_true]
  | true =>
    rw [if_neg (by simp)]
    by_cases h0 : b.length = 0
    · have h0b : ((b.length : Int) == 0) = true := by simp [h0]
      rw [if_pos h0]
      simp only [ref10_Of, mayName_eq, hd, Option.bind_some, lt1, Bool.not_true, Bool.false_eq_true, if_false, h0b, if_true]
    · have h0b : ((b.length : Int) == 0) = false := by
        rw [← Bool.not_eq_true, beq_iff_eq]; omega
      rw [if_neg h0]
      by_cases h1 : b.length = 160
      · have h1b : ((b.length : Int) != 160) = false := by simp [h1]
        rw [if_neg (by simp [h1])]
        have hlp : loopO (fun s => ref10_Of.b1 k b s.1 s.2) k (Vector.replicate 16 (0 : UInt64), (0 : Int)) = some (dcV b) := by
          refine loop_g (n := 16) (fun i => ((Vector.ofFn fun j : Fin 16 => if j.1 < i then (dcV b)[j.1] else 0), ((i : Nat) : Int))) _ ?_ ?_ ?_ (by omega)
          · refine Prod.ext (Vector.ext fun j hj => by simp) rfl
          · intro i hi
            have iv : inV 16 (i : Int) = some ⟨i, hi⟩ := inV_ok (by omega) (by simpa using hi)
            have w1 : w64 (8 * (i : Int)) = ((8 * i : Nat) : Int) := by rw [w64_id (by omega) (by omega)]; omega
            have w2 : w64 (((8 * i : Nat) : Int) + 8) = ((8 * i + 8 : Nat) : Int) := by rw [w64_id (by omega) (by omega)]; omega
            have e1 : subL b ((8 * i : Nat) : Int) ((8 * i + 8 : Nat) : Int) = some ((b.drop (8 * i)).take 8) := by
              rw [subL_ok (by omega) (by omega) (by omega)]
              congr 2
              omega
            have e2 := refGet_eq k (by omega) ((b.drop (8 * i)).take 8) (by simp; omega)
            simp only [ref10_Of.b1, lt1, dec_t (show (i : Int) < 16 by omega), if_true, w1, w2, e1, e2, iv, Option.bind_some, w64_succ (show i < 9223372036854775807 by omega), ← dcV_get b i hi, Option.some.injEq, Sum.inl.injEq, Prod.mk.injEq, and_true]
            refine Vector.ext fun j hj => ?_
            simp only [putV, Vector.getElem_set, Vector.getElem_ofFn]
            by_cases hij : i = j
            · subst hij; simp
            · rw [if_neg hij]
              have : (j < i) ↔ (j < i + 1) := by omega
              simp only [this]
          · simp only [ref10_Of.b1, lt1, dec_f (show ¬ ((16 : Nat) : Int) < 16 by omega), Bool.false_eq_true, if_false, Option.some.injEq, Sum.inr.injEq]
            refine Vector.ext fun j hj => ?_
            simp [hj]
        have e4 := refBytes_eq hk s d (dcV b) hs hd
        rw [CUR_dcV s d b h1] at e4
        have e5 : (b.take 128 ++ (cdC s d (b.take 128)).toList = b) ↔ (cdC s d (b.take 128)).toList = b.drop 128 := by
          constructor
          · intro h
            have : b.take 128 ++ (cdC s d (b.take 128)).toList = b.take 128 ++ b.drop 128 := h.trans (List.take_append_drop 128 b).symm
            exact List.append_cancel_left this
          · intro h; rw [h, List.take_append_drop]
        cases hm : mayB (dcV b) with
        | false =>
          rw [if_neg (by simp)]
          simp only [ref10_Of, mayName_eq, hd, Option.bind_some, lt1, Bool.not_true, Bool.not_false, Bool.false_eq_true, if_false, h0b, h1b, hlp, refMay_eq k (show 200 ≤ k by omega), hm, if_true]
        | true =>
          by_cases hc : (cdC s d (b.take 128)).toList = b.drop 128
          · rw [if_pos ⟨rfl, hc⟩]
            have e6 : (b.take 128 ++ (cdC s d (b.take 128)).toList != b) = false := by rw [bne_eq_false_iff_eq]; exact e5.2 hc
            simp only [ref10_Of, mayName_eq, hd, Option.bind_some, lt1, Bool.not_true, Bool.not_false, Bool.false_eq_true, if_false, h0b, h1b, hlp, refMay_eq k (show 200 ≤ k by omega), hm, e4, e6]
          · rw [if_neg (fun h => hc h.2)]
            have e6 : (b.take 128 ++ (cdC s d (b.take 128)).toList != b) = true := by rw [bne_iff_ne]; exact fun h => hc (e5.1 h)
            simp only [ref10_Of, mayName_eq, hd, Option.bind_some, lt1, Bool.not_true, Bool.not_false, Bool.false_eq_true, if_false, h0b, h1b, hlp, refMay_eq k (show 200 ≤ k by omega), hm, e4, e6, if_true]
      · have h1b : ((b.length : Int) != 160) = true := by simp; omega
        rw [if_pos h1]
        simp only [ref10_Of, mayName_eq, hd, Option.bind_some, lt1, Bool.not_true, Bool.false_eq_true, if_false, h0b, h1b, if_true]
theorem off_cur (s d : List UInt8) (v : Vector UInt64 16) (hd : mayN d = true) (hv : mayB v = true) : OFF s d (CUR s d v) = (v, 0) := by
  unfold OFF
  have hl := CUR_len s d v
  have hvl := vecB_len v 16 (by omega)
  have e1 : dcV (CUR s d v) = v := dcV_vecB v _
  have e2 : (CUR s d v).take 128 = vecB v 16 := by rw [CUR, List.take_append_of_le_length (by omega), List.take_of_length_le (by omega)]
  have e3 : (CUR s d v).drop 128 = (cdC s d (vecB v 16)).toList := by rw [CUR]; exact List.drop_left' (by omega)
  rw [if_neg (by simp [hd]), if_neg (by omega), if_neg (by simp [hl]), e1, if_pos ⟨hv, by rw [e2, e3]⟩]
end Go.Proofs.Ytnhiiabdoichlaa
