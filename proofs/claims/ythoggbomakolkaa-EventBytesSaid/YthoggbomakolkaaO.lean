/- Which bytes are which event: both say so alike. -/
import Derived.Test.YthoggbomakolkaaE
namespace Go.Proofs.Ythoggbomakolkaa
open Go Fw
set_option linter.unusedVariables false
set_option linter.unusedSimpArgs false

def destP (st : RSt) : api_Dest × RSt := (⟨(dotP st).1, (blobP (dotP st).2).1⟩, (blobP (dotP st).2).2)
/-- So many dests, up to a failure. -/
def dests : Nat → RSt → List api_Dest × RSt
  | 0, st => ([], st)
  | _ + 1, none => ([], none)
  | n + 1, some l => ((destP (some l)).1 :: (dests n (destP (some l)).2).1, (dests n (destP (some l)).2).2)
/-- So many dests, whatever comes. -/
def destsM : Nat → RSt → List api_Dest × RSt
  | 0, st => ([], st)
  | n + 1, st => ((destP st).1 :: (destsM n (destP st).2).1, (destsM n (destP st).2).2)
theorem destP_none : destP none = (⟨⟨0, 0⟩, []⟩, none) := rfl
theorem dests_none : ∀ n, dests n none = ([], none)
  | 0 => rfl
  | _ + 1 => rfl
theorem destsM_none : ∀ n, (destsM n none).2 = none
  | 0 => rfl
  | n + 1 => by rw [destsM, destP_none]; exact destsM_none n
theorem dests_state : ∀ n st, (destsM n st).2 = (dests n st).2
  | 0, _ => rfl
  | n + 1, none => destsM_none _
  | n + 1, some l => dests_state n _
theorem dests_same : ∀ n st l', (dests n st).2 = some l' → (destsM n st).1 = (dests n st).1
  | 0, _, _, _ => rfl
  | n + 1, none, _, h => by cases h
  | n + 1, some l, l', h => by
    show _ :: _ = _ :: _
    rw [dests_same n _ l' h]
theorem destP_some {st : RSt} {t : api_Dest} {l' : List UInt8} (h : destP st = (t, some l')) : st = some (destB t ++ l') := by
  unfold destP at h
  obtain ⟨h1, h2⟩ := Prod.mk.inj h
  obtain ⟨h3, h4⟩ := blobP_some (b := (blobP (dotP st).2).1) (l' := l') (by rw [← h2])
  obtain ⟨h5, h6⟩ := dotP_some (d := (dotP st).1) (l' := put (blobP (dotP st).2).1.length 2 ++ (blobP (dotP st).2).1 ++ l') (by rw [← h3])
  rw [h5, ← h1]
  simp only [destB, blobB, List.append_assoc]
theorem dests_some : ∀ n st l', (dests n st).2 = some l' → st = some ((dests n st).1.flatMap destB ++ l') ∧ (dests n st).1.length = n
  | 0, st, l', h => by
    have : st = some l' := h
    subst this
    exact ⟨rfl, rfl⟩
  | n + 1, none, _, h => by cases h
  | n + 1, some l, l', h => by
    have h' : (dests n (destP (some l)).2).2 = some l' := h
    obtain ⟨h1, h2⟩ := dests_some n _ l' h'
    have h3 := destP_some (st := some l) (t := (destP (some l)).1) (l' := (dests n (destP (some l)).2).1.flatMap destB ++ l') (by rw [← h1])
    refine ⟨?_, by show (_ :: _ : List api_Dest).length = _; simp [h2]⟩
    show some l = some (((destP (some l)).1 :: (dests n (destP (some l)).2).1).flatMap destB ++ l')
    rw [List.flatMap_cons, List.append_assoc]
    exact h3
theorem dests_size (n : Nat) (st : RSt) (l' : List UInt8) (h : (dests n st).2 = some l') : ∃ l, st = some l ∧ 11 * n + l'.length ≤ l.length := by
  obtain ⟨h1, h2⟩ := dests_some n st l' h
  refine ⟨_, h1, ?_⟩
  rw [List.length_append]
  have : ∀ to : List api_Dest, 11 * to.length ≤ (to.flatMap destB).length := by
    intro to
    induction to with
    | nil => simp
    | cons t to ih => rw [List.flatMap_cons, List.length_append, destB_len, List.length_cons]; omega
  have := this (dests n st).1
  omega
/-- What the program's loop and the reference's come to. -/
theorem both (c m : Nat) (st : RSt) (hm : m = min c (leftP st).toNat) :
    ((dests c st).2 = some [] → m = c ∧ (destsM m st).2 = some [] ∧ (destsM m st).1 = (dests c st).1) ∧
    ((dests c st).2 ≠ some [] → (destsM m st).2 = some [] → st = some [] ∧ 0 < c ∧ (destsM m st).1 = []) := by
  constructor
  · intro h
    obtain ⟨l, rfl, h1⟩ := dests_size c st [] h
    have h2 : (leftP (some l)).toNat = l.length := by simp [leftP]
    have h3 : m = c := by rw [hm, h2]; omega
    subst h3
    exact ⟨rfl, by rw [dests_state]; exact h, dests_same _ _ _ h⟩
  · intro h h'
    rw [dests_state] at h'
    have hne : m ≠ c := fun e => h (e ▸ h')
    obtain ⟨l, rfl, h1⟩ := dests_size m st [] h'
    have h2 : (leftP (some l)).toNat = l.length := by simp [leftP]
    rw [h2] at hm
    have h3 : m = 0 := by omega
    subst h3
    have h4 : l.length = 0 := by omega
    rw [List.eq_nil_of_length_eq_zero h4]
    exact ⟨rfl, by omega, rfl⟩
theorem of_loop (k : Nat) (hk : 9 ≤ k) (m : Nat) (hm : m < k) (hm2 : m ≤ 1000000) {x : List UInt8} {o n : Nat} {is made : Bool} {st : RSt} (h : Wr x o n is made st) :
    ∃ o' n' is' made', loopO (fun s => event_Of'2.b1 k (m : Int) x s.1 s.2.1 s.2.2.1 s.2.2.2.1 s.2.2.2.2.1 s.2.2.2.2.2) k (o, n, is, made, ([] : List api_Dest), (0 : Int)) = some (o', n', is', made', (destsM m st).1) ∧ Wr x o' n' is' made' (destsM m st).2 := by
  have hl := loop_inv (body := fun s : Nat × Nat × Bool × Bool × List api_Dest × Int => event_Of'2.b1 k (m : Int) x s.1 s.2.1 s.2.2.1 s.2.2.2.1 s.2.2.2.2.1 s.2.2.2.2.2)
    (I := fun s => ∃ (i : Nat) (st' : RSt), s.2.2.2.2.2 = (i : Int) ∧ i ≤ m ∧ Wr x s.1 s.2.1 s.2.2.1 s.2.2.2.1 st' ∧ s.2.2.2.2.1.length = i ∧ s.2.2.2.2.1 ++ (destsM (m - i) st').1 = (destsM m st).1 ∧ (destsM (m - i) st').2 = (destsM m st).2)
    (m := fun s => ((m : Int) - s.2.2.2.2.2).toNat) (fun t => ∃ o' n' is' made', t = (o', n', is', made', (destsM m st).1) ∧ Wr x o' n' is' made' (destsM m st).2) ?_ k (o, n, is, made, ([] : List api_Dest), (0 : Int)) ⟨0, st, rfl, Nat.zero_le _, h, rfl, rfl, rfl⟩ (by show ((m : Int) - 0).toNat < k; omega)
  · obtain ⟨t, e1, o', n', is', made', rfl, e2⟩ := hl
    exact ⟨o', n', is', made', e1, e2⟩
  · rintro ⟨o, n, is, made, acc, j⟩ ⟨i, st', rfl, hi, hw, hacc, h1, h2⟩
    simp only at hw hacc h1 h2 hi ⊢
    by_cases hlt : i < m
    · left
      obtain ⟨o1, n1, is1, made1, e1, e2⟩ := w_dot k hk hw
      obtain ⟨vo, vn, o2, n2, is2, made2, f1, f2, f3, f4, f5⟩ := w_blob k hk e2
      simp only [event_Of'2.b1, lt1, dec_t (show (i : Int) < (m : Int) by omega), if_true, e1, Option.bind_some, f1, f3]
      rw [apL_ok (by simp only [hacc]; simp; omega), Option.bind_some, w64_succ (show i < 9223372036854775807 by omega)]
      obtain ⟨r, hr⟩ : ∃ r, m - i = r + 1 := ⟨m - i - 1, by omega⟩
      have hr2 : m - (i + 1) = r := by omega
      rw [hr] at h1 h2
      refine ⟨_, rfl, ⟨i + 1, _, rfl, by omega, f2, by simp [hacc], ?_, ?_⟩, by show ((m : Int) - ((i + 1 : Nat) : Int)).toNat < ((m : Int) - (i : Int)).toNat; omega⟩
      · rw [hr2, ← h1]
        simp only [destsM, List.append_assoc, destP]
        rfl
      · rw [hr2, ← h2]
        rfl
    · right
      have hm : m - i = 0 := by omega
      rw [hm] at h1 h2
      simp only [event_Of'2.b1, lt1, dec_f (show ¬ (i : Int) < (m : Int) by omega), Bool.false_eq_true, if_false]
      refine ⟨_, rfl, o, n, is, made, ?_, by rw [← h2]; exact hw⟩
      rw [← h1]
      simp [destsM]
theorem r_failed {r : ref01_Reader} {st : RSt} (h : Rr r st) : r.Failed = st.isNone := by
  cases st with
  | none => rw [h.no rfl]; rfl
  | some l => rw [(h.go l rfl).1]; rfl
theorem ref_loop (k : Nat) (hk : 9 ≤ k) (c : Nat) (hc : c < k) (hc2 : c ≤ 1000000) {r : ref01_Reader} {st : RSt} (h : Rr r st) :
    ∃ r', loopO (fun s => ref09_Of.b1 k (c : Int) s.1 s.2.1 s.2.2) k (r, ([] : List api_Dest), (0 : Int)) = some (r', (dests c st).1) ∧ Rr r' (dests c st).2 := by
  have hl := loop_inv (body := fun s : ref01_Reader × List api_Dest × Int => ref09_Of.b1 k (c : Int) s.1 s.2.1 s.2.2)
    (I := fun s => ∃ (i : Nat) (st' : RSt), s.2.2 = (i : Int) ∧ i ≤ c ∧ Rr s.1 st' ∧ s.2.1.length = i ∧ s.2.1 ++ (dests (c - i) st').1 = (dests c st).1 ∧ (dests (c - i) st').2 = (dests c st).2)
    (m := fun s => ((c : Int) - s.2.2).toNat) (fun t => ∃ r', t = (r', (dests c st).1) ∧ Rr r' (dests c st).2) ?_ k (r, ([] : List api_Dest), (0 : Int)) ⟨0, st, rfl, Nat.zero_le _, h, rfl, rfl, rfl⟩ (by show ((c : Int) - 0).toNat < k; omega)
  · obtain ⟨t, e1, r', rfl, e2⟩ := hl
    exact ⟨r', e1, e2⟩
  · rintro ⟨r, acc, j⟩ ⟨i, st', rfl, hi, hw, hacc, h1, h2⟩
    simp only at hw hacc h1 h2 hi ⊢
    have hf := r_failed hw
    by_cases hlt : i < c
    · cases st' with
      | none =>
        right
        simp only [ref09_Of.b1, lt1, dec_t (show (i : Int) < (c : Int) by omega), if_true, hf, Option.isNone_none, Bool.not_true, Option.bind_some, Bool.false_eq_true, if_false]
        rw [dests_none] at h1 h2
        refine ⟨_, rfl, r, ?_, by rw [← h2]; exact hw⟩
        rw [← h1]; simp
      | some l =>
        left
        obtain ⟨r1, e1, e2⟩ := r_dot k hk hw
        obtain ⟨r2, f1, f2⟩ := r_blob k hk e2
        simp only [ref09_Of.b1, lt1, dec_t (show (i : Int) < (c : Int) by omega), if_true, hf, Option.isNone_some, Bool.not_false, Option.bind_some, e1, f1]
        rw [apL_ok (by simp only [hacc]; simp; omega), Option.bind_some, w64_succ (show i < 9223372036854775807 by omega)]
        obtain ⟨q, hr⟩ : ∃ r, c - i = r + 1 := ⟨c - i - 1, by omega⟩
        have hr2 : c - (i + 1) = q := by omega
        rw [hr] at h1 h2
        refine ⟨_, rfl, ⟨i + 1, _, rfl, by omega, f2, by simp [hacc], ?_, ?_⟩, by show ((c : Int) - ((i + 1 : Nat) : Int)).toNat < ((c : Int) - (i : Int)).toNat; omega⟩
        · rw [hr2, ← h1]
          simp only [dests, List.append_assoc, destP]
          rfl
        · rw [hr2, ← h2]
          rfl
    · right
      have hm : c - i = 0 := by omega
      rw [hm] at h1 h2
      simp only [ref09_Of.b1, lt1, dec_f (show ¬ (i : Int) < (c : Int) by omega), Bool.false_eq_true, if_false, Option.bind_some]
      refine ⟨_, rfl, r, ?_, by rw [← h2]; exact hw⟩
      rw [← h1]
      simp [dests]
theorem eqB_eq (k : Nat) (a b : List UInt8) (ha : a.length < k) (ha2 : a.length ≤ 1000000) : slices_Equalbyte_byte k a b = some (decide (a = b)) := by
  simp only [slices_Equalbyte_byte, lt1]
  by_cases hl : a.length = b.length
  · have hne : ((a.length : Int) != (b.length : Int)) = false := by rw [hl]; simp
    have hlp := loop_all (body := fun s => slices_Equalbyte_byte.b1 k a b s) a.length (fun i => a[i]? = b[i]?) (b := false) (k := k) ?_ ?_ ha
    · simp only [hne, Bool.false_eq_true, if_false, hlp, Option.bind_some]
      by_cases h : a = b
      · subst h; simp
      · have : ¬ ∀ i, i < a.length → a[i]? = b[i]? := fun h' => h (List.ext_getElem hl fun i h1 h2 => by
          have := h' i h1
          rw [List.getElem?_eq_getElem h1, List.getElem?_eq_getElem h2] at this
          exact Option.some.inj this)
        rw [if_neg this]
        simp [h]
    · intro i hi
      have hi2 : i < b.length := by omega
      simp only [slices_Equalbyte_byte.b1, lt1, dec_t (show (i : Int) < (a.length : Int) by omega), if_true, idxL_lt hi, idxL_lt hi2, Option.bind_some, w64_succ (show i < 9223372036854775807 by omega), List.getElem?_eq_getElem hi, List.getElem?_eq_getElem hi2, Option.some.injEq]
      by_cases h : a[i] = b[i] <;> simp [h]
    · simp only [slices_Equalbyte_byte.b1, lt1, dec_f (show ¬ (a.length : Int) < (a.length : Int) by omega), Bool.false_eq_true, if_false]
  · have hne : ((a.length : Int) != (b.length : Int)) = true := by simp; omega
    have : ¬ a = b := fun h => hl (by rw [h])
    simp [hne, this]
def zeroE : api_Event := api_Event.mk (api_Dot.mk (0 : Int) (0 : UInt64)) ([] : (List UInt8)) ([] : (List UInt8)) (Vector.replicate 16 (0 : UInt64)) ([] : (List api_Dest))
theorem put2_inj {a c : Nat} (ha : a ≤ 65535) (hc : c ≤ 65535) (h : put a 2 = put c 2) : a = c := by
  have h1 := congrArg getB h
  rw [getB_put, getB_put] at h1
  have : (256 : Nat) ^ 2 = 65536 := by decide
  omega
/-- Both read the same. -/
theorem Of_eq (k : Nat) (hk : 200000 ≤ k) (b : List UInt8) (hb : b.length ≤ 70000) : ∃ z ok x o n, ref09_Of k b = some (z, ok) ∧ event_Of'2 k b = some (z.ID, z.Topic, x, o, n, z.Past, z.To, if ok = true then 0 else 4) ∧ viewL x o n = some z.Payload ∧ o + n ≤ x.length ∧ x.length = b.length ∧ z.To.length ≤ 70000 := by
  have hr : wire_Read k b = some (b, b.length) := by
    simp only [wire_Read, slices_Clonebyte_byte, apL_ok (show (([] : List UInt8).length + b.length) * 1 ≤ 140737488355328 by simp; omega), Option.bind_some, List.nil_append]
  have hW : Wr b 0 b.length true true (some b) := ⟨rfl, by omega, by omega, fun l h => by cases h; simp, fun h => by cases h⟩
  have hR : Rr (ref01_Reader.mk b (0 : Int) false) (some b) := ⟨by show b.length ≤ _; omega, by show (0 : Int) ≤ 0; omega, by show (0 : Int) ≤ _; omega, fun l h => by cases h; simp, fun h => by cases h⟩
  obtain ⟨o1, n1, is1, made1, e1, w1⟩ := w_dot k (by omega) hW
  obtain ⟨q1, d1, r1⟩ := r_dot k (by omega) hR
  obtain ⟨⟨d, s1⟩, hP1⟩ : ∃ p, dotP (some b) = p := ⟨_, rfl⟩
  simp only [hP1] at e1 w1 d1 r1
  obtain ⟨vo2, vn2, o2, n2, is2, made2, e2, w2, g2, g2', g2''⟩ := w_blob k (by omega) w1
  obtain ⟨q2, d2, r2⟩ := r_blob k (by omega) r1
  obtain ⟨⟨t, s2⟩, hP2⟩ : ∃ p, blobP s1 = p := ⟨_, rfl⟩
  simp only [hP2] at e2 w2 d2 r2 g2 g2'
  obtain ⟨vo3, vn3, o3, n3, is3, made3, e3, w3, g3, g3', g3''⟩ := w_blob k (by omega) w2
  obtain ⟨q3, d3, r3⟩ := r_blob k (by omega) r2
  obtain ⟨⟨p, s3⟩, hP3⟩ : ∃ p, blobP s2 = p := ⟨_, rfl⟩
  simp only [hP3] at e3 w3 d3 r3 g3 g3'
  obtain ⟨o4, n4, is4, made4, e4, w4⟩ := w_vec k (by omega) w3
  obtain ⟨q4, d4, r4⟩ := r_vec k (by omega) r3
  obtain ⟨⟨v, s4⟩, hP4⟩ : ∃ p, vecP s3 = p := ⟨_, rfl⟩
  simp only [hP4] at e4 w4 d4 r4
  obtain ⟨o5, n5, is5, made5, e5, w5⟩ := w_num k (by omega) 2 w4
  obtain ⟨q5, d5, r5⟩ := r_num k (by omega) 2 r4
  have hcw := num2_w s4
  have hcl := num2_lt s4
  obtain ⟨⟨u, s5⟩, hP5⟩ : ∃ p, numP 2 s4 = p := ⟨_, rfl⟩
  simp only [hP5] at e5 w5 d5 r5 hcw hcl
  obtain ⟨c, hc⟩ : ∃ c, u.toNat = c := ⟨_, rfl⟩
  rw [hc] at hcw hcl
  have hleft := w_left k w5
  obtain ⟨m, hm⟩ : ∃ m, m = min c (leftP s5).toNat := ⟨_, rfl⟩
  have hmin : minI (c : Int) (leftP s5) = (m : Int) := by
    have : 0 ≤ leftP s5 := by cases s5 with | none => exact Int.le_refl _ | some l => exact Int.natCast_nonneg _
    unfold minI
    split <;> omega
  obtain ⟨o6, n6, is6, made6, e6, w6⟩ := of_loop k (by omega) m (by omega) (by omega) w5
  obtain ⟨q6, d6, r6⟩ := ref_loop k (by omega) c (by omega) (by omega) r5
  obtain ⟨hA, hB⟩ := both c m s5 hm
  have hend := w_end k w6
  have hrend := r_end k r6
  -- the head
  have head : ∀ l5, s5 = some l5 → b = dotB d ++ (blobB t ++ (blobB p ++ vecB v 16)) ++ (put c 2 ++ l5) := by
    intro l5 h5
    have a5 := numP_some (s := 2) ⟨by omega, by omega⟩ (st := s4) (v := u) (l' := l5) (by rw [← h5]; exact hP5)
    have a4 := vecP_some (st := s3) (v := v) (l' := put u.toNat 2 ++ l5) (by rw [← a5]; exact hP4)
    have a3 := blobP_some (st := s2) (b := p) (l' := vecB v 16 ++ (put u.toNat 2 ++ l5)) (by rw [← a4]; exact hP3)
    have a2 := blobP_some (st := s1) (b := t) (l' := put p.length 2 ++ p ++ (vecB v 16 ++ (put u.toNat 2 ++ l5))) (by rw [← a3.1]; exact hP2)
    have a1 := dotP_some (st := some b) (d := d) (l' := put t.length 2 ++ t ++ (put p.length 2 ++ p ++ (vecB v 16 ++ (put u.toNat 2 ++ l5)))) (by rw [← a2.1]; exact hP1)
    have := Option.some.inj a1.1
    rw [this, hc]
    simp only [blobB, List.append_assoc]
  have hblen : (b.length : Int) ≤ 70000 := by omega
  have fail : ∃ z ok x o n, some (zeroE, false) = some (z, ok) ∧ (some ((api_Dot.mk (0 : Int) (0 : UInt64)), ([] : (List UInt8)), b, 0, 0, (Vector.replicate 16 (0 : UInt64)), ([] : (List api_Dest)), (4 : Int)) : Option _) = some (z.ID, z.Topic, x, o, n, z.Past, z.To, if ok = true then 0 else 4) ∧ viewL x o n = some z.Payload ∧ o + n ≤ x.length ∧ x.length = b.length ∧ z.To.length ≤ 70000 :=
    ⟨zeroE, false, b, 0, 0, rfl, rfl, rfl, by omega, rfl, by show (0 : Nat) ≤ _; omega⟩
  simp only [event_Of'2, hr, e1, e2, g2, e3, e4, e5, hcw, hleft, hmin, e6, hend, lt1, Option.bind_some, ref09_Of, d1, d2, d3, d4, d5, d6, hrend]
  by_cases hs : (dests c s5).2 = some []
  · obtain ⟨rfl, h1, h2⟩ := hA hs
    rw [h2]
    simp only [hs, h1, if_true, bne_self_eq_false, Bool.false_eq_true, if_false]
    obtain ⟨e, he⟩ : ∃ e, e = api_Event.mk d t p v (dests m s5).1 := ⟨_, rfl⟩
    have hm1 : event_May'2 k d t vo3 vn3 v (dests m s5).1 b = some (decide (may e)) := by rw [he]; exact May2_eq k (by omega) (api_Event.mk d t p v (dests m s5).1) vo3 vn3 b g3'.symm
    have hm2 : ref09_May k (api_Event.mk d t p v (dests m s5).1) = some (decide (may e)) := by rw [he]; exact refMay_eq k (by omega) _
    simp only [hm1, hm2, Option.bind_some]
    by_cases hy : may e
    · obtain ⟨l5, rfl, _⟩ := dests_size m s5 [] hs
      obtain ⟨h3, h4⟩ := dests_some m _ _ hs
      have hbe : evB e = b := by
        rw [head l5 rfl, Option.some.inj h3]
        simp only [he, evB, hdB, h4, List.append_nil]
      have hb2 : event_bytes'2 k d t vo3 vn3 v (dests m (some l5)).1 b = some (evB e) := by
        have := bytes2_eq k (by omega) e hy (o := vo3) (n := vn3) (x := b) (by rw [he]; exact g3) (by rw [he]; exact g3')
        rw [he] at this
        rw [he]
        exact this
      simp only [hy, decide_true, Bool.not_true, Bool.false_eq_true, if_false, hb2, Option.bind_some, hbe, eqB_eq k b b (by omega) (by omega)]
      exact ⟨api_Event.mk d t p v (dests m (some l5)).1, true, b, vo3, vn3, rfl, rfl, g3, g3'', rfl, by show (dests m (some l5)).1.length ≤ _; omega⟩
    · simp only [hy, decide_false, Bool.not_false, if_true, Option.bind_some]
      exact fail
  · simp only [hs, if_false, show ((4 : Int) != 0) = true from rfl, if_true, Option.bind_some]
    by_cases hs' : (destsM m s5).2 = some []
    · obtain ⟨rfl, h1, h2⟩ := hB hs hs'
      rw [h2]
      simp only [hs', if_true, bne_self_eq_false, Bool.false_eq_true, if_false]
      obtain ⟨e, he⟩ : ∃ e, e = api_Event.mk d t p v [] := ⟨_, rfl⟩
      have hm1 : event_May'2 k d t vo3 vn3 v [] b = some (decide (may e)) := by rw [he]; exact May2_eq k (by omega) (api_Event.mk d t p v []) vo3 vn3 b g3'.symm
      simp only [hm1, Option.bind_some]
      by_cases hy : may e
      · have hbe : ¬ evB e = b := by
          rw [head [] rfl, he]
          intro h
          simp only [evB, hdB, List.flatMap_nil, List.append_nil] at h
          have h3 := List.append_cancel_left h
          have := put2_inj (by simp) hcl h3
          simp at this
          omega
        have hb2 : event_bytes'2 k d t vo3 vn3 v [] b = some (evB e) := by
          have := bytes2_eq k (by omega) e hy (o := vo3) (n := vn3) (x := b) (by rw [he]; exact g3) (by rw [he]; exact g3')
          rw [he] at this
          rw [he]
          exact this
        have hlen : (evB e).length ≤ 100000 := by
          have h5 := dests_len e.To hy.2 e.To.length (Nat.le_refl _)
          rw [List.take_length] at h5
          have h6 := hy.1.2.2.2.1.2
          have h7 := hy.1.2.2.2.2.1
          have h8 := hy.1.2.2.2.2.2
          simp only [evB, List.length_append, hdB_len, put_length]
          omega
        simp only [hy, decide_true, Bool.not_true, Bool.false_eq_true, if_false, hb2, Option.bind_some, eqB_eq k _ b (show (evB e).length < k by omega) (by omega), hbe, decide_false, Bool.not_false, if_true]
        exact fail
      · simp only [hy, decide_false, Bool.not_false, if_true, Option.bind_some]
        exact fail
    · simp only [hs', if_false, show ((4 : Int) != 0) = true from rfl, if_true, Option.bind_some]
      exact fail
end Go.Proofs.Ythoggbomakolkaa
