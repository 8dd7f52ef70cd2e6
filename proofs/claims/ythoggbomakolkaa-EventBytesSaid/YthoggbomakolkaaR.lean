/- A reader, step by step: what both readers read, told as a function of the bytes that are left. -/
import Derived.Test.YthoggbomakolkaaC
namespace Go.Proofs.Ythoggbomakolkaa
open Go Fw
set_option linter.unusedVariables false
set_option linter.unusedSimpArgs false

def takeV (m : Int) (o n : Nat) (is made : Bool) : Nat × Nat × Bool × Nat × Nat × Bool × Bool :=
  if is = false then (0, 0, false, o, n, is, made) else if m < 0 ∨ m > n then (0, 0, false, 0, 0, false, true) else (o, m.toNat, true, o + m.toNat, n - m.toNat, is, made)

theorem take_eq (k : Nat) (m : Int) (o n : Nat) (is made : Bool) (x : List UInt8) : wire_Reader_take k m o n is made x = some (takeV m o n is made) := by
  simp only [wire_Reader_take, wire_Reader_Failed, lt1, Option.bind_some, takeV]
  cases is
  · simp
  · by_cases h1 : m < 0
    · simp [h1]
    · by_cases h2 : m > n
      · simp [h1, h2]
      · have e1 : viewN o n 0 m = some (o, m.toNat) := by unfold viewN; rw [if_pos ⟨by omega, by omega, by omega⟩]; simp
        have e2 : viewN o n m ((n : Nat) : Int) = some (o + m.toNat, n - m.toNat) := by unfold viewN; rw [if_pos ⟨by omega, by omega, by omega⟩]; simp
        simp [h1, h2, e1, e2]

theorem view_ok {x : List UInt8} {o n : Nat} (h : n = 0 ∨ o + n ≤ x.length) : viewL x o n = some ((x.drop o).take n) := by
  unfold viewL
  by_cases h0 : n = 0
  · subst h0; simp
  · rw [if_neg h0, if_pos (by omega)]

theorem get_eq (k : Nat) (hk : 9 ≤ k) (o n : Nat) (x : List UInt8) (h : n = 0 ∨ o + n ≤ x.length) (hn : n ≤ 1000000) (ho : o ≤ 1000000) : wire_Get k o n x = some (if 1 ≤ n ∧ n ≤ 8 then (getU ((x.drop o).take n), 0) else (0, 2)) := by
  simp only [wire_Get, lt1]
  by_cases h1 : ((n : Nat) : Int) < 1
  · have : ¬ (1 ≤ n ∧ n ≤ 8) := by omega
    simp only [h1, this, decide_true, if_true, if_false, Option.bind_some]
  by_cases h2 : ((n : Nat) : Int) > 8
  · have : ¬ (1 ≤ n ∧ n ≤ 8) := by omega
    simp only [h1, h2, this, decide_true, decide_false, Bool.false_eq_true, if_true, if_false, Option.bind_some]
  have h3 : 1 ≤ n ∧ n ≤ 8 := by omega
  have hox : o + n ≤ x.length := by omega
  obtain ⟨b, hb⟩ : ∃ b, (x.drop o).take n = b := ⟨_, rfl⟩
  have hbl : b.length = n := by rw [← hb]; simp; omega
  have hbi : ∀ i (hi : i < n), x[o + i]? = some (b[i]'(by omega)) := fun i hi => by
    subst hb
    rw [List.getElem?_eq_getElem (by omega)]
    simp
  have hl : loopO (fun s => wire_Get.b1 k n o x s.1 s.2) k ((0 : UInt64), (0 : Int)) = some (getU b) := by
    refine loop_g (n := n) (fun i => (UInt64.ofNat (getB (b.take i)), ((i : Nat) : Int))) _ (by simp [getB]) ?_ ?_ (by omega)
    · intro i hi
      have hib : i < b.length := by omega
      obtain ⟨g1, g2⟩ := getB_take_lt b i (by omega)
      have e1 : UN.shl (UInt64.ofNat (getB (b.take i))) (UN.toN (8 : UInt64)) = UInt64.ofNat (getB (b.take i) * 256) := by
        show UInt64.ofNat ((UInt64.ofNat (getB (b.take i))).toNat * 2 ^ (min ((8 : UInt64).toNat) 64)) = _
        rw [UInt64.toNat_ofNat_of_lt' g2]
        rfl
      have e2 : (UInt64.ofNat (getB (b.take i) * 256) ||| (UN.to b[i] : UInt64)) = UInt64.ofNat (getB (b.take (i + 1))) := by
        apply UInt64.toNat_inj.1
        have hx := b[i].toNat_lt
        have e3 : (UN.to b[i] : UInt64).toNat = b[i].toNat := UInt64.toNat_ofNat_of_lt' (Nat.lt_of_lt_of_le hx (by decide))
        have g3 := getB_lt (b.take (i + 1))
        have g4 : (b.take (i + 1)).length ≤ 8 := by simp; omega
        rw [UInt64.toNat_or, UInt64.toNat_ofNat_of_lt' g1, e3, UInt64.toNat_ofNat_of_lt' (Nat.lt_of_lt_of_le g3 (pow256_le g4)), getB_take b i hib]
        have := Nat.shiftLeft_add_eq_or_of_lt (i := 8) (b := b[i].toNat) hx (getB (b.take i))
        rw [Nat.shiftLeft_eq] at this
        exact this.symm
      have e4 : inX o n ((i : Nat) : Int) = some (o + i) := by unfold inX; rw [if_pos ⟨by omega, by omega⟩]; simp
      simp only [wire_Get.b1, lt1, dec_t (show (i : Int) < ((n : Nat) : Int) by omega), if_true, e4, hbi i hi, Option.bind_some, e1, e2, w64_succ (show i < 9223372036854775807 by omega)]
    · simp only [wire_Get.b1, lt1, dec_f (show ¬ ((n : Nat) : Int) < ((n : Nat) : Int) by omega), Bool.false_eq_true, if_false]
      rw [← hbl, List.take_length, getU]
  simp only [dec_f h1, dec_f h2, Bool.false_eq_true, if_false, Option.bind_some, hl, if_pos h3, hb]

theorem refBytes_eq (k : Nat) (m : Int) (r : ref01_Reader) (h0 : 0 ≤ r.At) (h1 : r.At ≤ r.B.length) (hs : r.B.length ≤ 1000000) : ref01_Reader_Bytes k m r = some (if r.Failed = true ∨ m < 0 ∨ m > r.B.length - r.At then ([], { r with Failed := true }) else ((r.B.drop r.At.toNat).take m.toNat, { r with At := r.At + m })) := by
  have hw : w64 ((List.length r.B : Int) - r.At) = (List.length r.B : Int) - r.At := w64_id (by omega) (by omega)
  obtain ⟨B, At, F⟩ := r
  simp only at h0 h1 hs hw
  simp only [ref01_Reader_Bytes, lt1, Option.bind_some]
  cases F
  · by_cases h2 : m < 0
    · simp [h2]
    · by_cases h3 : m > B.length - At
      · simp [h2, h3, hw]
      · have e1 : w64 (At + m) = At + m := w64_id (by omega) (by omega)
        have e2 : w64 (At + m - m) = At := by rw [show At + m - m = At by omega]; exact w64_id (by omega) (by omega)
        have e3 : subL B At (At + m) = some ((B.drop At.toNat).take m.toNat) := by
          rw [subL_ok h0 (by omega) (by omega)]
          congr 2
          omega
        have e4 : w64 At = At := w64_id (by omega) (by omega)
        simp [h2, h3, hw, e1, e2, e3, e4]
  · simp

/-- Of a list of its own, read anew. -/
theorem clone_view (k : Nat) {x bs : List UInt8} {o n : Nat} (h : viewL x o n = some bs) (hb : bs.length ≤ 1000000) : wire_Read'2 k o n x = some (bs, bs.length) := by
  simp only [wire_Read'2, slices_Clonebyte_byte'2, apV, h, Option.bind_some, apL_ok (show (([] : List UInt8).length + bs.length) * 1 ≤ 140737488355328 by simp; omega), List.nil_append]

theorem num_at (k : Nat) (hk : 9 ≤ k) (s : Nat) (hs : 1 ≤ s ∧ s ≤ 8) (o n : Nat) (v : List UInt8) (h : o + n = v.length) (hl : v.length ≤ 9000) (hn : s ≤ n) : wire_Reader_Number k (s : Int) o n true true v = some (getU ((v.drop o).take s), o + s, n - s, true, true) := by
  have h1 : (decide ((s : Int) < 1)) = false := dec_f (by omega)
  have h2 : (decide ((s : Int) > 8)) = false := dec_f (by omega)
  have ht : takeV (s : Int) o n true true = (o, s, true, o + s, n - s, true, true) := by
    unfold takeV
    rw [if_neg (by decide), if_neg (by omega)]
    simp
  have hg := get_eq k hk o s v (.inr (by omega)) (by omega) (by omega)
  rw [if_pos hs] at hg
  simp only [wire_Reader_Number, lt1, h1, h2, cond_false, Option.bind_some, Bool.false_eq_true, if_false, take_eq, ht, hg]

theorem num_fail (k : Nat) (hk : 9 ≤ k) (size : Int) (v : List UInt8) (made : Bool) : ∃ made', wire_Reader_Number k size 0 0 false made v = some (0, 0, 0, false, made') := by
  have hg := get_eq k hk 0 0 v (.inl rfl) (by omega) (by omega)
  rw [if_neg (by omega)] at hg
  have ht : ∀ m, takeV m 0 0 false made = (0, 0, false, 0, 0, false, made) := fun m => rfl
  refine ⟨made, ?_⟩
  simp only [wire_Reader_Number, lt1, Option.bind_some]
  by_cases hb : (bif decide (size < 1) then true else decide (size > 8)) = true
  · simp only [hb, if_true, Option.bind_some, take_eq, ht, hg]
  · simp only [hb, Bool.false_eq_true, if_false, Option.bind_some, take_eq, ht, hg]

theorem num_empty (k : Nat) (hk : 9 ≤ k) (size : Int) (hs : 1 ≤ size) : wire_Reader_Number k size 0 0 true true [] = some (0, 0, 0, false, true) := by
  have hg := get_eq k hk 0 0 [] (.inl rfl) (by omega) (by omega)
  rw [if_neg (by omega)] at hg
  have ht : ∀ m : Int, (m < 0 ∨ m > ((0 : Nat) : Int)) → takeV m 0 0 true true = (0, 0, false, 0, 0, false, true) := fun m hm => by unfold takeV; rw [if_neg (by decide), if_pos hm]
  simp only [wire_Reader_Number, lt1, Option.bind_some]
  by_cases hb : (bif decide (size < 1) then true else decide (size > 8)) = true
  · simp only [hb, if_true, Option.bind_some, take_eq, ht (-1) (.inl (by omega)), hg]
  · simp only [hb, Bool.false_eq_true, if_false, Option.bind_some, take_eq, ht size (.inr (by omega)), hg]

/-- The first i words of a vector's bytes. -/
def vecU (v : List UInt8) (i : Nat) : Vector UInt64 16 := Vector.ofFn fun j => if j.1 < i then getU ((v.drop (8 * j.1)).take 8) else 0

theorem vecU_succ (v : List UInt8) (i : Nat) (hi : i < 16) : putV (vecU v i) ⟨i, hi⟩ (getU ((v.drop (8 * i)).take 8)) = vecU v (i + 1) := by
  refine Vector.ext fun j hj => ?_
  simp only [putV, vecU, Vector.getElem_set, Vector.getElem_ofFn]
  by_cases h : i = j
  · subst h; simp
  · rw [if_neg h]
    have : (j < i) ↔ (j < i + 1) := by omega
    simp only [this]

theorem vecU0 (v : List UInt8) : vecU v 0 = Vector.replicate 16 0 := Vector.ext fun j hj => by simp [vecU]

theorem vec_loop (k : Nat) (hk : 17 ≤ k) (v : List UInt8) (hl : v.length = 128) : loopO (fun s => wire_Reader_Vector.b1 k v s.1 s.2.1 s.2.2.1 s.2.2.2.1 s.2.2.2.2.1 s.2.2.2.2.2) k ((Vector.replicate 16 (0 : UInt64)), 0, v.length, true, true, (0 : Int)) = some (vecU v 16) := by
  refine loop_g (n := 16) (fun i => (vecU v i, 8 * i, 128 - 8 * i, true, true, ((i : Nat) : Int))) _ (by simp [vecU0, hl]) ?_ ?_ (by omega)
  · intro i hi
    have h1 := num_at k (by omega) 8 ⟨by omega, by omega⟩ (8 * i) (128 - 8 * i) v (by omega) (by omega) (by omega)
    have h2 : inV 16 (i : Int) = some ⟨i, hi⟩ := inV_ok (by omega) (by simpa using hi)
    simp only [show ((8 : Nat) : Int) = 8 from rfl] at h1
    simp only [wire_Reader_Vector.b1, lt1, dec_t (show (i : Int) < 16 by omega), if_true, wire_Reader_Vector_1, h1, Option.bind_some, h2, vecU_succ v i hi, w64_succ (show i < 9223372036854775807 by omega)]
    rw [show 8 * i + 8 = 8 * (i + 1) by omega, show 128 - 8 * i - 8 = 128 - 8 * (i + 1) by omega]
  · simp only [wire_Reader_Vector.b1, lt1, dec_f (show ¬ ((16 : Nat) : Int) < 16 by omega), Bool.false_eq_true, if_false]

theorem vec_loop0 (k : Nat) (hk : 17 ≤ k) : loopO (fun s => wire_Reader_Vector.b1 k [] s.1 s.2.1 s.2.2.1 s.2.2.2.1 s.2.2.2.2.1 s.2.2.2.2.2) k ((Vector.replicate 16 (0 : UInt64)), 0, 0, true, true, (0 : Int)) = some (Vector.replicate 16 0) := by
  have hp : ∀ i (hi : i < 16), putV (Vector.replicate 16 (0 : UInt64)) ⟨i, hi⟩ 0 = Vector.replicate 16 0 := fun i hi => Vector.ext fun j hj => by simp [putV, Vector.getElem_set]
  refine loop_g (n := 16) (fun i => (Vector.replicate 16 0, 0, 0, decide (i = 0), true, ((i : Nat) : Int))) _ rfl ?_ ?_ (by omega)
  · intro i hi
    have h2 : inV 16 (i : Int) = some ⟨i, hi⟩ := inV_ok (by omega) (by simpa using hi)
    have h1 : wire_Reader_Number k 8 0 0 (decide (i = 0)) true [] = some (0, 0, 0, false, true) := by
      by_cases h0 : i = 0
      · subst h0
        exact num_empty k (by omega) 8 (by omega)
      · rw [dec_f h0]
        have hg := get_eq k (by omega) 0 0 [] (.inl rfl) (by omega) (by omega)
        rw [if_neg (by omega)] at hg
        have ht : ∀ m, takeV m 0 0 false true = (0, 0, false, 0, 0, false, true) := fun m => rfl
        simp only [wire_Reader_Number, lt1, Option.bind_some, dec_f (show ¬ (8 : Int) < 1 by omega), dec_f (show ¬ (8 : Int) > 8 by omega), cond_false, Bool.false_eq_true, if_false, take_eq, ht, hg]
    simp only [wire_Reader_Vector.b1, lt1, dec_t (show (i : Int) < 16 by omega), if_true, wire_Reader_Vector_1, h1, Option.bind_some, h2, hp, w64_succ (show i < 9223372036854775807 by omega)]
    rw [dec_f (show ¬ i + 1 = 0 by omega)]
  · simp only [wire_Reader_Vector.b1, lt1, dec_f (show ¬ ((16 : Nat) : Int) < 16 by omega), Bool.false_eq_true, if_false]

theorem refVec_loop (k : Nat) (hk : 17 ≤ k) (v : List UInt8) (hl : v.length = 128) : loopO (fun s => ref01_Reader_Vector.b1 k v s.1 s.2) k ((Vector.replicate 16 (0 : UInt64)), (0 : Int)) = some (vecU v 16) := by
  have hd : divI (List.length v : Int) 8 = some 16 := by
    rw [hl]
    have : ((128 : Nat) : Int).tdiv 8 = 16 := by decide
    simp only [divI, this]
    rw [if_neg (by decide), w64_id (by decide) (by decide)]
  refine loop_g (n := 16) (fun i => (vecU v i, ((i : Nat) : Int))) _ (by simp [vecU0]) ?_ ?_ (by omega)
  · intro i hi
    have h2 : inV 16 (i : Int) = some ⟨i, hi⟩ := inV_ok (by omega) (by simpa using hi)
    have w1 : w64 (8 * (i : Int)) = ((8 * i : Nat) : Int) := by rw [w64_id (by omega) (by omega)]; omega
    have w2 : w64 (((8 * i : Nat) : Int) + 8) = ((8 * i + 8 : Nat) : Int) := by rw [w64_id (by omega) (by omega)]; omega
    have hs : subL v ((8 * i : Nat) : Int) ((8 * i + 8 : Nat) : Int) = some ((v.drop (8 * i)).take 8) := by
      rw [subL_ok (by omega) (by omega) (by omega)]
      congr 2
      omega
    have hg := refGet_eq k (by omega) ((v.drop (8 * i)).take 8) (by simp; omega)
    simp only [ref01_Reader_Vector.b1, lt1, hd, Option.bind_some, dec_t (show (i : Int) < 16 by omega), if_true, w1, w2, hs, hg, h2, vecU_succ v i hi, w64_succ (show i < 9223372036854775807 by omega)]
  · simp only [ref01_Reader_Vector.b1, lt1, hd, Option.bind_some, dec_f (show ¬ ((16 : Nat) : Int) < 16 by omega), Bool.false_eq_true, if_false]

theorem refVec_loop0 (k : Nat) (hk : 17 ≤ k) : loopO (fun s => ref01_Reader_Vector.b1 k [] s.1 s.2) k ((Vector.replicate 16 (0 : UInt64)), (0 : Int)) = some (Vector.replicate 16 0) := by
  obtain ⟨k', rfl⟩ : ∃ j, k = j + 1 := ⟨k - 1, by omega⟩
  refine loopO_out ?_
  have hd : divI (List.length ([] : List UInt8) : Int) 8 = some 0 := by
    have : ((0 : Nat) : Int).tdiv 8 = 0 := by decide
    simp only [List.length_nil, divI, this]
    rw [if_neg (by decide), w64_id (by decide) (by decide)]
  simp only [ref01_Reader_Vector.b1, lt1, hd, Option.bind_some, dec_f (show ¬ (0 : Int) < 0 by omega), Bool.false_eq_true, if_false]

abbrev RSt := Option (List UInt8)
def takeP (m : Int) : RSt → List UInt8 × RSt
  | none => ([], none)
  | some l => if m < 0 ∨ m > l.length then ([], none) else (l.take m.toNat, some (l.drop m.toNat))
def szP (s : Int) : Int := if s < 1 ∨ s > 8 then -1 else s
def numP (s : Int) (st : RSt) : UInt64 × RSt := (getU (takeP (szP s) st).1, (takeP (szP s) st).2)
def blobP (st : RSt) : List UInt8 × RSt := takeP ((numP 2 st).1.toNat : Int) (numP 2 st).2
def dotOf (b : List UInt8) : api_Dot := match b with | [] => ⟨0, 0⟩ | x :: t => ⟨(x.toNat : Int), getU t⟩
def dotP (st : RSt) : api_Dot × RSt := (dotOf (takeP 9 st).1, (takeP 9 st).2)
def vecOf (b : List UInt8) : Vector UInt64 16 := if b = [] then Vector.replicate 16 0 else vecU b 16
def vecP (st : RSt) : Vector UInt64 16 × RSt := (vecOf (takeP 128 st).1, (takeP 128 st).2)
theorem takeP_len (m : Int) (st : RSt) : ((takeP m st).1.length : Int) = m ∨ (takeP m st).1 = [] := by
  cases st with
  | none => exact .inr rfl
  | some l =>
    unfold takeP
    simp only
    split
    · exact .inr rfl
    · left; simp; omega
/-- The program's reader stands there. -/
structure Wr (x : List UInt8) (o n : Nat) (is made : Bool) (st : RSt) : Prop where
  made : made = true
  len : x.length ≤ 100000
  on : o + n ≤ x.length
  go : ∀ l, st = some l → is = true ∧ (x.drop o).take n = l
  no : st = none → is = false
theorem Wr.n_eq {x : List UInt8} {o n : Nat} {is made : Bool} {l : List UInt8} (h : Wr x o n is made (some l)) : n = l.length := by
  have := (h.go l rfl).2
  rw [← this]
  have := h.on
  simp; omega
/-- The reference's reader stands there. -/
structure Rr (r : ref01_Reader) (st : RSt) : Prop where
  len : r.B.length ≤ 100000
  at0 : 0 ≤ r.At
  at1 : r.At ≤ r.B.length
  go : ∀ l, st = some l → r.Failed = false ∧ r.B.drop r.At.toNat = l
  no : st = none → r.Failed = true
theorem w_take (k : Nat) (m : Int) {x : List UInt8} {o n : Nat} {is made : Bool} {st : RSt} (h : Wr x o n is made st) :
    ∃ vo vn ok o' n' is' made', wire_Reader_take k m o n is made x = some (vo, vn, ok, o', n', is', made') ∧ Wr x o' n' is' made' (takeP m st).2 ∧ (x.drop vo).take vn = (takeP m st).1 ∧ (takeP m st).1.length = vn ∧ vo + vn ≤ x.length := by
  rw [take_eq]
  obtain ⟨rfl, h2, h3, h4, h5⟩ := h
  cases st with
  | none =>
    have := h5 rfl
    subst this
    exact ⟨0, 0, false, o, n, false, true, rfl, ⟨rfl, h2, h3, fun _ h => (by cases h), fun _ => rfl⟩, by simp [takeP], rfl, by omega⟩
  | some l =>
    obtain ⟨rfl, h6⟩ := h4 l rfl
    have hn : n = l.length := by rw [← h6]; simp; omega
    by_cases hc : m < 0 ∨ m > n
    · have hc' : m < 0 ∨ m > l.length := by rw [← hn]; exact hc
      refine ⟨0, 0, false, 0, 0, false, true, by unfold takeV; rw [if_neg (by decide), if_pos hc], ⟨rfl, h2, by omega, ?_, fun _ => rfl⟩, by simp [takeP, hc'], by simp [takeP, hc'], by omega⟩
      intro l' hl; simp [takeP, hc'] at hl
    · have hc' : ¬ (m < 0 ∨ m > l.length) := by rw [← hn]; exact hc
      have ht : takeP m (some l) = (l.take m.toNat, some (l.drop m.toNat)) := by unfold takeP; simp only [if_neg hc']
      refine ⟨o, m.toNat, true, o + m.toNat, n - m.toNat, true, true, by unfold takeV; rw [if_neg (by decide), if_neg hc], ?_, ?_, ?_, by omega⟩
      · rw [ht]
        refine ⟨rfl, h2, by omega, fun l' hl => ⟨rfl, ?_⟩, fun h => by cases h⟩
        cases hl
        rw [← h6, List.drop_take, List.drop_drop]
      · rw [ht, ← h6, List.take_take]
        congr 1
        omega
      · rw [ht]; simp; omega
theorem r_take (k : Nat) (m : Int) {r : ref01_Reader} {st : RSt} (h : Rr r st) : ∃ r', ref01_Reader_Bytes k m r = some ((takeP m st).1, r') ∧ Rr r' (takeP m st).2 := by
  obtain ⟨h1, h2, h3, h4, h5⟩ := h
  rw [refBytes_eq k m r h2 h3 (by omega)]
  cases st with
  | none =>
    have := h5 rfl
    rw [if_pos (.inl this)]
    exact ⟨_, rfl, h1, h2, h3, fun _ h => (by cases h), fun _ => rfl⟩
  | some l =>
    obtain ⟨h6, h7⟩ := h4 l rfl
    have hl : (l.length : Int) = r.B.length - r.At := by rw [← h7]; simp; omega
    by_cases hc : m < 0 ∨ m > l.length
    · rw [if_pos (by rw [hl] at hc; exact .inr hc)]
      have ht : takeP m (some l) = ([], none) := by unfold takeP; simp only [if_pos hc]
      rw [ht]
      exact ⟨_, rfl, h1, h2, h3, fun _ h => (by cases h), fun _ => rfl⟩
    · rw [if_neg (by rw [hl] at hc; rw [h6]; rintro (h | h); cases h; exact hc h)]
      have ht : takeP m (some l) = (l.take m.toNat, some (l.drop m.toNat)) := by unfold takeP; simp only [if_neg hc]
      refine ⟨_, by rw [ht, h7], ?_⟩
      rw [ht]
      refine ⟨h1, by show 0 ≤ r.At + m; omega, by show r.At + m ≤ (r.B.length : Int); omega, fun l' hl' => ⟨h6, ?_⟩, fun h => by cases h⟩
      cases hl'
      show r.B.drop (r.At + m).toNat = _
      rw [← h7, List.drop_drop]
      congr 1
      omega
theorem szP_w (size : Int) : (if (bif decide (size < 1) then true else decide (size > 8)) = true then some (-1 : Int) else some size) = some (szP size) := by
  unfold szP
  by_cases h1 : size < 1
  · simp [h1]
  · by_cases h2 : size > 8 <;> simp [h1, h2]
theorem szP_le (size : Int) : szP size ≤ 8 := by unfold szP; split <;> omega
theorem takeP_le8 (size : Int) (st : RSt) : (takeP (szP size) st).1.length ≤ 8 := by
  rcases takeP_len (szP size) st with h | h
  · have := szP_le size; omega
  · rw [h]; simp
theorem getU_nil : getU [] = 0 := rfl
theorem w_num (k : Nat) (hk : 9 ≤ k) (size : Int) {x : List UInt8} {o n : Nat} {is made : Bool} {st : RSt} (h : Wr x o n is made st) :
    ∃ o' n' is' made', wire_Reader_Number k size o n is made x = some ((numP size st).1, o', n', is', made') ∧ Wr x o' n' is' made' (numP size st).2 := by
  obtain ⟨vo, vn, ok, o', n', is', made', e1, e2, e3, e4, e5⟩ := w_take k (szP size) h
  have hl := takeP_le8 size st
  have hx := h.len
  have hg := get_eq k hk vo vn x (.inr e5) (by omega) (by omega)
  refine ⟨o', n', is', made', ?_, e2⟩
  have hs := szP_w size
  simp only [wire_Reader_Number, lt1, Option.bind_some]
  by_cases hb : (bif decide (size < 1) then true else decide (size > 8)) = true
  · rw [if_pos hb] at hs
    have hs' := Option.some.inj hs
    simp only [hb, if_true, Option.bind_some, hs', e1, hg, numP, e3]
    by_cases hv : 1 ≤ vn ∧ vn ≤ 8
    · simp only [if_pos hv, Option.bind_some]
    · have : (takeP (szP size) st).1 = [] := List.eq_nil_of_length_eq_zero (by omega)
      simp only [if_neg hv, Option.bind_some, this, getU_nil]
  · rw [if_neg hb] at hs
    have hs' := Option.some.inj hs
    simp only [hb, Bool.false_eq_true, if_false, Option.bind_some]
    rw [← hs'] at e1 e2 e3 e4 hl
    have hz : szP size = size := hs'.symm
    simp only [e1, Option.bind_some, hg, numP, hz]
    rw [e3]
    by_cases hv : 1 ≤ vn ∧ vn ≤ 8
    · simp only [if_pos hv, Option.bind_some]
    · have : (takeP size st).1 = [] := List.eq_nil_of_length_eq_zero (by omega)
      simp only [if_neg hv, Option.bind_some, this, getU_nil]
theorem r_num (k : Nat) (hk : 9 ≤ k) (size : Int) {r : ref01_Reader} {st : RSt} (h : Rr r st) : ∃ r', ref01_Reader_Number k size r = some ((numP size st).1, r') ∧ Rr r' (numP size st).2 := by
  simp only [ref01_Reader_Number, lt1, Option.bind_some]
  by_cases hb : (bif decide (size < 1) then true else decide (size > 8)) = true
  · have hs := szP_w size
    rw [if_pos hb] at hs
    have hs' := Option.some.inj hs
    have hF : Rr { r with Failed := true } none := ⟨h.len, h.at0, h.at1, fun _ h => (by cases h), fun _ => rfl⟩
    obtain ⟨r', e1, e2⟩ := r_take k size hF
    have ht : takeP (-1) st = ([], none) := by cases st <;> rfl
    have e1' : ref01_Reader_Bytes k size { r with Failed := true } = some ([], r') := e1
    simp only [hb, if_true, Option.bind_some, e1', refGet_eq k hk [] (by simp), numP, ← hs', ht]
    exact ⟨r', rfl, e2⟩
  · have hs := szP_w size
    rw [if_neg hb] at hs
    have hs' := Option.some.inj hs
    obtain ⟨r', e1, e2⟩ := r_take k size h
    have hl := takeP_le8 size st
    rw [← hs'] at hl
    simp only [hb, Bool.false_eq_true, if_false, Option.bind_some, e1, refGet_eq k hk _ hl, numP, ← hs']
    exact ⟨r', rfl, e2⟩
theorem num2_lt (st : RSt) : (numP 2 st).1.toNat ≤ 65535 := by
  have hl : (takeP (szP 2) st).1.length ≤ 2 := by
    rcases takeP_len (szP 2) st with h | h
    · have : szP 2 = 2 := rfl
      omega
    · rw [h]; simp
  show (getU (takeP (szP 2) st).1).toNat ≤ _
  rw [getU_toNat _ (by omega)]
  have h13 := getB_lt (takeP (szP 2) st).1
  have : 256 ^ (takeP (szP 2) st).1.length ≤ 256 ^ 2 := Nat.pow_le_pow_right (by decide) hl
  have h14 : (256 : Nat) ^ 2 = 65536 := by decide
  omega
theorem num2_w (st : RSt) : w64 (UN.toN (numP 2 st).1 : Int) = ((numP 2 st).1.toNat : Int) := by
  have := num2_lt st
  exact w64_id (by show _ ≤ (((numP 2 st).1.toNat : Nat) : Int); omega) (by show (((numP 2 st).1.toNat : Nat) : Int) ≤ _; omega)
theorem w_bytes (k : Nat) (m : Int) {x : List UInt8} {o n : Nat} {is made : Bool} {st : RSt} (h : Wr x o n is made st) :
    ∃ vo vn o' n' is' made', wire_Reader_Bytes k m o n is made x = some (vo, vn, o', n', is', made') ∧ Wr x o' n' is' made' (takeP m st).2 ∧ viewL x vo vn = some (takeP m st).1 ∧ (takeP m st).1.length = vn ∧ vo + vn ≤ x.length := by
  obtain ⟨vo, vn, ok, o', n', is', made', e1, e2, e3, e4, e5⟩ := w_take k m h
  refine ⟨vo, vn, o', n', is', made', ?_, e2, by rw [view_ok (.inr e5), e3], e4, e5⟩
  simp only [wire_Reader_Bytes, e1, Option.bind_some]
theorem w_blob (k : Nat) (hk : 9 ≤ k) {x : List UInt8} {o n : Nat} {is made : Bool} {st : RSt} (h : Wr x o n is made st) :
    ∃ vo vn o' n' is' made', wire_Reader_Blob k o n is made x = some (vo, vn, o', n', is', made') ∧ Wr x o' n' is' made' (blobP st).2 ∧ viewL x vo vn = some (blobP st).1 ∧ (blobP st).1.length = vn ∧ vo + vn ≤ x.length := by
  obtain ⟨o1, n1, is1, made1, e1, e2⟩ := w_num k hk 2 h
  obtain ⟨vo, vn, o', n', is', made', f1, f2⟩ := w_bytes k ((numP 2 st).1.toNat : Int) e2
  refine ⟨vo, vn, o', n', is', made', ?_, f2⟩
  simp only [wire_Reader_Blob, e1, Option.bind_some, lt1, num2_w, f1]
theorem r_blob (k : Nat) (hk : 9 ≤ k) {r : ref01_Reader} {st : RSt} (h : Rr r st) : ∃ r', ref01_Reader_Blob k r = some ((blobP st).1, r') ∧ Rr r' (blobP st).2 := by
  obtain ⟨r1, e1, e2⟩ := r_num k hk 2 h
  obtain ⟨r2, f1, f2⟩ := r_take k ((numP 2 st).1.toNat : Int) e2
  refine ⟨r2, ?_, f2⟩
  simp only [ref01_Reader_Blob, e1, Option.bind_some, lt1, num2_w, f1, blobP]
theorem w_dot (k : Nat) (hk : 9 ≤ k) {x : List UInt8} {o n : Nat} {is made : Bool} {st : RSt} (h : Wr x o n is made st) :
    ∃ o' n' is' made', wire_Reader_Dot k o n is made x = some ((dotP st).1, o', n', is', made') ∧ Wr x o' n' is' made' (dotP st).2 := by
  obtain ⟨vo, vn, ok, o', n', is', made', e1, e2, e3, e4, e5⟩ := w_take k 9 h
  have hv : viewL x vo vn = some (takeP 9 st).1 := by rw [view_ok (.inr e5), e3]
  have hx := h.len
  have hc := clone_view k hv (by omega)
  refine ⟨o', n', is', made', ?_, e2⟩
  obtain ⟨bs, hbs⟩ : ∃ bs, (takeP 9 st).1 = bs := ⟨_, rfl⟩
  have hlen := takeP_len 9 st
  simp only [wire_Reader_Dot, e1, Option.bind_some, hc, dotP, hbs, lt1]
  rw [hbs] at hlen
  rcases hlen with hl | rfl
  · have hl9 : bs.length = 9 := by omega
    have hn1 := num_at k hk 1 ⟨by omega, by omega⟩ 0 9 bs (by omega) (by omega) (by omega)
    have hn2 := num_at k hk 8 ⟨by omega, by omega⟩ (0 + 1) (9 - 1) bs (by omega) (by omega) (by omega)
    simp only [show ((1 : Nat) : Int) = 1 from rfl, show ((8 : Nat) : Int) = 8 from rfl] at hn1 hn2
    rw [hl9]
    simp only [hn1, hn2, Option.bind_some]
    obtain ⟨y, t, rfl⟩ : ∃ y t, bs = y :: t := by cases bs with | nil => simp at hl9 | cons y t => exact ⟨y, t, rfl⟩
    have ht : t.length = 8 := by simpa using hl9
    have e6 : List.take 8 (List.drop (0 + 1) (y :: t)) = t := List.take_of_length_le (by simp; omega)
    have e7 : List.take 1 (List.drop 0 (y :: t)) = [y] := by simp
    rw [e6, e7]
    have e8 : w64 (UN.toN (getU [y]) : Int) = (y.toNat : Int) := by
      have : (getU [y]).toNat = y.toNat := by rw [getU_toNat _ (by simp)]; simp [getB]
      have hy := y.toNat_lt
      rw [show (UN.toN (getU [y])) = (getU [y]).toNat from rfl, this]
      exact w64_id (by omega) (by omega)
    simp only [e8, dotOf]
  · have hn1 := num_empty k hk 1 (by omega)
    obtain ⟨m2, hn2⟩ := num_fail k hk 8 [] true
    have hw : w64 (UN.toN (0 : UInt64) : Int) = 0 := w64_id (by decide) (by decide)
    simp only [List.length_nil, hn1, Option.bind_some, hn2, hw, dotOf]
theorem r_dot (k : Nat) (hk : 9 ≤ k) {r : ref01_Reader} {st : RSt} (h : Rr r st) : ∃ r', ref01_Reader_Dot k r = some ((dotP st).1, r') ∧ Rr r' (dotP st).2 := by
  obtain ⟨r1, e1, e2⟩ := r_take k 9 h
  refine ⟨r1, ?_, e2⟩
  have hlen := takeP_len 9 st
  simp only [ref01_Reader_Dot, e1, Option.bind_some, dotP, lt1]
  obtain ⟨bs, hbs⟩ : ∃ bs, (takeP 9 st).1 = bs := ⟨_, rfl⟩
  rw [hbs] at hlen ⊢
  rcases hlen with hl | rfl
  · have hl9 : bs.length = 9 := by omega
    obtain ⟨y, t, rfl⟩ : ∃ y t, bs = y :: t := by cases bs with | nil => simp at hl9 | cons y t => exact ⟨y, t, rfl⟩
    have ht : t.length = 8 := by simpa using hl9
    have hz : ((List.length (y :: t) : Int) == 0) = false := by rw [beq_eq_false_iff_ne]; omega
    have hi : idxL (y :: t) 0 = some y := by simp [idxL]
    have hsub : subL (y :: t) 1 (List.length (y :: t) : Int) = some t := by
      rw [subL_ok (by omega) (by simp only [List.length_cons]; omega) (by omega)]
      congr 1
      rw [List.take_of_length_le (by simp)]; rfl
    have hy := y.toNat_lt
    have e8 : w64 (UN.toN y : Int) = (y.toNat : Int) := w64_id (by show _ ≤ ((y.toNat : Nat) : Int); omega) (by show ((y.toNat : Nat) : Int) ≤ _; omega)
    simp only [hz, Bool.false_eq_true, if_false, hi, hsub, refGet_eq k hk t (by omega), Option.bind_some, e8, dotOf]
  · rfl
theorem w_vec (k : Nat) (hk : 17 ≤ k) {x : List UInt8} {o n : Nat} {is made : Bool} {st : RSt} (h : Wr x o n is made st) :
    ∃ o' n' is' made', wire_Reader_Vector k o n is made x = some ((vecP st).1, o', n', is', made') ∧ Wr x o' n' is' made' (vecP st).2 := by
  obtain ⟨vo, vn, ok, o', n', is', made', e1, e2, e3, e4, e5⟩ := w_take k 128 h
  have hv : viewL x vo vn = some (takeP 128 st).1 := by rw [view_ok (.inr e5), e3]
  have hx := h.len
  have hc := clone_view k hv (by omega)
  refine ⟨o', n', is', made', ?_, e2⟩
  obtain ⟨bs, hbs⟩ : ∃ bs, (takeP 128 st).1 = bs := ⟨_, rfl⟩
  have hlen := takeP_len 128 st
  simp only [wire_Reader_Vector, e1, Option.bind_some, hc, vecP, hbs]
  rw [hbs] at hlen
  rcases hlen with hl | rfl
  · have hl9 : bs.length = 128 := by omega
    have e1 := vec_loop k hk bs hl9
    have hne : bs ≠ [] := by intro h; simp [h] at hl9
    simp only [e1, Option.bind_some, vecOf, if_neg hne]
  · have e1 := vec_loop0 k hk
    simp only [List.length_nil, e1, Option.bind_some, vecOf, if_true]
theorem r_vec (k : Nat) (hk : 17 ≤ k) {r : ref01_Reader} {st : RSt} (h : Rr r st) : ∃ r', ref01_Reader_Vector k r = some ((vecP st).1, r') ∧ Rr r' (vecP st).2 := by
  obtain ⟨r1, e1, e2⟩ := r_take k 128 h
  refine ⟨r1, ?_, e2⟩
  have hlen := takeP_len 128 st
  simp only [ref01_Reader_Vector, e1, Option.bind_some, vecP]
  obtain ⟨bs, hbs⟩ : ∃ bs, (takeP 128 st).1 = bs := ⟨_, rfl⟩
  rw [hbs] at hlen ⊢
  rcases hlen with hl | rfl
  · have hl9 : bs.length = 128 := by omega
    have hne : bs ≠ [] := by intro h; simp [h] at hl9
    simp only [refVec_loop k hk bs hl9, Option.bind_some, vecOf, if_neg hne]
  · simp only [refVec_loop0 k hk, Option.bind_some, vecOf, if_true]
def leftP : RSt → Int
  | none => 0
  | some l => (l.length : Int)
theorem w_left (k : Nat) {x : List UInt8} {o n : Nat} {is made : Bool} {st : RSt} (h : Wr x o n is made st) : wire_Reader_Left k o n is made x = some (leftP st) := by
  simp only [wire_Reader_Left, wire_Reader_Failed, lt1, Option.bind_some]
  cases st with
  | none => rw [h.no rfl]; rfl
  | some l =>
    have := h.n_eq
    rw [(h.go l rfl).1, this]; rfl
theorem w_end (k : Nat) {x : List UInt8} {o n : Nat} {is made : Bool} {st : RSt} (h : Wr x o n is made st) : wire_Reader_End k o n is made x = some (if st = some [] then 0 else 4) := by
  have hm := h.made
  subst hm
  simp only [wire_Reader_End, wire_Reader_Failed, lt1, Option.bind_some, Bool.not_true, Bool.false_eq_true, if_false]
  cases st with
  | none => rw [h.no rfl]; rfl
  | some l =>
    have := h.n_eq
    rw [(h.go l rfl).1, this]
    cases l with
    | nil => rfl
    | cons a t =>
      have : decide (((a :: t).length : Int) > 0) = true := decide_eq_true (by simp only [List.length_cons]; omega)
      simp [this]
theorem r_end (k : Nat) {r : ref01_Reader} {st : RSt} (h : Rr r st) : ref01_Reader_End k r = some (if st = some [] then 0 else 4) := by
  have h1 := h.at0; have h2 := h.at1; have h3 := h.len
  simp only [ref01_Reader_End, ref01_Reader_Left, lt1, Option.bind_some]
  cases st with
  | none => rw [h.no rfl]; rfl
  | some l =>
    obtain ⟨h4, h5⟩ := h.go l rfl
    rw [h4, w64_id (by omega) (by omega)]
    have hl : (r.B.length : Int) - r.At = l.length := by rw [← h5]; simp; omega
    rw [hl]
    cases l with
    | nil => rfl
    | cons a t =>
      have : decide (((a :: t).length : Int) > 0) = true := decide_eq_true (by simp only [List.length_cons]; omega)
      simp [this]
/-! ### what was read is what stood there -/
theorem put_getB (b : List UInt8) : put (getB b) b.length = b := by
  have key : ∀ (n : Nat) (b : List UInt8), b.length = n → put (getB b) n = b := by
    intro n
    induction n with
    | zero => intro b hb; rw [List.eq_nil_of_length_eq_zero hb]; rfl
    | succ n ih =>
      intro b hb
      obtain ⟨t, x, rfl⟩ : ∃ t x, b = t ++ [x] := by
        refine ⟨b.dropLast, b.getLast (by intro h; simp [h] at hb), ?_⟩
        exact (List.dropLast_concat_getLast _).symm
      have hx := x.toNat_lt
      rw [put_succ, getB_app]
      have e1 : (getB t * 256 + x.toNat) / 256 = getB t := by omega
      rw [e1, ih t (by simpa using hb)]
      congr 2
      apply UInt8.toNat_inj.1
      simp only [UInt8.toNat_ofNat']
      omega
  exact key _ b rfl
theorem takeP_some {m : Int} {st : RSt} {b l' : List UInt8} (h : takeP m st = (b, some l')) : st = some (b ++ l') ∧ (b.length : Int) = m := by
  cases st with
  | none => cases h
  | some l =>
    unfold takeP at h
    simp only at h
    split at h
    · cases h
    · cases h
      refine ⟨by simp, ?_⟩
      simp; omega
theorem numP_some {s : Nat} (hs : 1 ≤ s ∧ s ≤ 8) {st : RSt} {v : UInt64} {l' : List UInt8} (h : numP (s : Int) st = (v, some l')) : st = some (put v.toNat s ++ l') := by
  have hz : szP (s : Int) = s := by unfold szP; rw [if_neg (by omega)]
  unfold numP at h
  rw [hz] at h
  obtain ⟨h1, h2⟩ := Prod.mk.inj h
  obtain ⟨h3, h4⟩ := takeP_some (b := (takeP (s : Int) st).1) (l' := l') (by rw [← h2])
  have hl : (takeP (s : Int) st).1.length = s := by omega
  rw [h3]
  congr 2
  rw [← h1, getU_toNat _ (by omega)]
  have := put_getB (takeP (s : Int) st).1
  rw [hl] at this
  exact this.symm
theorem blobP_some {st : RSt} {b l' : List UInt8} (h : blobP st = (b, some l')) : st = some (put b.length 2 ++ b ++ l') ∧ b.length ≤ 65535 := by
  unfold blobP at h
  obtain ⟨h1, h2⟩ := takeP_some h
  have h3 := numP_some (s := 2) ⟨by omega, by omega⟩ (st := st) (v := (numP 2 st).1) (l' := b ++ l') (Prod.ext rfl h1)
  have h4 : (numP 2 st).1.toNat = b.length := by omega
  have := num2_lt st
  rw [h4] at h3 this
  exact ⟨by rw [h3, List.append_assoc], this⟩
theorem dotP_some {st : RSt} {d : api_Dot} {l' : List UInt8} (h : dotP st = (d, some l')) : st = some (dotB d ++ l') ∧ 0 ≤ d.Region ∧ d.Region ≤ 255 := by
  unfold dotP at h
  obtain ⟨h1, h2⟩ := Prod.mk.inj h
  obtain ⟨h3, h4⟩ := takeP_some (b := (takeP 9 st).1) (l' := l') (by rw [← h2])
  have hl : (takeP 9 st).1.length = 9 := by omega
  obtain ⟨bs, hbs⟩ : ∃ bs, (takeP 9 st).1 = bs := ⟨_, rfl⟩
  rw [hbs] at h1 h3 hl
  obtain ⟨y, t, rfl⟩ : ∃ y t, bs = y :: t := by cases bs with | nil => simp at hl | cons y t => exact ⟨y, t, rfl⟩
  have ht : t.length = 8 := by simpa using hl
  subst h1
  have hy := y.toNat_lt
  refine ⟨?_, by show (0 : Int) ≤ (y.toNat : Int); omega, by show (y.toNat : Int) ≤ 255; omega⟩
  rw [h3]
  congr 2
  show y :: t = UInt8.ofNat (y.toNat : Int).toNat :: put (getU t).toNat 8
  rw [getU_toNat _ (by omega)]
  have := put_getB t
  rw [ht] at this
  rw [this]
  congr 1
  simp
theorem vecB_vecU (b : List UInt8) (hb : b.length = 128) : ∀ i, i ≤ 16 → vecB (vecU b 16) i = b.take (8 * i)
  | 0, _ => by simp [vecB]
  | i + 1, h => by
    rw [vecB_succ _ i (by omega), vecB_vecU b hb i (by omega)]
    have e1 : (vecU b 16)[i]'(by omega) = getU ((b.drop (8 * i)).take 8) := by simp [vecU, show i < 16 by omega]
    have hl : ((b.drop (8 * i)).take 8).length = 8 := by simp; omega
    rw [e1, getU_toNat _ (by omega)]
    have := put_getB ((b.drop (8 * i)).take 8)
    rw [hl] at this
    rw [this, show 8 * (i + 1) = 8 * i + 8 by omega, List.take_add]
theorem vecP_some {st : RSt} {v : Vector UInt64 16} {l' : List UInt8} (h : vecP st = (v, some l')) : st = some (vecB v 16 ++ l') := by
  unfold vecP at h
  obtain ⟨h1, h2⟩ := Prod.mk.inj h
  obtain ⟨h3, h4⟩ := takeP_some (b := (takeP 128 st).1) (l' := l') (by rw [← h2])
  have hl : (takeP 128 st).1.length = 128 := by omega
  rw [h3, ← h1]
  congr 2
  have hne : (takeP 128 st).1 ≠ [] := by intro h; simp [h] at hl
  rw [vecOf, if_neg hne, vecB_vecU _ hl 16 (by omega), List.take_of_length_le (by omega)]
end Go.Proofs.Ythoggbomakolkaa
