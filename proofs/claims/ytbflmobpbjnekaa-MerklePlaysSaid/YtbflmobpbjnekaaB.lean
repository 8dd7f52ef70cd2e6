/- Turning words; the words of a block; the rounds; a block is pressed alike; a hash's bytes. -/
import Derived.Test.YtbflmobpbjnekaaA
namespace Go.Proofs.Ytbflmobpbjnekaa
open Go Fw
set_option linter.unusedVariables false
set_option linter.unusedSimpArgs false

/-- A word, turned to the right. -/
def rr (x : UInt32) (n : Nat) : UInt32 := UN.shr x n ||| UN.shl x (32 - n)
theorem turn_v (n : Nat) (h0 : 1 ≤ n) (h1 : n ≤ 31) : ((UN.ofI (w64 (0 - (n : Int))) : UInt64) &&& 31) = UInt64.ofNat (32 - n) := by
  rw [w64_id (by omega) (by omega)]
  have key : ∀ m : Fin 32, 1 ≤ m.1 → ((UN.ofI (0 - (m.1 : Int)) : UInt64) &&& 31) = UInt64.ofNat (32 - m.1) := by decide
  exact key ⟨n, by omega⟩ h0
theorem rotl_eq (k : Nat) (x : UInt32) (n : Nat) (h0 : 1 ≤ n) (h1 : n ≤ 31) : math_bits_RotateLeft32 k x (w64 (0 - (n : Int))) = some (rr x n) := by
  simp only [math_bits_RotateLeft32, lt1, turn_v n h0 h1]
  have e1 : (UN.toN (UInt64.ofNat (32 - n)) : Nat) = 32 - n := UInt64.toNat_ofNat_of_lt' (by show _ < 2 ^ 64; omega)
  have e2 : (UN.toN ((32 : UInt64) - UInt64.ofNat (32 - n)) : Nat) = n := by
    have key : ∀ m : Fin 32, 1 ≤ m.1 → ((32 : UInt64) - UInt64.ofNat (32 - m.1)).toNat = m.1 := by decide
    exact key ⟨n, by omega⟩ h0
  rw [e1, e2, rr, UInt32.or_comm]
theorem ror_eq (k : Nat) (x : UInt32) (n : Nat) (h0 : 1 ≤ n) (h1 : n ≤ 31) : ref03_ror k x (UInt64.ofNat n) = some (rr x n) := by
  simp only [ref03_ror, lt1]
  have e1 : (UN.toN (UInt64.ofNat n) : Nat) = n := UInt64.toNat_ofNat_of_lt' (by show _ < 2 ^ 64; omega)
  have e2 : (UN.toN ((32 : UInt64) - UInt64.ofNat n) : Nat) = 32 - n := by
    have key : ∀ m : Fin 32, 1 ≤ m.1 → ((32 : UInt64) - UInt64.ofNat m.1).toNat = 32 - m.1 := by decide
    exact key ⟨n, by omega⟩ h0
  rw [e1, e2, rr]
theorem press1_eq (k : Nat) (x : UInt32) (l : List Nat) (hl : ∀ n ∈ l, 1 ≤ n ∧ n ≤ 31) (hk : l.length < k) (hs : l.length < 100) : sha_state_press_1 k x (l.map fun (n : Nat) => (n : Int)) = some (l.foldl (fun y n => y ^^^ rr x n) 0) := by
  have h : loopO (fun s => sha_state_press_1.b1 k (l.map fun (n : Nat) => (n : Int)) x s.1 s.2) k ((0 : UInt32), (0 : Int)) = some (l.foldl (fun y n => y ^^^ rr x n) 0) := by
    refine loop_g (n := l.length) (fun i => ((l.take i).foldl (fun y n => y ^^^ rr x n) 0, ((i : Nat) : Int))) _ (by simp) ?_ ?_ hk
    · intro i hi
      have h1 : idxL (l.map fun (n : Nat) => (n : Int)) (i : Int) = some (l[i] : Int) := by rw [idxL_nat]; simp [hi]
      have h2 := hl l[i] (List.getElem_mem hi)
      simp only [sha_state_press_1.b1, lt1, List.length_map, dec_t (show (i : Int) < (l.length : Int) by omega), if_true, h1, Option.bind_some, rotl_eq k x _ h2.1 h2.2, w64_succ (show i < 9223372036854775807 by omega)]
      rw [List.take_succ_eq_append_getElem hi, List.foldl_append]
      rfl
    · simp only [sha_state_press_1.b1, lt1, List.length_map, dec_f (show ¬ (l.length : Int) < (l.length : Int) by omega), Bool.false_eq_true, if_false, List.take_length]
  simp only [sha_state_press_1, h, Option.bind_some]
theorem press1_2 (k : Nat) (hk : 100 ≤ k) (x : UInt32) (a b : Nat) (ha : 1 ≤ a ∧ a ≤ 31) (hb : 1 ≤ b ∧ b ≤ 31) : sha_state_press_1 k x [(a : Int), (b : Int)] = some (rr x a ^^^ rr x b) := by
  have := press1_eq k x [a, b] (by simp [ha, hb]) (by simp; omega) (by simp)
  simpa using this
theorem press1_3 (k : Nat) (hk : 100 ≤ k) (x : UInt32) (a b c : Nat) (ha : 1 ≤ a ∧ a ≤ 31) (hb : 1 ≤ b ∧ b ≤ 31) (hc : 1 ≤ c ∧ c ≤ 31) : sha_state_press_1 k x [(a : Int), (b : Int), (c : Int)] = some (rr x a ^^^ rr x b ^^^ rr x c) := by
  have := press1_eq k x [a, b, c] (by simp [ha, hb, hc]) (by simp; omega) (by simp)
  simpa using this

def getB (b : List UInt8) : Nat := b.foldl (fun a x => a * 256 + x.toNat) 0
/-- The i-th word of a block. -/
def word (b : List UInt8) (i : Nat) : UInt32 := UInt32.ofNat (getB ((b.drop (4 * i)).take 4))
def nextw (l : List UInt32) (i : Nat) : UInt32 :=
  l.getD (i - 16) 0 + (rr (l.getD (i - 15) 0) 7 ^^^ rr (l.getD (i - 15) 0) 18 ^^^ UN.shr (l.getD (i - 15) 0) 3) + l.getD (i - 7) 0 + (rr (l.getD (i - 2) 0) 17 ^^^ rr (l.getD (i - 2) 0) 19 ^^^ UN.shr (l.getD (i - 2) 0) 10)
theorem wl_ex (b : List UInt8) : ∃ f : Nat → List UInt32, f 0 = [] ∧ ∀ i, f (i + 1) = f i ++ [if i < 16 then word b i else nextw (f i) i] :=
  ⟨fun n => Nat.rec [] (fun i l => l ++ [if i < 16 then word b i else nextw l i]) n, rfl, fun _ => rfl⟩
noncomputable def wl (b : List UInt8) : Nat → List UInt32 := Classical.choose (wl_ex b)
theorem wl_zero (b : List UInt8) : wl b 0 = [] := (Classical.choose_spec (wl_ex b)).1
theorem wl_succ (b : List UInt8) (i : Nat) : wl b (i + 1) = wl b i ++ [if i < 16 then word b i else nextw (wl b i) i] := (Classical.choose_spec (wl_ex b)).2 i
theorem wl_len (b : List UInt8) : ∀ i, (wl b i).length = i := by
  intro i
  induction i with
  | zero => rw [wl_zero]; rfl
  | succ i ih => rw [wl_succ, List.length_append, ih]; rfl
theorem getL {l : List UInt32} {i : Nat} (h : i < l.length) : l[i]? = some (l.getD i 0) := by
  rw [List.getElem?_eq_getElem h, List.getD_eq_getElem?_getD, List.getElem?_eq_getElem h]; rfl
theorem refW2 (k : Nat) (hk : 200 ≤ k) (b : List UInt8) : loopO (fun s => ref03_press.b2 k s.1 s.2) k (wl b 16, (16 : Int)) = some (wl b 64) := by
  refine loop_g (n := 48) (fun i => (wl b (16 + i), ((16 + i : Nat) : Int))) _ rfl ?_ ?_ (by omega)
  · intro i hi
    have hlen := wl_len b (16 + i)
    have e15 : w64 (((16 + i : Nat) : Int) - 15) = ((i + 1 : Nat) : Int) := by rw [w64_id (by omega) (by omega)]; omega
    have e2 : w64 (((16 + i : Nat) : Int) - 2) = ((i + 14 : Nat) : Int) := by rw [w64_id (by omega) (by omega)]; omega
    have e16 : w64 (((16 + i : Nat) : Int) - 16) = ((i : Nat) : Int) := by rw [w64_id (by omega) (by omega)]; omega
    have e7 : w64 (((16 + i : Nat) : Int) - 7) = ((i + 9 : Nat) : Int) := by rw [w64_id (by omega) (by omega)]; omega
    have io : ∀ j : Nat, j < 16 + i → inO (wl b (16 + i)) (j : Int) = some j := fun j hj => by
      rw [inO_ok (by omega) (by rw [hlen]; omega)]; rfl
    have r7 : ∀ x, ref03_ror k x 7 = some (rr x 7) := fun x => ror_eq k x 7 (by omega) (by omega)
    have r18 : ∀ x, ref03_ror k x 18 = some (rr x 18) := fun x => ror_eq k x 18 (by omega) (by omega)
    have r17 : ∀ x, ref03_ror k x 17 = some (rr x 17) := fun x => ror_eq k x 17 (by omega) (by omega)
    have r19 : ∀ x, ref03_ror k x 19 = some (rr x 19) := fun x => ror_eq k x 19 (by omega) (by omega)
    have hs := wl_succ b (16 + i)
    rw [if_neg (by omega)] at hs
    have hn : nextw (wl b (16 + i)) (16 + i) = (wl b (16 + i)).getD i 0 + (rr ((wl b (16 + i)).getD (i + 1) 0) 7 ^^^ rr ((wl b (16 + i)).getD (i + 1) 0) 18 ^^^ UN.shr ((wl b (16 + i)).getD (i + 1) 0) 3) + (wl b (16 + i)).getD (i + 9) 0 + (rr ((wl b (16 + i)).getD (i + 14) 0) 17 ^^^ rr ((wl b (16 + i)).getD (i + 14) 0) 19 ^^^ UN.shr ((wl b (16 + i)).getD (i + 14) 0) 10) := by
      unfold nextw
      rw [show 16 + i - 16 = i by omega, show 16 + i - 15 = i + 1 by omega, show 16 + i - 7 = i + 9 by omega, show 16 + i - 2 = i + 14 by omega]
    simp only [ref03_press.b2, lt1, dec_t (show ((16 + i : Nat) : Int) < 64 by omega), if_true, e15, e2, e16, e7, io (i + 1) (by omega), io (i + 14) (by omega), io i (by omega), io (i + 9) (by omega), Option.bind_some,
      getL (show i + 1 < (wl b (16 + i)).length by omega), getL (show i + 14 < (wl b (16 + i)).length by omega), getL (show i < (wl b (16 + i)).length by omega), getL (show i + 9 < (wl b (16 + i)).length by omega), r7, r18, r17, r19,
      apL_ok (show ((wl b (16 + i)).length + ([(0 : UInt32)]).length) * 4 ≤ 140737488355328 by rw [hlen]; show (16 + i + 1) * 4 ≤ _; omega)]
    rw [apL_ok (by rw [hlen]; show (16 + i + 1) * 4 ≤ _; omega)]
    simp only [Option.bind_some, w64_succ (show 16 + i < 9223372036854775807 by omega)]
    rw [← Nat.add_assoc, hs, hn]
    rfl
  · simp only [ref03_press.b2, lt1, dec_f (show ¬ ((16 + 48 : Nat) : Int) < 64 by omega), Bool.false_eq_true, if_false]
/-- The words so far, as an array. -/
noncomputable def svec (b : List UInt8) (i : Nat) : Vector UInt32 64 := Vector.ofFn fun j => (wl b i).getD j.1 0
theorem svec_get (b : List UInt8) (i : Nat) (j : Nat) (h : j < 64) : (svec b i)[j] = (wl b i).getD j 0 := by simp [svec]
theorem svec_put (b : List UInt8) (i : Nat) (h : i < 64) (v : UInt32) (hv : wl b (i + 1) = wl b i ++ [v]) : putV (svec b i) ⟨i, h⟩ v = svec b (i + 1) := by
  refine Vector.ext fun j hj => ?_
  have hlen := wl_len b i
  rw [svec_get, hv]
  simp only [putV, Vector.getElem_set]
  by_cases hij : i = j
  · subst hij
    rw [if_pos rfl, List.getD_eq_getElem?_getD, List.getElem?_append_right (by omega), hlen]
    simp
  · rw [if_neg hij, svec_get]
    by_cases hlt : j < i
    · rw [List.getD_eq_getElem?_getD, List.getD_eq_getElem?_getD, List.getElem?_append_left (by omega)]
    · rw [List.getD_eq_getElem?_getD, List.getD_eq_getElem?_getD, List.getElem?_eq_none (by omega), List.getElem?_eq_none (by simp; omega)]
theorem shaW2 (k : Nat) (hk : 200 ≤ k) (b : List UInt8) : loopO (fun s => sha_state_press.b3 k s.1 s.2) k (svec b 16, (16 : Int)) = some (svec b 64) := by
  refine loop_g (n := 48) (fun i => (svec b (16 + i), ((16 + i : Nat) : Int))) _ rfl ?_ ?_ (by omega)
  · intro i hi
    have e15 : w64 (((16 + i : Nat) : Int) - 15) = ((i + 1 : Nat) : Int) := by rw [w64_id (by omega) (by omega)]; omega
    have e2 : w64 (((16 + i : Nat) : Int) - 2) = ((i + 14 : Nat) : Int) := by rw [w64_id (by omega) (by omega)]; omega
    have e16 : w64 (((16 + i : Nat) : Int) - 16) = ((i : Nat) : Int) := by rw [w64_id (by omega) (by omega)]; omega
    have e7 : w64 (((16 + i : Nat) : Int) - 7) = ((i + 9 : Nat) : Int) := by rw [w64_id (by omega) (by omega)]; omega
    have iv : ∀ j : Nat, (h : j < 64) → inV 64 (j : Int) = some ⟨j, h⟩ := fun j h => inV_ok (by omega) (by simpa using h)
    have p1 : ∀ x, sha_state_press_1 k x [7, 18] = some (rr x 7 ^^^ rr x 18) := fun x => press1_2 k (by omega) x 7 18 (by omega) (by omega)
    have p2 : ∀ x, sha_state_press_1 k x [17, 19] = some (rr x 17 ^^^ rr x 19) := fun x => press1_2 k (by omega) x 17 19 (by omega) (by omega)
    have hs := wl_succ b (16 + i)
    rw [if_neg (by omega)] at hs
    have hn : nextw (wl b (16 + i)) (16 + i) = (wl b (16 + i)).getD i 0 + (rr ((wl b (16 + i)).getD (i + 1) 0) 7 ^^^ rr ((wl b (16 + i)).getD (i + 1) 0) 18 ^^^ UN.shr ((wl b (16 + i)).getD (i + 1) 0) 3) + (wl b (16 + i)).getD (i + 9) 0 + (rr ((wl b (16 + i)).getD (i + 14) 0) 17 ^^^ rr ((wl b (16 + i)).getD (i + 14) 0) 19 ^^^ UN.shr ((wl b (16 + i)).getD (i + 14) 0) 10) := by
      unfold nextw
      rw [show 16 + i - 16 = i by omega, show 16 + i - 15 = i + 1 by omega, show 16 + i - 7 = i + 9 by omega, show 16 + i - 2 = i + 14 by omega]
    rw [hn] at hs
    have hp := svec_put b (16 + i) (by omega) _ hs
    simp only [sha_state_press.b3, lt1, dec_t (show ((16 + i : Nat) : Int) < 64 by omega), if_true, e15, e2, e16, e7, iv (i + 1) (by omega), iv (i + 14) (by omega), iv i (by omega), iv (i + 9) (by omega), iv (16 + i) (by omega), Option.bind_some, getV, svec_get, p1, p2, w64_succ (show 16 + i < 9223372036854775807 by omega)]
    rw [← Nat.add_assoc, ← hp]
    rfl
  · simp only [sha_state_press.b3, lt1, dec_f (show ¬ ((16 + 48 : Nat) : Int) < 64 by omega), Bool.false_eq_true, if_false]

abbrev H8 := UInt32 × UInt32 × UInt32 × UInt32 × UInt32 × UInt32 × UInt32 × UInt32
/-- One round. -/
def rnd (kw : UInt32) (ww : UInt32) (s : H8) : H8 :=
  let t := s.2.2.2.2.2.2.2 + (rr s.2.2.2.2.1 6 ^^^ rr s.2.2.2.2.1 11 ^^^ rr s.2.2.2.2.1 25) + ((s.2.2.2.2.1 &&& s.2.2.2.2.2.1) ^^^ (UN.not s.2.2.2.2.1 &&& s.2.2.2.2.2.2.1)) + kw + ww
  let u := (rr s.1 2 ^^^ rr s.1 13 ^^^ rr s.1 22) + ((s.1 &&& s.2.1) ^^^ (s.1 &&& s.2.2.1) ^^^ (s.2.1 &&& s.2.2.1))
  (t + u, s.1, s.2.1, s.2.2.1, s.2.2.2.1 + t, s.2.2.2.2.1, s.2.2.2.2.2.1, s.2.2.2.2.2.2.1)
theorem rn_ex (kc : List UInt32) (w : List UInt32) (s0 : H8) : ∃ f : Nat → H8, f 0 = s0 ∧ ∀ i, f (i + 1) = rnd (kc.getD i 0) (w.getD i 0) (f i) :=
  ⟨fun n => Nat.rec s0 (fun i s => rnd (kc.getD i 0) (w.getD i 0) s) n, rfl, fun _ => rfl⟩
noncomputable def rn (kc w : List UInt32) (s0 : H8) : Nat → H8 := Classical.choose (rn_ex kc w s0)
theorem rn_zero (kc w : List UInt32) (s0 : H8) : rn kc w s0 0 = s0 := (Classical.choose_spec (rn_ex kc w s0)).1
theorem rn_succ (kc w : List UInt32) (s0 : H8) (i : Nat) : rn kc w s0 (i + 1) = rnd (kc.getD i 0) (w.getD i 0) (rn kc w s0 i) := (Classical.choose_spec (rn_ex kc w s0)).2 i
theorem shaR (k : Nat) (hk : 200 ≤ k) (t : sha_state) (b : List UInt8) (s0 : H8) :
    loopO (fun s => sha_state_press.b4 k t (svec b 64) s.1 s.2.1 s.2.2.1 s.2.2.2.1 s.2.2.2.2.1 s.2.2.2.2.2.1 s.2.2.2.2.2.2.1 s.2.2.2.2.2.2.2.1 s.2.2.2.2.2.2.2.2) k (s0.1, s0.2.1, s0.2.2.1, s0.2.2.2.1, s0.2.2.2.2.1, s0.2.2.2.2.2.1, s0.2.2.2.2.2.2.1, s0.2.2.2.2.2.2.2, (0 : Int)) = some (rn t.k.toList (wl b 64) s0 64) := by
  refine loop_g (n := 64) (fun i => let s := rn t.k.toList (wl b 64) s0 i; (s.1, s.2.1, s.2.2.1, s.2.2.2.1, s.2.2.2.2.1, s.2.2.2.2.2.1, s.2.2.2.2.2.2.1, s.2.2.2.2.2.2.2, ((i : Nat) : Int))) _ (by simp only [rn_zero]; rfl) ?_ ?_ (by omega)
  · intro i hi
    have p1 : ∀ x, sha_state_press_1 k x [6, 11, 25] = some (rr x 6 ^^^ rr x 11 ^^^ rr x 25) := fun x => press1_3 k (by omega) x 6 11 25 (by omega) (by omega) (by omega)
    have p2 : ∀ x, sha_state_press_1 k x [2, 13, 22] = some (rr x 2 ^^^ rr x 13 ^^^ rr x 22) := fun x => press1_3 k (by omega) x 2 13 22 (by omega) (by omega) (by omega)
    have iv : inV 64 (i : Int) = some ⟨i, hi⟩ := inV_ok (by omega) (by simpa using hi)
    have hkk : t.k[i] = t.k.toList.getD i 0 := by simp [List.getD_eq_getElem?_getD, hi]
    simp only [sha_state_press.b4, lt1, dec_t (show (i : Int) < 64 by omega), if_true, p1, p2, iv, Option.bind_some, getV, svec_get, hkk, w64_succ (show i < 9223372036854775807 by omega), rn_succ, rnd]
  · simp only [sha_state_press.b4, lt1, dec_f (show ¬ ((64 : Nat) : Int) < 64 by omega), Bool.false_eq_true, if_false]
def v8 (s : H8) : Vector UInt32 8 := #v[s.1, s.2.1, s.2.2.1, s.2.2.2.1, s.2.2.2.2.1, s.2.2.2.2.2.1, s.2.2.2.2.2.2.1, s.2.2.2.2.2.2.2]
theorem refR (k : Nat) (hk : 200 ≤ k) (kc : List UInt32) (hkc : kc.length = 64) (b : List UInt8) (s0 : H8) :
    loopO (fun s => ref03_press.b3 k kc (wl b 64) s.1 s.2) k (v8 s0, (0 : Int)) = some (v8 (rn kc (wl b 64) s0 64)) := by
  refine loop_g (n := 64) (fun i => (v8 (rn kc (wl b 64) s0 i), ((i : Nat) : Int))) _ (by simp only [rn_zero]; rfl) ?_ ?_ (by omega)
  · intro i hi
    have hlen := wl_len b 64
    have r : ∀ x (n : Nat), 1 ≤ n → n ≤ 31 → ref03_ror k x (UInt64.ofNat n) = some (rr x n) := fun x n h0 h1 => ror_eq k x n h0 h1
    have r6 : ∀ x, ref03_ror k x 6 = some (rr x 6) := fun x => r x 6 (by omega) (by omega)
    have r11 : ∀ x, ref03_ror k x 11 = some (rr x 11) := fun x => r x 11 (by omega) (by omega)
    have r25 : ∀ x, ref03_ror k x 25 = some (rr x 25) := fun x => r x 25 (by omega) (by omega)
    have r2 : ∀ x, ref03_ror k x 2 = some (rr x 2) := fun x => r x 2 (by omega) (by omega)
    have r13 : ∀ x, ref03_ror k x 13 = some (rr x 13) := fun x => r x 13 (by omega) (by omega)
    have r22 : ∀ x, ref03_ror k x 22 = some (rr x 22) := fun x => r x 22 (by omega) (by omega)
    have iv : ∀ j : Nat, (h : j < 8) → inV 8 (j : Int) = some ⟨j, h⟩ := fun j h => inV_ok (by omega) (by simpa using h)
    have i0 : inV 8 0 = some ⟨0, by decide⟩ := iv 0 (by decide)
    have i1 : inV 8 1 = some ⟨1, by decide⟩ := iv 1 (by decide)
    have i2 : inV 8 2 = some ⟨2, by decide⟩ := iv 2 (by decide)
    have i3 : inV 8 3 = some ⟨3, by decide⟩ := iv 3 (by decide)
    have i4 : inV 8 4 = some ⟨4, by decide⟩ := iv 4 (by decide)
    have i5 : inV 8 5 = some ⟨5, by decide⟩ := iv 5 (by decide)
    have i6 : inV 8 6 = some ⟨6, by decide⟩ := iv 6 (by decide)
    have i7 : inV 8 7 = some ⟨7, by decide⟩ := iv 7 (by decide)
    have hx : idxL kc (i : Int) = some (kc.getD i 0) := by rw [idxL_nat, getL (by omega)]
    have hi2 : inO (wl b 64) (i : Int) = some i := by rw [inO_ok (by omega) (by rw [hlen]; omega)]; rfl
    simp only [ref03_press.b3, lt1, dec_t (show (i : Int) < 64 by omega), if_true, i0, i1, i2, i3, i4, i5, i6, i7, r6, r11, r25, r2, r13, r22, hx, hi2, getL (show i < (wl b 64).length by omega), Option.bind_some, getV, w64_succ (show i < 9223372036854775807 by omega), rn_succ, rnd]
    rfl
  · simp only [ref03_press.b3, lt1, dec_f (show ¬ ((64 : Nat) : Int) < 64 by omega), Bool.false_eq_true, if_false]

theorem getB_app (b : List UInt8) (x : UInt8) : getB (b ++ [x]) = getB b * 256 + x.toNat := by simp [getB]
theorem foldB (b : List UInt8) : ∀ a : Nat, b.foldl (fun a x => a * 256 + x.toNat) a < (a + 1) * 256 ^ b.length := by
  induction b with
  | nil => intro a; simp
  | cons x b ih =>
    intro a
    have h1 := ih (a * 256 + x.toNat)
    have hx := x.toNat_lt
    have h2 : (a * 256 + x.toNat + 1) * 256 ^ b.length ≤ ((a + 1) * 256) * 256 ^ b.length := Nat.mul_le_mul_right _ (by omega)
    rw [List.foldl_cons, List.length_cons, Nat.pow_succ, Nat.mul_comm (256 ^ b.length) 256, ← Nat.mul_assoc]
    omega
theorem getB_lt (b : List UInt8) : getB b < 256 ^ b.length := by
  have := foldB b 0
  simpa [getB] using this
theorem getB_take (b : List UInt8) (i : Nat) (h : i < b.length) : getB (b.take (i + 1)) = getB (b.take i) * 256 + b[i].toNat := by rw [List.take_succ_eq_append_getElem h, getB_app]
theorem pow256_mono {m n : Nat} (h : m ≤ n) : 256 ^ m ≤ 256 ^ n := Nat.pow_le_pow_right (by decide) h
theorem getB_lt4 (b : List UInt8) (h : b.length ≤ 4) : getB b < 4294967296 := Nat.lt_of_lt_of_le (getB_lt b) (Nat.le_trans (pow256_mono h) (by decide))
theorem refGet4 (k : Nat) (hk : 9 ≤ k) (b : List UInt8) (hb : b.length ≤ 4) : ref01_Get k b = some (UInt64.ofNat (getB b)) := by
  have hl : loopO (fun x => ref01_Get.b1 k b x.1 x.2) k ((0 : UInt64), (0 : Int)) = some (UInt64.ofNat (getB b)) := by
    refine loop_g (n := b.length) (fun i => (UInt64.ofNat (getB (b.take i)), ((i : Nat) : Int))) _ (by simp [getB]) ?_ ?_ (by omega)
    · intro i hi
      have g1 := getB_lt4 (b.take i) (by simp; omega)
      have g2 := getB_lt4 (b.take (i + 1)) (by simp; omega)
      have e2 : (UInt64.ofNat (getB (b.take i)) * 256 + (UN.to b[i] : UInt64)) = UInt64.ofNat (getB (b.take (i + 1))) := by
        apply UInt64.toNat_inj.1
        have hx := b[i].toNat_lt
        have e3 : (UN.to b[i] : UInt64).toNat = b[i].toNat := UInt64.toNat_ofNat_of_lt' (Nat.lt_of_lt_of_le hx (by decide))
        rw [UInt64.toNat_add, UInt64.toNat_mul, e3, UInt64.toNat_ofNat_of_lt' (by show _ < 2 ^ 64; omega), UInt64.toNat_ofNat_of_lt' (by show _ < 2 ^ 64; omega)]
        rw [getB_take b i hi] at g2 ⊢
        show (getB (b.take i) * 256 % 18446744073709551616 + b[i].toNat) % 18446744073709551616 = _
        omega
      simp only [ref01_Get.b1, lt1, dec_t (show (i : Int) < (b.length : Int) by omega), if_true, idxL_lt hi, Option.bind_some, e2, w64_succ (show i < 9223372036854775807 by omega)]
    · simp only [ref01_Get.b1, lt1, dec_f (show ¬ (b.length : Int) < (b.length : Int) by omega), Bool.false_eq_true, if_false, List.take_length]
  simp only [ref01_Get, hl, Option.bind_some]
theorem sub4 (a : List UInt8) (ha : a.length = 64) (i : Nat) (hi : i < 16) : subL a ((4 * i : Nat) : Int) ((4 * i + 4 : Nat) : Int) = some ((a.drop (4 * i)).take 4) := by
  rw [subL_ok (by omega) (by omega) (by omega)]
  congr 2
  omega
theorem e4 (i : Nat) (hi : i < 16) : w64 (4 * (i : Int)) = ((4 * i : Nat) : Int) ∧ w64 (((4 * i : Nat) : Int) + 4) = ((4 * i + 4 : Nat) : Int) := by
  rw [w64_id (by omega) (by omega), w64_id (by omega) (by omega)]
  omega
theorem to32 (m : Nat) (h : m < 4294967296) : (UN.to (UInt64.ofNat m) : UInt32) = UInt32.ofNat m := by
  show UInt32.ofNat (UInt64.ofNat m).toNat = _
  rw [UInt64.toNat_ofNat_of_lt' (by show _ < 2 ^ 64; omega)]
theorem refW1 (k : Nat) (hk : 200 ≤ k) (a : List UInt8) (ha : a.length = 64) : loopO (fun s => ref03_press.b1 k a s.1 s.2) k (([] : List UInt32), (0 : Int)) = some (wl a 16) := by
  refine loop_g (n := 16) (fun i => (wl a i, ((i : Nat) : Int))) _ (by simp only [wl_zero]; rfl) ?_ ?_ (by omega)
  · intro i hi
    have hlen := wl_len a i
    have hs := wl_succ a i
    rw [if_pos hi] at hs
    have hl4 : ((a.drop (4 * i)).take 4).length ≤ 4 := by simp; omega
    have hap : apL 4 (wl a i) [UInt32.ofNat (getB ((a.drop (4 * i)).take 4))] = some (wl a (i + 1)) := by
      rw [apL_ok (by rw [hlen]; show (i + 1) * 4 ≤ _; omega), hs]; rfl
    simp only [ref03_press.b1, lt1, dec_t (show (i : Int) < 16 by omega), if_true, (e4 i hi).1, (e4 i hi).2, sub4 a ha i hi, refGet4 k (by omega) _ hl4, to32 _ (getB_lt4 _ hl4), hap, Option.bind_some, w64_succ (show i < 9223372036854775807 by omega)]
  · simp only [ref03_press.b1, lt1, dec_f (show ¬ ((16 : Nat) : Int) < 16 by omega), Bool.false_eq_true, if_false]
theorem svec_zero (a : List UInt8) : svec a 0 = Vector.replicate 64 0 := Vector.ext fun j hj => by rw [svec_get, wl_zero]; simp
theorem shaW1 (k : Nat) (hk : 200 ≤ k) (a : List UInt8) (ha : a.length = 64) : loopO (fun s => sha_state_press.b1 k a s.1 s.2) k (Vector.replicate 64 (0 : UInt32), (0 : Int)) = some (svec a 16) := by
  refine loop_g (n := 16) (fun i => (svec a i, ((i : Nat) : Int))) _ (by simp only [svec_zero]; rfl) ?_ ?_ (by omega)
  · intro i hi
    have hs := wl_succ a i
    rw [if_pos hi] at hs
    have hin : loopO (fun s => sha_state_press.b2 k ((a.drop (4 * i)).take 4) (i : Int) s.1 s.2) k (svec a i, (0 : Int)) = some (svec a (i + 1)) := by
      have hl4 : ((a.drop (4 * i)).take 4).length = 4 := by simp; omega
      have iv : inV 64 (i : Int) = some ⟨i, by omega⟩ := inV_ok (by omega) (by simp; omega)
      refine loop_g (n := 4) (fun j => (putV (svec a i) ⟨i, by omega⟩ (UInt32.ofNat (getB (((a.drop (4 * i)).take 4).take j))), ((j : Nat) : Int))) _ ?_ ?_ ?_ (by omega)
      · have h0 : putV (svec a i) ⟨i, by omega⟩ (UInt32.ofNat (getB (((a.drop (4 * i)).take 4).take 0))) = svec a i := by
          refine Vector.ext fun j hj => ?_
          simp only [putV, Vector.getElem_set]
          split
          · rename_i h
            subst h
            rw [svec_get, List.getD_eq_getElem?_getD, List.getElem?_eq_none (by rw [wl_len]; omega)]
            rfl
          · rfl
        simp only [h0]
        rfl
      · intro j hj
        have hjl : j < ((a.drop (4 * i)).take 4).length := by omega
        have g1 := getB_lt4 (((a.drop (4 * i)).take 4).take j) (by simp; omega)
        have g2 := getB_lt4 (((a.drop (4 * i)).take 4).take (j + 1)) (by simp; omega)
        have e5 : (UN.shl (UInt32.ofNat (getB (((a.drop (4 * i)).take 4).take j))) (UN.toN (8 : UInt64)) ||| (UN.to ((a.drop (4 * i)).take 4)[j] : UInt32)) = UInt32.ofNat (getB (((a.drop (4 * i)).take 4).take (j + 1))) := by
          apply UInt32.toNat_inj.1
          have hx := ((a.drop (4 * i)).take 4)[j].toNat_lt
          rw [getB_take _ j hjl] at g2 ⊢
          have e3 : (UN.to ((a.drop (4 * i)).take 4)[j] : UInt32).toNat = ((a.drop (4 * i)).take 4)[j].toNat := UInt32.toNat_ofNat_of_lt' (Nat.lt_of_lt_of_le hx (by decide))
          have e6 : (UN.shl (UInt32.ofNat (getB (((a.drop (4 * i)).take 4).take j))) (UN.toN (8 : UInt64))).toNat = getB (((a.drop (4 * i)).take 4).take j) * 256 := by
            show (UInt32.ofNat ((UInt32.ofNat (getB (((a.drop (4 * i)).take 4).take j))).toNat * 2 ^ (min ((8 : UInt64).toNat) 32))).toNat = _
            have e7 : 2 ^ (min ((8 : UInt64).toNat) 32) = 256 := rfl
            have e8 : (UInt32.ofNat (getB (((a.drop (4 * i)).take 4).take j))).toNat = getB (((a.drop (4 * i)).take 4).take j) := UInt32.toNat_ofNat_of_lt' g1
            have e9 : (UInt32.ofNat (getB (((a.drop (4 * i)).take 4).take j) * 256)).toNat = getB (((a.drop (4 * i)).take 4).take j) * 256 := UInt32.toNat_ofNat_of_lt' (Nat.lt_of_le_of_lt (Nat.le_add_right _ _) g2)
            rw [e7, e8, e9]
          rw [UInt32.toNat_or, e3, e6, UInt32.toNat_ofNat_of_lt' (by show _ < 2 ^ 32; omega)]
          have := Nat.shiftLeft_add_eq_or_of_lt (i := 8) (b := ((a.drop (4 * i)).take 4)[j].toNat) hx (getB (((a.drop (4 * i)).take 4).take j))
          rw [Nat.shiftLeft_eq, show (2 : Nat) ^ 8 = 256 from by decide] at this
          exact this.symm
        have hg : getV (putV (svec a i) ⟨i, by omega⟩ (UInt32.ofNat (getB (((a.drop (4 * i)).take 4).take j)))) ⟨i, by omega⟩ = UInt32.ofNat (getB (((a.drop (4 * i)).take 4).take j)) := by simp [getV, putV]
        have hp : ∀ y, putV (putV (svec a i) ⟨i, by omega⟩ (UInt32.ofNat (getB (((a.drop (4 * i)).take 4).take j)))) ⟨i, by omega⟩ y = putV (svec a i) ⟨i, by omega⟩ y := fun y => Vector.ext fun z hz => by simp [putV, Vector.getElem_set]
        simp only [sha_state_press.b2, lt1, hl4, dec_t (show (j : Int) < ((4 : Nat) : Int) by omega), if_true, idxL_lt hjl, iv, Option.bind_some, hg, e5, hp, w64_succ (show j < 9223372036854775807 by omega)]
      · simp only [sha_state_press.b2, lt1, hl4, dec_f (show ¬ ((4 : Nat) : Int) < ((4 : Nat) : Int) by omega), Bool.false_eq_true, if_false]
        rw [List.take_of_length_le (by omega)]
        rw [← svec_put a i (by omega) _ hs]
        rfl
    simp only [sha_state_press.b1, lt1, dec_t (show (i : Int) < 16 by omega), if_true, (e4 i hi).1, (e4 i hi).2, sub4 a ha i hi, hin, Option.bind_some, w64_succ (show i < 9223372036854775807 by omega)]
  · simp only [sha_state_press.b1, lt1, dec_f (show ¬ ((16 : Nat) : Int) < 16 by omega), Bool.false_eq_true, if_false]

/-- The sum of a state and what came out of the rounds. -/
def addV (h v : Vector UInt32 8) : Vector UInt32 8 := Vector.ofFn fun i => h[i.1] + v[i.1]
def h8 (h : Vector UInt32 8) : H8 := (h[0], h[1], h[2], h[3], h[4], h[5], h[6], h[7])
theorem v8_h8 (h : Vector UInt32 8) : v8 (h8 h) = h := by
  refine Vector.ext fun i hi => ?_
  match i, hi with
  | 0, _ => rfl
  | 1, _ => rfl
  | 2, _ => rfl
  | 3, _ => rfl
  | 4, _ => rfl
  | 5, _ => rfl
  | 6, _ => rfl
  | 7, _ => rfl
theorem shaEnd (k : Nat) (hk : 200 ≤ k) (t : sha_state) (r : H8) : loopO (fun s => sha_state_press.b5 k r.1 r.2.1 r.2.2.1 r.2.2.2.1 r.2.2.2.2.1 r.2.2.2.2.2.1 r.2.2.2.2.2.2.1 r.2.2.2.2.2.2.2 s.1 s.2) k (t, (0 : Int)) = some { t with h := addV t.h (v8 r) } := by
  refine loop_g (n := 8) (fun i => ({ t with h := Vector.ofFn fun j : Fin 8 => if j.1 < i then t.h[j.1] + (v8 r)[j.1] else t.h[j.1] }, ((i : Nat) : Int))) _ ?_ ?_ ?_ (by omega)
  · have : (Vector.ofFn fun j : Fin 8 => if j.1 < 0 then t.h[j.1] + (v8 r)[j.1] else t.h[j.1]) = t.h := Vector.ext fun j hj => by simp
    simp only [this]
    rfl
  · intro i hi
    have iv : inV 8 (i : Int) = some ⟨i, hi⟩ := inV_ok (by omega) (by simpa using hi)
    have ix : idxV (#v[r.1, r.2.1, r.2.2.1, r.2.2.2.1, r.2.2.2.2.1, r.2.2.2.2.2.1, r.2.2.2.2.2.2.1, r.2.2.2.2.2.2.2] : Vector UInt32 8) (i : Int) = some (v8 r)[i] := by
      show idxV (v8 r) (i : Int) = _
      simp [idxV, hi]
    have hp : putV (Vector.ofFn fun j : Fin 8 => if j.1 < i then t.h[j.1] + (v8 r)[j.1] else t.h[j.1]) ⟨i, hi⟩ (t.h[i] + (v8 r)[i]) = Vector.ofFn fun j : Fin 8 => if j.1 < i + 1 then t.h[j.1] + (v8 r)[j.1] else t.h[j.1] := by
      refine Vector.ext fun j hj => ?_
      simp only [putV, Vector.getElem_set, Vector.getElem_ofFn]
      by_cases hij : i = j
      · subst hij; simp
      · rw [if_neg hij]
        have : (j < i) ↔ (j < i + 1) := by omega
        simp only [this]
    have hg : getV (Vector.ofFn fun j : Fin 8 => if j.1 < i then t.h[j.1] + (v8 r)[j.1] else t.h[j.1]) ⟨i, hi⟩ = t.h[i] := by simp [getV]
    simp only [sha_state_press.b5, lt1, dec_t (show (i : Int) < 8 by omega), if_true, ix, iv, Option.bind_some, hg, hp, w64_succ (show i < 9223372036854775807 by omega)]
  · simp only [sha_state_press.b5, lt1, dec_f (show ¬ ((8 : Nat) : Int) < 8 by omega), Bool.false_eq_true, if_false]
    have : (Vector.ofFn fun j : Fin 8 => if j.1 < 8 then t.h[j.1] + (v8 r)[j.1] else t.h[j.1]) = addV t.h (v8 r) := Vector.ext fun j hj => by simp [addV, hj]
    rw [this]
theorem refEnd (k : Nat) (hk : 200 ≤ k) (h v : Vector UInt32 8) : loopO (fun s => ref03_press.b4 k h s.1 s.2) k (v, (0 : Int)) = some (addV h v) := by
  refine loop_g (n := 8) (fun i => (Vector.ofFn fun j : Fin 8 => if j.1 < i then h[j.1] + v[j.1] else v[j.1], ((i : Nat) : Int))) _ ?_ ?_ ?_ (by omega)
  · have : (Vector.ofFn fun j : Fin 8 => if j.1 < 0 then h[j.1] + v[j.1] else v[j.1]) = v := Vector.ext fun j hj => by simp
    simp only [this]
    rfl
  · intro i hi
    have iv : inV 8 (i : Int) = some ⟨i, hi⟩ := inV_ok (by omega) (by simpa using hi)
    have hp : putV (Vector.ofFn fun j : Fin 8 => if j.1 < i then h[j.1] + v[j.1] else v[j.1]) ⟨i, hi⟩ (v[i] + h[i]) = Vector.ofFn fun j : Fin 8 => if j.1 < i + 1 then h[j.1] + v[j.1] else v[j.1] := by
      refine Vector.ext fun j hj => ?_
      simp only [putV, Vector.getElem_set, Vector.getElem_ofFn]
      by_cases hij : i = j
      · subst hij; simp [UInt32.add_comm]
      · rw [if_neg hij]
        have : (j < i) ↔ (j < i + 1) := by omega
        simp only [this]
    have hg : getV (Vector.ofFn fun j : Fin 8 => if j.1 < i then h[j.1] + v[j.1] else v[j.1]) ⟨i, hi⟩ = v[i] := by simp [getV]
    have hg2 : getV h ⟨i, hi⟩ = h[i] := rfl
    simp only [ref03_press.b4, lt1, dec_t (show (i : Int) < 8 by omega), if_true, iv, Option.bind_some, hg, hg2, hp, w64_succ (show i < 9223372036854775807 by omega)]
  · simp only [ref03_press.b4, lt1, dec_f (show ¬ ((8 : Nat) : Int) < 8 by omega), Bool.false_eq_true, if_false]
    have : (Vector.ofFn fun j : Fin 8 => if j.1 < 8 then h[j.1] + v[j.1] else v[j.1]) = addV h v := Vector.ext fun j hj => by simp [addV, hj]
    rw [this]
/-- What a block makes of a state. -/
noncomputable def prs (kc : List UInt32) (h : Vector UInt32 8) (a : List UInt8) : Vector UInt32 8 := addV h (v8 (rn kc (wl a 64) (h8 h) 64))
theorem refPress (k : Nat) (hk : 200 ≤ k) (h : Vector UInt32 8) (a : List UInt8) (ha : a.length = 64) (kc : List UInt32) (hkc : kc.length = 64) : ref03_press k h a kc = some (prs kc h a) := by
  have h1 := refR k hk kc hkc a (h8 h)
  rw [v8_h8] at h1
  simp only [ref03_press, refW1 k hk a ha, refW2 k hk a, h1, refEnd k hk, Option.bind_some, prs]
theorem shaPress (k : Nat) (hk : 200 ≤ k) (t : sha_state) (a : List UInt8) (ha : a.length = 64) : sha_state_press k a t = some { t with h := prs t.k.toList t.h a } := by
  have iv : ∀ j : Nat, (h : j < 8) → inV 8 (j : Int) = some ⟨j, h⟩ := fun j h => inV_ok (by omega) (by simpa using h)
  have i0 : inV 8 0 = some ⟨0, by decide⟩ := iv 0 (by decide)
  have i1 : inV 8 1 = some ⟨1, by decide⟩ := iv 1 (by decide)
  have i2 : inV 8 2 = some ⟨2, by decide⟩ := iv 2 (by decide)
  have i3 : inV 8 3 = some ⟨3, by decide⟩ := iv 3 (by decide)
  have i4 : inV 8 4 = some ⟨4, by decide⟩ := iv 4 (by decide)
  have i5 : inV 8 5 = some ⟨5, by decide⟩ := iv 5 (by decide)
  have i6 : inV 8 6 = some ⟨6, by decide⟩ := iv 6 (by decide)
  have i7 : inV 8 7 = some ⟨7, by decide⟩ := iv 7 (by decide)
  have h1 := shaR k hk t a (h8 t.h)
  have h2 := shaEnd k hk t (rn t.k.toList (wl a 64) (h8 t.h) 64)
  simp only [sha_state_press, shaW1 k hk a ha, shaW2 k hk a, i0, i1, i2, i3, i4, i5, i6, i7, Option.bind_some, lt1, getV]
  simp only [h8] at h1 h2 ⊢
  rw [h1]
  exact h2

def outB (h : Vector UInt32 8) (i : Nat) (hi : i < 32) : UInt8 := UN.to (UN.shr (h[i / 4]'(by omega)) (24 - 8 * (i % 4)))
def outV (h : Vector UInt32 8) : Vector UInt8 32 := Vector.ofFn fun i => outB h i.1 i.2
def outN (h : Vector UInt32 8) (n : Nat) : Vector UInt8 32 := Vector.ofFn fun i => if i.1 < n then outB h i.1 i.2 else 0
theorem outN_zero (h : Vector UInt32 8) : outN h 0 = Vector.replicate 32 0 := Vector.ext fun j hj => by simp [outN]
theorem outN_all (h : Vector UInt32 8) : outN h 32 = outV h := Vector.ext fun j hj => by simp [outN, outV, hj]
theorem outN_put (h : Vector UInt32 8) (i : Nat) (hi : i < 32) : putV (outN h i) ⟨i, hi⟩ (outB h i hi) = outN h (i + 1) := by
  refine Vector.ext fun j hj => ?_
  simp only [putV, outN, Vector.getElem_set, Vector.getElem_ofFn]
  by_cases hij : i = j
  · subst hij; simp
  · rw [if_neg hij]
    have : (j < i) ↔ (j < i + 1) := by omega
    simp only [this]
theorem dm (i : Nat) (hi : i < 32) : divI (i : Int) 4 = some ((i / 4 : Nat) : Int) ∧ modI (i : Int) 4 = some ((i % 4 : Nat) : Int) ∧ w64 (8 * ((i % 4 : Nat) : Int)) = ((8 * (i % 4) : Nat) : Int) ∧ w64 (24 - ((8 * (i % 4) : Nat) : Int)) = ((24 - 8 * (i % 4) : Nat) : Int) := by
  refine ⟨?_, ?_, ?_, ?_⟩
  · have : (i : Int).tdiv 4 = ((i / 4 : Nat) : Int) := by rw [show (4 : Int) = ((4 : Nat) : Int) from rfl, Int.ofNat_tdiv]
    simp only [divI, this]
    rw [if_neg (by decide), w64_id (by omega) (by omega)]
  · have : (i : Int).tmod 4 = ((i % 4 : Nat) : Int) := by rw [show (4 : Int) = ((4 : Nat) : Int) from rfl, Int.ofNat_tmod]
    simp only [modI, this]
    rw [if_neg (by decide)]
  · rw [w64_id (by omega) (by omega)]; omega
  · rw [w64_id (by omega) (by omega)]; omega
theorem shaOut (k : Nat) (hk : 200 ≤ k) (s : sha_state) : loopO (fun x => sha_state_hash.b3 k s x.1 x.2) k (Vector.replicate 32 (0 : UInt8), (0 : Int)) = some (outV s.h) := by
  refine loop_g (n := 32) (fun i => (outN s.h i, ((i : Nat) : Int))) _ (by simp only [outN_zero]; rfl) ?_ ?_ (by omega)
  · intro i hi
    obtain ⟨d1, d2, d3, d4⟩ := dm i hi
    have iv : inV 8 ((i / 4 : Nat) : Int) = some ⟨i / 4, by omega⟩ := inV_ok (by omega) (by simp; omega)
    have iv2 : inV 32 (i : Int) = some ⟨i, hi⟩ := inV_ok (by omega) (by simpa using hi)
    have hs : shrU (getV s.h ⟨i / 4, by omega⟩) ((24 - 8 * (i % 4) : Nat) : Int) = some (UN.shr (s.h[i / 4]'(by omega)) (24 - 8 * (i % 4))) := by
      unfold shrU
      rw [if_neg (by omega)]
      rfl
    simp only [sha_state_hash.b3, lt1, dec_t (show (i : Int) < 32 by omega), if_true, d1, d2, d3, d4, iv, iv2, hs, Option.bind_some, w64_succ (show i < 9223372036854775807 by omega)]
    rw [← outN_put s.h i hi]
    rfl
  · simp only [sha_state_hash.b3, lt1, dec_f (show ¬ ((32 : Nat) : Int) < 32 by omega), Bool.false_eq_true, if_false, outN_all]
theorem refOut (k : Nat) (hk : 200 ≤ k) (h : Vector UInt32 8) : loopO (fun x => ref03_Sum.b2 k h x.1 x.2) k (Vector.replicate 32 (0 : UInt8), (0 : Int)) = some (outV h) := by
  refine loop_g (n := 32) (fun i => (outN h i, ((i : Nat) : Int))) _ (by simp only [outN_zero]; rfl) ?_ ?_ (by omega)
  · intro i hi
    obtain ⟨d1, d2, d3, d4⟩ := dm i hi
    have iv : inV 8 ((i / 4 : Nat) : Int) = some ⟨i / 4, by omega⟩ := inV_ok (by omega) (by simp; omega)
    have iv2 : inV 32 (i : Int) = some ⟨i, hi⟩ := inV_ok (by omega) (by simpa using hi)
    have hs : (UN.toN (UN.ofI ((24 - 8 * (i % 4) : Nat) : Int) : UInt64) : Nat) = 24 - 8 * (i % 4) := by
      show (UInt64.ofNat (((24 - 8 * (i % 4) : Nat) : Int) % ((2 ^ 64 : Nat) : Int)).toNat).toNat = _
      have : (((24 - 8 * (i % 4) : Nat) : Int) % ((2 ^ 64 : Nat) : Int)).toNat = 24 - 8 * (i % 4) := by omega
      rw [this]
      exact UInt64.toNat_ofNat_of_lt' (by show _ < 2 ^ 64; omega)
    simp only [ref03_Sum.b2, lt1, dec_t (show (i : Int) < 32 by omega), if_true, d1, d2, d3, d4, iv, iv2, hs, Option.bind_some, w64_succ (show i < 9223372036854775807 by omega)]
    rw [← outN_put h i hi]
    rfl
  · simp only [ref03_Sum.b2, lt1, dec_f (show ¬ ((32 : Nat) : Int) < 32 by omega), Bool.false_eq_true, if_false, outN_all]
end Go.Proofs.Ytbflmobpbjnekaa
