/- What a reader reads of bytes that are cut. -/
import Derived.Test.YtkbkdfcakpbojaaC
namespace Go.Proofs.Ytkbkdfcakpbojaa
open Go Fw
set_option linter.unusedVariables false
set_option linter.unusedSimpArgs false

theorem put_succ (n s : Nat) : put n (s + 1) = put (n / 256) s ++ [UInt8.ofNat n] := by
  unfold put
  rw [List.range_succ, List.map_append]
  congr 1
  · apply List.map_congr_left
    intro i hi
    have hi : i < s := by simpa using hi
    rw [show s + 1 - 1 - i = (s - 1 - i) + 1 by omega, Nat.pow_succ, Nat.mul_comm, Nat.div_div_eq_div_mul]
  · simp
theorem getB_put (s : Nat) : ∀ n, getB (put n s) = n % 256 ^ s := by
  induction s with
  | zero => intro n; simp [put, getB, Nat.mod_one]
  | succ s ih =>
    intro n
    rw [put_succ, getB_app, ih]
    have h1 : (UInt8.ofNat n).toNat = n % 256 := by simp
    rw [h1, Nat.pow_succ, Nat.mul_comm (256 ^ s) 256, Nat.mod_mul]
    omega
/-- A reader that has failed. -/
def fR : wire_Reader := ⟨[], false, true⟩
def okR (l : List UInt8) : wire_Reader := ⟨l, true, true⟩
theorem takeR_f (n : Int) : takeR fR n = ([], false, fR) := rfl
theorem seg (p q : List UInt8) (m : Nat) : takeR (okR ((p ++ q).take m)) (p.length : Int) = if p.length ≤ m then (p, true, okR (q.take (m - p.length))) else ([], false, fR) := by
  unfold takeR okR
  rw [if_neg (by simp)]
  by_cases h : p.length ≤ m
  · rw [if_neg (by simp; omega), if_pos h]
    simp only [Int.toNat_natCast]
    rw [List.take_take, Nat.min_eq_left h, List.take_left', List.drop_take, List.drop_left']
    · rfl
    · rfl
  · rw [if_pos (by simp; omega), if_neg h]
    rfl
theorem getU_put8 (n : UInt64) : getU (put n.toNat 8) = n := by
  apply UInt64.toNat_inj.1
  rw [getU_toNat _ (by rw [put_length]; exact Nat.le_refl _), getB_put]
  exact Nat.mod_eq_of_lt n.toNat_lt
theorem numR_seg (p q : List UInt8) (m : Nat) (size : Int) (h0 : 1 ≤ size) (h8 : size ≤ 8) (hp : (p.length : Int) = size) : numR (okR ((p ++ q).take m)) size = if p.length ≤ m then (getU p, okR (q.take (m - p.length))) else (0, fR) := by
  have hs : szR size = p.length := by unfold szR; rw [if_neg (by omega)]; omega
  unfold numR
  rw [hs, seg]
  split <;> rfl
theorem numR_f (size : Int) : numR fR size = (0, fR) := rfl
theorem blobR_cut (t q : List UInt8) (m : Nat) (ht : t.length ≤ 65535) : blobR (okR ((put t.length 2 ++ (t ++ q)).take m)) = if 2 + t.length ≤ m then (t, okR (q.take (m - 2 - t.length))) else ([], fR) := by
  unfold blobR
  rw [numR_seg (put t.length 2) (t ++ q) m 2 (by omega) (by omega) (by rw [put_length]; rfl), put_length]
  by_cases h : 2 ≤ m
  · have h1 : (getU (put t.length 2)).toNat = t.length := by
      rw [getU_toNat _ (by rw [put_length]; omega), getB_put]
      exact Nat.mod_eq_of_lt (by show t.length < 65536; omega)
    rw [if_pos h]
    simp only [h1, bytesR, seg]
    by_cases h2 : t.length ≤ m - 2
    · rw [if_pos h2, if_pos (by omega)]
    · rw [if_neg h2, if_neg (by omega)]
  · rw [if_neg h, if_neg (by omega)]
    rfl
def dotB (d : api_Dot) : List UInt8 := UInt8.ofNat d.Region.toNat :: put d.Count.toNat 8
theorem dotB_len (d : api_Dot) : (dotB d).length = 9 := by simp [dotB, put_length]
theorem dot_cut (k : Nat) (hk : 17 ≤ k) (d : api_Dot) (h : 0 ≤ d.Region ∧ d.Region ≤ 255) (q : List UInt8) (m : Nat) : wire_Reader_Dot'2 k (okR ((dotB d ++ q).take m)) = some (if 9 ≤ m then (d, okR (q.take (m - 9))) else (⟨0, 0⟩, fR)) := by
  have hs := seg (dotB d) q m
  rw [dotB_len] at hs
  have hs : takeR (okR ((dotB d ++ q).take m)) 9 = if 9 ≤ m then (dotB d, true, okR (q.take (m - 9))) else ([], false, fR) := hs
  simp only [wire_Reader_Dot'2, take2_eq, hs, Option.bind_some]
  have w0 : w64 ((UN.toN (0 : UInt64) : Nat) : Int) = 0 := w64_id (by decide) (by decide)
  by_cases h9 : 9 ≤ m
  · rw [if_pos h9, if_pos h9]
    have h1 : numR ⟨dotB d, true, true⟩ 1 = (getU [UInt8.ofNat d.Region.toNat], okR (put d.Count.toNat 8)) := by
      have := numR_seg [UInt8.ofNat d.Region.toNat] (put d.Count.toNat 8) 100 1 (by omega) (by omega) rfl
      rw [List.take_of_length_le (by simp [put_length]), List.take_of_length_le (by simp [put_length]), if_pos (by simp)] at this
      exact this
    have h2 : numR (okR (put d.Count.toNat 8)) 8 = (d.Count, okR []) := by
      have := numR_seg (put d.Count.toNat 8) [] 100 8 (by omega) (by omega) (by rw [put_length]; rfl)
      rw [List.append_nil, List.take_of_length_le (by rw [put_length]; omega), if_pos (by rw [put_length]; omega), getU_put8] at this
      simpa using this
    have h3 : (getU [UInt8.ofNat d.Region.toNat]).toNat = d.Region.toNat := by
      rw [getU_toNat _ (by simp)]
      simp [getB]
      omega
    have h4 : w64 ((UN.toN (getU [UInt8.ofNat d.Region.toNat]) : Nat) : Int) = d.Region := by
      show w64 (((getU [UInt8.ofNat d.Region.toNat]).toNat : Nat) : Int) = _
      rw [h3, w64_id (by omega) (by omega)]
      omega
    simp only [clone_eq k (dotB d) (by rw [dotB_len]; omega), num1_eq k (by omega) 1 true true (dotB d) (by rw [dotB_len]; omega), h1, Option.bind_some, lt1, h4, num2_eq k (by omega) 8 (okR (put d.Count.toNat 8)) (by simp [okR, put_length]), h2]
  · rw [if_neg h9, if_neg h9]
    have h1 : numR ⟨[], true, true⟩ 1 = (0, fR) := by decide
    simp only [clone_eq k [] (by simp), num1_eq k (by omega) 1 true true [] (by simp), h1, Option.bind_some, lt1, w0, num2_eq k (by omega) 8 fR (by simp [fR]), numR_f]
theorem dot_f (k : Nat) (hk : 17 ≤ k) : wire_Reader_Dot'2 k fR = some (⟨0, 0⟩, fR) := by
  have w0 : w64 ((UN.toN (0 : UInt64) : Nat) : Int) = 0 := w64_id (by decide) (by decide)
  have h1 : numR ⟨[], true, true⟩ 1 = (0, fR) := by decide
  simp only [wire_Reader_Dot'2, take2_eq, takeR_f, Option.bind_some, clone_eq k [] (by simp), num1_eq k (by omega) 1 true true [] (by simp), h1, lt1, w0, num2_eq k (by omega) 8 fR (by simp [fR]), numR_f]
/-- The words of a vector, read one by one. -/
theorem vec_loop (k : Nat) (hk : 17 ≤ k) (v : Vector UInt64 16) : loopO (fun s => wire_Reader_Vector'2.b1 k s.1 s.2.1 s.2.2) k (Vector.replicate 16 0, okR (vecB v 16), (0 : Int)) = some v := by
  refine loop_g (n := 16) (fun i => ((Vector.ofFn fun j : Fin 16 => if j.1 < i then v[j] else 0), okR ((vecB v 16).drop (8 * i)), ((i : Nat) : Int))) _ ?_ ?_ ?_ (by omega)
  · refine Prod.ext (Vector.ext fun j hj => by simp) (Prod.ext (by simp) rfl)
  · intro i hi
    have hsplit : (vecB v 16).drop (8 * i) = put v[i].toNat 8 ++ (vecB v 16).drop (8 * (i + 1)) := by
      have key : ∀ d, i + 1 + d ≤ 16 → (vecB v (i + 1 + d)).take (8 * (i + 1)) = vecB v (i + 1) := by
        intro d
        induction d with
        | zero => intro _; rw [List.take_of_length_le (by rw [vecB_len v _ (by omega)]; omega)]
        | succ d ih =>
          intro hd
          rw [← Nat.add_assoc, vecB_succ v (i + 1 + d) (by omega), List.take_append_of_le_length (by rw [vecB_len v _ (by omega)]; omega)]
          exact ih (by omega)
      have h1 := key (16 - (i + 1)) (by omega)
      rw [show i + 1 + (16 - (i + 1)) = 16 by omega, vecB_succ v i hi] at h1
      have h2 : vecB v 16 = (vecB v i ++ put v[i].toNat 8) ++ (vecB v 16).drop (8 * (i + 1)) := by
        conv => lhs; rw [← List.take_append_drop (8 * (i + 1)) (vecB v 16)]
        rw [h1]
      have h3 : (vecB v 16).drop (8 * i) = ((vecB v i ++ put v[i].toNat 8) ++ (vecB v 16).drop (8 * (i + 1))).drop (8 * i) := congrArg _ h2
      rw [h3, List.append_assoc, List.drop_left' (vecB_len v i (by omega))]
    have hn : numR (okR ((vecB v 16).drop (8 * i))) 8 = (v[i], okR ((vecB v 16).drop (8 * (i + 1)))) := by
      have := numR_seg (put v[i].toNat 8) ((vecB v 16).drop (8 * (i + 1))) 1000 8 (by omega) (by omega) (by rw [put_length]; rfl)
      have hvl := vecB_len v 16 (Nat.le_refl _)
      rw [List.take_of_length_le (by rw [List.length_append, put_length, List.length_drop, hvl]; omega), if_pos (by rw [put_length]; omega), List.take_of_length_le (by rw [put_length, List.length_drop, hvl]; omega), getU_put8] at this
      rw [hsplit]
      exact this
    have h2 : inV 16 (i : Int) = some ⟨i, hi⟩ := inV_ok (by omega) (by simpa using hi)
    simp only [wire_Reader_Vector'2.b1, lt1, dec_t (show (i : Int) < 16 by omega), if_true, wire_Reader_Vector_1'2, num2_eq k (by omega) 8 (okR ((vecB v 16).drop (8 * i))) (by show ((vecB v 16).drop (8 * i)).length ≤ _; rw [List.length_drop, vecB_len v 16 (Nat.le_refl _)]; omega), hn, Option.bind_some, h2, w64_succ (show i < 9223372036854775807 by omega), Option.some.injEq, Sum.inl.injEq, Prod.mk.injEq, and_true]
    refine Vector.ext fun j hj => ?_
    simp only [putV, Vector.getElem_set, Vector.getElem_ofFn]
    by_cases hij : i = j
    · subst hij; simp
    · rw [if_neg hij]
      have : (j < i) ↔ (j < i + 1) := by omega
      simp only [this]
  · simp only [wire_Reader_Vector'2.b1, lt1, dec_f (show ¬ ((16 : Nat) : Int) < 16 by omega), Bool.false_eq_true, if_false, Option.some.injEq, Sum.inr.injEq]
    refine Vector.ext fun j hj => ?_
    simp [hj]
theorem vec_loop0 (k : Nat) (hk : 17 ≤ k) : loopO (fun s => wire_Reader_Vector'2.b1 k s.1 s.2.1 s.2.2) k (Vector.replicate 16 0, okR [], (0 : Int)) = some (Vector.replicate 16 0) := by
  refine loop_g (n := 16) (fun i => (Vector.replicate 16 0, if i = 0 then okR [] else fR, ((i : Nat) : Int))) _ (by simp) ?_ ?_ (by omega)
  · intro i hi
    have hn : numR (if i = 0 then okR [] else fR) 8 = (0, fR) := by
      by_cases h : i = 0
      · rw [if_pos h]; decide
      · rw [if_neg h]; rfl
    have h2 : inV 16 (i : Int) = some ⟨i, hi⟩ := inV_ok (by omega) (by simpa using hi)
    have hl : (if i = 0 then okR [] else fR).rest.length ≤ 1000000 := by split <;> simp [okR, fR]
    simp only [wire_Reader_Vector'2.b1, lt1, dec_t (show (i : Int) < 16 by omega), if_true, wire_Reader_Vector_1'2, num2_eq k (by omega) 8 _ hl, hn, Option.bind_some, h2, w64_succ (show i < 9223372036854775807 by omega), Option.some.injEq, Sum.inl.injEq, Prod.mk.injEq, and_true, Nat.add_eq_zero_iff, Nat.one_ne_zero, and_false, if_false]
    refine Vector.ext fun j hj => ?_
    simp [putV, Vector.getElem_set]
  · simp only [wire_Reader_Vector'2.b1, lt1, dec_f (show ¬ ((16 : Nat) : Int) < 16 by omega), Bool.false_eq_true, if_false]
theorem vec_cut (k : Nat) (hk : 17 ≤ k) (v : Vector UInt64 16) (m : Nat) : wire_Reader_Vector'2 k (okR ((vecB v 16).take m)) = some (if 128 ≤ m then (v, okR []) else (Vector.replicate 16 0, fR)) := by
  have hs := seg (vecB v 16) [] m
  rw [List.append_nil, vecB_len v 16 (Nat.le_refl _)] at hs
  have hs : takeR (okR ((vecB v 16).take m)) 128 = if 128 ≤ m then (vecB v 16, true, okR []) else ([], false, fR) := by
    rw [show (128 : Int) = ((8 * 16 : Nat) : Int) from rfl, hs]
    simp
  simp only [wire_Reader_Vector'2, take2_eq, hs, Option.bind_some]
  by_cases h : 128 ≤ m
  · rw [if_pos h, if_pos h]
    have := vec_loop k hk v
    simp only [clone_eq k (vecB v 16) (by rw [vecB_len v 16 (Nat.le_refl _)]; omega), Option.bind_some]
    rw [show (⟨vecB v 16, true, true⟩ : wire_Reader) = okR (vecB v 16) from rfl, this]
    rfl
  · rw [if_neg h, if_neg h]
    have := vec_loop0 k hk
    simp only [clone_eq k [] (by simp), Option.bind_some]
    rw [show (⟨[], true, true⟩ : wire_Reader) = okR [] from rfl, this]
    rfl
theorem vec_f (k : Nat) (hk : 17 ≤ k) : wire_Reader_Vector'2 k fR = some (Vector.replicate 16 0, fR) := by
  have := vec_loop0 k hk
  simp only [wire_Reader_Vector'2, take2_eq, takeR_f, Option.bind_some, clone_eq k [] (by simp)]
  rw [show (⟨[], true, true⟩ : wire_Reader) = okR [] from rfl, this]
  rfl
end Go.Proofs.Ytkbkdfcakpbojaa
