/- The rows that are known. -/
import Derived.Test.YtdncoiehmkcajaaU
namespace Go.Proofs.Ytdncoiehmkcajaa
open Go Fw
set_option linter.unusedVariables false
set_option linter.unusedSimpArgs false

theorem much_eq (k : Nat) (most : Nat) (hm0 : most ≤ 1000000) (l : List (List UInt8)) (hk : most < k) (hl : l.length ≤ 140737488351232) : ∃ b, ref01_Much k l (most : Int) = some b ∧ (b = false → l.length + sumL l l.length ≤ most) := by
  have hlp : ∃ t, loopO (fun s => ref01_Much.b1 k l (most : Int) s.1 s.2) k ((l.length : Int), (0 : Int)) = some t ∧ (t ≤ (most : Int) → t = ((l.length + sumL l l.length : Nat) : Int)) := by
    refine loop_inv (I := fun s : Int × Int => 0 ≤ s.2 ∧ s.2 ≤ (l.length : Int) ∧ (l.length : Int) ≤ s.1 ∧ s.1 ≤ 140737488451232 + 2000000 ∧ (s.1 ≤ (most : Int) → s.1 = ((l.length + sumL l s.2.toNat : Nat) : Int))) (m := fun s => min most ((l.length : Int) - s.2).toNat - (if s.1 ≤ (most : Int) then 0 else most)) _ ?_ k _ ⟨by show (0 : Int) ≤ 0; omega, by show (0 : Int) ≤ _; omega, by show (l.length : Int) ≤ (l.length : Int); omega, by show (l.length : Int) ≤ _; omega, fun _ => by simp [sumL]⟩ (Nat.lt_of_le_of_lt (Nat.le_trans (Nat.sub_le _ _) (Nat.min_le_left _ _)) hk)
    rintro ⟨n, s⟩ ⟨h0, h1, h2, h3, h4⟩
    simp only at h0 h1 h2 h3 h4
    have hw : w64 ((most : Int) + 1) = (most : Int) + 1 := w64_id (by omega) (by omega)
    by_cases hc : s < (l.length : Int) ∧ n ≤ (most : Int)
    · obtain ⟨i, rfl⟩ : ∃ i : Nat, s = i := ⟨s.toNat, by omega⟩
      have hi : i < l.length := by omega
      have h5 := h4 hc.2
      simp only [Int.toNat_natCast] at h5
      have hm : 0 ≤ minI (l[i].length : Int) ((most : Int) + 1) ∧ minI (l[i].length : Int) ((most : Int) + 1) ≤ (most : Int) + 1 ∧ (minI (l[i].length : Int) ((most : Int) + 1) ≤ (most : Int) → minI (l[i].length : Int) ((most : Int) + 1) = l[i].length) := by
        unfold minI; split <;> omega
      left
      simp only [ref01_Much.b1, lt1, dec_t hc.1, dec_t hc.2, cond_true, Option.bind_some, if_true, idxL_lt hi, hw, w64_id (show -9223372036854775808 ≤ n + minI (l[i].length : Int) ((most : Int) + 1) by omega) (by omega), w64_succ (show i < 9223372036854775807 by omega)]
      refine ⟨_, rfl, ⟨by show (0 : Int) ≤ ((i + 1 : Nat) : Int); omega, by show ((i + 1 : Nat) : Int) ≤ _; omega, by show (l.length : Int) ≤ n + minI (l[i].length : Int) ((most : Int) + 1); omega, by show n + minI (l[i].length : Int) ((most : Int) + 1) ≤ _; omega, fun h => ?_⟩, ?_⟩
      · show n + minI (l[i].length : Int) ((most : Int) + 1) = _
        have h6 : n + minI (l[i].length : Int) ((most : Int) + 1) ≤ (most : Int) := h
        have h7 := hm.2.2 (by omega)
        rw [h7, h5]
        simp only [Int.toNat_natCast]
        rw [sumL_succ l i hi]
        omega
      · show min most ((l.length : Int) - ((i + 1 : Nat) : Int)).toNat - (if n + minI (l[i].length : Int) ((most : Int) + 1) ≤ (most : Int) then 0 else most) < min most ((l.length : Int) - (i : Int)).toNat - (if n ≤ (most : Int) then 0 else most)
        rw [if_pos hc.2]
        have h8 : min most ((l.length : Int) - ((i + 1 : Nat) : Int)).toNat < min most ((l.length : Int) - (i : Int)).toNat := by omega
        omega
    · right
      have hb : (bif decide (s < (l.length : Int)) then decide (n ≤ (most : Int)) else false) = false := by
        by_cases h5 : s < (l.length : Int)
        · have : ¬ n ≤ (most : Int) := fun h => hc ⟨h5, h⟩
          simp [h5, this]
        · simp [h5]
      simp only [ref01_Much.b1, lt1, hb, Option.bind_some, Bool.false_eq_true, if_false]
      refine ⟨_, rfl, fun h => ?_⟩
      have h5 : ¬ s < (l.length : Int) := fun h6 => hc ⟨h6, h⟩
      rw [h4 h, show s.toNat = l.length by omega]
  obtain ⟨t, h1, h2⟩ := hlp
  refine ⟨decide (t > (most : Int)), by simp only [ref01_Much, h1, lt1, Option.bind_some], fun h => ?_⟩
  have h3 : ¬ t > (most : Int) := of_decide_eq_false h
  have := h2 (by omega)
  omega
theorem refJoin_eq (k : Nat) (l : List (List UInt8)) (hk : l.length < k) (hs0 : l.flatten.length ≤ 1000000) (hl : l.length ≤ 1000000) : ref01_Join k l = some l.flatten := by
  have hs : sumL l l.length ≤ 1000000 := by rw [flat_all]; exact hs0
  have h3 : loopO (fun s => ref01_Join.b1 k l s.1 s.2) k (([] : List UInt8), (0 : Int)) = some l.flatten := by
    refine loop_g (n := l.length) (fun i => ((l.take i).flatten, ((i : Nat) : Int))) _ (by simp) ?_ ?_ (by omega)
    · intro i hi
      have h4 := sumL_mono l (i + 1)
      have h5 := sumL_succ l i hi
      have h6 := flat_len l i
      simp only [ref01_Join.b1, lt1, dec_t (show (i : Int) < (l.length : Int) by omega), if_true, idxL_lt hi, Option.bind_some, apL_ok (show ((l.take i).flatten.length + l[i].length) * 1 ≤ 140737488355328 by omega), flat_succ l i hi, w64_succ (show i < 9223372036854775807 by omega)]
    · simp only [ref01_Join.b1, lt1, dec_f (show ¬ (l.length : Int) < (l.length : Int) by omega), Bool.false_eq_true, if_false, List.take_length]
  simp only [ref01_Join, h3, Option.bind_some]

theorem shaSum (l : List (List UInt8)) (hl : l.length < 4000) (h : l.flatten.length ≤ 200000) : sha_Sum 4000 l = some (SHA l.flatten) := by
  simp only [sha_Sum, bg_sha, shaHash l hl h, Option.bind_some]
theorem shaSumK {k : Nat} (hk : k = 4000) (l : List (List UInt8)) (hl : l.length < 4000) (h : l.flatten.length ≤ 200000) : sha_Sum k l = some (SHA l.flatten) := by rw [hk]; exact shaSum l hl h
theorem begins_ok (k : Nat) (h : Vector UInt8 32) (a b c d : UInt8) (e : (h.toList.map UInt8.toNat).take 4 = [a.toNat, b.toNat, c.toNat, d.toNat]) : law03_begins k h a b c d = some true := by
  have g : ∀ (i : Nat) (hi : i < 4) (x : UInt8), [a.toNat, b.toNat, c.toNat, d.toNat][i]? = some x.toNat → getV h ⟨i, by omega⟩ = x := by
    intro i hi x hx
    rw [← e, List.getElem?_take_of_lt hi, List.getElem?_map, List.getElem?_eq_getElem (by simp; omega)] at hx
    simp only [Option.map_some, Option.some.injEq] at hx
    have := UInt8.toNat_inj.1 hx
    rw [← this]
    simp [getV]
  have i0 : inV 32 0 = some ⟨0, by omega⟩ := inV_ok (by omega) (by decide)
  have i1 : inV 32 1 = some ⟨1, by omega⟩ := inV_ok (by omega) (by decide)
  have i2 : inV 32 2 = some ⟨2, by omega⟩ := inV_ok (by omega) (by decide)
  have i3 : inV 32 3 = some ⟨3, by omega⟩ := inV_ok (by omega) (by decide)
  simp only [law03_begins, i0, i1, i2, i3, Option.bind_some, lt1, g 0 (by omega) a rfl, g 1 (by omega) b rfl, g 2 (by omega) c rfl, g 3 (by omega) d rfl, beq_self_eq_true, if_true]
set_option maxRecDepth 100000 in
theorem starts_eq : (List.range 8).map (fun i => Option.bind ([(2 : UInt64), 3, 5, 7, 11, 13, 17, 19, 23, 29, 31, 37, 41, 43, 47, 53, 59, 61, 67, 71, 73, 79, 83, 89, 97, 101, 103, 107, 109, 113, 127, 131, 137, 139, 149, 151, 157, 163, 167, 173, 179, 181, 191, 193, 197, 199, 211, 223, 227, 229, 233, 239, 241, 251, 257, 263, 269, 271, 277, 281, 283, 293, 307, 311][i]?) (sha_start 4000)) = (hN.map fun x => some (UInt32.ofNat x)) := by
  unfold sha_start sha_root'2
  simp only [sha_root'2.b1, sha_start_1, sha_square, math_bits_Mul64, sha_above, shlU, w64_fun]
  decide +kernel
set_option maxRecDepth 100000 in
theorem constants_eq : (List.range 64).map (fun i => Option.bind ([(2 : UInt64), 3, 5, 7, 11, 13, 17, 19, 23, 29, 31, 37, 41, 43, 47, 53, 59, 61, 67, 71, 73, 79, 83, 89, 97, 101, 103, 107, 109, 113, 127, 131, 137, 139, 149, 151, 157, 163, 167, 173, 179, 181, 191, 193, 197, 199, 211, 223, 227, 229, 233, 239, 241, 251, 257, 263, 269, 271, 277, 281, 283, 293, 307, 311][i]?) (sha_constant 4000)) = (kN.map fun x => some (UInt32.ofNat x)) := by
  unfold sha_constant sha_root
  simp only [sha_root.b1, sha_constant_1, sha_cube, sha_square, math_bits_Mul64, sha_above, shlU, w64_fun]
  decide +kernel
theorem Start_ok (i : Nat) (h : i < 8) : sha_Start 4000 (i : Int) = some (UInt32.ofNat (hN.getD i 0)) := by
  have h1 := congrArg (fun l => l[i]?) starts_eq
  simp only [List.getElem?_map, List.getElem?_range h, Option.map_some] at h1
  have h2 : hN[i]? = some (hN.getD i 0) := by rw [List.getD_eq_getElem?_getD, List.getElem?_eq_getElem (show i < hN.length from h)]; rfl
  rw [h2, Option.map_some, Option.some.injEq] at h1
  unfold sha_Start
  rw [primes_eq, Option.bind_some, Option.bind_some]
  simp only [lt1, dec_f (show ¬ (i : Int) < 0 by omega), dec_f (show ¬ (i : Int) > 7 by omega), cond_false, Option.bind_some, Bool.false_eq_true, if_false]
  rw [inO_ok (by omega) (by simp; omega), Option.bind_some, Int.toNat_natCast]
  refine Eq.trans ?_ h1
  congr 1
  funext x
  cases sha_start 4000 x <;> rfl
theorem Constant_ok (i : Nat) (h : i < 64) : sha_Constant 4000 (i : Int) = some (UInt32.ofNat (kN.getD i 0)) := by
  have h1 := congrArg (fun l => l[i]?) constants_eq
  simp only [List.getElem?_map, List.getElem?_range h, Option.map_some] at h1
  have h2 : kN[i]? = some (kN.getD i 0) := by rw [List.getD_eq_getElem?_getD, List.getElem?_eq_getElem (show i < kN.length from h)]; rfl
  rw [h2, Option.map_some, Option.some.injEq] at h1
  unfold sha_Constant
  rw [primes_eq, Option.bind_some, Option.bind_some]
  simp only [lt1, dec_f (show ¬ (i : Int) < 0 by omega), dec_f (show ¬ (i : Int) > 63 by omega), cond_false, Option.bind_some, Bool.false_eq_true, if_false]
  rw [inO_ok (by omega) (by simp; omega), Option.bind_some, Int.toNat_natCast]
  refine Eq.trans ?_ h1
  congr 1
  funext x
  cases sha_constant 4000 x <;> rfl
theorem const0 : sha_Start 4000 0 = some 1779033703 ∧ sha_Constant 4000 0 = some 1116352408 := ⟨Start_ok 0 (by decide), Constant_ok 0 (by decide)⟩
theorem const0K {k : Nat} (hk : k = 4000) : sha_Start k 0 = some 1779033703 ∧ sha_Constant k 0 = some 1116352408 := by rw [hk]; exact const0
set_option maxRecDepth 100000 in
theorem k_empty : ((SHA []).toList.map UInt8.toNat).take 4 = [227, 176, 196, 66] := by
  rw [SHA_lit _ (by decide)]
  decide +kernel
set_option maxRecDepth 100000 in
theorem k_abc : ((SHA [(97 : UInt8), (98 : UInt8), (99 : UInt8)]).toList.map UInt8.toNat).take 4 = [186, 120, 22, 191] := by
  rw [SHA_lit _ (by decide)]
  decide +kernel
set_option maxRecDepth 100000 in
theorem k_jefe : ((COD [(74 : UInt8), (101 : UInt8), (102 : UInt8), (101 : UInt8)] [(119 : UInt8), (104 : UInt8), (97 : UInt8), (116 : UInt8), (32 : UInt8), (100 : UInt8), (111 : UInt8), (32 : UInt8), (121 : UInt8), (97 : UInt8), (32 : UInt8), (119 : UInt8), (97 : UInt8), (110 : UInt8), (116 : UInt8), (32 : UInt8), (102 : UInt8), (111 : UInt8), (114 : UInt8), (32 : UInt8), (110 : UInt8), (111 : UInt8), (116 : UInt8), (104 : UInt8), (105 : UInt8), (110 : UInt8), (103 : UInt8), (63 : UInt8)]).toList.map UInt8.toNat).take 4 = [91, 220, 193, 70] := by
  rw [COD_lit _ _ (by decide) (by decide)]
  decide +kernel
theorem known_ok {k : Nat} (hk : k = 4000) : law03_known k = some true := by
  have h1 := shaSumK hk [] (by decide) (by decide)
  have h2 := shaSumK hk [[97, 98, 99]] (by decide) (by decide)
  have h3 := shaCode hk [(74 : UInt8), (101 : UInt8), (102 : UInt8), (101 : UInt8)] [[(119 : UInt8), (104 : UInt8), (97 : UInt8), (116 : UInt8), (32 : UInt8), (100 : UInt8), (111 : UInt8), (32 : UInt8), (121 : UInt8), (97 : UInt8), (32 : UInt8), (119 : UInt8), (97 : UInt8), (110 : UInt8), (116 : UInt8), (32 : UInt8), (102 : UInt8), (111 : UInt8), (114 : UInt8), (32 : UInt8), (110 : UInt8), (111 : UInt8), (116 : UInt8), (104 : UInt8), (105 : UInt8), (110 : UInt8), (103 : UInt8), (63 : UInt8)]] (by decide) (by decide) (by decide)
  simp only [List.flatten_cons, List.flatten_nil, List.append_nil] at h1 h2 h3
  have b1 := begins_ok k _ 227 176 196 66 k_empty
  have b2 := begins_ok k _ 186 120 22 191 k_abc
  have b3 := begins_ok k _ 91 220 193 70 k_jefe
  obtain ⟨c1, c2⟩ := const0K hk
  simp only [law03_known, h1, h2, h3, b1, b2, b3, c1, c2, Option.bind_some, lt1, if_true, cond_true, beq_self_eq_true]
end Go.Proofs.Ytdncoiehmkcajaa
