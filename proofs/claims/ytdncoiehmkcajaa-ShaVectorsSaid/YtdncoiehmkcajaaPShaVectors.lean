/- The plain law ShaVectors. -/
import Derived.Test.YtdncoiehmkcajaaPShaSums
namespace Go.Proofs.Ytdncoiehmkcajaa
open Go Fw
set_option linter.unusedVariables false
set_option linter.unusedSimpArgs false

set_option maxRecDepth 100000 in
theorem v_56 : ((SHA [(97 : UInt8), (98 : UInt8), (99 : UInt8), (100 : UInt8), (98 : UInt8), (99 : UInt8), (100 : UInt8), (101 : UInt8), (99 : UInt8), (100 : UInt8), (101 : UInt8), (102 : UInt8), (100 : UInt8), (101 : UInt8), (102 : UInt8), (103 : UInt8), (101 : UInt8), (102 : UInt8), (103 : UInt8), (104 : UInt8), (102 : UInt8), (103 : UInt8), (104 : UInt8), (105 : UInt8), (103 : UInt8), (104 : UInt8), (105 : UInt8), (106 : UInt8), (104 : UInt8), (105 : UInt8), (106 : UInt8), (107 : UInt8), (105 : UInt8), (106 : UInt8), (107 : UInt8), (108 : UInt8), (106 : UInt8), (107 : UInt8), (108 : UInt8), (109 : UInt8), (107 : UInt8), (108 : UInt8), (109 : UInt8), (110 : UInt8), (108 : UInt8), (109 : UInt8), (110 : UInt8), (111 : UInt8), (109 : UInt8), (110 : UInt8), (111 : UInt8), (112 : UInt8), (110 : UInt8), (111 : UInt8), (112 : UInt8), (113 : UInt8)]).toList.map UInt8.toNat).take 4 = [36, 141, 106, 97] := by
  rw [SHA_lit _ (by decide)]
  decide +kernel
set_option maxRecDepth 100000 in
theorem v_a : ((SHA (List.replicate 1000 97)).toList.map UInt8.toNat).take 4 = [65, 237, 236, 228] := by
  rw [SHA_lit _ (by rw [List.length_replicate]; decide), List.length_replicate, List.map_replicate]
  decide +kernel
set_option maxRecDepth 100000 in
theorem v_20 : ((COD (List.replicate 20 11) [(72 : UInt8), (105 : UInt8), (32 : UInt8), (84 : UInt8), (104 : UInt8), (101 : UInt8), (114 : UInt8), (101 : UInt8)]).toList.map UInt8.toNat).take 4 = [176, 52, 76, 97] := by
  rw [COD_lit _ _ (by rw [List.length_replicate]; decide) (by decide), List.length_replicate, List.map_replicate]
  decide +kernel
set_option maxRecDepth 100000 in
theorem v_131 : ((COD (List.replicate 131 170) [(84 : UInt8), (101 : UInt8), (115 : UInt8), (116 : UInt8), (32 : UInt8), (85 : UInt8), (115 : UInt8), (105 : UInt8), (110 : UInt8), (103 : UInt8), (32 : UInt8), (76 : UInt8), (97 : UInt8), (114 : UInt8), (103 : UInt8), (101 : UInt8), (114 : UInt8), (32 : UInt8), (84 : UInt8), (104 : UInt8), (97 : UInt8), (110 : UInt8), (32 : UInt8), (66 : UInt8), (108 : UInt8), (111 : UInt8), (99 : UInt8), (107 : UInt8), (45 : UInt8), (83 : UInt8), (105 : UInt8), (122 : UInt8), (101 : UInt8), (32 : UInt8), (75 : UInt8), (101 : UInt8), (121 : UInt8), (32 : UInt8), (45 : UInt8), (32 : UInt8), (72 : UInt8), (97 : UInt8), (115 : UInt8), (104 : UInt8), (32 : UInt8), (75 : UInt8), (101 : UInt8), (121 : UInt8), (32 : UInt8), (70 : UInt8), (105 : UInt8), (114 : UInt8), (115 : UInt8), (116 : UInt8)]).toList.map UInt8.toNat).take 4 = [96, 228, 49, 89] := by
  rw [COD_lit _ _ (by rw [List.length_replicate]; decide) (by decide), List.length_replicate, List.map_replicate]
  decide +kernel
theorem fill_b1 (k n : Nat) (hk : 2000 ≤ k) (hn : n ≤ 1000) : loopO (fun s => law03_ShaVectors.b1 k s.1 s.2) k (List.replicate n (0 : UInt8), (0 : Int)) = some (List.replicate n 97) := by
  refine loop_g (n := n) (fun i => (List.replicate i 97 ++ List.replicate (n - i) 0, ((i : Nat) : Int))) _ (by simp) ?_ ?_ (by omega)
  · intro i hi
    have hl : (List.replicate i (97 : UInt8) ++ List.replicate (n - i) 0).length = n := by simp; omega
    have h1 : inO (List.replicate i (97 : UInt8) ++ List.replicate (n - i) 0) (i : Int) = some i := inO_ok (by omega) (by rw [hl]; omega)
    have h2 : setO' (List.replicate i (97 : UInt8) ++ List.replicate (n - i) 0) i 97 = some (List.replicate (i + 1) 97 ++ List.replicate (n - (i + 1)) 0) := by
      rw [setO'_ok (by rw [hl]; omega), List.set_append_right _ _ (by simp)]
      congr 1
      rw [List.length_replicate, Nat.sub_self, show n - i = (n - (i + 1)) + 1 by omega, List.replicate_succ, List.set_cons_zero, List.replicate_succ' (n := i), List.append_assoc]
      rfl
    simp only [law03_ShaVectors.b1, lt1, hl, dec_t (show (i : Int) < ((n : Nat) : Int) by omega), if_true, h1, h2, Option.bind_some, w64_succ (show i < 9223372036854775807 by omega)]
  · have hl : (List.replicate n (97 : UInt8) ++ List.replicate (n - n) 0).length = n := by simp
    simp only [law03_ShaVectors.b1, lt1, hl, dec_f (show ¬ ((n : Nat) : Int) < ((n : Nat) : Int) by omega), Bool.false_eq_true, if_false]
    simp
theorem fill_b2 (k n : Nat) (hk : 2000 ≤ k) (hn : n ≤ 1000) : loopO (fun s => law03_ShaVectors.b2 k s.1 s.2) k (List.replicate n (0 : UInt8), (0 : Int)) = some (List.replicate n 170) := by
  refine loop_g (n := n) (fun i => (List.replicate i 170 ++ List.replicate (n - i) 0, ((i : Nat) : Int))) _ (by simp) ?_ ?_ (by omega)
  · intro i hi
    have hl : (List.replicate i (170 : UInt8) ++ List.replicate (n - i) 0).length = n := by simp; omega
    have h1 : inO (List.replicate i (170 : UInt8) ++ List.replicate (n - i) 0) (i : Int) = some i := inO_ok (by omega) (by rw [hl]; omega)
    have h2 : setO' (List.replicate i (170 : UInt8) ++ List.replicate (n - i) 0) i 170 = some (List.replicate (i + 1) 170 ++ List.replicate (n - (i + 1)) 0) := by
      rw [setO'_ok (by rw [hl]; omega), List.set_append_right _ _ (by simp)]
      congr 1
      rw [List.length_replicate, Nat.sub_self, show n - i = (n - (i + 1)) + 1 by omega, List.replicate_succ, List.set_cons_zero, List.replicate_succ' (n := i), List.append_assoc]
      rfl
    simp only [law03_ShaVectors.b2, lt1, hl, dec_t (show (i : Int) < ((n : Nat) : Int) by omega), if_true, h1, h2, Option.bind_some, w64_succ (show i < 9223372036854775807 by omega)]
  · have hl : (List.replicate n (170 : UInt8) ++ List.replicate (n - n) 0).length = n := by simp
    simp only [law03_ShaVectors.b2, lt1, hl, dec_f (show ¬ ((n : Nat) : Int) < ((n : Nat) : Int) by omega), Bool.false_eq_true, if_false]
    simp
theorem fill_b3 (k n : Nat) (hk : 2000 ≤ k) (hn : n ≤ 1000) : loopO (fun s => law03_ShaVectors.b3 k s.1 s.2) k (List.replicate n (0 : UInt8), (0 : Int)) = some (List.replicate n 11) := by
  refine loop_g (n := n) (fun i => (List.replicate i 11 ++ List.replicate (n - i) 0, ((i : Nat) : Int))) _ (by simp) ?_ ?_ (by omega)
  · intro i hi
    have hl : (List.replicate i (11 : UInt8) ++ List.replicate (n - i) 0).length = n := by simp; omega
    have h1 : inO (List.replicate i (11 : UInt8) ++ List.replicate (n - i) 0) (i : Int) = some i := inO_ok (by omega) (by rw [hl]; omega)
    have h2 : setO' (List.replicate i (11 : UInt8) ++ List.replicate (n - i) 0) i 11 = some (List.replicate (i + 1) 11 ++ List.replicate (n - (i + 1)) 0) := by
      rw [setO'_ok (by rw [hl]; omega), List.set_append_right _ _ (by simp)]
      congr 1
      rw [List.length_replicate, Nat.sub_self, show n - i = (n - (i + 1)) + 1 by omega, List.replicate_succ, List.set_cons_zero, List.replicate_succ' (n := i), List.append_assoc]
      rfl
    simp only [law03_ShaVectors.b3, lt1, hl, dec_t (show (i : Int) < ((n : Nat) : Int) by omega), if_true, h1, h2, Option.bind_some, w64_succ (show i < 9223372036854775807 by omega)]
  · have hl : (List.replicate n (11 : UInt8) ++ List.replicate (n - n) 0).length = n := by simp
    simp only [law03_ShaVectors.b3, lt1, hl, dec_f (show ¬ ((n : Nat) : Int) < ((n : Nat) : Int) by omega), Bool.false_eq_true, if_false]
    simp
theorem pure_ShaVectors   : ∃ k, law03_ShaVectors k  = some true := by
  obtain ⟨k, hk⟩ : ∃ k : Nat, k = 4000 := ⟨_, rfl⟩
  refine ⟨k, ?_⟩
  have m1 : mkL 1 (1000 : Int) (0 : UInt8) = some (List.replicate 1000 0) := mkL_ok (by decide) (by decide) (by decide)
  have m2 : mkL 1 (131 : Int) (0 : UInt8) = some (List.replicate 131 0) := mkL_ok (by decide) (by decide) (by decide)
  have m3 : mkL 1 (20 : Int) (0 : UInt8) = some (List.replicate 20 0) := mkL_ok (by decide) (by decide) (by decide)
  have h1 := shaSumK hk [[(97 : UInt8), (98 : UInt8), (99 : UInt8), (100 : UInt8), (98 : UInt8), (99 : UInt8), (100 : UInt8), (101 : UInt8), (99 : UInt8), (100 : UInt8), (101 : UInt8), (102 : UInt8), (100 : UInt8), (101 : UInt8), (102 : UInt8), (103 : UInt8), (101 : UInt8), (102 : UInt8), (103 : UInt8), (104 : UInt8), (102 : UInt8), (103 : UInt8), (104 : UInt8), (105 : UInt8), (103 : UInt8), (104 : UInt8), (105 : UInt8), (106 : UInt8), (104 : UInt8), (105 : UInt8), (106 : UInt8), (107 : UInt8), (105 : UInt8), (106 : UInt8), (107 : UInt8), (108 : UInt8), (106 : UInt8), (107 : UInt8), (108 : UInt8), (109 : UInt8), (107 : UInt8), (108 : UInt8), (109 : UInt8), (110 : UInt8), (108 : UInt8), (109 : UInt8), (110 : UInt8), (111 : UInt8), (109 : UInt8), (110 : UInt8), (111 : UInt8), (112 : UInt8), (110 : UInt8), (111 : UInt8), (112 : UInt8), (113 : UInt8)]] (by decide) (by decide)
  have h2 : ∀ n, n ≤ 1000 → sha_Sum k [List.replicate n 97] = some (SHA (List.replicate n 97)) := by
    intro n hn
    have := shaSumK hk [List.replicate n 97] (by simp) (by simp; omega)
    simpa using this
  have h2 := h2 1000 (by omega)
  have h3 : ∀ n, n ≤ 1000 → sha_Code k (List.replicate n 11) [[(72 : UInt8), (105 : UInt8), (32 : UInt8), (84 : UInt8), (104 : UInt8), (101 : UInt8), (114 : UInt8), (101 : UInt8)]] = some (COD (List.replicate n 11) [(72 : UInt8), (105 : UInt8), (32 : UInt8), (84 : UInt8), (104 : UInt8), (101 : UInt8), (114 : UInt8), (101 : UInt8)]) := by
    intro n hn
    have := shaCode hk (List.replicate n 11) [[(72 : UInt8), (105 : UInt8), (32 : UInt8), (84 : UInt8), (104 : UInt8), (101 : UInt8), (114 : UInt8), (101 : UInt8)]] (by simp; omega) (by decide) (by decide)
    simpa using this
  have h3 := h3 20 (by omega)
  have h4 : ∀ n, n ≤ 1000 → sha_Code k (List.replicate n 170) [[(84 : UInt8), (101 : UInt8), (115 : UInt8), (116 : UInt8), (32 : UInt8), (85 : UInt8), (115 : UInt8), (105 : UInt8), (110 : UInt8), (103 : UInt8), (32 : UInt8), (76 : UInt8), (97 : UInt8), (114 : UInt8), (103 : UInt8), (101 : UInt8), (114 : UInt8), (32 : UInt8), (84 : UInt8), (104 : UInt8), (97 : UInt8), (110 : UInt8), (32 : UInt8), (66 : UInt8), (108 : UInt8), (111 : UInt8), (99 : UInt8), (107 : UInt8), (45 : UInt8), (83 : UInt8), (105 : UInt8), (122 : UInt8), (101 : UInt8), (32 : UInt8), (75 : UInt8), (101 : UInt8), (121 : UInt8), (32 : UInt8), (45 : UInt8), (32 : UInt8), (72 : UInt8), (97 : UInt8), (115 : UInt8), (104 : UInt8), (32 : UInt8), (75 : UInt8), (101 : UInt8), (121 : UInt8), (32 : UInt8), (70 : UInt8), (105 : UInt8), (114 : UInt8), (115 : UInt8), (116 : UInt8)]] = some (COD (List.replicate n 170) [(84 : UInt8), (101 : UInt8), (115 : UInt8), (116 : UInt8), (32 : UInt8), (85 : UInt8), (115 : UInt8), (105 : UInt8), (110 : UInt8), (103 : UInt8), (32 : UInt8), (76 : UInt8), (97 : UInt8), (114 : UInt8), (103 : UInt8), (101 : UInt8), (114 : UInt8), (32 : UInt8), (84 : UInt8), (104 : UInt8), (97 : UInt8), (110 : UInt8), (32 : UInt8), (66 : UInt8), (108 : UInt8), (111 : UInt8), (99 : UInt8), (107 : UInt8), (45 : UInt8), (83 : UInt8), (105 : UInt8), (122 : UInt8), (101 : UInt8), (32 : UInt8), (75 : UInt8), (101 : UInt8), (121 : UInt8), (32 : UInt8), (45 : UInt8), (32 : UInt8), (72 : UInt8), (97 : UInt8), (115 : UInt8), (104 : UInt8), (32 : UInt8), (75 : UInt8), (101 : UInt8), (121 : UInt8), (32 : UInt8), (70 : UInt8), (105 : UInt8), (114 : UInt8), (115 : UInt8), (116 : UInt8)]) := by
    intro n hn
    have := shaCode hk (List.replicate n 170) [[(84 : UInt8), (101 : UInt8), (115 : UInt8), (116 : UInt8), (32 : UInt8), (85 : UInt8), (115 : UInt8), (105 : UInt8), (110 : UInt8), (103 : UInt8), (32 : UInt8), (76 : UInt8), (97 : UInt8), (114 : UInt8), (103 : UInt8), (101 : UInt8), (114 : UInt8), (32 : UInt8), (84 : UInt8), (104 : UInt8), (97 : UInt8), (110 : UInt8), (32 : UInt8), (66 : UInt8), (108 : UInt8), (111 : UInt8), (99 : UInt8), (107 : UInt8), (45 : UInt8), (83 : UInt8), (105 : UInt8), (122 : UInt8), (101 : UInt8), (32 : UInt8), (75 : UInt8), (101 : UInt8), (121 : UInt8), (32 : UInt8), (45 : UInt8), (32 : UInt8), (72 : UInt8), (97 : UInt8), (115 : UInt8), (104 : UInt8), (32 : UInt8), (75 : UInt8), (101 : UInt8), (121 : UInt8), (32 : UInt8), (70 : UInt8), (105 : UInt8), (114 : UInt8), (115 : UInt8), (116 : UInt8)]] (by simp; omega) (by decide) (by decide)
    simpa using this
  have h4 := h4 131 (by omega)
  simp only [List.flatten_cons, List.flatten_nil, List.append_nil] at h1
  have b1 := begins_ok k _ 36 141 106 97 v_56
  have b2 := begins_ok k _ 65 237 236 228 v_a
  have b3 := begins_ok k _ 176 52 76 97 v_20
  have b4 := begins_ok k _ 96 228 49 89 v_131
  simp only [law03_ShaVectors, m1, m2, m3, fill_b1 k 1000 (by omega) (by omega), fill_b2 k 131 (by omega) (by omega), fill_b3 k 20 (by omega) (by omega), h1, h2, h3, h4, b1, b2, b3, b4, Option.bind_some, lt1, if_true, cond_true, known_ok hk]
end Go.Proofs.Ytdncoiehmkcajaa
