/- The walk of two trees; the rows that are known. -/
import Derived.Test.YtbflmobpbjnekaaMb
namespace Go.Proofs.Ytbflmobpbjnekaa
open Go Fw
set_option linter.unusedVariables false
set_option linter.unusedSimpArgs false

section
variable {k d n x : Nat} {t o : merkle_Tree} {l : List Int}
theorem getN (h : n < 128) : inV 128 (n : Int) = some ⟨n, h⟩ := inV128 n h
theorem w1 (h : x < 1000) : w64 ((x : Int) + 1) = ((x + 1 : Nat) : Int) := w64_succ (by omega)
theorem D4_same (hk : 200 ≤ k) (hn : n < 128) (hx : x < 1000) (h : t.n.toList.getD n z32 = o.n.toList.getD n z32) : merkle_Tree_Diff_1_vppppp_vpvpvocrrrrr (d + 1) k (n : Int) (x : Int) t o l = some (((x + 1 : Nat) : Int), l) := by
  show merkle_Tree_Diff_1_vppppp_vpvpvocrrrrr.bd _ k _ _ _ _ _ = _
  simp only [merkle_Tree_Diff_1_vppppp_vpvpvocrrrrr.bd, lt1, w1 hx, getN hn, Option.bind_some, equal_eq k hk, getV_getD, h, decide_true, if_true]
theorem D3_same (hk : 200 ≤ k) (hn : n < 128) (hx : x < 1000) (h : t.n.toList.getD n z32 = o.n.toList.getD n z32) : merkle_Tree_Diff_1_vppppp_vpvpvncrrrrr (d + 1) k (n : Int) (x : Int) t o = some (((x + 1 : Nat) : Int), []) := by
  show merkle_Tree_Diff_1_vppppp_vpvpvncrrrrr.bd _ k _ _ _ _ = _
  simp only [merkle_Tree_Diff_1_vppppp_vpvpvncrrrrr.bd, lt1, w1 hx, getN hn, Option.bind_some, equal_eq k hk, getV_getD, h, decide_true, if_true]
theorem D4_leaf (hk : 200 ≤ k) (hn : n < 128) (hn' : 64 ≤ n) (hx : x < 1000) (hl : l.length ≤ 1000) (h : t.n.toList.getD n z32 ≠ o.n.toList.getD n z32) : merkle_Tree_Diff_1_vppppp_vpvpvocrrrrr (d + 1) k (n : Int) (x : Int) t o l = some (((x + 1 : Nat) : Int), l ++ [((n - 64 : Nat) : Int)]) := by
  have e : w64 ((n : Int) - 64) = ((n - 64 : Nat) : Int) := by rw [w64_id (by omega) (by omega)]; omega
  show merkle_Tree_Diff_1_vppppp_vpvpvocrrrrr.bd _ k _ _ _ _ _ = _
  simp only [merkle_Tree_Diff_1_vppppp_vpvpvocrrrrr.bd, lt1, w1 hx, getN hn, Option.bind_some, equal_eq k hk, getV_getD, h, decide_false, Bool.false_eq_true, if_false, dec_t (show (n : Int) ≥ 64 by omega), if_true, e, apL_ok (show (l.length + [((n - 64 : Nat) : Int)].length) * 8 ≤ 140737488355328 by simp; omega)]
theorem D4_in (hk : 200 ≤ k) (hn : n < 64) (hx : x < 1000) (h : t.n.toList.getD n z32 ≠ o.n.toList.getD n z32) {a : Int} {b : List Int} {r : Int × List Int} (h1 : merkle_Tree_Diff_1_vppppp_vpvpvocrrrrr d k ((2 * n : Nat) : Int) ((x + 1 : Nat) : Int) t o l = some (a, b)) (h2 : merkle_Tree_Diff_1_vppppp_vpvpvocrrrrr d k ((2 * n + 1 : Nat) : Int) a t o b = some r) :
    merkle_Tree_Diff_1_vppppp_vpvpvocrrrrr (d + 1) k (n : Int) (x : Int) t o l = some r := by
  have e2 : w64 (((2 * n : Nat) : Int) + 1) = ((2 * n + 1 : Nat) : Int) := w64_succ (by omega)
  show merkle_Tree_Diff_1_vppppp_vpvpvocrrrrr.bd _ k _ _ _ _ _ = _
  simp only [merkle_Tree_Diff_1_vppppp_vpvpvocrrrrr.bd, lt1, w1 hx, getN (show n < 128 by omega), Option.bind_some, equal_eq k hk, getV_getD, h, decide_false, Bool.false_eq_true, if_false, dec_f (show ¬ (n : Int) ≥ 64 by omega), w2 n (by omega), e2, h1, h2]
theorem D3_in (hk : 200 ≤ k) (hn : n < 64) (hx : x < 1000) (h : t.n.toList.getD n z32 ≠ o.n.toList.getD n z32) {a : Int} {b : List Int} {r : Int × List Int} (h1 : merkle_Tree_Diff_1_vppppp_vpvpvncrrrrr d k ((2 * n : Nat) : Int) ((x + 1 : Nat) : Int) t o = some (a, b)) (h2 : merkle_Tree_Diff_1_vppppp_vpvpvocrrrrr k k ((2 * n + 1 : Nat) : Int) a t o b = some r) :
    merkle_Tree_Diff_1_vppppp_vpvpvncrrrrr (d + 1) k (n : Int) (x : Int) t o = some r := by
  have e2 : w64 (((2 * n : Nat) : Int) + 1) = ((2 * n + 1 : Nat) : Int) := w64_succ (by omega)
  show merkle_Tree_Diff_1_vppppp_vpvpvncrrrrr.bd _ k _ _ _ _ = _
  simp only [merkle_Tree_Diff_1_vppppp_vpvpvncrrrrr.bd, lt1, w1 hx, getN (show n < 128 by omega), Option.bind_some, equal_eq k hk, getV_getD, h, decide_false, Bool.false_eq_true, if_false, dec_f (show ¬ (n : Int) ≥ 64 by omega), w2 n (by omega), e2, h1, h2]
end
theorem walk5 {k : Nat} (hk : k = 4000) {t o : merkle_Tree} (hs : ∀ n ∈ [3, 5, 9, 16, 35, 68], o.n.toList.getD n z32 = t.n.toList.getD n z32) (hd : ∀ n ∈ [1, 2, 4, 8, 17, 34, 69], o.n.toList.getD n z32 ≠ t.n.toList.getD n z32) :
    merkle_Tree_Diff_1_vppppp_vpvpvncrrrrr k k (1 : Int) (0 : Int) o t = some (13, [5]) := by
  have h2 : 200 ≤ k := by omega
  have n0 : ∀ n ∈ [3, 5, 9, 16, 35, 68], n < 128 := by decide
  have s4 : ∀ (d n x : Nat) (l : List Int), n ∈ [3, 5, 9, 16, 35, 68] → x < 1000 → merkle_Tree_Diff_1_vppppp_vpvpvocrrrrr (d + 1) k (n : Int) (x : Int) o t l = some (((x + 1 : Nat) : Int), l) := fun d n x l hn hx => D4_same h2 (n0 n hn) hx (hs n hn)
  obtain ⟨d, hkd⟩ : ∃ d, k = d + 7 := ⟨3993, by omega⟩
  have s4k : ∀ (n x : Nat) (l : List Int), n ∈ [3, 5, 9, 16, 35, 68] → x < 1000 → merkle_Tree_Diff_1_vppppp_vpvpvocrrrrr k k (n : Int) (x : Int) o t l = some (((x + 1 : Nat) : Int), l) := fun n x l hn hx => by
    have := s4 (d + 6) n x l hn hx
    rwa [show d + 6 + 1 = k by omega] at this
  have r34 : ∀ d, merkle_Tree_Diff_1_vppppp_vpvpvocrrrrr (d + 2) k ((34 : Nat) : Int) ((6 : Nat) : Int) o t [] = some (((9 : Nat) : Int), [((69 - 64 : Nat) : Int)]) := fun d =>
    D4_in h2 (by decide) (by decide) (hd 34 (by decide)) (s4 d 68 7 [] (by decide) (by decide)) (D4_leaf h2 (by decide) (by decide) (by decide) (by decide) (hd 69 (by decide)))
  have r17 : ∀ d, merkle_Tree_Diff_1_vppppp_vpvpvocrrrrr (d + 3) k ((17 : Nat) : Int) ((5 : Nat) : Int) o t [] = some (((10 : Nat) : Int), [((69 - 64 : Nat) : Int)]) := fun d =>
    D4_in h2 (by decide) (by decide) (hd 17 (by decide)) (r34 d) (s4 (d + 1) 35 9 _ (by decide) (by decide))
  have r17k : merkle_Tree_Diff_1_vppppp_vpvpvocrrrrr k k ((17 : Nat) : Int) ((5 : Nat) : Int) o t [] = some (((10 : Nat) : Int), [((69 - 64 : Nat) : Int)]) := by
    have := r17 (d + 4)
    rwa [show d + 4 + 3 = k by omega] at this
  have r8 : merkle_Tree_Diff_1_vppppp_vpvpvncrrrrr (d + 4) k ((8 : Nat) : Int) ((3 : Nat) : Int) o t = some (((10 : Nat) : Int), [((69 - 64 : Nat) : Int)]) :=
    D3_in h2 (by decide) (by decide) (hd 8 (by decide)) (D3_same (d := d + 2) (n := 16) (x := 4) h2 (by decide) (by decide) (hs 16 (by decide))) r17k
  have r4 : merkle_Tree_Diff_1_vppppp_vpvpvncrrrrr (d + 5) k ((4 : Nat) : Int) ((2 : Nat) : Int) o t = some (((11 : Nat) : Int), [((69 - 64 : Nat) : Int)]) :=
    D3_in h2 (by decide) (by decide) (hd 4 (by decide)) r8 (s4k 9 10 _ (by decide) (by decide))
  have r2 : merkle_Tree_Diff_1_vppppp_vpvpvncrrrrr (d + 6) k ((2 : Nat) : Int) ((1 : Nat) : Int) o t = some (((12 : Nat) : Int), [((69 - 64 : Nat) : Int)]) :=
    D3_in h2 (by decide) (by decide) (hd 2 (by decide)) r4 (s4k 5 11 _ (by decide) (by decide))
  have r1 : merkle_Tree_Diff_1_vppppp_vpvpvncrrrrr (d + 7) k ((1 : Nat) : Int) ((0 : Nat) : Int) o t = some (((13 : Nat) : Int), [((69 - 64 : Nat) : Int)]) :=
    D3_in h2 (by decide) (by decide) (hd 1 (by decide)) r2 (s4k 3 12 _ (by decide) (by decide))
  rw [show d + 7 = k by omega] at r1
  exact r1
theorem diff_self {k : Nat} (hk : k = 4000) {t : merkle_Tree} (hi : t.is = true) : merkle_Tree_Diff_pr k t = some ([], 1, 0) := by
  have hn0 : (!t.is) = false := by rw [hi]; rfl
  have h2 : 200 ≤ k := by omega
  obtain ⟨d, hkd⟩ : ∃ d, k = d + 1 := ⟨3999, by omega⟩
  have h1 : merkle_Tree_Diff_1_vppppp_vpvrncrrrrr k k (1 : Int) (0 : Int) t = some (1, []) := by
    have e : ∀ d, merkle_Tree_Diff_1_vppppp_vpvrncrrrrr (d + 1) k (1 : Int) (0 : Int) t = some (1, []) := fun d => by
      show merkle_Tree_Diff_1_vppppp_vpvrncrrrrr.bd _ k _ _ _ = _
      have i1 : inV 128 (1 : Int) = some ⟨1, by decide⟩ := inV128 1 (by decide)
      have i2 : w64 ((0 : Int) + 1) = 1 := w64_id (by decide) (by decide)
      simp only [merkle_Tree_Diff_1_vppppp_vpvrncrrrrr.bd, lt1, i2, i1, Option.bind_some, equal_eq k h2, decide_true, if_true]
    have := e d
    rwa [← hkd] at this
  simp only [merkle_Tree_Diff_pr, there_eq, Option.bind_some, lt1, hn0, Bool.false_eq_true, if_false, h1]
theorem diff5 {k : Nat} (hk : k = 4000) {t o : merkle_Tree} (ht : t.is = true) (ho : o.is = true) (h : GL t.n.toList Em) (h' : GL o.n.toList (Em.set 5 (lf 5 [120]))) : merkle_Tree_Diff k o t = some ([5], 13, 0) := by
  have hn0 : (!t.is) = false := by rw [ht]; rfl
  have hn1 : (!o.is) = false := by rw [ho]; rfl
  obtain ⟨g1, g2⟩ := five h h'
  simp only [merkle_Tree_Diff, there_eq, Option.bind_some, lt1, hn0, hn1, Bool.false_eq_true, if_false, walk5 hk g1 g2]
theorem ints5 {k : Nat} (hk : k = 4000) : law08_ints k [5] [5] = some true := by
  have h1 := loop_all (body := fun s => law08_ints.b1 k [5] [5] s) 1 (fun _ => True) (b := false) (k := k) ?_ ?_ (by omega)
  · rw [if_pos (fun _ _ => trivial)] at h1
    have : ((([5] : List Int).length : Int) != (([5] : List Int).length : Int)) = false := rfl
    simp only [law08_ints, lt1, this, Bool.false_eq_true, if_false, h1, Option.bind_some]
  · intro i hi
    have : i = 0 := by omega
    subst this
    have e1 : idxL ([5] : List Int) ((0 : Nat) : Int) = some 5 := rfl
    have e2 : ((5 : Int) != 5) = false := rfl
    simp only [law08_ints.b1, lt1, dec_t (show (((0 : Nat) : Int)) < (([5] : List Int).length : Int) by decide), if_true, e1, Option.bind_some, e2, Bool.false_eq_true, if_false, w64_succ (show 0 < 9223372036854775807 by decide)]
  · simp only [law08_ints.b1, lt1, dec_f (show ¬ (((1 : Nat) : Int)) < (([5] : List Int).length : Int) by decide), Bool.false_eq_true, if_false]
theorem Em_set_ne : Em.set 5 (lf 5 [120]) ≠ Em := by
  intro he
  have h1 : (Em.set 5 (lf 5 [120])).getD 5 z32 = Em.getD 5 z32 := by rw [he]
  rw [getD_set _ _ _ _ (by rw [Em_len]; decide), if_pos rfl] at h1
  have h2 : Em.getD 5 z32 = lf 5 [] := by simp [Em, List.getD_eq_getElem?_getD]
  rw [h2] at h1
  have h3 : nN (lf 5 [120]) = nN (lf 5 []) := by rw [h1]
  rw [lf_lit 5 (by decide) [120] (by decide), lf_lit 5 (by decide) [] (by decide)] at h3
  have hw := way
  have hl := eq_of_beq (List.all_eq_true.1 TB_leaf 5 (List.mem_range.2 (by decide)))
  simp only [Bool.and_eq_true, beq_iff_eq, bne_iff_ne, ne_eq] at hw
  obtain ⟨⟨⟨⟨⟨⟨⟨⟨⟨⟨⟨⟨⟨a1, a2⟩, a3⟩, a4⟩, a5⟩, a6⟩, a7⟩, b1⟩, b2⟩, b3⟩, b4⟩, b5⟩, b6⟩, b7⟩ := hw
  have h4 : p69 = TB.getD 69 [] := a1.trans (h3.trans hl.symm)
  exact b1 h4
theorem known8 {k : Nat} (hk : k = 4000) : law08_known k = some true := by
  have h2 : 200 ≤ k := by omega
  obtain ⟨t, n1, n2, n3⟩ := new_eq hk
  obtain ⟨o, o1, o2, o3⟩ := of_eq hk Em Em_len
  obtain ⟨q, q1, q2, q3⟩ := set_eq hk o Em o2 o3 5 (by decide) [120] (by decide)
  have q1 : merkle_Tree_Set k (5 : Int) [120] o = some (0, q) := q1
  obtain ⟨u, u1, u2, u3⟩ := of_eq hk (Em.set 5 (lf 5 [120])) (by simp [Em_len])
  have e0 : w64 ((0 : Int) + 0) = 0 := w64_id (by decide) (by decide)
  have b0 : ((0 : Int) == 0) = true := rfl
  have b1 : ((([] : List Int).length : Int) == 0) = true := rfl
  have b2 : ((1 : Int) == 1) = true := rfl
  have b3 : ((13 : Int) == 13) = true := rfl
  have b4 : ((2 : Int) == 2) = true := rfl
  simp only [law08_known, n1, Option.bind_some, leaves_eq k t Em n2 n3, o1, diff_self hk n2, q1, diff5 hk n2 q2 n3 q3, node_bad k q q2 128 (Or.inr (by decide)), leaves_eq k q _ q2 q3, u1, num_eq, lt1, e0, b0, if_true, b1, b2, cond_true, ints5 hk, b3, b4, same_eq k h2 u q _ _ u2 q2 u3 q3, decide_true, same_eq k h2 u t _ _ u2 n2 u3 n3, Em_set_ne, decide_false, Bool.not_false]
end Go.Proofs.Ytbflmobpbjnekaa
