/- The document's trees; what stands. -/
import Derived.Test.YtbflmobpbjnekaaMc
namespace Go.Proofs.Ytbflmobpbjnekaa
open Go Fw
set_option linter.unusedVariables false
set_option linter.unusedSimpArgs false

theorem getN? (w : List HS) (n : Nat) (h : n < w.length) : w[n]? = some (w.getD n z32) := by rw [List.getD_eq_getElem?_getD, List.getElem?_eq_getElem h]; rfl
theorem inOn (w : List HS) (n : Nat) (h : n < w.length) : inO w (n : Int) = some n := by rw [inO_ok (by omega) (by simpa using h)]; simp
theorem nodes_eq {k : Nat} (hk : k = 4000) (L : List HS) (hl : L.length = 64) : ∃ w, ref08_Nodes k L = some w ∧ GL w L := by
  have h1 : mkL 32 (128 : Int) z32 = some (List.replicate 128 z32) := mkL_ok (by decide) (by decide) (by decide)
  have hA := loop_inv (body := fun s : List HS × Int => ref08_Nodes.b1 k L s.1 s.2) (I := fun s => 0 ≤ s.2 ∧ s.2 ≤ 64 ∧ s.1.length = 128 ∧ ∀ b : Nat, (b : Int) < s.2 → s.1.getD (64 + b) z32 = L.getD b z32) (m := fun s => (64 - s.2).toNat)
    (fun w => GX w L (fun m => (63 : Int) < m)) ?_ k (List.replicate 128 z32, (0 : Int)) ⟨Int.le_refl _, by show (0 : Int) ≤ 64; omega, by simp, fun b hb => by have : (b : Int) < 0 := hb; omega⟩ (by show (64 - (0 : Int)).toNat < k; omega)
  · obtain ⟨w, hw1, hw2⟩ := hA
    have hlp := loop_inv (body := fun s : List HS × Int => ref08_Nodes.b2 k s.1 s.2) (I := fun s => 0 ≤ s.2 ∧ s.2 ≤ 63 ∧ GX s.1 L (fun m => s.2 < m)) (m := fun s => s.2.toNat) (fun t => GL t L) ?_ k
      (w, (63 : Int)) ⟨by show (0 : Int) ≤ 63; omega, Int.le_refl _, hw2⟩ (by show Int.toNat 63 < k; omega)
    · obtain ⟨t, h2, h3⟩ := hlp
      exact ⟨t, by simp only [ref08_Nodes, h1, hw1, h2, Option.bind_some], h3⟩
    · rintro ⟨t, x⟩ ⟨h2, h3, h4⟩
      simp only at h2 h3 h4
      obtain ⟨n, rfl⟩ : ∃ n : Nat, x = n := ⟨x.toNat, by omega⟩
      have hlen := h4.1
      by_cases hn : (n : Int) ≥ 1
      · left
        have e1 := w2 n (by omega)
        have e2 : w64 (((2 * n : Nat) : Int) + 1) = ((2 * n + 1 : Nat) : Int) := w64_succ (by omega)
        have e4 : w64 ((n : Int) - 1) = ((n - 1 : Nat) : Int) := by rw [w64_id (by omega) (by omega)]; omega
        have e5 : ∀ a b : HS, ref03_Sum k ([1] ++ a.toList ++ b.toList) = some (nd a b) := fun a b => by
          rw [refSumK hk _ (by simp)]
          simp [nd]
        refine ⟨(t.set n (nd (t.getD (2 * n) z32) (t.getD (2 * n + 1) z32)), ((n - 1 : Nat) : Int)), ?_, ⟨by show (0 : Int) ≤ _; omega, by show ((n - 1 : Nat) : Int) ≤ 63; omega, ?_⟩, by show ((n - 1 : Nat) : Int).toNat < (n : Int).toNat; omega⟩
        · simp only [ref08_Nodes.b2, lt1, dec_t hn, if_true, e1, e2, inOn t (2 * n) (by omega), inOn t (2 * n + 1) (by omega), inOn t n (by omega), getN? t (2 * n) (by omega), getN? t (2 * n + 1) (by omega), Option.bind_some, sub32,
            apL_ok (show (([1] : List UInt8).length + (Vector.toList (t.getD (2 * n) z32)).length) * 1 ≤ 140737488355328 by simp), apL_ok (show (([1] ++ Vector.toList (t.getD (2 * n) z32)).length + (Vector.toList (t.getD (2 * n + 1) z32)).length) * 1 ≤ 140737488355328 by simp), e5, setO'_ok (show n < t.length by omega), e4]
        · refine h4.step (by omega) (by omega) fun m hm1 hm2 hok => ?_
          have hok : ((n - 1 : Nat) : Int) < m := hok
          by_cases hmn : m = n
          · exact .inl hmn
          · exact .inr ⟨by omega, by omega, by omega⟩
      · right
        refine ⟨t, ?_, ⟨h4.1, hl, h4.2.1, fun m hm1 hm2 => h4.2.2 m hm1 hm2 (by omega)⟩⟩
        simp only [ref08_Nodes.b2, lt1, dec_f hn, Bool.false_eq_true, if_false]
  · rintro ⟨t, x⟩ ⟨h2, h3, h4, h5⟩
    simp only at h2 h3 h4 h5
    obtain ⟨n, rfl⟩ : ∃ n : Nat, x = n := ⟨x.toNat, by omega⟩
    by_cases hn : (n : Int) < 64
    · left
      have e1 : w64 (64 + (n : Int)) = ((64 + n : Nat) : Int) := by rw [w64_id (by omega) (by omega)]; omega
      refine ⟨(t.set (64 + n) (L.getD n z32), ((n + 1 : Nat) : Int)), ?_, ⟨by show (0 : Int) ≤ _; omega, by show ((n + 1 : Nat) : Int) ≤ 64; omega, by simpa using h4, fun b hb => ?_⟩, by show (64 - ((n + 1 : Nat) : Int)).toNat < (64 - (n : Int)).toNat; omega⟩
      · have e2 : idxL L (n : Int) = some (L.getD n z32) := by rw [idxL_lt (show n < L.length by omega), List.getD_eq_getElem?_getD, List.getElem?_eq_getElem (by omega)]; rfl
        simp only [ref08_Nodes.b1, lt1, dec_t hn, if_true, e1, e2, inOn t (64 + n) (by omega), setO'_ok (show 64 + n < t.length by omega), w64_succ (show n < 9223372036854775807 by omega), Option.bind_some]
      · have hb : (b : Int) < ((n + 1 : Nat) : Int) := hb
        show (t.set (64 + n) (L.getD n z32)).getD (64 + b) z32 = _
        rw [getD_set _ _ _ _ (by omega)]
        by_cases hbn : n = b
        · subst hbn; simp
        · rw [if_neg (by omega)]; exact h5 b (by omega)
    · right
      refine ⟨t, ?_, h4, fun b hb => h5 b (by omega), fun m hm1 hm2 hok => ?_⟩
      · simp only [ref08_Nodes.b1, lt1, dec_f hn, Bool.false_eq_true, if_false]
      · have hok : (63 : Int) < (m : Int) := hok
        omega
theorem rsame_eq (k : Nat) (a b : List HS) (ha : a.length < k) (hs : a.length ≤ 1000000) : ref08_Same_ov k b a = some (decide (a = b)) := by
  by_cases hl : a.length = b.length
  · have hb : (((a.length : Nat) : Int) != ((b.length : Nat) : Int)) = false := by simp [hl]
    have h1 := loop_all (body := fun s => ref08_Same_ov.b1 k a b s) a.length (fun i => a[i]? = b[i]?) (b := false) ?_ ?_ ha
    · simp only [ref08_Same_ov, lt1, hb, Bool.false_eq_true, if_false, h1]
      have : (∀ i, i < a.length → a[i]? = b[i]?) ↔ a = b := ⟨fun h => List.ext_getElem? fun i => by
        by_cases hi : i < a.length
        · exact h i hi
        · rw [List.getElem?_eq_none (by omega), List.getElem?_eq_none (by omega)], fun h i _ => by rw [h]⟩
      by_cases he : a = b
      · rw [if_pos (this.2 he), he]; simp
      · rw [if_neg (fun h => he (this.1 h))]; simp [he]
    · intro i hi
      have e1 : a[i]? = some a[i] := List.getElem?_eq_getElem hi
      simp only [ref08_Same_ov.b1, lt1, dec_t (show (i : Int) < (a.length : Int) by omega), if_true, inOn a i hi, e1, idxL_lt (show i < b.length by omega), Option.bind_some, eqH, w64_succ (show i < 9223372036854775807 by omega)]
      rw [List.getElem?_eq_getElem (show i < b.length by omega)]
      by_cases he : a[i] = b[i]'(by omega) <;> simp [he]
    · simp only [ref08_Same_ov.b1, lt1, dec_f (show ¬ (a.length : Int) < (a.length : Int) by omega), Bool.false_eq_true, if_false]
  · have hb : (((a.length : Nat) : Int) != ((b.length : Nat) : Int)) = true := by simp; omega
    have : a ≠ b := fun h => hl (by rw [h])
    simp only [ref08_Same_ov, lt1, hb, if_true, this, decide_false]
theorem root_eq (k : Nat) (t : merkle_Tree) (hi : t.is = true) : merkle_Tree_Root k t = some (t.n.toList.getD 1 z32) := by
  have hn0 : (!t.is) = false := by rw [hi]; rfl
  have i1 : inV 128 (1 : Int) = some ⟨1, by decide⟩ := inV128 1 (by decide)
  simp only [merkle_Tree_Root, there_eq, Option.bind_some, lt1, hn0, Bool.false_eq_true, if_false, i1, getV_getD]
theorem clear_loop {k : Nat} (hk : 200 ≤ k) (l : List HS) (hl : l.length = 64) : ∃ u, loopO (fun s => law08_stands.b2 k s.1 s.2) k (l, (0 : Int)) = some u := by
  have := loop_inv (body := fun s : List HS × Int => law08_stands.b2 k s.1 s.2) (I := fun s => 0 ≤ s.2 ∧ s.2 ≤ 64 ∧ s.1.length = 64) (m := fun s => (64 - s.2).toNat) (fun _ => True) ?_ k (l, (0 : Int)) ⟨Int.le_refl _, by show (0 : Int) ≤ 64; omega, hl⟩ (by show (64 - (0 : Int)).toNat < k; omega)
  · obtain ⟨u, h1, _⟩ := this; exact ⟨u, h1⟩
  · rintro ⟨t, x⟩ ⟨h2, h3, h4⟩
    simp only at h2 h3 h4
    obtain ⟨n, rfl⟩ : ∃ n : Nat, x = n := ⟨x.toNat, by omega⟩
    by_cases hn : (n : Int) < (t.length : Int)
    · left
      refine ⟨(t.set n z32, ((n + 1 : Nat) : Int)), ?_, ⟨by show (0 : Int) ≤ _; omega, by show ((n + 1 : Nat) : Int) ≤ 64; omega, by simpa using h4⟩, by show (64 - ((n + 1 : Nat) : Int)).toNat < (64 - (n : Int)).toNat; omega⟩
      simp only [law08_stands.b2, lt1, dec_t hn, if_true, inOn t n (by omega), setO'_ok (show n < t.length by omega), w64_succ (show n < 9223372036854775807 by omega), Option.bind_some]
    · right
      exact ⟨(), by simp only [law08_stands.b2, lt1, dec_f hn, Bool.false_eq_true, if_false], trivial⟩
theorem stands_eq {k : Nat} (hk : k = 4000) (t : merkle_Tree) (L : List HS) (hi : t.is = true) (h : GL t.n.toList L) : law08_stands k L t = some true := by
  obtain ⟨w, w1, w2'⟩ := nodes_eq hk L h.len'
  have hwl := w2'.len
  have hw := h.eq w2'
  have hlp := loop_inv (body := fun s : Int => law08_stands.b1 k t w s) (I := fun s => -1 ≤ s ∧ s ≤ 130) (m := fun s => (130 - s).toNat) (fun u => u = .inl ()) ?_ k (-1 : Int) ⟨Int.le_refl _, by omega⟩ (by omega)
  · obtain ⟨u, h1, rfl⟩ := hlp
    obtain ⟨u', h2⟩ := clear_loop (show 200 ≤ k by omega) L h.len'
    have h3 : ref08_Same_ov k L L = some true := by rw [rsame_eq k L L (by rw [h.len']; omega) (by rw [h.len']; omega)]; simp
    have h4 : inO w (1 : Int) = some 1 := inOn w 1 (by omega)
    have h5 : w[1]? = some (t.n.toList.getD 1 z32) := by rw [getN? w 1 (by omega), hw 1 (by decide) (by decide)]
    simp only [law08_stands, w1, Option.bind_some, h1, leaves_eq k t L hi h, h3, lt1, Bool.not_true, Bool.false_eq_true, if_false, root_eq k t hi, h4, h5, eqH, decide_true, h2]
  · rintro x ⟨h2, h3⟩
    by_cases hn : x < 130
    · left
      have es : w64 (x + 1) = x + 1 := w64_id (by omega) (by omega)
      refine ⟨x + 1, ?_, ⟨by omega, by omega⟩, by omega⟩
      by_cases hin : 1 ≤ x ∧ x ≤ 127
      · obtain ⟨n, rfl⟩ : ∃ n : Nat, x = n := ⟨x.toNat, by omega⟩
        simp only [law08_stands.b1, lt1, dec_t hn, if_true, node_eq k t hi n (by omega) (by omega), Option.bind_some, dec_f (show ¬ (n : Int) < 1 by omega), dec_f (show ¬ (n : Int) > 127 by omega), cond_false, Bool.false_eq_true, if_false, inOn w n (by omega), getN? w n (by omega), hw n (by omega) (by omega), eqH, decide_true, Bool.not_true, Bool.not_false, num_eq, es]
        rfl
      · have h0 : (bif decide (x < 1) then true else decide (x > 127)) = true := by
          by_cases hx : x < 1
          · rw [dec_t hx]; rfl
          · rw [dec_f hx, dec_t (show x > 127 by omega)]; rfl
        simp only [law08_stands.b1, lt1, dec_t hn, if_true, node_bad k t hi x (by omega), Option.bind_some, h0, eqH, decide_true, Bool.not_true, Bool.not_false, cond_false, num_eq, es]
        rfl
    · right
      exact ⟨_, by simp only [law08_stands.b1, lt1, dec_f hn, Bool.false_eq_true, if_false], rfl⟩
end Go.Proofs.Ytbflmobpbjnekaa
