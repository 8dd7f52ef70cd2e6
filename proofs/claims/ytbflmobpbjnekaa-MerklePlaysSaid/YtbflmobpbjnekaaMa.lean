/- Trees: what they are by their leaves; each of their functions. -/
import Derived.Test.YtbflmobpbjnekaaX
import Derived.Test.YtbflmobpbjnekaaG
namespace Go.Proofs.Ytbflmobpbjnekaa
open Go Fw
set_option linter.unusedVariables false
set_option linter.unusedSimpArgs false

abbrev HS := Vector UInt8 32
abbrev z32 : HS := Vector.replicate 32 0
noncomputable def lf (b : Nat) (m : List UInt8) : HS := SHA ([0, UInt8.ofNat b] ++ m)
noncomputable def nd (a b : HS) : HS := SHA ([1] ++ (a.toList ++ b.toList))
/-- A tree's nodes, by its leaves. -/
structure GL (w L : List HS) : Prop where
  len : w.length = 128
  len' : L.length = 64
  leaf : ∀ b, b < 64 → w.getD (64 + b) z32 = L.getD b z32
  node : ∀ n, 1 ≤ n → n < 64 → w.getD n z32 = nd (w.getD (2 * n) z32) (w.getD (2 * n + 1) z32)
theorem GL.eq {w w' L : List HS} (h : GL w L) (k : GL w' L) : ∀ n, 1 ≤ n → n < 128 → w.getD n z32 = w'.getD n z32 := by
  have key : ∀ m n, 128 - n ≤ m → 1 ≤ n → n < 128 → w.getD n z32 = w'.getD n z32 := by
    intro m
    induction m with
    | zero => intro n h1 h2 h3; omega
    | succ m ih =>
      intro n h1 h2 h3
      by_cases hn : n < 64
      · rw [h.node n h2 hn, k.node n h2 hn, ih (2 * n) (by omega) (by omega) (by omega), ih (2 * n + 1) (by omega) (by omega) (by omega)]
      · obtain ⟨b, rfl⟩ : ∃ b, n = 64 + b := ⟨n - 64, by omega⟩
        rw [h.leaf b (by omega), k.leaf b (by omega)]
  exact fun n h2 h3 => key 128 n (by omega) h2 h3
theorem getD_set (l : List HS) (i j : Nat) (x : HS) (hi : i < l.length) : (l.set i x).getD j z32 = if i = j then x else l.getD j z32 := by
  rw [List.getD_eq_getElem?_getD, List.getElem?_set]
  by_cases h : i = j
  · subst h; simp [hi]
  · simp [h, List.getD_eq_getElem?_getD]
theorem getV_getD (v : Vector HS 128) (i : Nat) (h : i < 128) : getV v ⟨i, h⟩ = v.toList.getD i z32 := by
  simp [getV, List.getD_eq_getElem?_getD, h]
theorem putV_list (v : Vector HS 128) (i : Nat) (h : i < 128) (x : HS) : (putV v ⟨i, h⟩ x).toList = v.toList.set i x := by
  show (v.set i x h).toArray.toList = v.toArray.toList.set i x
  simp
theorem inV128 (n : Nat) (h : n < 128) : inV 128 (n : Int) = some ⟨n, h⟩ := inV_ok (by omega) (by simpa using h)
theorem w2 (n : Nat) (h : n < 1000) : w64 (2 * (n : Int)) = ((2 * n : Nat) : Int) := by rw [w64_id (by omega) (by omega)]; omega
theorem sub32 (v : HS) : subL v.toList (0 : Int) (32 : Int) = some v.toList := subL_all v
/-- A node is reckoned. -/
theorem inner_eq {k : Nat} (hk : k = 4000) (t : merkle_Tree) (n : Nat) (h1 : 1 ≤ n) (h2 : n < 64) :
    ∃ t', merkle_Tree_inner k (n : Int) t = some t' ∧ t'.is = t.is ∧ t'.n.toList = t.n.toList.set n (nd (t.n.toList.getD (2 * n) z32) (t.n.toList.getD (2 * n + 1) z32)) := by
  have e1 := w2 n (by omega)
  have e2 : w64 (((2 * n : Nat) : Int) + 1) = ((2 * n + 1 : Nat) : Int) := w64_succ (by omega)
  have h3 : ∀ a b : HS, sha_Sum k [[(1 : UInt8)], a.toList, b.toList] = some (nd a b) := fun a b => by
    rw [shaSumK hk _ (by simp) (by simp)]
    simp [nd]
  simp only [merkle_Tree_inner, lt1, e1, e2, inV128 (2 * n) (by omega), inV128 (2 * n + 1) (by omega), inV128 n (by omega), Option.bind_some, sub32, h3]
  exact ⟨_, rfl, rfl, by simp only [putV_list, getV_getD]⟩
/-- .. of a tree whose nodes are right but for these. -/
def GX (w L : List HS) (ok : Nat → Prop) : Prop := w.length = 128 ∧ (∀ b, b < 64 → w.getD (64 + b) z32 = L.getD b z32) ∧ ∀ n, 1 ≤ n → n < 64 → ok n → w.getD n z32 = nd (w.getD (2 * n) z32) (w.getD (2 * n + 1) z32)
theorem GX.step {w L : List HS} {ok ok' : Nat → Prop} {n : Nat} (h : GX w L ok) (h1 : 1 ≤ n) (h2 : n < 64) (hn : ∀ m, 1 ≤ m → m < 64 → ok' m → m = n ∨ (ok m ∧ 2 * m ≠ n ∧ 2 * m + 1 ≠ n)) :
    GX (w.set n (nd (w.getD (2 * n) z32) (w.getD (2 * n + 1) z32))) L ok' := by
  obtain ⟨g1, g2, g3⟩ := h
  refine ⟨by simpa using g1, fun b hb => ?_, fun m hm1 hm2 hok => ?_⟩
  · rw [getD_set _ _ _ _ (by omega), if_neg (by omega)]; exact g2 b hb
  · rw [getD_set _ _ _ _ (by omega), getD_set _ _ _ _ (by omega), getD_set _ _ _ _ (by omega)]
    rcases hn m hm1 hm2 hok with rfl | ⟨k1, k2, k3⟩
    · rw [if_pos rfl, if_neg (show ¬ m = 2 * m by omega), if_neg (show ¬ m = 2 * m + 1 by omega)]
    · rw [if_neg (fun h : n = 2 * m => k2 h.symm), if_neg (fun h : n = 2 * m + 1 => k3 h.symm)]
      by_cases hmn : n = m
      · subst hmn; rw [if_pos rfl]
      · rw [if_neg hmn]; exact g3 m hm1 hm2 k1
/-- A tree of leaves. -/
theorem of_eq {k : Nat} (hk : k = 4000) (l : List HS) (hl : l.length = 64) : ∃ t, merkle_Of k l = some (.inl t) ∧ t.is = true ∧ GL t.n.toList l := by
  have hb : (((l.length : Nat) : Int) != 64) = false := by rw [hl]; rfl
  have hlp := loop_inv (body := fun s : merkle_Tree × Int => merkle_Of.b1 k s.1 s.2) (I := fun s => s.1.is = true ∧ 0 ≤ s.2 ∧ s.2 ≤ 63 ∧ GX s.1.n.toList l (fun m => s.2 < m)) (m := fun s => s.2.toNat) (fun t => t.is = true ∧ GL t.n.toList l) ?_ k
    (merkle_Tree.mk (cpV (Vector.replicate 128 z32) 64 (128 - 64) l) true, (63 : Int)) ⟨rfl, by show (0 : Int) ≤ 63; omega, Int.le_refl _, ?_⟩ (by subst hk; show Int.toNat 63 < 4000; decide)
  · obtain ⟨t, h1, h2, h3⟩ := hlp
    refine ⟨t, ?_, h2, h3⟩
    simp only [merkle_Of, lt1, hb, Bool.false_eq_true, if_false, h1, Option.bind_some]
  · rintro ⟨t, x⟩ ⟨h1, h2, h3, h4⟩
    simp only at h1 h2 h3 h4
    obtain ⟨n, rfl⟩ : ∃ n : Nat, x = n := ⟨x.toNat, by omega⟩
    by_cases hn : (n : Int) > 0
    · left
      obtain ⟨t', e1, e2, e3⟩ := inner_eq hk t n (by omega) (by omega)
      have e4 : w64 ((n : Int) - 1) = ((n - 1 : Nat) : Int) := by rw [w64_id (by omega) (by omega)]; omega
      refine ⟨(t', ((n - 1 : Nat) : Int)), ?_, ⟨e2.trans h1, by show (0 : Int) ≤ _; omega, by show ((n - 1 : Nat) : Int) ≤ 63; omega, ?_⟩, by show ((n - 1 : Nat) : Int).toNat < (n : Int).toNat; omega⟩
      · simp only [merkle_Of.b1, lt1, dec_t hn, if_true, e1, Option.bind_some, e4]
      · show GX t'.n.toList l _
        rw [e3]
        refine h4.step (by omega) (by omega) fun m hm1 hm2 hok => ?_
        have hok : ((n - 1 : Nat) : Int) < m := hok
        by_cases hmn : m = n
        · exact .inl hmn
        · exact .inr ⟨by omega, by omega, by omega⟩
    · right
      refine ⟨t, ?_, h1, ⟨h4.1, hl, h4.2.1, fun m hm1 hm2 => h4.2.2 m hm1 hm2 (by omega)⟩⟩
      simp only [merkle_Of.b1, lt1, dec_f hn, Bool.false_eq_true, if_false]
  · refine ⟨by simp, fun b hb => ?_, fun m hm1 hm2 hok => ?_⟩
    · have : (cpV (Vector.replicate 128 z32) 64 (128 - 64) l)[64 + b]'(by omega) = l[b]'(by omega) := by
        simp [cpV, show b < 64 by omega, show b < l.length by omega]
      rw [List.getD_eq_getElem?_getD, List.getD_eq_getElem?_getD, List.getElem?_eq_getElem (by simp; omega), List.getElem?_eq_getElem (by omega)]
      simp only [Option.getD_some, Vector.getElem_toList]
      exact this
    · have hok : (63 : Int) < (m : Int) := hok
      omega
/-- A leaf. -/
theorem leaf_eq {k : Nat} (hk : k = 4000) (b : Nat) (hb : b < 64) (m : List UInt8) (hm : m.length ≤ 100000) : merkle_Leaf k (b : Int) m = some (lf b m, 0) := by
  have h3 : sha_Sum k [[(0 : UInt8), UInt8.ofNat b], m] = some (lf b m) := by
    rw [shaSumK hk _ (by simp) (by simp; omega)]
    simp [lf]
  simp only [merkle_Leaf, lt1, dec_f (show ¬ (b : Int) < 0 by omega), dec_f (show ¬ (b : Int) ≥ 64 by omega), cond_false, Option.bind_some, Bool.false_eq_true, if_false, ofI_u8, h3]
theorem leaf_bad (k : Nat) (b : Int) (hb : b < 0 ∨ b ≥ 64) (m : List UInt8) : merkle_Leaf k b m = some (z32, 2) := by
  have : (bif decide (b < 0) then true else decide (b ≥ 64)) = true := by
    rcases hb with h | h
    · rw [dec_t h]; rfl
    · rw [dec_t h]; cases decide (b < 0) <;> rfl
  simp only [merkle_Leaf, lt1, this, Option.bind_some, if_true]
theorem there_eq (k : Nat) (t : merkle_Tree) : merkle_Tree_there k t = some () := rfl
/-- A bucket is set. -/
theorem set_eq {k : Nat} (hk : k = 4000) (t : merkle_Tree) (L : List HS) (hi : t.is = true) (h : GL t.n.toList L) (b : Nat) (hb : b < 64) (m : List UInt8) (hm : m.length ≤ 100000) :
    ∃ t', merkle_Tree_Set k (b : Int) m t = some (0, t') ∧ t'.is = true ∧ GL t'.n.toList (L.set b (lf b m)) := by
  have e1 : w64 (64 + (b : Int)) = ((64 + b : Nat) : Int) := by rw [w64_id (by omega) (by omega)]; omega
  have hn0 : (!t.is) = false := by rw [hi]; rfl
  have hz : ((0 : Int) != 0) = false := rfl
  have hdiv : ∀ n : Nat, n < 1000 → divI (n : Int) 2 = some ((n / 2 : Nat) : Int) := fun n hn => div2 n (by omega)
  by_cases he : t.n.toList.getD (64 + b) z32 = lf b m
  · refine ⟨t, ?_, hi, ?_⟩
    · have : eqV (fun x y => x == y) (getV t.n ⟨64 + b, by omega⟩) (lf b m) = true := (eqV_iff (fun _ _ => beq_iff_eq)).2 (by rw [getV_getD, he])
      simp only [merkle_Tree_Set, there_eq, Option.bind_some, lt1, hn0, Bool.false_eq_true, if_false, leaf_eq hk b hb m hm, hz, e1, inV128 (64 + b) (by omega), this, if_true]
    · have : L.set b (lf b m) = L := by
        rw [← he, h.leaf b hb]
        apply List.ext_getElem?
        intro i
        rw [List.getElem?_set]
        by_cases hib : b = i
        · subst hib; have := h.len'; simp [this, hb, List.getD_eq_getElem?_getD]
        · simp [hib]
      rw [this]; exact h
  · have hne : eqV (fun x y => x == y) (getV t.n ⟨64 + b, by omega⟩) (lf b m) = false := by
      rw [Bool.eq_false_iff]; intro h1; exact he (by rw [← getV_getD _ _ (by omega)]; exact (eqV_iff (fun _ _ => beq_iff_eq)).1 h1)
    have hlp := loop_inv (body := fun s : merkle_Tree × Int => merkle_Tree_Set.b1 k s.1 s.2) (I := fun s => s.1.is = true ∧ 0 ≤ s.2 ∧ s.2 ≤ 63 ∧ GX s.1.n.toList (L.set b (lf b m)) (fun m => ∀ j, m ≠ s.2.toNat / 2 ^ j)) (m := fun s => s.2.toNat) (fun t => t.is = true ∧ GL t.n.toList (L.set b (lf b m))) ?_ k
      (({ t with n := putV t.n ⟨64 + b, by omega⟩ (lf b m) } : merkle_Tree), (((64 + b) / 2 : Nat) : Int)) ⟨hi, by show (0 : Int) ≤ _; omega, by show (((64 + b) / 2 : Nat) : Int) ≤ 63; omega, ?_⟩ (by subst hk; show Int.toNat (((64 + b) / 2 : Nat) : Int) < 4000; omega)
    · obtain ⟨t', h1, h2, h3⟩ := hlp
      refine ⟨t', ?_, h2, h3⟩
      simp only [merkle_Tree_Set, there_eq, Option.bind_some, lt1, hn0, Bool.false_eq_true, if_false, leaf_eq hk b hb m hm, hz, e1, inV128 (64 + b) (by omega), hne, hdiv (64 + b) (by omega), h1]
    · rintro ⟨t, x⟩ ⟨h1, h2, h3, h4⟩
      simp only at h1 h2 h3 h4
      obtain ⟨n, rfl⟩ : ∃ n : Nat, x = n := ⟨x.toNat, by omega⟩
      rw [Int.toNat_natCast] at h4
      by_cases hn : (n : Int) > 0
      · left
        obtain ⟨t', e1, e2, e3⟩ := inner_eq hk t n (by omega) (by omega)
        refine ⟨(t', ((n / 2 : Nat) : Int)), ?_, ⟨e2.trans h1, by show (0 : Int) ≤ _; omega, by show ((n / 2 : Nat) : Int) ≤ 63; omega, ?_⟩, by show ((n / 2 : Nat) : Int).toNat < (n : Int).toNat; omega⟩
        · simp only [merkle_Tree_Set.b1, lt1, dec_t hn, if_true, e1, Option.bind_some, hdiv n (by omega)]
        · show GX t'.n.toList _ _
          rw [e3]
          refine h4.step (by omega) (by omega) fun m hm1 hm2 hok => ?_
          have hok : ∀ j, m ≠ (n / 2) / 2 ^ j := hok
          by_cases hmn : m = n
          · exact .inl hmn
          · have h0 := hok 0
            simp only [Nat.pow_zero, Nat.div_one] at h0
            refine .inr ⟨fun j => ?_, by omega, by omega⟩
            cases j with
            | zero => simpa using hmn
            | succ j => rw [Nat.pow_succ, Nat.mul_comm, ← Nat.div_div_eq_div_mul]; exact hok j
      · right
        have hn0 : n = 0 := by omega
        subst hn0
        refine ⟨t, ?_, h1, ⟨h4.1, by simpa using h.len', h4.2.1, fun m hm1 hm2 => h4.2.2 m hm1 hm2 (fun j => by rw [Nat.zero_div]; omega)⟩⟩
        simp only [merkle_Tree_Set.b1, lt1, dec_f hn, Bool.false_eq_true, if_false]
    · show GX (putV t.n _ _).toList _ _
      rw [putV_list]
      refine ⟨by simp, fun c hc => ?_, fun m hm1 hm2 hok => ?_⟩
      · rw [getD_set _ _ _ _ (by simp; omega), getD_set _ _ _ _ (by rw [h.len']; exact hb)]
        by_cases hbc : b = c
        · subst hbc; simp
        · rw [if_neg (by omega), if_neg hbc]; exact h.leaf c hc
      · have hok : ∀ j, m ≠ ((64 + b) / 2) / 2 ^ j := hok
        have h0 := hok 0
        simp only [Nat.pow_zero, Nat.div_one] at h0
        rw [getD_set _ _ _ _ (by simp; omega), getD_set _ _ _ _ (by simp; omega), getD_set _ _ _ _ (by simp; omega), if_neg (by omega), if_neg (by omega), if_neg (by omega)]
        exact h.node m hm1 hm2
theorem set_bad (k : Nat) (t : merkle_Tree) (hi : t.is = true) (b : Int) (hb : b < 0 ∨ b ≥ 64) (m : List UInt8) : merkle_Tree_Set k b m t = some (2, t) := by
  have hn0 : (!t.is) = false := by rw [hi]; rfl
  have hz : ((2 : Int) != 0) = true := rfl
  simp only [merkle_Tree_Set, there_eq, Option.bind_some, lt1, hn0, Bool.false_eq_true, if_false, leaf_bad k b hb m, hz, if_true]
/-- A tree's leaves. -/
theorem leaves_eq (k : Nat) (t : merkle_Tree) (L : List HS) (hi : t.is = true) (h : GL t.n.toList L) : merkle_Tree_Leaves k t = some L := by
  have hn0 : (!t.is) = false := by rw [hi]; rfl
  have h1 : mkL 32 (64 : Int) z32 = some (List.replicate 64 z32) := mkL_ok (by decide) (by decide) (by decide)
  have h2 : subL t.n.toList (64 : Int) (128 : Int) = some ((t.n.toList.drop 64).take 64) := by rw [subL_ok (by decide) (by decide) (by simp)]; rfl
  have h3 : cpL (List.replicate 64 z32) ((t.n.toList.drop 64).take 64) = L := by
    simp only [cpL, List.length_replicate]
    have hd : (List.replicate 64 z32).drop ((t.n.toList.drop 64).take 64).length = [] := List.drop_eq_nil_of_le (by simp)
    rw [hd, List.take_take, Nat.min_self, List.append_nil, List.take_of_length_le (by simp)]
    apply List.ext_getElem (by simp [h.len'])
    intro i h1 h2
    have h3 := h.leaf i (by rw [← h.len']; exact h2)
    rw [List.getD_eq_getElem?_getD, List.getD_eq_getElem?_getD, List.getElem?_eq_getElem (by simp; rw [h.len'] at h2; omega), List.getElem?_eq_getElem h2] at h3
    rw [List.getElem_drop]
    simpa using h3
  simp only [merkle_Tree_Leaves, there_eq, Option.bind_some, lt1, hn0, Bool.false_eq_true, if_false, h1, h2, h3]
noncomputable def Em : List HS := (List.range 64).map fun b => lf b []
theorem Em_len : Em.length = 64 := by simp [Em]
theorem new_eq {k : Nat} (hk : k = 4000) : ∃ t, merkle_New k = some (.inl t) ∧ t.is = true ∧ GL t.n.toList Em := by
  have h1 : loopO (fun s => merkle_New.b1 k s.1 s.2) k (([] : List HS), (0 : Int)) = some Em := by
    refine loop_nat (n := 64) (fun i => (List.range i).map fun b => lf b []) _ ?_ ?_ (by omega) rfl
    · intro i hi
      simp only [merkle_New.b1, lt1, dec_t (show (i : Int) < 64 by omega), if_true, leaf_eq hk i hi [] (by simp), Option.bind_some, apL_ok (show (((List.range i).map fun b => lf b []).length + [lf i []].length) * 32 ≤ 140737488355328 by simp; omega), w64_succ (show i < 9223372036854775807 by omega)]
      rw [List.range_succ, List.map_append]; rfl
    · simp only [merkle_New.b1, lt1, dec_f (show ¬ ((64 : Nat) : Int) < 64 by omega), Bool.false_eq_true, if_false]; rfl
  obtain ⟨t, h2, h3, h4⟩ := of_eq hk Em Em_len
  exact ⟨t, by simp only [merkle_New, h1, h2, Option.bind_some], h3, h4⟩
theorem eqH (a b : HS) : eqV (fun x y => x == y) a b = decide (a = b) := by
  rw [Bool.eq_iff_iff, decide_eq_true_eq]; exact eqV_iff (fun _ _ => beq_iff_eq)
theorem equalL (k : Nat) (a b : List HS) (ha : a.length < k) (hs : a.length ≤ 1000000) : slices_Equalapi_Hash_api_Hash k a b = some (decide (a = b)) := by
  by_cases hl : a.length = b.length
  · have hb : (((a.length : Nat) : Int) != ((b.length : Nat) : Int)) = false := by simp [hl]
    have h1 := loop_all (body := fun s => slices_Equalapi_Hash_api_Hash.b1 k a b s) a.length (fun i => a[i]? = b[i]?) (b := false) ?_ ?_ ha
    · simp only [slices_Equalapi_Hash_api_Hash, lt1, hb, Bool.false_eq_true, if_false, h1]
      have : (∀ i, i < a.length → a[i]? = b[i]?) ↔ a = b := ⟨fun h => List.ext_getElem? fun i => by
        by_cases hi : i < a.length
        · exact h i hi
        · rw [List.getElem?_eq_none (by omega), List.getElem?_eq_none (by omega)], fun h i _ => by rw [h]⟩
      by_cases he : a = b
      · rw [if_pos (this.2 he), he]; simp
      · rw [if_neg (fun h => he (this.1 h))]; simp [he]
    · intro i hi
      simp only [slices_Equalapi_Hash_api_Hash.b1, lt1, dec_t (show (i : Int) < (a.length : Int) by omega), if_true, idxL_lt hi, idxL_lt (show i < b.length by omega), Option.bind_some, eqH, w64_succ (show i < 9223372036854775807 by omega)]
      rw [List.getElem?_eq_getElem hi, List.getElem?_eq_getElem (show i < b.length by omega)]
      by_cases he : a[i] = b[i]'(by omega) <;> simp [he]
    · simp only [slices_Equalapi_Hash_api_Hash.b1, lt1, dec_f (show ¬ (a.length : Int) < (a.length : Int) by omega), Bool.false_eq_true, if_false]
  · have hb : (((a.length : Nat) : Int) != ((b.length : Nat) : Int)) = true := by simp; omega
    have : a ≠ b := fun h => hl (by rw [h])
    simp only [slices_Equalapi_Hash_api_Hash, lt1, hb, if_true, this, decide_false]
theorem same_eq (k : Nat) (hk : 200 ≤ k) (t o : merkle_Tree) (L M : List HS) (ht : t.is = true) (ho : o.is = true) (h : GL t.n.toList L) (g : GL o.n.toList M) : merkle_Tree_Same k t o = some (decide (L = M)) := by
  have hn0 : (!t.is) = false := by rw [ht]; rfl
  have hn1 : (!o.is) = false := by rw [ho]; rfl
  simp only [merkle_Tree_Same, there_eq, Option.bind_some, lt1, hn0, hn1, Bool.false_eq_true, if_false, leaves_eq k t L ht h, leaves_eq k o M ho g, equalL k L M (by rw [h.len']; omega) (by rw [h.len']; omega)]
theorem node_eq (k : Nat) (t : merkle_Tree) (hi : t.is = true) (n : Nat) (h1 : 1 ≤ n) (h2 : n < 128) : merkle_Tree_Node k (n : Int) t = some (t.n.toList.getD n z32, 0) := by
  have hn0 : (!t.is) = false := by rw [hi]; rfl
  simp only [merkle_Tree_Node, there_eq, Option.bind_some, lt1, hn0, Bool.false_eq_true, if_false, dec_f (show ¬ (n : Int) < 1 by omega), dec_f (show ¬ (n : Int) ≥ 128 by omega), cond_false, inV128 n h2, getV_getD]
theorem node_bad (k : Nat) (t : merkle_Tree) (hi : t.is = true) (n : Int) (h : n < 1 ∨ n ≥ 128) : merkle_Tree_Node k n t = some (z32, 2) := by
  have hn0 : (!t.is) = false := by rw [hi]; rfl
  have : (bif decide (n < 1) then true else decide (n ≥ 128)) = true := by
    rcases h with h | h
    · rw [dec_t h]; rfl
    · rw [dec_t h]; cases decide (n < 1) <;> rfl
  simp only [merkle_Tree_Node, there_eq, Option.bind_some, lt1, hn0, Bool.false_eq_true, if_false, this, if_true]
theorem num_eq (k : Nat) (n : Int) : law08_num k n = some () := rfl
end Go.Proofs.Ytbflmobpbjnekaa
