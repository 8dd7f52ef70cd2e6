/- The plain law MerklePlays. -/
import Derived.Test.YtbflmobpbjnekaaMe
namespace Go.Proofs.Ytbflmobpbjnekaa
open Go Fw
set_option linter.unusedVariables false
set_option linter.unusedSimpArgs false

theorem rleaf_eq {k : Nat} (hk : k = 4000) (n : Nat) (m : List UInt8) (hm : m.length ≤ 100000) : ref08_Leaf k (n : Int) m = some (lf n m) := by
  simp only [ref08_Leaf, lt1, ofI_u8, apL_ok (show (([0, UInt8.ofNat n] : List UInt8).length + m.length) * 1 ≤ 140737488355328 by show (2 + m.length) * 1 ≤ _; omega), Option.bind_some, refSumK hk ([0, UInt8.ofNat n] ++ m) (by simp; omega)]
  rfl
theorem empty_eq {k : Nat} (hk : k = 4000) : ref08_Empty k = some Em := by
  have h1 : loopO (fun s => ref08_Empty.b1 k s.1 s.2) k (([] : List HS), (0 : Int)) = some Em := by
    refine loop_nat (n := 64) (fun i => (List.range i).map fun b => lf b []) _ ?_ ?_ (by omega) rfl
    · intro i hi
      simp only [ref08_Empty.b1, lt1, dec_t (show (i : Int) < 64 by omega), if_true, rleaf_eq hk i [] (by simp), Option.bind_some, apL_ok (show (((List.range i).map fun b => lf b []).length + [lf i []].length) * 32 ≤ 140737488355328 by simp; omega), w64_succ (show i < 9223372036854775807 by omega)]
      rw [List.range_succ, List.map_append]; rfl
    · simp only [ref08_Empty.b1, lt1, dec_f (show ¬ ((64 : Nat) : Int) < 64 by omega), Bool.false_eq_true, if_false]; rfl
  simp only [ref08_Empty, h1, Option.bind_some]
theorem set_steps {k : Nat} (hk : k = 4000) (l : List law08_Step) (hl : l.length ≤ 40) (hs : ∀ j (h : j < l.length), l[j].B.length ≤ 9000) (t : merkle_Tree) (L : List HS) (hi : t.is = true) (h : GL t.n.toList L) :
    ∃ (t' : merkle_Tree) (L' : List HS), law08_set_pov k l t L = some (true, t', L') ∧ t'.is = true ∧ GL t'.n.toList L' := by
  have := loop_inv (body := fun s : merkle_Tree × List HS × Int => law08_set_pov.b1 k l s.1 s.2.1 s.2.2) (I := fun s => 0 ≤ s.2.2 ∧ s.2.2 ≤ l.length ∧ s.1.is = true ∧ GL s.1.n.toList s.2.1) (m := fun s => (l.length - s.2.2).toNat) (fun u => ∃ t' L', u = .inl (t', L') ∧ t'.is = true ∧ GL t'.n.toList L') ?_ k (t, L, (0 : Int)) ⟨Int.le_refl _, by show (0 : Int) ≤ _; omega, hi, h⟩ (by show ((l.length : Int) - 0).toNat < k; omega)
  · obtain ⟨u, h1, t', L', rfl, h2, h3⟩ := this
    exact ⟨t', L', by simp only [law08_set_pov, h1, Option.bind_some], h2, h3⟩
  · rintro ⟨t, L, x⟩ ⟨h2, h3, h4, h5⟩
    simp only at h2 h3 h4 h5
    obtain ⟨i, rfl⟩ : ∃ i : Nat, x = i := ⟨x.toNat, by omega⟩
    by_cases hlt : (i : Int) < (l.length : Int)
    · left
      have hB := hs i (by omega)
      have hx := idxL_lt (show i < l.length by omega)
      have ha : apL 1 ([] : List UInt8) l[i].B = some l[i].B := by rw [apL_ok (by simp; omega)]; rfl
      have hne : (l[i].B != l[i].B) = false := by simp
      rcases step_eq hk t L h4 h5 l[i].Bucket l[i].B (by omega) with ⟨hb, h6⟩ | ⟨n, t', hb, hn, h6, h7, h8⟩
      · refine ⟨(t, L, ((i + 1 : Nat) : Int)), ?_, ⟨by show (0 : Int) ≤ ((i + 1 : Nat) : Int); omega, by show ((i + 1 : Nat) : Int) ≤ (l.length : Int); omega, h4, h5⟩, by show ((l.length : Int) - ((i + 1 : Nat) : Int)).toNat < ((l.length : Int) - (i : Int)).toNat; omega⟩
        have h0 : (bif decide (l[i].Bucket < 0) then true else decide (l[i].Bucket ≥ 64)) = true := by
          rcases hb with hb | hb
          · rw [dec_t hb]; rfl
          · rw [dec_f (show ¬ l[i].Bucket < 0 by omega), dec_t hb]; rfl
        have b2 : ((2 : Int) != 2) = false := rfl
        by_cases hlo : l[i].Bucket < 0
        · simp only [law08_set_pov.b1, lt1, dec_t hlt, if_true, hx, ha, h6, leaf_bad k _ hb, hne, Bool.false_eq_true, if_false, Option.bind_some, dec_t hlo, Bool.not_true, cond_true, num_eq, b2, Bool.not_false, cond_false, eqH, decide_true, w64_succ (show i < 9223372036854775807 by omega)]
        · simp only [law08_set_pov.b1, lt1, dec_t hlt, if_true, hx, ha, h6, leaf_bad k _ hb, hne, Bool.false_eq_true, if_false, Option.bind_some, dec_f hlo, dec_t (show l[i].Bucket ≥ 64 by omega), Bool.not_true, cond_true, num_eq, b2, Bool.not_false, cond_false, eqH, decide_true, w64_succ (show i < 9223372036854775807 by omega)]
      · refine ⟨(t', L.set n (lf n l[i].B), ((i + 1 : Nat) : Int)), ?_, ⟨by show (0 : Int) ≤ ((i + 1 : Nat) : Int); omega, by show ((i + 1 : Nat) : Int) ≤ (l.length : Int); omega, h7, h8⟩, by show ((l.length : Int) - ((i + 1 : Nat) : Int)).toNat < ((l.length : Int) - (i : Int)).toNat; omega⟩
        have hL := h5.len'
        have e0 : w64 ((0 : Int) + 0) = 0 := w64_id (by decide) (by decide)
        have b0 : ((0 : Int) != 0) = false := rfl
        have hg : (L.set n (lf n l[i].B))[n]? = some (lf n l[i].B) := by rw [List.getElem?_set]; simp; omega
        have hl2 := leaf_eq hk n hn l[i].B (by omega)
        rw [← hb] at hl2
        have hr2 := rleaf_eq hk n l[i].B (by omega)
        rw [← hb] at hr2
        simp only [law08_set_pov.b1, lt1, dec_t hlt, if_true, hx, ha, h6, hl2, hne, Bool.false_eq_true, if_false, Option.bind_some, dec_f (show ¬ l[i].Bucket < 0 by omega), dec_f (show ¬ l[i].Bucket ≥ 64 by omega), Bool.not_false, cond_false, hr2]
        rw [hb]
        simp only [inOn L n (by omega), inOn (L.set n (lf n l[i].B)) n (by rw [List.length_set]; omega), setO'_ok (show n < L.length by omega), num_eq, Option.bind_some, e0, b0, hg, eqH, decide_true, Bool.not_true, Bool.false_eq_true, if_false, w64_succ (show i < 9223372036854775807 by omega)]
    · right
      exact ⟨_, by simp only [law08_set_pov.b1, lt1, dec_f hlt, Bool.false_eq_true, if_false], t, L, rfl, h4, h5⟩
theorem copy_eq (k : Nat) (t : merkle_Tree) (hi : t.is = true) : merkle_Tree_Copy k t = some (.inl ()) := by
  have hn0 : (!t.is) = false := by rw [hi]; rfl
  simp only [merkle_Tree_Copy, there_eq, Option.bind_some, lt1, hn0, Bool.false_eq_true, if_false]
theorem keepL_yes {α β : Type} {n : Nat} {p : β → List α} {b : β} (h : (p b).length = n) : keepL n p (some b) = some b := by
  simp only [keepL, Option.bind_some, h, if_true]
theorem ref_same2 : ref08_Same_ov'2 = ref08_Same_ov := rfl
theorem pure_MerklePlays (y0 : (List law08_Step)) (y1 : (List law08_Step)) (f0 : (List.length y0 * 32 ≤ 140737488351232 ∧ ∀ z0 ∈ y0, ((IntKind.min .i64 ≤ z0.Bucket ∧ z0.Bucket ≤ IntKind.max .i64) ∧ ((List.length z0.B * 1 ≤ 140737488351232 ∧ ∀ z1 ∈ z0.B, True) ∧ True)))) (f1 : (List.length y1 * 32 ≤ 140737488351232 ∧ ∀ z0 ∈ y1, ((IntKind.min .i64 ≤ z0.Bucket ∧ z0.Bucket ≤ IntKind.max .i64) ∧ ((List.length z0.B * 1 ≤ 140737488351232 ∧ ∀ z1 ∈ z0.B, True) ∧ True)))) : ∃ k, law08_MerklePlays k y0 y1 = some true := by
  obtain ⟨k, hk⟩ : ∃ k : Nat, k = 4000 := ⟨_, rfl⟩
  refine ⟨k, ?_⟩
  obtain ⟨b, b1, b2⟩ := much8 (show 200 ≤ k by omega) y0
  obtain ⟨c, c1, c2⟩ := much8 (show 200 ≤ k by omega) y1
  by_cases hb : b = true
  · subst hb
    simp only [law08_MerklePlays, b1, Option.bind_some, lt1, cond_true, if_true, known8 hk, Bool.not_true, Bool.false_eq_true, if_false]
  · have hb : b = false := by simpa using hb
    subst hb
    obtain ⟨hl, hs⟩ := b2 rfl
    by_cases hc : c = true
    · subst hc
      simp only [law08_MerklePlays, b1, c1, Option.bind_some, lt1, cond_false, if_true, known8 hk, Bool.not_false]
    · have hc : c = false := by simpa using hc
      subst hc
      obtain ⟨hl', hs'⟩ := c2 rfl
      obtain ⟨t, n1, n2, n3⟩ := new_eq hk
      obtain ⟨t', L', t1, t2, t3⟩ := set_steps hk y0 hl hs t Em n2 n3
      obtain ⟨t'', L'', u1, u2, u3⟩ := set_steps hk y1 hl' hs' t' L' t2 t3
      have h1 : apL 32 ([] : List HS) L' = some L' := by rw [apL_ok (by have := t3.len'; simp; omega)]; rfl
      have h2 : ref08_Same_ov k L' L'' = some (decide (L'' = L')) := rsame_eq k L'' L' (by rw [u3.len']; omega) (by rw [u3.len']; omega)
      simp only [law08_MerklePlays, b1, c1, Option.bind_some, lt1, cond_false, Bool.not_false, if_true, Bool.false_eq_true, if_false, n1, empty_eq hk, t1,
        keepL_yes (p := fun q : Bool × merkle_Tree × List HS => q.2.2) (b := (true, t', L')) (t3.len'.trans Em_len.symm), Bool.not_true, stands_eq hk t' L' t2 t3, copy_eq k t' t2, h1, u1,
        keepL_yes (p := fun q : Bool × merkle_Tree × List HS => q.2.2) (b := (true, t'', L'')) (u3.len'.trans t3.len'.symm), stands_eq hk t'' L'' u2 u3, same_eq k (show 200 ≤ k by omega) t'' t' L'' L' u2 t2 u3 t3, ref_same2, h2, beq_self_eq_true, known8 hk, cond_true]
end Go.Proofs.Ytbflmobpbjnekaa
