/- The plain law MerklePaths. -/
import Derived.Test.YtbflmobpbjnekaaMe
namespace Go.Proofs.Ytbflmobpbjnekaa
open Go Fw
set_option linter.unusedVariables false
set_option linter.unusedSimpArgs false

theorem steps_loop {k : Nat} (hk : k = 4000) (l : List law08_Step) (hl : l.length ≤ 40) (hs : ∀ j (h : j < l.length), l[j].B.length ≤ 9000) (t : merkle_Tree) (L : List HS) (hi : t.is = true) (h : GL t.n.toList L) :
    ∃ (t' : merkle_Tree) (L' : List HS), loopO (fun s => law08_MerklePaths.b1 k l s.1 s.2) k (t, (0 : Int)) = some t' ∧ t'.is = true ∧ GL t'.n.toList L' := by
  have := loop_inv (body := fun s : merkle_Tree × Int => law08_MerklePaths.b1 k l s.1 s.2) (I := fun s => 0 ≤ s.2 ∧ s.2 ≤ l.length ∧ s.1.is = true ∧ ∃ L, GL s.1.n.toList L) (m := fun s => (l.length - s.2).toNat) (fun t => t.is = true ∧ ∃ L, GL t.n.toList L) ?_ k (t, (0 : Int)) ⟨Int.le_refl _, by show (0 : Int) ≤ _; omega, hi, L, h⟩ (by show ((l.length : Int) - 0).toNat < k; omega)
  · obtain ⟨t', h1, h2, L', h3⟩ := this
    exact ⟨t', L', h1, h2, h3⟩
  · rintro ⟨t, x⟩ ⟨h2, h3, h4, L, h5⟩
    simp only at h2 h3 h4 h5
    obtain ⟨i, rfl⟩ : ∃ i : Nat, x = i := ⟨x.toNat, by omega⟩
    by_cases hlt : (i : Int) < (l.length : Int)
    · left
      have hx := idxL_lt (show i < l.length by omega)
      rcases step_eq hk t L h4 h5 l[i].Bucket l[i].B (by have := hs i (by omega); omega) with ⟨hb, h6⟩ | ⟨n, t', hb, hn, h6, h7, h8⟩
      · refine ⟨(t, ((i + 1 : Nat) : Int)), ?_, ⟨by show (0 : Int) ≤ _; omega, by show ((i + 1 : Nat) : Int) ≤ _; omega, h4, L, h5⟩, by show ((l.length : Int) - ((i + 1 : Nat) : Int)).toNat < ((l.length : Int) - (i : Int)).toNat; omega⟩
        simp only [law08_MerklePaths.b1, lt1, dec_t hlt, if_true, hx, h6, Option.bind_some, w64_succ (show i < 9223372036854775807 by omega)]
      · refine ⟨(t', ((i + 1 : Nat) : Int)), ?_, ⟨by show (0 : Int) ≤ _; omega, by show ((i + 1 : Nat) : Int) ≤ _; omega, h7, _, h8⟩, by show ((l.length : Int) - ((i + 1 : Nat) : Int)).toNat < ((l.length : Int) - (i : Int)).toNat; omega⟩
        simp only [law08_MerklePaths.b1, lt1, dec_t hlt, if_true, hx, h6, Option.bind_some, w64_succ (show i < 9223372036854775807 by omega)]
    · right
      exact ⟨t, by simp only [law08_MerklePaths.b1, lt1, dec_f hlt, Bool.false_eq_true, if_false], h4, L, h5⟩
theorem xor1 (n : Nat) (h : n < 128) : xorI (n : Int) 1 = ((if n % 2 = 0 then n + 1 else n - 1 : Nat) : Int) := by
  have e : (BitVec.ofInt 64 (n : Int) ^^^ BitVec.ofInt 64 1).toNat = n ^^^ 1 := by
    rw [BitVec.toNat_xor, BitVec.toNat_ofInt, BitVec.toNat_ofInt]
    congr 1
    omega
  have key : ∀ m, m < 128 → m ^^^ 1 = if m % 2 = 0 then m + 1 else m - 1 := by decide
  unfold xorI
  rw [e, key n h]
  exact w64_id (by omega) (by split <;> omega)
theorem mod2 (n : Nat) : modI (n : Int) 2 = some ((n % 2 : Nat) : Int) := by
  have : (n : Int).tmod 2 = ((n % 2 : Nat) : Int) := by rw [show (2 : Int) = ((2 : Nat) : Int) from rfl, Int.ofNat_tmod]
  simp only [modI, this]
  rw [if_neg (by decide)]
theorem way_loop {k : Nat} (hk : k = 4000) (t : merkle_Tree) (L : List HS) (hi : t.is = true) (h : GL t.n.toList L) (n : Nat) (h1 : 1 ≤ n) (h2 : n < 128) :
    loopO (fun s => law08_MerklePaths.b2 k t s.1 s.2) k ((n : Int), t.n.toList.getD n z32) = some (.inl (t.n.toList.getD 1 z32)) := by
  have := loop_inv (body := fun s : Int × HS => law08_MerklePaths.b2 k t s.1 s.2) (I := fun s => 1 ≤ s.1 ∧ s.1 < 128 ∧ s.2 = t.n.toList.getD s.1.toNat z32) (m := fun s => s.1.toNat) (fun u => u = .inl (t.n.toList.getD 1 z32)) ?_ k ((n : Int), t.n.toList.getD n z32) ⟨by show (1 : Int) ≤ n; omega, by show (n : Int) < 128; omega, rfl⟩ (by show (n : Int).toNat < k; omega)
  · obtain ⟨u, h3, rfl⟩ := this; exact h3
  · rintro ⟨x, v⟩ ⟨h3, h4, h5⟩
    simp only at h3 h4 h5
    obtain ⟨m, rfl⟩ : ∃ m : Nat, x = m := ⟨x.toNat, by omega⟩
    rw [Int.toNat_natCast] at h5
    by_cases hm : (m : Int) > 1
    · left
      have b0 : ((0 : Int) != 0) = false := rfl
      have hs : ∀ a b : HS, ref03_Sum k ([1] ++ a.toList ++ b.toList) = some (nd a b) := fun a b => by
        rw [refSumK hk _ (by simp)]
        simp [nd]
      have a1 : ∀ a : HS, apL 1 ([1] : List UInt8) a.toList = some ([1] ++ a.toList) := fun a => apL_ok (by simp)
      have a2 : ∀ a b : HS, apL 1 ([1] ++ a.toList) b.toList = some ([1] ++ a.toList ++ b.toList) := fun a b => apL_ok (by simp)
      have hd := h.node (m / 2) (by omega) (by omega)
      refine ⟨(((m / 2 : Nat) : Int), t.n.toList.getD (m / 2) z32), ?_, ⟨by show (1 : Int) ≤ _; omega, by show ((m / 2 : Nat) : Int) < 128; omega, rfl⟩, by show ((m / 2 : Nat) : Int).toNat < (m : Int).toNat; omega⟩
      by_cases h0 : m % 2 = 0
      · have e : (((m % 2 : Nat) : Int) == 1) = false := by rw [h0]; rfl
        rw [show 2 * (m / 2) = m by omega] at hd
        rw [hd, ← h5]
        simp only [law08_MerklePaths.b2, lt1, dec_t hm, if_true, xor1 m (by omega), if_pos h0, node_eq k t hi (m + 1) (by omega) (by omega), Option.bind_some, num_eq, b0, Bool.false_eq_true, if_false, sub32, a1, mod2, e, a2, hs, div2 m (by omega)]
      · have e : (((m % 2 : Nat) : Int) == 1) = true := by rw [show m % 2 = 1 by omega]; rfl
        rw [show 2 * (m / 2) + 1 = m by omega, show 2 * (m / 2) = m - 1 by omega] at hd
        rw [hd, ← h5]
        simp only [law08_MerklePaths.b2, lt1, dec_t hm, if_true, xor1 m (by omega), if_neg h0, node_eq k t hi (m - 1) (by omega) (by omega), Option.bind_some, num_eq, b0, Bool.false_eq_true, if_false, sub32, a1, mod2, e, a2, hs, div2 m (by omega)]
    · right
      have : m = 1 := by omega
      subst this
      exact ⟨.inl v, by simp only [law08_MerklePaths.b2, lt1, dec_f hm, Bool.false_eq_true, if_false], by rw [h5]⟩
theorem pure_MerklePaths (y0 : (List law08_Step)) (y1 : Int) (f0 : (List.length y0 * 32 ≤ 140737488351232 ∧ ∀ z0 ∈ y0, ((IntKind.min .i64 ≤ z0.Bucket ∧ z0.Bucket ≤ IntKind.max .i64) ∧ ((List.length z0.B * 1 ≤ 140737488351232 ∧ ∀ z1 ∈ z0.B, True) ∧ True)))) (f1 : (IntKind.min .i64 ≤ y1 ∧ y1 ≤ IntKind.max .i64)) : ∃ k, law08_MerklePaths k y0 y1 = some true := by
  obtain ⟨k, hk⟩ : ∃ k : Nat, k = 4000 := ⟨_, rfl⟩
  refine ⟨k, ?_⟩
  obtain ⟨b, b1, b2⟩ := much8 (show 200 ≤ k by omega) y0
  by_cases hb : b = true
  · subst hb
    simp only [law08_MerklePaths, b1, Option.bind_some, lt1, cond_true, if_true, known8 hk]
  · have hb : b = false := by simpa using hb
    subst hb
    obtain ⟨hl, hs⟩ := b2 rfl
    by_cases h0 : y1 < 0
    · simp only [law08_MerklePaths, b1, Option.bind_some, lt1, dec_t h0, cond_true, cond_false, if_true, known8 hk]
    · by_cases h64 : y1 ≥ 64
      · simp only [law08_MerklePaths, b1, Option.bind_some, lt1, dec_f h0, dec_t h64, cond_true, cond_false, if_true, known8 hk]
      · obtain ⟨n, rfl⟩ : ∃ n : Nat, y1 = n := ⟨y1.toNat, by omega⟩
        obtain ⟨t, n1, n2, n3⟩ := new_eq hk
        obtain ⟨t', L', t1, t2, t3⟩ := steps_loop hk y0 hl hs t Em n2 n3
        have e1 : w64 (64 + (n : Int)) = ((64 + n : Nat) : Int) := by rw [w64_id (by omega) (by omega)]; omega
        have b0 : ((0 : Int) == 0) = true := rfl
        simp only [law08_MerklePaths, b1, Option.bind_some, lt1, dec_f h0, dec_f h64, cond_false, Bool.false_eq_true, if_false, n1, t1, e1, node_eq k t' t2 (64 + n) (by omega) (by omega), way_loop hk t' L' t2 t3 (64 + n) (by omega) (by omega), num_eq, b0, if_true, root_eq k t' t2, eqH, decide_true, known8 hk, cond_true]
end Go.Proofs.Ytbflmobpbjnekaa
