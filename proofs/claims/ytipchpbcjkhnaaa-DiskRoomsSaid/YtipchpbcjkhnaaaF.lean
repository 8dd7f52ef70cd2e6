/- Disks: the rooms, before and behind a step. -/
import Derived.Test.YtipchpbcjkhnaaaE
namespace Go.Proofs.Ytipchpbcjkhnaaa
open Go Fw
set_option linter.unusedVariables false
set_option linter.unusedSimpArgs false

theorem zip_sizes (x : Mp) : (names x).zip (sizes x) = (names x).map fun n => (n, ((old x n).b.length : Int)) := by
  unfold sizes
  generalize names x = l
  induction l with
  | nil => rfl
  | cons a l ih => simp [ih]
theorem sum_sizes (x : Mp) (h : (x.map Prod.fst).Nodup) : ((names x).map fun n => (old x n).b.length).sum = tot sz x := by
  rw [((names_perm x).map _).sum_nat, List.map_map]
  unfold tot
  congr 1
  apply List.map_congr_left
  intro e he
  have : mget e.1 x = some e.2 := mget_of_mem h he
  simp [old_some this, sz]
theorem wr_ok {s : DS} {a b : Mp} (h : (wr s a b).1 = 0) : (wr s a b).2.x = a := by
  unfold wr at h ⊢
  by_cases hd : s.dead = true
  · rw [if_pos hd] at h; cases h
  · rw [if_neg hd] at h ⊢
    by_cases hz : s.fuse = 0
    · rw [if_pos hz] at h; cases h
    · rw [if_neg hz]
theorem tot_lay (x : Mp) (n b : List UInt8) : tot sz (lay x n b) = tot sz x + b.length := by
  have h1 := tot_put sz n ⟨(old x n).b ++ b, (old x n).lasts⟩ x
  have h2 : ((mget n x).map sz).getD 0 = (old x n).b.length := by
    unfold old
    cases mget n x <;> rfl
  rw [h2] at h1
  simp only [sz, List.length_append] at h1
  unfold lay
  omega
theorem append_ok {s : DS} {n b : List UInt8} (h : (append s n b).1 = 0) : (append s n b).2.x = lay s.x n b := by
  unfold append at h ⊢
  by_cases h1 : mayN n = false
  · rw [if_pos h1] at h; cases h
  · rw [if_neg h1] at h ⊢
    by_cases h2 : full s n b
    · rw [if_pos h2] at h; cases h
    · rw [if_neg h2] at h ⊢; exact wr_ok h
theorem wr_five (s : DS) (a b : Mp) : (wr s a b).1 = 0 ∨ (wr s a b).1 = 8 := by
  unfold wr
  split
  · exact .inr rfl
  · split
    · exact .inr rfl
    · exact .inl rfl
theorem append_five {s : DS} {n b : List UInt8} (h : (append s n b).1 = 5) : full s n b ∧ (append s n b).2 = s := by
  unfold append at h ⊢
  by_cases h1 : mayN n = false
  · rw [if_pos h1] at h; cases h
  · rw [if_neg h1] at h ⊢
    by_cases h2 : full s n b
    · exact ⟨h2, by rw [if_pos h2]⟩
    · rw [if_neg h2] at h
      rcases wr_five s (lay s.x n b) (lay s.x n b) with h' | h' <;> rw [h'] at h <;> cases h
theorem remove_ok {s : DS} {n : List UInt8} (h : (remove s n).1 = 0) : fnd s.x n = 0 ∧ (remove s n).2.x = mdel n s.x := by
  unfold remove at h ⊢
  by_cases h1 : fnd s.x n = 0
  · rw [if_pos h1] at h ⊢; exact ⟨h1, wr_ok h⟩
  · rw [if_neg h1] at h; exact absurd h h1
theorem full_run (k : Nat) : ∀ (l : List (List UInt8 × Int)) (n : Nat), n + l.length ≤ 1000000 → yrun (fun (s : Int) (u : List UInt8 × Int) => law05_full_p_smvvvvm.y1 k s u.1 u.2) l (n : Int) = some (.inl ((n + l.length : Nat) : Int))
  | [], n, _ => rfl
  | e :: l, n, h => by
    simp only [List.length_cons] at h ⊢
    have h1 : law05_full_p_smvvvvm.y1 k (n : Int) e.1 e.2 = some (.inl ((n + 1 : Nat) : Int)) := by
      simp only [law05_full_p_smvvvvm.y1, lt1, w64_succ (show n < 9223372036854775807 by omega)]
    simp only [yrun, h1]
    rw [full_run k l (n + 1) (by omega)]
    congr 3
    omega
theorem full_eq {k : Nat} (hk : 100 < k) (s : DS) (h : DInv s) (c f : Int) (d : Bool) (w : Int) : law05_full_p_smvvvvm k c f d w s.x = some (decide (s.x.length = 64)) := by
  have hlen := h.len
  have hnl := names_len s.x
  have hsl : (names s.x).length = (sizes s.x).length := by simp [sizes]
  have h1 := full_run k ((names s.x).zip (sizes s.x)) 0 (by rw [List.length_zip]; omega)
  have h2 := files_1 (k := k) _ (names s.x) (sizes s.x) hsl (by omega) (by omega) h1
  have h3 : ((names s.x).zip (sizes s.x)).length = s.x.length := by rw [List.length_zip]; omega
  rw [h3, Nat.zero_add] at h2
  have h2 : disk_Disk_Files_1_ypp_loo k (fun (s : Int) (u : List UInt8 × Int) => law05_full_p_smvvvvm.y1 k s u.1 u.2) (Sum.inl (0 : Int)) (names s.x) (sizes s.x) = some (.inl (s.x.length : Int)) := h2
  simp only [law05_full_p_smvvvvm, files_eq s h (show 64 < k by omega), Option.bind_some, h2, lt1]
  congr 1
  rw [beq_dec]
  exact decide_eq_decide.2 (by omega)
theorem rooms_run {k : Nat} (hk : 100 < k) (s : DS) (h : DInv s) (c : Int) : ∀ (l : List (List UInt8)) (n : Int) (p : List UInt8), l.Pairwise (· < ·) → (∀ a ∈ l, p < a) → (∀ a ∈ l, ∃ u, mget a s.x = some u) → 0 ≤ n → n + ((l.map fun m => (old s.x m).b.length).sum : Nat) ≤ 1000000000 →
    ∃ q, yrun (fun (t : Int × List UInt8) (u : List UInt8 × Int) => law05_DiskRooms.y2 k c s.fuse s.dead s.writes s.x t.1 t.2 u.1 u.2) (l.map fun m => (m, ((old s.x m).b.length : Int))) (n, p) = some (.inl (n + ((l.map fun m => (old s.x m).b.length).sum : Nat), q))
  | [], n, p, _, _, _, _, _ => ⟨p, by simp [yrun]⟩
  | a :: l, n, p, h1, h2, h3, h4, h5 => by
    obtain ⟨u, hu⟩ := h3 a (List.mem_cons_self ..)
    have ha : mayN a = true := h.names (a, u) (mget_mem hu)
    have hal : a.length ≤ 32 := by simp only [mayN, Bool.and_eq_true, decide_eq_true_eq] at ha; omega
    have hp : p < a := h2 a (List.mem_cons_self ..)
    have e1 := read_eq (k := k) a (by omega) (by omega) s h c s.fuse s.dead s.writes
    have e2 : fnd s.x a = 0 := by
      rcases fnd_cases s.x a with ⟨f1, f2⟩ | ⟨f1, f2, f3⟩ | ⟨f1, _⟩
      · rw [ha] at f2; cases f2
      · rw [hu] at f3; cases f3
      · exact f1
    rw [e2, if_pos rfl] at e1
    have b1 : decide (a < p) = false := decide_eq_false (List.lt_asymm hp)
    have b2 : (a == p) = false := by
      rw [beq_eq_false_iff_ne]
      rintro rfl
      exact List.lt_irrefl a hp
    simp only [List.map_cons, List.sum_cons] at h5
    have w1 : w64 (n + ((old s.x a).b.length : Int)) = n + ((old s.x a).b.length : Int) := w64_id (by omega) (by omega)
    have hy : law05_DiskRooms.y2 k c s.fuse s.dead s.writes s.x n p a ((old s.x a).b.length : Int) = some (.inl (n + ((old s.x a).b.length : Int), a)) := by
      simp only [law05_DiskRooms.y2, e1, Option.bind_some, lt1, b1, b2, Bool.false_or, Bool.not_false, if_true, mayName_eq (k := k) a (by omega) (by omega), ha, Bool.not_true, cond_false, law05_num, show ((0 : Int) != 0) = false from rfl, Bool.false_eq_true, if_false, bne_self_eq_false, w1]
    obtain ⟨q, hq⟩ := rooms_run hk s h c l (n + ((old s.x a).b.length : Int)) a (List.pairwise_cons.1 h1).2 (List.pairwise_cons.1 h1).1 (fun b hb => h3 b (List.mem_cons_of_mem _ hb)) (by omega) (by omega)
    refine ⟨q, ?_⟩
    simp only [List.map_cons, yrun, hy, hq, List.sum_cons]
    congr 3
    omega
end Go.Proofs.Ytipchpbcjkhnaaa
