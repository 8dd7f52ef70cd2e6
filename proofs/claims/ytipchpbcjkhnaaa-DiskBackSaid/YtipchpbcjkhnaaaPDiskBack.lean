/- The plain law DiskBack. -/
import Derived.Test.YtipchpbcjkhnaaaH
namespace Go.Proofs.Ytipchpbcjkhnaaa
open Go Fw
set_option linter.unusedVariables false
set_option linter.unusedSimpArgs false

theorem fnd_ok {cap : Int} {x : Mp} (h : XInv cap x) {n : List UInt8} {u : disk_file} (hu : mget n x = some u) : fnd x n = 0 ∧ n.length ≤ 32 := by
  have ha : mayN n = true := h.names (n, u) (mget_mem hu)
  refine ⟨?_, by simp only [mayN, Bool.and_eq_true, decide_eq_true_eq] at ha; omega⟩
  rcases fnd_cases x n with ⟨f1, f2⟩ | ⟨f1, f2, f3⟩ | ⟨f1, _⟩
  · rw [ha] at f2; cases f2
  · rw [hu] at f3; cases f3
  · exact f1
theorem back2_run {k : Nat} (hk : 100 < k) (s t : DS) (hs : DInv s) (ht : DInv t) (tf : t.fuse = -1) (td : t.dead = false) (tw : t.writes = 0) (hst : ∀ n u, mget n s.x = some u → ∃ v, mget n t.x = some v ∧ after u v) : ∀ (l : List (List UInt8 × Int)) (n : Nat), (∀ e ∈ l, ∃ u, mget e.1 s.x = some u) → n + l.length ≤ 1000000 →
    yrun (fun (z : Int) (u : List UInt8 × Int) => law05_DiskBack.y2 k s.fuse s.dead s.writes s.x t.x z u.1 u.2) l (n : Int) = some (.inl ((n + l.length : Nat) : Int))
  | [], n, _, _ => rfl
  | e :: l, n, h, hn => by
    simp only [List.length_cons] at hn ⊢
    obtain ⟨u, hu⟩ := h e (List.mem_cons_self ..)
    obtain ⟨v, hv, m, m1, m2, rfl⟩ := hst e.1 u hu
    obtain ⟨f1, f2⟩ := fnd_ok hs.X hu
    obtain ⟨g1, _⟩ := fnd_ok ht.X hv
    have hl : 0 ≤ u.lasts ∧ u.lasts ≤ u.b.length := hs.lasts _ (mget_mem hu)
    have r1 := read_eq (k := k) e.1 (by omega) (by omega) s hs 30000 s.fuse s.dead s.writes
    have r2 := read_eq (k := k) e.1 (by omega) (by omega) t ht 30000 (-1) false 0
    have r3 := lasts_eq (k := k) e.1 (by omega) (by omega) s.x 30000 s.fuse s.dead s.writes
    have r4 := lasts_eq (k := k) e.1 (by omega) (by omega) t.x 30000 (-1) false 0
    rw [f1, if_pos rfl, old_some hu] at r1 r3
    rw [g1, if_pos rfl, old_some hv] at r2 r4
    have hlen : (u.b.take m).length = m := by rw [List.length_take]; omega
    have w0 : w64 ((0 : Int) + 0) = 0 := w64_id (by decide) (by decide)
    have hsub : subL u.b 0 (m : Int) = some (u.b.take m) := by rw [subL_ok (by omega) (by omega) (by omega)]; simp
    have b1 : ((u.b.take m) != (u.b.take m)) = false := by simp
    have b2 : ((m : Int) != (m : Int)) = false := by simp
    have hy : law05_DiskBack.y2 k s.fuse s.dead s.writes s.x t.x (n : Int) e.1 e.2 = some (.inl ((n + 1 : Nat) : Int)) := by
      simp only [law05_DiskBack.y2, r1, r2, r3, r4, Option.bind_some, law05_num, lt1, w0, show ((0 : Int) != 0) = false from rfl, Bool.false_eq_true, if_false, hlen, dec_f (show ¬ (m : Int) < u.lasts by omega), dec_f (show ¬ (m : Int) > (u.b.length : Int) by omega), hsub, b1, b2, w64_succ (show n < 9223372036854775807 by omega)]
    simp only [yrun, hy]
    rw [back2_run hk s t hs ht tf td tw hst l (n + 1) (fun f hf => h f (List.mem_cons_of_mem _ hf)) (by omega)]
    congr 3
    omega
theorem back3_run {k : Nat} (hk : 100 < k) (s : DS) (hs : DInv s) : ∀ (l : List (List UInt8 × Int)) (n : Nat), (∀ e ∈ l, ∃ u, mget e.1 s.x = some u) → l.length ≤ n → n ≤ 1000000 →
    yrun (fun (z : Int) (u : List UInt8 × Int) => law05_DiskBack.y3 k s.fuse s.dead s.writes s.x z u.1 u.2) l (n : Int) = some (.inl ((n - l.length : Nat) : Int))
  | [], n, _, _, _ => rfl
  | e :: l, n, h, hn, hn' => by
    simp only [List.length_cons] at hn ⊢
    obtain ⟨u, hu⟩ := h e (List.mem_cons_self ..)
    obtain ⟨f1, f2⟩ := fnd_ok hs.X hu
    have r1 := read_eq (k := k) e.1 (by omega) (by omega) s hs 30000 s.fuse s.dead s.writes
    rw [f1, if_pos rfl, old_some hu] at r1
    have w0 : w64 ((n : Int) - 1) = ((n - 1 : Nat) : Int) := by rw [w64_id (by omega) (by omega)]; omega
    have hy : law05_DiskBack.y3 k s.fuse s.dead s.writes s.x (n : Int) e.1 e.2 = some (.inl ((n - 1 : Nat) : Int)) := by
      simp only [law05_DiskBack.y3, r1, Option.bind_some, law05_num, lt1, w0, show ((0 : Int) != 0) = false from rfl, Bool.false_eq_true, if_false]
    simp only [yrun, hy]
    rw [back3_run hk s hs l (n - 1) (fun f hf => h f (List.mem_cons_of_mem _ hf)) (by omega) (by omega)]
    congr 3
    omega
theorem pure_DiskBack (y0 : (List ref05_Step)) (y1 : (List Int)) (f0 : (List.length y0 * 96 ≤ 140737488351232 ∧ ∀ z0 ∈ y0, ((IntKind.min .i64 ≤ z0.Kind ∧ z0.Kind ≤ IntKind.max .i64) ∧ ((IntKind.min .i64 ≤ z0.N ∧ z0.N ≤ IntKind.max .i64) ∧ ((List.length z0.Name ≤ 140737488351232) ∧ ((List.length z0.To ≤ 140737488351232) ∧ ((List.length z0.B * 1 ≤ 140737488351232 ∧ ∀ z1 ∈ z0.B, True) ∧ ((List.length z0.Keep * 8 ≤ 140737488351232 ∧ ∀ z1 ∈ z0.Keep, (IntKind.min .i64 ≤ z1 ∧ z1 ≤ IntKind.max .i64)) ∧ True)))))))) (f1 : (List.length y1 * 8 ≤ 140737488351232 ∧ ∀ z0 ∈ y1, (IntKind.min .i64 ≤ z0 ∧ z0 ≤ IntKind.max .i64))) : ∃ k, law05_DiskBack k y0 y1 = some true := by
  refine ⟨100000, ?_⟩
  have hk : 100000 ≤ 100000 := Nat.le_refl _
  revert hk
  generalize hK : (100000 : Nat) = k
  rw [show (k ≤ k) = (100000 ≤ k) from by rw [hK]]
  intro hk
  have hkn := known5 (k := k) (by omega)
  obtain ⟨b, hb, hsm⟩ := much_eq (k := k) y0 150 (by decide) (by decide) (by omega) (by omega)
  cases b with
  | true => simp only [law05_DiskBack, hkn, Option.bind_some, lt1, Bool.not_true, Bool.false_eq_true, if_false, hb, cond_true, if_true]
  | false =>
    by_cases hl2 : (y1.length : Int) > 300
    · simp only [law05_DiskBack, hkn, Option.bind_some, lt1, Bool.not_true, Bool.false_eq_true, if_false, hb, cond_false, dec_t hl2, if_true]
    obtain ⟨hl, hsm⟩ := hsm rfl
    have hL := loop_PQ (body := fun s => law05_DiskBack.b1 k y0 s.1 s.2.1 s.2.2.1 s.2.2.2.1 s.2.2.2.2) (k := k) (fun i (t : Mp × Int × Bool × Int × Int) => ∃ s : DS, DInv s ∧ s.cap = 30000 ∧ s.writes ≤ i ∧ t = (s.x, s.fuse, s.dead, s.writes, (i : Int))) (fun t => ∃ s : DS, DInv s ∧ s.cap = 30000 ∧ t = (s.x, s.fuse, s.dead, s.writes)) y0.length (s := ([], -1, false, 0, 0)) (fun i t hi hP => ?_) (fun t hP => ?_) (by omega) ⟨⟨30000, -1, false, 0, []⟩, D0 30000 (by omega) (by omega), rfl, Int.le_refl _, rfl⟩
    · obtain ⟨t, t1, s, hs, hcap, rfl⟩ := hL
      have hcr := crash_eq (k := k) (by omega) y1 s hs 30000 s.fuse s.dead s.writes
      obtain ⟨i1, i2, i3⟩ := crash_facts y1 hs.X
      have hlc := crash_len y1 hs.X
      generalize (crash y1 s.x).1 = y at hcr i1 i2 i3 hlc
      rw [hcap] at i1
      have hD : DInv ⟨30000, -1, false, 0, y⟩ := (D0 30000 (by decide) (by decide)).of i1 (by decide) (by decide) (by decide)
      have hcr2 := crash_eq (k := k) (by omega) [] ⟨30000, -1, false, 0, y⟩ hD 30000 (-1) false 0
      obtain ⟨j1, j2, j3⟩ := crash_facts [] i1
      have hlc2 := crash_len [] i1
      simp only at hcr2
      generalize (crash [] y).1 = z at hcr2 j1 j2 j3 hlc2
      have hyv : ∀ n v, mget n y = some v → mget n z = some v := fun n v hv => by
        cases hx : mget n s.x with
        | none => rw [i2 n hx] at hv; cases hv
        | some u =>
          obtain ⟨v', hv', m, m1, m2, rfl⟩ := i3 n u hx
          rw [hv] at hv'
          cases hv'
          obtain ⟨w, hw, m', n1, n2, rfl⟩ := j3 n _ hv
          simp only at n1 n2
          rw [List.length_take] at n2
          have : m' = m := by omega
          subst this
          rw [hw, List.take_take, Nat.min_self]
      obtain ⟨b, hb1, hb2⟩ := same_eq (k := k) (by omega) ⟨30000, -1, false, 0, y⟩ hD z 30000 (-1) false 0 30000 (-1) false 0
      have hbt : b = true := hb2.2 ⟨rfl, hlc2.symm, hyv⟩
      subst hbt
      have hdead : disk_Disk_Dead_p_smvvvvm k 30000 (-1) false 0 y = some () := rfl
      have hwrites : disk_Disk_Writes_p_smvvvvm k 30000 (-1) false 0 y = some () := rfl
      have hlen := hs.len
      have hlen' := hD.len
      have hnl := names_len s.x
      have hnl' := names_len y
      have hfi := files_eq (k := k) s hs (by omega) 30000 s.fuse s.dead s.writes
      have hfi' := files_eq (k := k) ⟨30000, -1, false, 0, y⟩ hD (by omega) 30000 (-1) false 0
      simp only at hlen' hfi' hb1
      have e2 := back2_run (k := k) (by omega) s ⟨30000, -1, false, 0, y⟩ hs hD rfl rfl rfl i3 ((names s.x).zip (sizes s.x)) 0 (fun e he => by
        rw [zip_sizes'] at he
        obtain ⟨n, hn, rfl⟩ := List.mem_map.1 he
        exact mem_names.1 hn) (by rw [List.length_zip]; omega)
      have hz : ((names s.x).zip (sizes s.x)).length = s.x.length := by rw [List.length_zip]; simp [sizes]; omega
      rw [hz, Nat.zero_add] at e2
      have e2 := files_1 (k := k) _ (names s.x) (sizes s.x) (by simp [sizes]) (by omega) (by omega) e2
      have e2 : disk_Disk_Files_1_ypp_loo k (fun (w : Int) (u : List UInt8 × Int) => law05_DiskBack.y2 k s.fuse s.dead s.writes s.x y w u.1 u.2) (Sum.inl (0 : Int)) (names s.x) (sizes s.x) = some (.inl (s.x.length : Int)) := e2
      have hz' : ((names y).zip (sizes y)).length = y.length := by rw [List.length_zip]; simp [sizes]; omega
      have e3 := back3_run (k := k) (by omega) s hs ((names y).zip (sizes y)) s.x.length (fun e he => by
        rw [zip_sizes'] at he
        obtain ⟨n, hn, rfl⟩ := List.mem_map.1 he
        obtain ⟨v, hv⟩ := mem_names.1 hn
        cases hx : mget n s.x with
        | none => rw [i2 n hx] at hv; cases hv
        | some u => exact ⟨u, rfl⟩) (by omega) (by omega)
      have hz2 : s.x.length - y.length = 0 := by omega
      rw [hz', hz2] at e3
      have e3 := files_1 (k := k) _ (names y) (sizes y) (by simp [sizes]) (by omega) (by omega) e3
      have e3 : disk_Disk_Files_1_ypp_loo k (fun (w : Int) (u : List UInt8 × Int) => law05_DiskBack.y3 k s.fuse s.dead s.writes s.x w u.1 u.2) (Sum.inl (s.x.length : Int)) (names y) (sizes y) = some (.inl (0 : Int)) := e3
      simp only [law05_DiskBack, hkn, Option.bind_some, lt1, Bool.not_true, Bool.false_eq_true, if_false, hb, cond_false, dec_f hl2, new_ok k 30000 (by decide) (by decide), law05_num, t1, hcr, hdead, hwrites, hcr2, hb1, hfi, e2, hfi', e3, show ((0 : Int) == 0) = true from rfl]
    · obtain ⟨s, hs1, hc, hs2, rfl⟩ := hP
      left
      have hN : y0[i].N ≤ 9223372036854775807 := (f0.2 y0[i] (List.getElem_mem hi)).2.1.2
      have hr := do_eq (k := k) s hs1 (by omega) y0[i] (hsm _ (List.getElem_mem hi)) hk
      obtain ⟨g1, g2, g3⟩ := step_inv hs1 y0[i] hN
      rw [hc] at hr
      simp only [tup] at hr
      refine ⟨_, by simp only [law05_DiskBack.b1, lt1, dec_t (show (i : Int) < (y0.length : Int) by omega), if_true, idxL_lt hi, Option.bind_some, hr, w64_succ (show i < 9223372036854775807 by omega)], (step s y0[i]).2, g1, by omega, by omega, rfl⟩
    · obtain ⟨s, hs1, hc, hs2, rfl⟩ := hP
      exact ⟨_, by simp only [law05_DiskBack.b1, lt1, dec_f (show ¬ (y0.length : Int) < (y0.length : Int) by omega), Bool.false_eq_true, if_false], s, hs1, hc, rfl⟩
end Go.Proofs.Ytipchpbcjkhnaaa
