/- The plain law DiskRooms. -/
import Derived.Test.YtipchpbcjkhnaaaF
namespace Go.Proofs.Ytipchpbcjkhnaaa
open Go Fw
set_option linter.unusedVariables false
set_option linter.unusedSimpArgs false

theorem rooms_round {k : Nat} (hk : 100000 ≤ k) (l : List ref05_Step) (s : DS) (h : DInv s) (hw : s.writes < 9223372036854775806) (i : Nat) (hi : i < l.length) (hil : i < 1000000) (ha : small l[i]) (hN : l[i].N ≤ 9223372036854775807) :
    law05_DiskRooms.b1 k l s.cap s.x s.fuse s.dead s.writes (i : Int) = some (.inl ((step s l[i]).2.x, (step s l[i]).2.fuse, (step s l[i]).2.dead, (step s l[i]).2.writes, ((i + 1 : Nat) : Int))) := by
  have hdo := do_eq (k := k) s h (by omega) l[i] ha hk
  obtain ⟨h', hc, hw'⟩ := step_inv h l[i] hN
  obtain ⟨a1, a2, a3, a4⟩ := ha
  have hroom := fun b c d => room_eq k s h b c d
  have hread := read_eq (k := k) l[i].Name (by omega) (by omega) s h s.cap s.fuse s.dead s.writes
  have hcase : (l[i].Kind = 1 → (step s l[i]).1 = 0 → (tot sz (step s l[i]).2.x) = tot sz s.x + l[i].B.length) ∧ (l[i].Kind = 1 → (step s l[i]).1 = 5 → (l[i].B.length : Int) ≤ s.cap - (tot sz s.x : Int) → (step s l[i]).2.x.length = 64) ∧ (l[i].Kind = 5 → (step s l[i]).1 = 0 → fnd s.x l[i].Name = 0 ∧ tot sz (step s l[i]).2.x + (old s.x l[i].Name).b.length = tot sz s.x) := by
    refine ⟨fun k1 h0 => ?_, fun k1 h5 hb => ?_, fun k5 h0 => ?_⟩
    · have hs : step s l[i] = append s l[i].Name l[i].B := if_pos k1
      rw [hs] at h0 ⊢
      rw [append_ok h0, tot_lay]
    · have hs : step s l[i] = append s l[i].Name l[i].B := if_pos k1
      rw [hs] at h5 ⊢
      obtain ⟨f1, f2⟩ := append_five h5
      rw [f2]
      have := h.len
      rcases f1 with f | f
      · omega
      · omega
    · have hs : step s l[i] = remove s l[i].Name := by unfold step; rw [if_neg (by omega), if_neg (by omega), if_neg (by omega), if_neg (by omega), if_pos k5]
      rw [hs] at h0 ⊢
      obtain ⟨f1, f2⟩ := remove_ok h0
      refine ⟨f1, ?_⟩
      rw [f2]
      have := tot_del sz l[i].Name s.x
      have h2 : ((mget l[i].Name s.x).map sz).getD 0 = (old s.x l[i].Name).b.length := by
        unfold old
        cases mget l[i].Name s.x <;> rfl
      omega
  obtain ⟨c1, c2, c3⟩ := hcase
  have ht := h.tot
  have hcap := h.cap2
  generalize step s l[i] = r at hdo h' hc hw' c1 c2 c3 ⊢
  obtain ⟨e, s'⟩ := r
  simp only at h' hc hw' c1 c2 c3 ⊢
  simp only [tup] at hdo
  have ht' := h'.tot
  have hroom' := fun b c d => room_eq k s' h' b c d
  rw [hc] at hroom' ht'
  have hfull' := fun c f d w => full_eq (k := k) (by omega) s' h' c f d w
  have hfiles' := fun c f d w => files_eq (k := k) s' h' (by omega) c f d w
  have hsum := sum_sizes s'.x h'.kn
  obtain ⟨q, hrun⟩ := rooms_run (k := k) (by omega) s' h' s.cap (names s'.x) 0 [] (names_sorted s'.x h'.kn) (fun a ha => by
    obtain ⟨u, hu⟩ := mem_names.1 ha
    have := h'.names (a, u) (mget_mem hu)
    simp only [mayN, Bool.and_eq_true, decide_eq_true_eq] at this
    cases a with
    | nil => simp at this
    | cons b a => exact List.nil_lt_cons ..) (fun a ha => mem_names.1 ha) (by decide) (by rw [hsum]; omega)
  rw [hsum, ← zip_sizes, Int.zero_add] at hrun
  have hnl := names_len s'.x
  have hlen := h'.len
  have hf1 := files_1 (k := k) _ (names s'.x) (sizes s'.x) (by simp [sizes]) (by omega) (by omega) hrun
  have hf1 : disk_Disk_Files_1_ypp_loo k (fun (t : Int × List UInt8) (u : List UInt8 × Int) => law05_DiskRooms.y2 k s.cap s'.fuse s'.dead s'.writes s'.x t.1 t.2 u.1 u.2) (Sum.inl ((0 : Int), ([] : List UInt8))) (names s'.x) (sizes s'.x) = some (.inl ((tot sz s'.x : Int), q)) := hf1
  have w1 : w64 (s.cap - (tot sz s.x : Int) - (l[i].B.length : Int)) = s.cap - (tot sz s.x : Int) - (l[i].B.length : Int) := w64_id (by omega) (by omega)
  have w3 : w64 ((tot sz s'.x : Int) + (s.cap - (tot sz s'.x : Int))) = s.cap := by rw [w64_id (by omega) (by omega)]; omega
  have w4 : (s.cap != s.cap) = false := by simp
  have hA : ∀ {b : Bool} {n m : Int}, (b = true → n = m) → b = true → (n != m) = false := fun h hb => by rw [h hb]; simp
  have s1 := w64_succ (show i < 9223372036854775807 by omega)
  by_cases k1 : l[i].Kind = 1
  · have kb : (l[i].Kind == 1) = true := by rw [k1]; rfl
    have kb5 : (l[i].Kind == 5) = false := by rw [k1]; rfl
    by_cases h0 : e = 0
    · have eb : (e == 0) = true := by rw [h0]; rfl
      have eb5 : (e == 5) = false := by rw [h0]; rfl
      have t1 := c1 k1 h0
      have v1 : ((s.cap - (tot sz s'.x : Int)) != (s.cap - (tot sz s.x : Int) - (l[i].B.length : Int))) = false := by
        have : s.cap - (tot sz s'.x : Int) = s.cap - (tot sz s.x : Int) - (l[i].B.length : Int) := by omega
        rw [this]; simp
      simp only [law05_DiskRooms.b1, lt1, dec_t (show (i : Int) < (l.length : Int) by omega), if_true, hroom, Option.bind_some, idxL_lt hi, hread, hdo, kb, eb, eb5, cond_true, cond_false, hroom', w1, v1, Bool.not_false, Bool.not_true, Bool.and_false, Bool.false_eq_true, if_false, kb5, law05_num, hfiles', hf1, w3, w4, s1]
    · have eb : (e == 0) = false := by simpa using h0
      by_cases h5 : e = 5
      · have eb5 : (e == 5) = true := by rw [h5]; rfl
        by_cases hb : (l[i].B.length : Int) ≤ s.cap - (tot sz s.x : Int)
        · have t1 := c2 k1 h5 hb
          simp only [law05_DiskRooms.b1, lt1, dec_t (show (i : Int) < (l.length : Int) by omega), if_true, hroom, Option.bind_some, idxL_lt hi, hread, hdo, kb, eb, eb5, cond_true, cond_false, dec_t hb, hfull', dec_t t1, Bool.not_false, Bool.not_true, Bool.and_false, Bool.false_eq_true, if_false, kb5, law05_num, hfiles', hf1, hroom', w3, w4, s1]
        · simp only [law05_DiskRooms.b1, lt1, dec_t (show (i : Int) < (l.length : Int) by omega), if_true, hroom, Option.bind_some, idxL_lt hi, hread, hdo, kb, eb, eb5, cond_true, cond_false, dec_f hb, Bool.not_false, Bool.not_true, Bool.and_false, Bool.false_eq_true, if_false, kb5, law05_num, hfiles', hf1, hroom', w3, w4, s1]
      · have eb5 : (e == 5) = false := by simpa using h5
        simp only [law05_DiskRooms.b1, lt1, dec_t (show (i : Int) < (l.length : Int) by omega), if_true, hroom, Option.bind_some, idxL_lt hi, hread, hdo, kb, eb, eb5, cond_true, cond_false, Bool.not_false, Bool.not_true, Bool.and_false, Bool.false_eq_true, if_false, kb5, law05_num, hfiles', hf1, hroom', w3, w4, s1]
  · have kb : (l[i].Kind == 1) = false := by simpa using k1
    by_cases k5 : l[i].Kind = 5
    · have kb5 : (l[i].Kind == 5) = true := by rw [k5]; rfl
      by_cases h0 : e = 0
      · have eb : (e == 0) = true := by rw [h0]; rfl
        obtain ⟨t0, t1⟩ := c3 k5 h0
        rw [t0, if_pos rfl] at hread
        have w2 : w64 (s.cap - (tot sz s.x : Int) + ((old s.x l[i].Name).b.length : Int)) = s.cap - (tot sz s.x : Int) + ((old s.x l[i].Name).b.length : Int) := w64_id (by omega) (by omega)
        have v1 : ((s.cap - (tot sz s'.x : Int)) != (s.cap - (tot sz s.x : Int) + ((old s.x l[i].Name).b.length : Int))) = false := by
          have : s.cap - (tot sz s'.x : Int) = s.cap - (tot sz s.x : Int) + ((old s.x l[i].Name).b.length : Int) := by omega
          rw [this]; simp
        simp only [law05_DiskRooms.b1, lt1, dec_t (show (i : Int) < (l.length : Int) by omega), if_true, hroom, Option.bind_some, idxL_lt hi, hread, hdo, kb, eb, cond_true, cond_false, hroom', w2, v1, Bool.not_false, Bool.not_true, Bool.and_false, Bool.false_eq_true, if_false, kb5, law05_num, hfiles', hf1, w3, w4, s1, show ((0 : Int) != 0) = false from rfl]
      · have eb : (e == 0) = false := by simpa using h0
        simp only [law05_DiskRooms.b1, lt1, dec_t (show (i : Int) < (l.length : Int) by omega), if_true, hroom, Option.bind_some, idxL_lt hi, hread, hdo, kb, eb, cond_true, cond_false, hroom', Bool.not_false, Bool.not_true, Bool.and_false, Bool.false_eq_true, if_false, kb5, law05_num, hfiles', hf1, w3, w4, s1]
    · have kb5 : (l[i].Kind == 5) = false := by simpa using k5
      simp only [law05_DiskRooms.b1, lt1, dec_t (show (i : Int) < (l.length : Int) by omega), if_true, hroom, Option.bind_some, idxL_lt hi, hread, hdo, kb, cond_true, cond_false, hroom', Bool.not_false, Bool.not_true, Bool.and_false, Bool.false_eq_true, if_false, kb5, law05_num, hfiles', hf1, w3, w4, s1]
theorem pure_DiskRooms (y0 : Int) (y1 : (List ref05_Step)) (f0 : (IntKind.min .i64 ≤ y0 ∧ y0 ≤ IntKind.max .i64)) (f1 : (List.length y1 * 96 ≤ 140737488351232 ∧ ∀ z0 ∈ y1, ((IntKind.min .i64 ≤ z0.Kind ∧ z0.Kind ≤ IntKind.max .i64) ∧ ((IntKind.min .i64 ≤ z0.N ∧ z0.N ≤ IntKind.max .i64) ∧ ((List.length z0.Name ≤ 140737488351232) ∧ ((List.length z0.To ≤ 140737488351232) ∧ ((List.length z0.B * 1 ≤ 140737488351232 ∧ ∀ z1 ∈ z0.B, True) ∧ ((List.length z0.Keep * 8 ≤ 140737488351232 ∧ ∀ z1 ∈ z0.Keep, (IntKind.min .i64 ≤ z1 ∧ z1 ≤ IntKind.max .i64)) ∧ True)))))))) : ∃ k, law05_DiskRooms k y0 y1 = some true := by
  refine ⟨100000, ?_⟩
  have hk : 100000 ≤ 100000 := Nat.le_refl _
  revert hk
  generalize hK : (100000 : Nat) = k
  rw [show (k ≤ k) = (100000 ≤ k) from by rw [hK]]
  intro hk
  have hkn := known5 (k := k) (by omega)
  by_cases h1 : y0 < 1
  · simp only [law05_DiskRooms, lt1, dec_t h1, cond_true, Bool.not_true, Bool.false_eq_true, if_false, Option.bind_some, if_true, hkn]
  by_cases h2 : y0 > 16777216
  · simp only [law05_DiskRooms, lt1, dec_f h1, dec_t h2, cond_false, cond_true, Bool.not_true, Bool.false_eq_true, if_false, Option.bind_some, if_true, hkn]
  obtain ⟨b, hb, hs⟩ := much_eq (k := k) y1 100 (by decide) (by decide) (by omega) (by omega)
  cases b with
  | true => simp only [law05_DiskRooms, lt1, dec_f h1, dec_f h2, cond_false, Bool.not_false, if_true, hb, Option.bind_some, hkn]
  | false =>
    obtain ⟨hl, hs⟩ := hs rfl
    have hL := loop_PQ (body := fun s => law05_DiskRooms.b1 k y1 y0 s.1 s.2.1 s.2.2.1 s.2.2.2.1 s.2.2.2.2) (k := k) (fun i (t : Mp × Int × Bool × Int × Int) => ∃ s : DS, DInv s ∧ s.cap = y0 ∧ s.writes ≤ i ∧ t = (s.x, s.fuse, s.dead, s.writes, (i : Int))) (fun t => t = .inl ()) y1.length (s := ([], -1, false, 0, 0)) (fun i t hi hP => ?_) (fun t hP => ?_) (by omega) ⟨⟨y0, -1, false, 0, []⟩, D0 y0 (by omega) (by omega), rfl, Int.le_refl _, rfl⟩
    · obtain ⟨t, t1, rfl⟩ := hL
      simp only [law05_DiskRooms, lt1, dec_f h1, dec_f h2, cond_false, Bool.not_false, if_true, hb, Option.bind_some, hkn, Bool.false_eq_true, if_false, new_ok k y0 (by omega) (by omega), law05_num, t1]
    · obtain ⟨s, hs1, rfl, hs2, rfl⟩ := hP
      left
      have hN : y1[i].N ≤ 9223372036854775807 := (f1.2 y1[i] (List.getElem_mem hi)).2.1.2
      have hr := rooms_round hk y1 s hs1 (by omega) i hi (by omega) (hs _ (List.getElem_mem hi)) hN
      obtain ⟨g1, g2, g3⟩ := step_inv hs1 y1[i] hN
      exact ⟨_, hr, (step s y1[i]).2, g1, g2, by omega, rfl⟩
    · obtain ⟨s, hs1, rfl, hs2, rfl⟩ := hP
      exact ⟨.inl (), by simp only [law05_DiskRooms.b1, lt1, dec_f (show ¬ (y1.length : Int) < (y1.length : Int) by omega), Bool.false_eq_true, if_false], rfl⟩
end Go.Proofs.Ytipchpbcjkhnaaa
