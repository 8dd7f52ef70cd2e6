/- Disks: steps, one behind the other. -/
import Derived.Test.YtipchpbcjkhnaaaD
namespace Go.Proofs.Ytipchpbcjkhnaaa
open Go Fw
set_option linter.unusedVariables false
set_option linter.unusedSimpArgs false

/-- A loop with what holds at each round. -/
theorem loop_PQ {S τ : Type} {body : S → Option (S ⊕ τ)} (P : Nat → S → Prop) (Q : τ → Prop) (n : Nat) (hs : ∀ i s, i < n → P i s → (∃ s', body s = some (.inl s') ∧ P (i + 1) s') ∨ ∃ t, body s = some (.inr t) ∧ Q t) (he : ∀ s, P n s → ∃ t, body s = some (.inr t) ∧ Q t) {k : Nat} (hk : n < k) {s : S} (h0 : P 0 s) : ∃ t, loopO body k s = some t ∧ Q t := by
  have key : ∀ d i k s, i + d = n → d < k → P i s → ∃ t, loopO body k s = some t ∧ Q t := by
    intro d
    induction d with
    | zero =>
      intro i k s hi hk hP
      obtain ⟨k, rfl⟩ : ∃ j, k = j + 1 := ⟨k - 1, by omega⟩
      have : i = n := by omega
      subst this
      obtain ⟨t, h1, h2⟩ := he s hP
      exact ⟨t, loopO_out h1, h2⟩
    | succ d ih =>
      intro i k s hi hk hP
      obtain ⟨k, rfl⟩ : ∃ j, k = j + 1 := ⟨k - 1, by omega⟩
      rcases hs i s (by omega) hP with ⟨s', h1, h2⟩ | ⟨t, h1, h2⟩
      · rw [loopO_step h1]
        exact ih (i + 1) k s' (by omega) (by omega) h2
      · exact ⟨t, loopO_out h1, h2⟩
  exact key n 0 k s (by omega) hk h0
/-- A step that is not too long. -/
def small (a : ref05_Step) : Prop := a.B.length ≤ 20000 ∧ a.Name.length ≤ 20000 ∧ a.To.length ≤ 20000 ∧ a.Keep.length ≤ 20000
theorem much_eq {k : Nat} (l : List ref05_Step) (most : Int) (hm : most ≤ 1000) (h0 : 0 ≤ most) (hl : l.length ≤ 1466015503701) (hk : 1001 < k) : ∃ b, ref05_Much k l most = some b ∧ (b = false → l.length ≤ most ∧ ∀ a ∈ l, small a) := by
  have hL := loop_PQ (body := fun s => ref05_Much.b1 k l most s.1 s.2) (k := k) (fun i (s : Int × Int) => s.2 = i ∧ 0 ≤ s.1 ∧ s.1 ≤ 20000 ∧ (i ≤ l.length) ∧ (∀ j (h : j < l.length), j < i → small l[j])) (fun t => t = .inr true ∨ (t = .inl () ∧ (l.length ≤ most → ∀ a ∈ l, small a))) (Nat.min l.length (most.toNat + 1)) (s := (0, 0)) (fun i s hi hP => ?_) (fun s hP => ?_) (by have := Nat.min_le_right l.length (most.toNat + 1); show min _ _ < k; omega) ⟨rfl, by decide, by decide, by omega, fun j h hj => by omega⟩
  · obtain ⟨t, h1, h2⟩ := hL
    rcases h2 with rfl | ⟨rfl, h2⟩
    · exact ⟨true, by simp only [ref05_Much, h1, Option.bind_some], by simp⟩
    · exact ⟨_, by simp only [ref05_Much, h1, Option.bind_some, lt1]; rfl, fun hb => by
        have : ¬ (l.length : Int) > most := of_decide_eq_false hb
        exact ⟨by omega, h2 (by omega)⟩⟩
  · obtain ⟨n, j⟩ := s
    obtain ⟨rfl, p1, p2, p3, p4⟩ := hP
    have hi1 : i < l.length := Nat.lt_of_lt_of_le hi (Nat.min_le_left ..)
    have hi2 : i < most.toNat + 1 := Nat.lt_of_lt_of_le hi (Nat.min_le_right ..)
    have m1 := fun x : Nat => show minI (x : Int) 20001 = ((min x 20001 : Nat) : Int) by unfold minI; split <;> omega
    simp only at p1 p2
    have w1 : w64 (n + ((min l[i].B.length 20001 : Nat) : Int)) = n + ((min l[i].B.length 20001 : Nat) : Int) := w64_id (by omega) (by omega)
    have w2 : w64 (n + ((min l[i].B.length 20001 : Nat) : Int) + ((min l[i].Name.length 20001 : Nat) : Int)) = n + ((min l[i].B.length 20001 : Nat) : Int) + ((min l[i].Name.length 20001 : Nat) : Int) := w64_id (by omega) (by omega)
    have w3 : w64 (n + ((min l[i].B.length 20001 : Nat) : Int) + ((min l[i].Name.length 20001 : Nat) : Int) + ((min l[i].To.length 20001 : Nat) : Int)) = n + ((min l[i].B.length 20001 : Nat) : Int) + ((min l[i].Name.length 20001 : Nat) : Int) + ((min l[i].To.length 20001 : Nat) : Int) := w64_id (by omega) (by omega)
    have w4 : w64 (n + ((min l[i].B.length 20001 : Nat) : Int) + ((min l[i].Name.length 20001 : Nat) : Int) + ((min l[i].To.length 20001 : Nat) : Int) + ((min l[i].Keep.length 20001 : Nat) : Int)) = n + ((min l[i].B.length 20001 : Nat) : Int) + ((min l[i].Name.length 20001 : Nat) : Int) + ((min l[i].To.length 20001 : Nat) : Int) + ((min l[i].Keep.length 20001 : Nat) : Int) := w64_id (by omega) (by omega)
    by_cases hb : n + ((min l[i].B.length 20001 : Nat) : Int) + ((min l[i].Name.length 20001 : Nat) : Int) + ((min l[i].To.length 20001 : Nat) : Int) + ((min l[i].Keep.length 20001 : Nat) : Int) > 20000
    · right
      refine ⟨.inr true, ?_, .inl rfl⟩
      simp only [ref05_Much.b1, lt1, dec_t (show (i : Int) < (l.length : Int) by omega), dec_t (show (i : Int) ≤ most by omega), cond_true, Option.bind_some, if_true, idxL_lt hi1, m1, w1, w2, w3, w4, dec_t hb]
    · left
      refine ⟨(_, _), by simp only [ref05_Much.b1, lt1, dec_t (show (i : Int) < (l.length : Int) by omega), dec_t (show (i : Int) ≤ most by omega), cond_true, Option.bind_some, if_true, idxL_lt hi1, m1, w1, w2, w3, w4, dec_f hb, Bool.false_eq_true, if_false, w64_succ (show i < 9223372036854775807 by omega)]; rfl, rfl, ?_, ?_, by omega, fun j h hj => ?_⟩
      · simp only; omega
      · simp only; omega
      · by_cases hj' : j < i
        · exact p4 j h hj'
        · have : j = i := by omega
          subst this
          unfold small
          omega
  · obtain ⟨n, j⟩ := s
    obtain ⟨rfl, p1, p2, p3, p4⟩ := hP
    refine ⟨.inl (), ?_, .inr ⟨rfl, fun hlm a ha => ?_⟩⟩
    · by_cases hlt : (((Nat.min l.length (most.toNat + 1)) : Nat) : Int) < (l.length : Int)
      · have : ¬ (((Nat.min l.length (most.toNat + 1)) : Nat) : Int) ≤ most := by
          have : Nat.min l.length (most.toNat + 1) = min l.length (most.toNat + 1) := rfl
          rw [this] at hlt ⊢
          omega
        simp only [ref05_Much.b1, lt1, dec_t hlt, dec_f this, cond_true, Option.bind_some, Bool.false_eq_true, if_false]
      · simp only [ref05_Much.b1, lt1, dec_f hlt, cond_false, Option.bind_some, Bool.false_eq_true, if_false]
    · obtain ⟨j, hj, rfl⟩ := List.getElem_of_mem ha
      have : Nat.min l.length (most.toNat + 1) = min l.length (most.toNat + 1) := rfl
      exact p4 j hj (by rw [this]; omega)
/-! ### what a loss of power leaves -/
def after (u v : disk_file) : Prop := ∃ m : Nat, u.lasts ≤ m ∧ m ≤ u.b.length ∧ v = ⟨u.b.take m, m⟩
theorem lose_after {cap : Int} {x : Mp} (h : XInv cap x) (keep : List Int) (i : Nat) {n : List UInt8} {u : disk_file} (hu : mget n x = some u) : ∃ v, mget n (lose keep (x, i) n).1 = some v ∧ after u v := by
  have hl : 0 ≤ u.lasts ∧ u.lasts ≤ u.b.length := h.lasts _ (mget_mem hu)
  unfold lose
  simp only [old_some hu]
  by_cases hz : (u.b.length : Int) - u.lasts = 0
  · rw [if_pos hz]
    refine ⟨u, hu, u.b.length, by omega, Nat.le_refl _, ?_⟩
    rw [List.take_length]
    have : (u.b.length : Int) = u.lasts := by omega
    rw [this]
  · rw [if_neg hz]
    have hk := kept_range keep i (show 0 < (u.b.length : Int) - u.lasts by omega)
    refine ⟨_, by rw [mget_mput, if_pos rfl], (u.lasts + kept keep i ((u.b.length : Int) - u.lasts)).toNat, by omega, by omega, ?_⟩
    rw [Int.toNat_of_nonneg (by omega)]
theorem lose_fold {cap : Int} (keep : List Int) : ∀ (l : List (List UInt8)) (x : Mp) (i : Nat), XInv cap x → l.Nodup → (∀ n ∈ l, ∃ u, mget n x = some u) → XInv cap (l.foldl (lose keep) (x, i)).1 ∧ (∀ n, n ∉ l → mget n (l.foldl (lose keep) (x, i)).1 = mget n x) ∧ ∀ n ∈ l, ∀ u, mget n x = some u → ∃ v, mget n (l.foldl (lose keep) (x, i)).1 = some v ∧ after u v
  | [], x, i, hx, _, _ => ⟨hx, fun _ _ => rfl, fun _ h => by cases h⟩
  | m :: l, x, i, hx, hn, hg => by
    have hn := List.nodup_cons.1 hn
    obtain ⟨u, hu⟩ := hg m (List.mem_cons_self ..)
    have hg' : ∀ n ∈ l, mget n (lose keep (x, i) m).1 = mget n x := fun n h => lose_get keep i hu n (fun e => hn.1 (by rw [← e]; exact h))
    obtain ⟨h1, h2, h3⟩ := lose_fold keep l (lose keep (x, i) m).1 (lose keep (x, i) m).2 (lose_inv hx keep i hu) hn.2 (fun n h => by rw [hg' n h]; exact hg n (List.mem_cons_of_mem _ h))
    refine ⟨h1, fun n h => ?_, fun n h w hw => ?_⟩
    · rw [List.foldl_cons]
      exact (h2 n (fun h' => h (List.mem_cons_of_mem _ h'))).trans (lose_get keep i hu n (fun e => h (by rw [e]; exact List.mem_cons_self ..)))
    · rw [List.foldl_cons]
      rcases List.mem_cons.1 h with rfl | h
      · obtain ⟨v, v1, v2⟩ := lose_after hx keep i hw
        exact ⟨v, (h2 _ hn.1).trans v1, v2⟩
      · exact h3 n h w (by rw [hg' n h]; exact hw)
theorem crash_facts (keep : List Int) {cap : Int} {x : Mp} (h : XInv cap x) : XInv cap (crash keep x).1 ∧ (∀ n, mget n x = none → mget n (crash keep x).1 = none) ∧ ∀ n u, mget n x = some u → ∃ v, mget n (crash keep x).1 = some v ∧ after u v := by
  have hp := canon_perm x
  obtain ⟨h1, h2, h3⟩ := lose_fold (cap := cap) keep (names x) (canon x) 0 (h.perm hp) ((names_perm x).symm.nodup h.kn) (fun n hn => by
    rw [← mget_perm h.kn hp]; exact mem_names.1 hn)
  refine ⟨h1, fun n hn => ?_, fun n u hu => ?_⟩
  · rw [show mget n (crash keep x).1 = mget n (canon x) from h2 n (fun hm => by obtain ⟨u, hu⟩ := mem_names.1 hm; rw [hn] at hu; cases hu), ← mget_perm h.kn hp]
    exact hn
  · exact h3 n (mem_names.2 ⟨u, hu⟩) u (by rw [← mget_perm h.kn hp]; exact hu)
/-! ### steps -/
noncomputable def step (s : DS) (a : ref05_Step) : Int × DS :=
  if a.Kind = 1 then append s a.Name a.B else if a.Kind = 2 then sync s a.Name else if a.Kind = 3 then cut s a.Name a.N else if a.Kind = 4 then rename s a.Name a.To else if a.Kind = 5 then remove s a.Name
  else if a.Kind = 6 then (0, { s with fuse := maxI a.N (-1) }) else if a.Kind = 7 then (0, ⟨s.cap, -1, false, 0, (crash a.Keep s.x).1⟩) else (0, s)
theorem step_inv {s : DS} (h : DInv s) (a : ref05_Step) (hN : a.N ≤ 9223372036854775807) : DInv (step s a).2 ∧ (step s a).2.cap = s.cap ∧ (step s a).2.writes ≤ s.writes + 1 := by
  have hw := h.wr1
  unfold step
  split
  · exact append_inv h _ _
  split
  · exact sync_inv h _
  split
  · exact cut_inv h _ _
  split
  · exact rename_inv h _ _
  split
  · exact remove_inv h _
  split
  · refine ⟨h.of h.X ?_ ?_ h.wr1, rfl, by show s.writes ≤ s.writes + 1; omega⟩ <;> unfold maxI <;> split <;> omega
  split
  · exact ⟨h.of (crash_facts a.Keep h.X).1 (by decide) (by decide) (by decide), rfl, by show (0 : Int) ≤ s.writes + 1; omega⟩
  · exact ⟨h, rfl, by show s.writes ≤ s.writes + 1; omega⟩
theorem appendW1_eq (k : Nat) (x : Mp) (n b y : List UInt8) (hb : b.length ≤ 1000000) (hs : (old x n).b.length + b.length ≤ 140737488355328) : ∀ c f d w, ∃ o, disk_Disk_Append_1_pppp_xmpsmvvvvvw k (mget n x) x c f d w n 0 b.length (b ++ y) = some (lay x n b, o) := by
  intro c f d w
  have hv : viewL (b ++ y) 0 b.length = some b := by
    unfold viewL
    by_cases h0 : b.length = 0
    · rw [if_pos h0, List.length_eq_zero_iff.1 h0]
    · rw [if_neg h0, if_pos (by simp)]
      simp
  have ha : ∀ z : List UInt8, z.length + b.length ≤ 140737488355328 → apV 1 z (b ++ y) 0 b.length = some (z ++ b) := fun z hz => by
    unfold apV
    rw [hv]
    exact apL_ok (by omega)
  cases hg : mget n x with
  | none =>
    have ho : old x n = ⟨[], 0⟩ := by simp [old, hg]
    have e1 : mgetO (some (mput n (⟨[], 0⟩ : disk_file) x)) n = some ⟨[], 0⟩ := by show mget n _ = _; rw [mget_mput, if_pos rfl]
    have e2 : qupdN (mput n (⟨[], 0⟩ : disk_file) x) n (fun u => { u with b := [] ++ b }) = some (lay x n b) := by
      unfold qupdN
      rw [mget_mput, if_pos rfl]
      simp only [Option.map_some, mput_mput, lay, ho]
    rw [ho] at hs
    refine ⟨some default, ?_⟩
    simp only [disk_Disk_Append_1_pppp_xmpsmvvvvvw, lt1, Option.isNone_none, if_true, Option.bind_some, e1, clone5 k [] (by simp), ha [] (by simpa using hs), e2]
  | some u =>
    have ho : old x n = u := by simp [old, hg]
    have e1 : mgetO (some x) n = some u := hg
    rw [ho] at hs
    have e2 : qupdN x n (fun v => { v with b := u.b ++ b }) = some (lay x n b) := by
      unfold qupdN
      rw [hg]
      simp only [Option.map_some, lay, ho]
    refine ⟨some u, ?_⟩
    simp only [disk_Disk_Append_1_pppp_xmpsmvvvvvw, lt1, Option.isNone_some, Bool.false_eq_true, if_false, Option.bind_some, e1, clone5 k u.b (by omega), ha u.b (by omega), e2]
theorem appendW_eq {k : Nat} (s : DS) (h : DInv s) (hw : s.writes < 9223372036854775807) (n b y : List UInt8) (hk : n.length < k) (hn : n.length ≤ 1000000) (hb : b.length ≤ 1000000) : disk_Disk_Append_pvw_smvvvvm k n 0 b.length s.cap s.fuse s.dead s.writes s.x (b ++ y) = some (tup (append s n b)) := by
  have hm := mayName_eq n hk hn
  unfold append
  by_cases hn' : mayN n = true
  · have e0 : (if mayN n = false then ((2 : Int), s) else if full s n b then (5, s) else wr s (lay s.x n b) (lay s.x n b)) = if full s n b then (5, s) else wr s (lay s.x n b) (lay s.x n b) := by rw [if_neg (by rw [hn']; decide)]
    rw [e0]
    have hf : ∀ (v : Bool) , (disk_Disk_Room_p_smvvvvm k s.cap s.fuse v s.writes s.x).bind (fun v_19 => if decide ((b.length : Int) > v_19) = true then some true else if (mget n s.x).isNone = true then some (decide ((s.x.length : Int) ≥ 64)) else some false) = some (decide (full s n b)) := by
      intro v
      rw [room_eq k s h]
      simp only [Option.bind_some]
      by_cases h1 : (b.length : Int) > s.cap - (tot sz s.x : Int)
      · rw [dec_t h1, if_pos rfl, dec_t (show full s n b from .inl h1)]
      · rw [dec_f h1, if_neg (by decide)]
        cases hg : mget n s.x with
        | none =>
          simp only [Option.isNone_none, if_true]
          by_cases h2 : s.x.length ≥ 64
          · rw [dec_t (show (s.x.length : Int) ≥ 64 by omega), dec_t (show full s n b from .inr ⟨hg, h2⟩)]
          · rw [dec_f (show ¬ (s.x.length : Int) ≥ 64 by omega), dec_f (show ¬ full s n b from fun h => h.elim h1 fun h => h2 h.2)]
        | some u =>
          simp only [Option.isNone_some, Bool.false_eq_true, if_false]
          rw [dec_f (show ¬ full s n b from fun h => h.elim h1 fun h => by rw [hg] at h; cases h.1)]
    by_cases hfl : full s n b
    · rw [if_pos hfl]
      simp only [dec_t hfl] at hf
      have hg : mgetO (some s.x) n = mget n s.x := rfl
      have hgd : (Option.getD (some s.x) []) = s.x := rfl
      simp only [disk_Disk_Append_pvw_smvvvvm, there5, Option.bind_some, hm, hn', lt1, Bool.not_true, Bool.false_eq_true, if_false, hg, hgd, hf, if_true]
      rfl
    · rw [if_neg hfl]
      simp only [dec_f hfl] at hf
      have hg : mgetO (some s.x) n = mget n s.x := rfl
      have hgd : (Option.getD (some s.x) []) = s.x := rfl
      have ha := fun c f d w => appendW1_eq k s.x n b y hb (by have := old_size h n; omega) c f d w
      have e1 : w64 (s.writes + 1) = s.writes + 1 := w64_id (by have := h.wr1; omega) (by omega)
      unfold wr
      by_cases hd : s.dead = true
      · rw [if_pos hd]
        simp only [disk_Disk_Append_pvw_smvvvvm, there5, Option.bind_some, hm, hn', lt1, Bool.not_true, Bool.false_eq_true, if_false, hg, hgd, hf, disk_Disk_write_pcppppcrrrr_smvvvvmxrvw, hd, if_true]
        rw [tup, hd]
      · have hd' : s.dead = false := by simpa using hd
        rw [if_neg hd]
        by_cases hz : s.fuse = 0
        · rw [if_pos hz]
          obtain ⟨o, ho⟩ := ha s.cap s.fuse true (s.writes + 1)
          have hz' : (s.fuse == 0) = true := by rw [hz]; rfl
          simp only [disk_Disk_Append_pvw_smvvvvm, there5, Option.bind_some, hm, hn', lt1, Bool.not_true, Bool.false_eq_true, if_false, hg, hgd, hf, disk_Disk_write_pcppppcrrrr_smvvvvmxrvw, hd', e1, hz', if_true, ho]
          rfl
        · rw [if_neg hz]
          have hz' : (s.fuse == 0) = false := by simpa using hz
          by_cases hp : s.fuse > 0
          · obtain ⟨o, ho⟩ := ha s.cap (s.fuse - 1) false (s.writes + 1)
            have e2 : w64 (s.fuse - 1) = s.fuse - 1 := w64_id (by omega) (by have := h.fuse2; omega)
            simp only [disk_Disk_Append_pvw_smvvvvm, there5, Option.bind_some, hm, hn', lt1, Bool.not_true, Bool.false_eq_true, if_false, hg, hgd, hf, disk_Disk_write_pcppppcrrrr_smvvvvmxrvw, hd', e1, hz', dec_t hp, if_true, e2, ho]
            rw [tup, if_pos hp]
          · obtain ⟨o, ho⟩ := ha s.cap s.fuse false (s.writes + 1)
            simp only [disk_Disk_Append_pvw_smvvvvm, there5, Option.bind_some, hm, hn', lt1, Bool.not_true, Bool.false_eq_true, if_false, hg, hgd, hf, disk_Disk_write_pcppppcrrrr_smvvvvmxrvw, hd', e1, hz', dec_f hp, ho]
            rw [tup, if_neg hp]
  · have hn' : mayN n = false := by simpa using hn'
    rw [if_pos hn']
    simp only [disk_Disk_Append_pvw_smvvvvm, there5, Option.bind_some, hm, hn', lt1, Bool.not_false, if_true]
    rfl
theorem nines_eq {k : Nat} (y : List UInt8) (hk : y.length < k) (hy : y.length ≤ 1000000) : ∃ r, loopO (fun s => law05_do_pv_smvvvvm.b1 k s.1 s.2) k (y, (0 : Int)) = some r := by
  have hL := loop_PQ (body := fun s => law05_do_pv_smvvvvm.b1 k s.1 s.2) (k := k) (fun i (s : List UInt8 × Int) => s.1.length = y.length ∧ s.2 = i) (fun _ => True) y.length (s := (y, 0)) (fun i s hi hP => ?_) (fun s hP => ?_) hk ⟨rfl, rfl⟩
  · obtain ⟨t, h1, _⟩ := hL
    exact ⟨t, h1⟩
  · obtain ⟨z, j⟩ := s
    obtain ⟨p1, rfl⟩ := hP
    simp only at p1
    left
    have e1 : inO z (i : Int) = some i := by rw [inO_ok (by omega) (by omega)]; simp
    have e2 : setO' z i (9 : UInt8) = some (z.set i 9) := if_pos (by omega)
    exact ⟨(z.set i 9, _), by simp only [law05_do_pv_smvvvvm.b1, lt1, dec_t (show (i : Int) < (z.length : Int) by omega), if_true, e1, e2, Option.bind_some, w64_succ (show i < 9223372036854775807 by omega)], by simpa using p1, rfl⟩
  · obtain ⟨z, j⟩ := s
    obtain ⟨p1, rfl⟩ := hP
    simp only at p1
    exact ⟨(), by simp only [law05_do_pv_smvvvvm.b1, lt1, dec_f (show ¬ (y.length : Int) < (z.length : Int) by omega), Bool.false_eq_true, if_false], trivial⟩
theorem do_eq {k : Nat} (s : DS) (h : DInv s) (hw : s.writes < 9223372036854775807) (a : ref05_Step) (ha : small a) (hk : 100000 ≤ k) : law05_do_pv_smvvvvm k a s.cap s.fuse s.dead s.writes s.x = some (tup (step s a)) := by
  obtain ⟨a1, a2, a3, a4⟩ := ha
  have hb : ∀ c : Int, a.Kind ≠ c → (a.Kind == c) = false := fun c h => by simpa using h
  by_cases k1 : a.Kind = 1
  · have e1 := appendW_eq (k := k) s h hw a.Name a.B [7] (by omega) (by omega) (by omega)
    have e2 : viewN 0 (a.B ++ [7]).length 0 (a.B.length : Int) = some (0, a.B.length) := by
      unfold viewN; rw [if_pos ⟨by decide, by omega, by simp; omega⟩]; simp
    obtain ⟨r, hr⟩ := nines_eq (k := k) (a.B ++ [7]) (by simp; omega) (by simp; omega)
    have hs : step s a = append s a.Name a.B := if_pos k1
    have kb : (a.Kind == 1) = true := by rw [k1]; rfl
    simp only [law05_do_pv_smvvvvm, lt1, kb, if_true, apL_ok (show (([] : List UInt8).length + a.B.length) * 1 ≤ 140737488355328 by simp; omega), List.nil_append, apL_ok (show (a.B.length + ([7] : List UInt8).length) * 1 ≤ 140737488355328 by simp; omega), Option.bind_some, e2, e1, hr, law05_num, hs, tup]
  by_cases k2 : a.Kind = 2
  · have e1 := sync_eq (k := k) s h hw a.Name (by omega) (by omega)
    have hs : step s a = sync s a.Name := by unfold step; rw [if_neg k1, if_pos k2]
    have kb : (a.Kind == 2) = true := by rw [k2]; rfl
    simp only [law05_do_pv_smvvvvm, lt1, hb 1 k1, kb, Bool.false_eq_true, if_false, if_true, e1, Option.bind_some, law05_num, hs, tup]
  by_cases k3 : a.Kind = 3
  · have e1 := cut_eq (k := k) s h hw a.Name a.N (by omega) (by omega)
    have hs : step s a = cut s a.Name a.N := by unfold step; rw [if_neg k1, if_neg k2, if_pos k3]
    have kb : (a.Kind == 3) = true := by rw [k3]; rfl
    simp only [law05_do_pv_smvvvvm, lt1, hb 1 k1, hb 2 k2, kb, Bool.false_eq_true, if_false, if_true, e1, Option.bind_some, law05_num, hs, tup]
  by_cases k4 : a.Kind = 4
  · have e1 := rename_eq (k := k) s h hw a.Name a.To (by omega) (by omega) (by omega) (by omega)
    have hs : step s a = rename s a.Name a.To := by unfold step; rw [if_neg k1, if_neg k2, if_neg k3, if_pos k4]
    have kb : (a.Kind == 4) = true := by rw [k4]; rfl
    simp only [law05_do_pv_smvvvvm, lt1, hb 1 k1, hb 2 k2, hb 3 k3, kb, Bool.false_eq_true, if_false, if_true, e1, Option.bind_some, law05_num, hs, tup]
  by_cases k5 : a.Kind = 5
  · have e1 := remove_eq (k := k) s h hw a.Name (by omega) (by omega)
    have hs : step s a = remove s a.Name := by unfold step; rw [if_neg k1, if_neg k2, if_neg k3, if_neg k4, if_pos k5]
    have kb : (a.Kind == 5) = true := by rw [k5]; rfl
    simp only [law05_do_pv_smvvvvm, lt1, hb 1 k1, hb 2 k2, hb 3 k3, hb 4 k4, kb, Bool.false_eq_true, if_false, if_true, e1, Option.bind_some, law05_num, hs, tup]
  by_cases k6 : a.Kind = 6
  · have hs : step s a = (0, { s with fuse := maxI a.N (-1) }) := by unfold step; rw [if_neg k1, if_neg k2, if_neg k3, if_neg k4, if_neg k5, if_pos k6]
    have kb : (a.Kind == 6) = true := by rw [k6]; rfl
    simp only [law05_do_pv_smvvvvm, lt1, hb 1 k1, hb 2 k2, hb 3 k3, hb 4 k4, hb 5 k5, kb, Bool.false_eq_true, if_false, if_true, fuse_eq, Option.bind_some, law05_num, hs, tup]
  by_cases k7 : a.Kind = 7
  · have e1 := crash_eq (k := k) (by omega) a.Keep s h s.cap s.fuse s.dead s.writes
    have hs : step s a = (0, ⟨s.cap, -1, false, 0, (crash a.Keep s.x).1⟩) := by unfold step; rw [if_neg k1, if_neg k2, if_neg k3, if_neg k4, if_neg k5, if_neg k6, if_pos k7]
    have kb : (a.Kind == 7) = true := by rw [k7]; rfl
    simp only [law05_do_pv_smvvvvm, lt1, hb 1 k1, hb 2 k2, hb 3 k3, hb 4 k4, hb 5 k5, hb 6 k6, kb, Bool.false_eq_true, if_false, if_true, e1, Option.bind_some, law05_num, hs, tup]
  · have hs : step s a = (0, s) := by unfold step; rw [if_neg k1, if_neg k2, if_neg k3, if_neg k4, if_neg k5, if_neg k6, if_neg k7]
    simp only [law05_do_pv_smvvvvm, lt1, hb 1 k1, hb 2 k2, hb 3 k3, hb 4 k4, hb 5 k5, hb 6 k6, hb 7 k7, Bool.false_eq_true, if_false, Option.bind_some, hs, tup]
/-! ### names in order -/
end Go.Proofs.Ytipchpbcjkhnaaa
