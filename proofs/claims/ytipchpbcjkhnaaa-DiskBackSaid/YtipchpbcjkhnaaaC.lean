/- Disks: going over the files; copies; losses of power. -/
import Derived.Test.YtipchpbcjkhnaaaB
namespace Go.Proofs.Ytipchpbcjkhnaaa
open Go Fw
set_option linter.unusedVariables false
set_option linter.unusedSimpArgs false

/-- Rounds, one behind the other. -/
def yrun {σ τ α : Type} (Y : σ → α → Option (σ ⊕ τ)) : List α → σ → Option (σ ⊕ τ)
  | [], s => some (.inl s)
  | a :: l, s => match Y s a with
    | none => none
    | some (.inl s') => yrun Y l s'
    | some (.inr t) => some (.inr t)
theorem files1_eq {σ τ : Type} (Y : σ → List UInt8 × Int → Option (σ ⊕ τ)) (ns : List (List UInt8)) (ss : List Int) (hl : ns.length = ss.length) (hs : ns.length ≤ 1000000) {r : σ ⊕ τ} : ∀ (d i : Nat) (k : Nat) (s : σ), i + d = ns.length → d < k → yrun Y ((ns.zip ss).drop i) s = some r →
    ∀ k0, ∃ t, loopO (fun z => disk_Disk_Files_1_ypp_loo.b1 k0 ns ss Y z.1 z.2) k (.inl s, (i : Int)) = some t ∧ (t = .inl r ∨ t = .inr r)
  | 0, i, 0, s, hi, hk, hr, k0 => by omega
  | 0, i, k + 1, s, hi, hk, hr, k0 => by
    have hd : (ns.zip ss).drop i = [] := List.drop_eq_nil_of_le (by rw [List.length_zip]; omega)
    rw [hd] at hr
    have hr : (.inl s : σ ⊕ τ) = r := Option.some.inj hr
    refine ⟨.inl (.inl s), loopO_out ?_, .inl (by rw [hr])⟩
    simp only [disk_Disk_Files_1_ypp_loo.b1, lt1, dec_f (show ¬ (i : Int) < (ns.length : Int) by omega), Bool.false_eq_true, if_false]
  | d + 1, i, 0, s, hi, hk, hr, k0 => by omega
  | d + 1, i, k + 1, s, hi, hk, hr, k0 => by
    have h1 : i < ns.length := by omega
    have h2 : i < ss.length := by omega
    have hd : (ns.zip ss).drop i = (ns[i], ss[i]) :: (ns.zip ss).drop (i + 1) := by
      rw [List.drop_eq_getElem_cons (by rw [List.length_zip]; omega)]
      simp
    rw [hd] at hr
    have e1 : inO ns (i : Int) = some i := by rw [inO_ok (by omega) (by simpa using h1)]; simp
    have e2 : inO ss (i : Int) = some i := by rw [inO_ok (by omega) (by simpa using h2)]; simp
    have e3 : ns[i]? = some ns[i] := List.getElem?_eq_getElem h1
    have e4 : ss[i]? = some ss[i] := List.getElem?_eq_getElem h2
    unfold yrun at hr
    cases hY : Y s (ns[i], ss[i]) with
    | none => rw [hY] at hr; cases hr
    | some y =>
      rw [hY] at hr
      have e5 : yldO Y (.inl s) (ns[i], ss[i]) = some y := hY
      cases y with
      | inl s' =>
        obtain ⟨t, t1, t2⟩ := files1_eq Y ns ss hl hs d (i + 1) k s' (by omega) (by omega) hr k0
        refine ⟨t, ?_, t2⟩
        rw [loopO_step (s' := (.inl s', ((i + 1 : Nat) : Int)))]
        · exact t1
        · simp only [disk_Disk_Files_1_ypp_loo.b1, lt1, dec_t (show (i : Int) < (ns.length : Int) by omega), if_true, e1, e2, e3, e4, Option.bind_some, e5, Sum.isLeft, Bool.not_true, Bool.false_eq_true, if_false, w64_succ (show i < 9223372036854775807 by omega)]
      | inr t =>
        have hr : (.inr t : σ ⊕ τ) = r := Option.some.inj hr
        refine ⟨.inr (.inr t), loopO_out ?_, .inr (by rw [hr])⟩
        simp only [disk_Disk_Files_1_ypp_loo.b1, lt1, dec_t (show (i : Int) < (ns.length : Int) by omega), if_true, e1, e2, e3, e4, Option.bind_some, e5, Sum.isLeft, Bool.not_false]
theorem files_1 {σ τ : Type} {k : Nat} (Y : σ → List UInt8 × Int → Option (σ ⊕ τ)) (ns : List (List UInt8)) (ss : List Int) (hl : ns.length = ss.length) (hk : ns.length < k) (hs : ns.length ≤ 1000000) {s : σ} {r : σ ⊕ τ} (hr : yrun Y (ns.zip ss) s = some r) : disk_Disk_Files_1_ypp_loo k Y (.inl s) ns ss = some r := by
  obtain ⟨t, t1, t2⟩ := files1_eq Y ns ss hl hs ns.length 0 k s (by omega) hk (by rw [List.drop_zero]; exact hr) k
  have t1 : loopO (fun z => disk_Disk_Files_1_ypp_loo.b1 k ns ss Y z.1 z.2) k (.inl s, (0 : Int)) = some t := t1
  simp only [disk_Disk_Files_1_ypp_loo, t1, Option.bind_some]
  rcases t2 with rfl | rfl <;> rfl
/-- The files' names, in order; with their sizes. -/
def names (x : Mp) : List (List UInt8) := (x.map Prod.fst).mergeSort fun a b => decide (a ≤ b)
def sizes (x : Mp) : List Int := (names x).map fun n => ((old x n).b.length : Int)
theorem names_perm (x : Mp) : (names x).Perm (x.map Prod.fst) := List.mergeSort_perm _ _
theorem names_len (x : Mp) : (names x).length = x.length := by rw [(names_perm x).length_eq, List.length_map]
theorem mem_names {x : Mp} {n : List UInt8} : n ∈ names x ↔ ∃ u, mget n x = some u := by
  rw [(names_perm x).mem_iff]
  constructor
  · intro h
    cases hg : mget n x with
    | none => exact absurd h (mget_none_iff.1 hg)
    | some u => exact ⟨u, rfl⟩
  · rintro ⟨u, hu⟩
    exact List.mem_map.2 ⟨_, mget_mem hu, rfl⟩
theorem files_eq {k : Nat} (s : DS) (h : DInv s) (hk : 64 < k) (c f : Int) (d : Bool) (w : Int) : disk_Disk_Files_p_smvvvvm k c f d w s.x = some (names s.x, sizes s.x) := by
  have hlen := h.len
  have hnl := names_len s.x
  have h1 : sortK (some s.x) = some (names s.x) := by
    have hall : (s.x.all fun p => decide (p.1.length ≤ 140737488355328)) = true := List.all_eq_true.2 fun p hp => by
      have := h.names p hp
      simp only [mayN, Bool.and_eq_true, decide_eq_true_eq] at this
      exact decide_eq_true (by omega)
    unfold sortK
    simp only [Option.bind_some]
    rw [if_pos ⟨by omega, hall⟩]
    rfl
  have h2 : loopO (fun z => disk_Disk_Files_p_smvvvvm.b1 k (names s.x) s.x z.1 z.2) k (([] : List Int), (0 : Int)) = some (sizes s.x) := by
    refine loop_nat (names s.x).length (fun i => (sizes s.x).take i) _ (fun i hi => ?_) ?_ (by omega) (by simp)
    · obtain ⟨u, hu⟩ := mem_names.1 (List.getElem_mem hi)
      have e1 : inO (names s.x) (i : Int) = some i := by rw [inO_ok (by omega) (by simpa using hi)]; simp
      have e3 : (names s.x)[i]? = some (names s.x)[i] := List.getElem?_eq_getElem hi
      have e4 : mgetO (some s.x) (names s.x)[i] = some u := hu
      have hsl : (sizes s.x).length = (names s.x).length := by simp [sizes]
      have e5 : (sizes s.x).take (i + 1) = (sizes s.x).take i ++ [(u.b.length : Int)] := by
        rw [List.take_succ_eq_append_getElem (by omega)]
        simp [sizes, old_some hu]
      simp only [disk_Disk_Files_p_smvvvvm.b1, lt1, dec_t (show (i : Int) < ((names s.x).length : Int) by omega), if_true, e1, e3, e4, Option.bind_some, apL_ok (show (((sizes s.x).take i).length + [(u.b.length : Int)].length) * 8 ≤ 140737488355328 by simp [List.length_take]; omega), w64_succ (show i < 9223372036854775807 by omega), e5]
    · simp only [disk_Disk_Files_p_smvvvvm.b1, lt1, dec_f (show ¬ ((names s.x).length : Int) < ((names s.x).length : Int) by omega), Bool.false_eq_true, if_false]
      rw [List.take_of_length_le (by simp [sizes])]
  simp only [disk_Disk_Files_p_smvvvvm, there5, Option.bind_some, maps_Keysmapstringdisk_file_string_disk_file_m_m, h1, h2]
/-! ### copies -/
theorem copy_fold : ∀ (l m : Mp), ((m ++ l).map Prod.fst).Nodup → l.foldl (fun x e => mput e.1 e.2 x) m = m ++ l
  | [], m, _ => by simp
  | e :: l, m, h => by
    have h1 : mget e.1 m = none := by
      rw [mget_none_iff]
      intro hm
      rw [List.map_append, List.nodup_append] at h
      exact h.2.2 _ hm _ (by simp) rfl
    have h2 : mput e.1 e.2 m = m ++ [e] := by
      have hk := mget_none_iff.1 h1
      unfold mput
      cases hp : mpos e.1 m with
      | none => rfl
      | some i =>
        exfalso
        have : ∀ (m : Mp) i, mpos e.1 m = some i → e.1 ∈ m.map Prod.fst := by
          intro m
          induction m with
          | nil => intro i h; cases h
          | cons q m ih =>
            intro i h
            by_cases hq : e.1 = q.1
            · simp [hq]
            · simp only [mpos, hq, if_false, Option.map_eq_some_iff] at h
              obtain ⟨j, hj, _⟩ := h
              exact List.mem_cons_of_mem _ (ih j hj)
        exact hk (this m i hp)
    rw [List.foldl_cons, h2, copy_fold l (m ++ [e]) (by simpa using h)]
    simp
theorem dcopy_eq (k : Nat) (s : DS) (h : DInv s) (c f : Int) (d : Bool) (w : Int) : disk_Disk_Copy_p_smvvvvm k c f d w s.x = some (canon s.x) := by
  have h1 : rangeM (Option.getD (some s.x) []) (fun z e => disk_Disk_Copy_p_smvvvvm.b1 k s.x z e) (fun z => disk_Disk_Copy_p_smvvvvm.f1 k z) ([] : Mp) = some (canon s.x) := by
    refine rangeM_of fun l hl => ?_
    have hl : l.Perm s.x := hl
    rw [foldO_fold (g := fun x e => mput e.1 e.2 x) (fun _ => True) trivial]
    · rw [copy_fold l [] (by simpa using (hl.map Prod.fst).symm.nodup h.kn)]
      simp only [List.nil_append, disk_Disk_Copy_p_smvvvvm.f1, lt1, canon_eq hl]
    · intro z e he _
      have hu : mgetO (some s.x) e.1 = some e.2 := mget_of_mem h.kn (show (e.1, e.2) ∈ s.x from hl.mem_iff.1 he)
      have hz : e.2.b.length ≤ 16777216 := h.size (n := e.1) hu
      exact ⟨by simp only [disk_Disk_Copy_p_smvvvvm.b1, hu, Option.bind_some, clone5 k e.2.b (by omega), lt1], trivial⟩
  simp only [disk_Disk_Copy_p_smvvvvm, there5, Option.bind_some, h1]
/-! ### losses of power -/
/-- How many of the loose bytes are kept. -/
def kept (keep : List Int) (i : Nat) (loose : Int) : Int := if i < keep.length ∧ keep.getD i 0 > 0 then (keep.getD i 0).tmod (loose + 1) else 0
def lose (keep : List Int) (q : Mp × Nat) (n : List UInt8) : Mp × Nat :=
  let u := old q.1 n
  if (u.b.length : Int) - u.lasts = 0 then q else (mput n ⟨u.b.take (u.lasts + kept keep q.2 ((u.b.length : Int) - u.lasts)).toNat, u.lasts + kept keep q.2 ((u.b.length : Int) - u.lasts)⟩ q.1, q.2 + 1)
noncomputable def crash (keep : List Int) (x : Mp) : Mp × Nat := (names x).foldl (lose keep) (canon x, 0)
theorem kept_range (keep : List Int) (i : Nat) {l : Int} (hl : 0 < l) : 0 ≤ kept keep i l ∧ kept keep i l ≤ l := by
  unfold kept
  split
  · rename_i h
    have h1 := Int.tmod_nonneg (l + 1) (show 0 ≤ keep.getD i 0 by omega)
    have h2 := Int.tmod_lt_of_pos (keep.getD i 0) (show 0 < l + 1 by omega)
    omega
  · omega
theorem lose_y (k : Nat) (keep : List Int) (x : Mp) (i : Nat) (n : List UInt8) (z : Int) {u : disk_file} (hu : mget n x = some u) (hl : 0 ≤ u.lasts ∧ u.lasts ≤ u.b.length) (hb : u.b.length ≤ 16777216) (hi : i ≤ 1000000) :
    disk_Disk_Crash_pv_smvvvvm.y1 k keep x (i : Int) n z = some (.inl ((lose keep (x, i) n).1, ((lose keep (x, i) n).2 : Int))) := by
  have hg : mgetO (some x) n = some u := hu
  have e1 : w64 ((u.b.length : Int) - u.lasts) = (u.b.length : Int) - u.lasts := w64_id (by omega) (by omega)
  unfold lose
  simp only [old_some hu]
  by_cases hz : (u.b.length : Int) - u.lasts = 0
  · have hz' : ((u.b.length : Int) - u.lasts == 0) = true := by rw [hz]; rfl
    rw [if_pos hz]
    simp only [disk_Disk_Crash_pv_smvvvvm.y1, lt1, hg, Option.bind_some, e1, hz', if_true]
  · have hz' : ((u.b.length : Int) - u.lasts == 0) = false := by simpa using hz
    rw [if_neg hz]
    have hp : 0 < (u.b.length : Int) - u.lasts := by omega
    have hkr := kept_range keep i hp
    have e2 : w64 ((u.b.length : Int) - u.lasts + 1) = (u.b.length : Int) - u.lasts + 1 := w64_id (by omega) (by omega)
    have e3 : w64 (u.lasts + kept keep i ((u.b.length : Int) - u.lasts)) = u.lasts + kept keep i ((u.b.length : Int) - u.lasts) := w64_id (by omega) (by omega)
    have q1 : ∀ v : Int, qupdN x n (fun u => { u with lasts := v }) = some (mput n { u with lasts := v } x) := fun v => by simp only [qupdN, hu, Option.map_some]
    have q2 : ∀ v : Int, mgetO (some (mput n { u with lasts := v } x)) n = some { u with lasts := v } := fun v => by show mget n _ = _; rw [mget_mput, if_pos rfl]
    have q3 : ∀ (v : Int) (b : List UInt8), qupdN (mput n { u with lasts := v } x) n (fun u => { u with b := b }) = some (mput n ⟨b, v⟩ x) := fun v b => by simp only [qupdN, mget_mput, if_true, Option.map_some, mput_mput]
    have q4 : ∀ v : Int, 0 ≤ v → v ≤ u.b.length → subL u.b 0 v = some (u.b.take v.toNat) := fun v h0 h1 => by rw [subL_ok (by omega) (by omega) (by omega)]; simp
    have hm : ∀ v : Int, modI v ((u.b.length : Int) - u.lasts + 1) = some (v.tmod ((u.b.length : Int) - u.lasts + 1)) := fun v => by unfold modI; rw [if_neg (by omega)]
    have e4 := w64_succ (show i < 9223372036854775807 by omega)
    by_cases hlt : i < keep.length
    · have g1 := idxL_lt hlt
      have g2 : keep.getD i 0 = keep[i] := by simp [List.getD_eq_getElem?_getD, hlt]
      by_cases hpos : keep[i] > 0
      · have hk : kept keep i ((u.b.length : Int) - u.lasts) = keep[i].tmod ((u.b.length : Int) - u.lasts + 1) := by unfold kept; rw [if_pos ⟨hlt, by rw [g2]; exact hpos⟩, g2]
        rw [hk] at e3 hkr ⊢
        simp only [disk_Disk_Crash_pv_smvvvvm.y1, lt1, hg, Option.bind_some, e1, hz', Bool.false_eq_true, if_false, dec_t (show (i : Int) < (keep.length : Int) by omega), if_true, g1, dec_t hpos, cond_true, e2, hm, e4, e3, q1, q2, q4 _ (show 0 ≤ u.lasts + keep[i].tmod ((u.b.length : Int) - u.lasts + 1) by omega) (by omega), q3]
      · have hk : kept keep i ((u.b.length : Int) - u.lasts) = 0 := by unfold kept; rw [if_neg (fun h => hpos (by rw [← g2]; exact h.2))]
        rw [hk] at e3 hkr ⊢
        simp only [disk_Disk_Crash_pv_smvvvvm.y1, lt1, hg, Option.bind_some, e1, hz', Bool.false_eq_true, if_false, dec_t (show (i : Int) < (keep.length : Int) by omega), if_true, g1, dec_f hpos, cond_true, e4, e3, q1, q2, q4 _ (show 0 ≤ u.lasts + 0 by omega) (by omega), q3]
    · have hk : kept keep i ((u.b.length : Int) - u.lasts) = 0 := by unfold kept; rw [if_neg (fun h => hlt h.1)]
      rw [hk] at e3 hkr ⊢
      simp only [disk_Disk_Crash_pv_smvvvvm.y1, lt1, hg, Option.bind_some, e1, hz', Bool.false_eq_true, if_false, dec_f (show ¬ (i : Int) < (keep.length : Int) by omega), cond_false, e4, e3, q1, q2, q4 _ (show 0 ≤ u.lasts + 0 by omega) (by omega), q3]
theorem XInv.perm {cap : Int} {x y : Mp} (h : XInv cap x) (hp : x.Perm y) : XInv cap y :=
  ⟨(hp.map Prod.fst).nodup h.kn, by rw [← tot_perm sz hp]; exact h.tot, fun e he => h.lasts e (hp.mem_iff.2 he), fun e he => h.names e (hp.mem_iff.2 he), by rw [← hp.length_eq]; exact h.len⟩
theorem lose_inv {cap : Int} {x : Mp} (h : XInv cap x) (keep : List Int) (i : Nat) {n : List UInt8} {u : disk_file} (hu : mget n x = some u) : XInv cap (lose keep (x, i) n).1 := by
  unfold lose
  simp only [old_some hu]
  have hl : 0 ≤ u.lasts ∧ u.lasts ≤ u.b.length := h.lasts _ (mget_mem hu)
  split
  · exact h
  · have hk := kept_range keep i (show 0 < (u.b.length : Int) - u.lasts by omega)
    refine h.put hu ?_ ?_
    · simp only [List.length_take]; omega
    · simp only [List.length_take]; omega
theorem lose_get {x : Mp} (keep : List Int) (i : Nat) {n : List UInt8} {u : disk_file} (hu : mget n x = some u) (m : List UInt8) (hm : m ≠ n) : mget m (lose keep (x, i) n).1 = mget m x := by
  unfold lose
  simp only [old_some hu]
  split
  · rfl
  · rw [mget_mput, if_neg hm]
theorem lose_idx (keep : List Int) (q : Mp × Nat) (n : List UInt8) : (lose keep q n).2 ≤ q.2 + 1 := by
  unfold lose
  simp only
  split <;> simp
theorem lose_run (k : Nat) (keep : List Int) {cap : Int} (hcap : cap ≤ 16777216) : ∀ (l : List (List UInt8 × Int)) (x : Mp) (i : Nat), XInv cap x → (l.map Prod.fst).Nodup → (∀ e ∈ l, ∃ u, mget e.1 x = some u) → i + l.length ≤ 1000000 →
    yrun (fun (s : Mp × Int) (u : List UInt8 × Int) => disk_Disk_Crash_pv_smvvvvm.y1 k keep s.1 s.2 u.1 u.2) l (x, (i : Int)) = some (.inl ((((l.map Prod.fst).foldl (lose keep) (x, i)).1, (((l.map Prod.fst).foldl (lose keep) (x, i)).2 : Int))))
  | [], x, i, _, _, _, _ => rfl
  | e :: l, x, i, hx, hn, hg, hi => by
    obtain ⟨u, hu⟩ := hg e (List.mem_cons_self ..)
    have hl : 0 ≤ u.lasts ∧ u.lasts ≤ u.b.length := hx.lasts _ (mget_mem hu)
    have hb : u.b.length ≤ 16777216 := by
      have h1 := tot_del sz e.1 x
      rw [hu] at h1
      simp only [Option.map_some, Option.getD_some, sz] at h1
      have := hx.tot
      omega
    simp only [List.length_cons] at hi
    have hy := lose_y k keep x i e.1 e.2 hu hl hb (by omega)
    have hn' := List.nodup_cons.1 hn
    have hli := lose_idx keep (x, i) e.1
    have ih := lose_run k keep hcap l (lose keep (x, i) e.1).1 (lose keep (x, i) e.1).2 (lose_inv hx keep i hu) hn'.2 (fun f hf => by
      obtain ⟨v, hv⟩ := hg f (List.mem_cons_of_mem _ hf)
      exact ⟨v, by rw [lose_get keep i hu _ (fun h => hn'.1 (by rw [← h]; exact List.mem_map.2 ⟨f, hf, rfl⟩))]; exact hv⟩) (by simp only at hli; omega)
    simp only [yrun, hy, List.map_cons, List.foldl_cons]
    exact ih
theorem crash_eq {k : Nat} (hk : 64 < k) (keep : List Int) (s : DS) (h : DInv s) (c f : Int) (d : Bool) (w : Int) : disk_Disk_Crash_pv_smvvvvm k keep c f d w s.x = some (crash keep s.x).1 := by
  have hp := canon_perm s.x
  have hnl := names_len s.x
  have hlen := h.len
  have hsl : (names s.x).length = (sizes s.x).length := by simp [sizes]
  have hz : ((names s.x).zip (sizes s.x)).map Prod.fst = names s.x := List.map_fst_zip (by omega)
  have hnn : (names s.x).Nodup := (names_perm s.x).symm.nodup h.kn
  have h1 := lose_run k keep h.cap2 ((names s.x).zip (sizes s.x)) (canon s.x) 0 (h.X.perm hp) (by rw [hz]; exact hnn) (fun e he => by
    have : e.1 ∈ names s.x := by rw [← hz]; exact List.mem_map.2 ⟨e, he, rfl⟩
    obtain ⟨u, hu⟩ := mem_names.1 this
    exact ⟨u, by rw [← mget_perm h.kn hp]; exact hu⟩) (by rw [List.length_zip]; omega)
  rw [hz] at h1
  have h2 := files_1 (k := k) _ (names s.x) (sizes s.x) hsl (by omega) (by omega) h1
  simp only [disk_Disk_Crash_pv_smvvvvm, dcopy_eq k s h, files_eq s h hk, Option.bind_some]
  have h2 : disk_Disk_Files_1_ypp_loo k (fun (s : Mp × Int) (u : List UInt8 × Int) => disk_Disk_Crash_pv_smvvvvm.y1 k keep s.1 s.2 u.1 u.2) (Sum.inl (canon s.x, (0 : Int))) (names s.x) (sizes s.x) = _ := h2
  rw [h2]
  rfl
end Go.Proofs.Ytipchpbcjkhnaaa
