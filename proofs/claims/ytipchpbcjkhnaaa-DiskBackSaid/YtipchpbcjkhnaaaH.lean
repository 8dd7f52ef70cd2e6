/- Disks: two alike. -/
import Derived.Test.YtipchpbcjkhnaaaE
namespace Go.Proofs.Ytipchpbcjkhnaaa
open Go Fw
set_option linter.unusedVariables false
set_option linter.unusedSimpArgs false

theorem zip_sizes' (x : Mp) : (names x).zip (sizes x) = (names x).map fun n => (n, ((old x n).b.length : Int)) := by
  unfold sizes
  generalize names x = l
  induction l with
  | nil => rfl
  | cons a l ih => simp [ih]
theorem same_run (k : Nat) (x y : Mp) : ∀ (l : List (List UInt8 × Int)), (∀ e ∈ l, ∃ u, mget e.1 x = some u) → (yrun (fun (s : Unit) (u : List UInt8 × Int) => disk_Disk_Same_pp_smvvvvmsmvvvvm.y1 k x y u.1 u.2) l () = some (.inl ()) ∧ ∀ e ∈ l, mget e.1 x = mget e.1 y) ∨ (yrun (fun (s : Unit) (u : List UInt8 × Int) => disk_Disk_Same_pp_smvvvvmsmvvvvm.y1 k x y u.1 u.2) l () = some (.inr ()) ∧ ∃ e ∈ l, mget e.1 x ≠ mget e.1 y)
  | [], _ => .inl ⟨rfl, fun _ h => by cases h⟩
  | e :: l, h => by
    obtain ⟨u, hu⟩ := h e (List.mem_cons_self ..)
    have g1 : mgetO (some x) e.1 = some u := hu
    cases hv : mget e.1 y with
    | none =>
      right
      have g2 : mgetO (some y) e.1 = none := hv
      have hy : disk_Disk_Same_pp_smvvvvmsmvvvvm.y1 k x y e.1 e.2 = some (.inr ()) := by
        simp only [disk_Disk_Same_pp_smvvvvmsmvvvvm.y1, lt1, g1, g2, Option.isNone_none, if_true, Option.bind_some]
      exact ⟨by simp only [yrun, hy], e, List.mem_cons_self .., by rw [hu, hv]; intro h; cases h⟩
    | some v =>
      have g2 : mgetO (some y) e.1 = some v := hv
      by_cases hb : u.b = v.b
      · have b1 : (u.b == v.b) = true := by rw [hb]; simp
        by_cases hl : u.lasts = v.lasts
        · have b2 : (u.lasts != v.lasts) = false := by rw [hl]; simp
          have hy : disk_Disk_Same_pp_smvvvvmsmvvvvm.y1 k x y e.1 e.2 = some (.inl ()) := by
            simp only [disk_Disk_Same_pp_smvvvvmsmvvvvm.y1, lt1, g1, g2, Option.isNone_some, Bool.false_eq_true, if_false, Option.bind_some, bytes_Equal, b1, b2, Bool.not_true]
          have huv : u = v := by cases u; cases v; simp only at hb hl; rw [hb, hl]
          rcases same_run k x y l (fun f hf => h f (List.mem_cons_of_mem _ hf)) with ⟨h1, h2⟩ | ⟨h1, f, h2, h3⟩
          · exact .inl ⟨by simp only [yrun, hy, h1], fun f hf => by
              rcases List.mem_cons.1 hf with rfl | hf
              · rw [hu, hv, huv]
              · exact h2 f hf⟩
          · exact .inr ⟨by simp only [yrun, hy, h1], f, List.mem_cons_of_mem _ h2, h3⟩
        · right
          have b2 : (u.lasts != v.lasts) = true := by simpa using hl
          have hy : disk_Disk_Same_pp_smvvvvmsmvvvvm.y1 k x y e.1 e.2 = some (.inr ()) := by
            simp only [disk_Disk_Same_pp_smvvvvmsmvvvvm.y1, lt1, g1, g2, Option.isNone_some, Bool.false_eq_true, if_false, Option.bind_some, bytes_Equal, b1, b2, Bool.not_true, if_true]
          exact ⟨by simp only [yrun, hy], e, List.mem_cons_self .., by rw [hu, hv]; intro h; cases h; exact hl rfl⟩
      · right
        have b1 : (u.b == v.b) = false := by simpa using hb
        have hy : disk_Disk_Same_pp_smvvvvmsmvvvvm.y1 k x y e.1 e.2 = some (.inr ()) := by
          simp only [disk_Disk_Same_pp_smvvvvmsmvvvvm.y1, lt1, g1, g2, Option.isNone_some, Bool.false_eq_true, if_false, Option.bind_some, bytes_Equal, b1, Bool.not_false, if_true]
        exact ⟨by simp only [yrun, hy], e, List.mem_cons_self .., by rw [hu, hv]; intro h; cases h; exact hb rfl⟩
/-- Two disks hold the same. -/
def alike (x y : Mp) : Prop := x.length = y.length ∧ ∀ n u, mget n x = some u → mget n y = some u
theorem same_eq {k : Nat} (hk : 100 < k) (s : DS) (h : DInv s) (y : Mp) (c f : Int) (d : Bool) (w : Int) (c' f' : Int) (d' : Bool) (w' : Int) : ∃ b, disk_Disk_Same_pp_smvvvvmsmvvvvm k c f d w s.x c' f' d' w' y = some b ∧ (b = true ↔ c = c' ∧ alike s.x y) := by
  have hlen := h.len
  have hnl := names_len s.x
  have hfi := files_eq (k := k) s h (by omega) c f d w
  have hm : ∀ e ∈ (names s.x).zip (sizes s.x), ∃ u, mget e.1 s.x = some u := fun e he => by
    rw [zip_sizes'] at he
    obtain ⟨n, hn, rfl⟩ := List.mem_map.1 he
    exact mem_names.1 hn
  rcases same_run k s.x y _ hm with ⟨h1, h2⟩ | ⟨h1, e, h2, h3⟩
  · have h4 := files_1 (k := k) _ (names s.x) (sizes s.x) (by simp [sizes]) (by omega) (by omega) h1
    have h4 : disk_Disk_Files_1_ypp_loo k (fun (s' : Unit) (u : List UInt8 × Int) => disk_Disk_Same_pp_smvvvvmsmvvvvm.y1 k s.x y u.1 u.2) (Sum.inl ()) (names s.x) (sizes s.x) = some (.inl ()) := h4
    have h5 : ∀ n u, mget n s.x = some u → mget n y = some u := fun n u hu => by
      have := h2 (n, ((old s.x n).b.length : Int)) (by rw [zip_sizes']; exact List.mem_map.2 ⟨n, mem_names.2 ⟨u, hu⟩, rfl⟩)
      rw [← this]; exact hu
    have hg : ∀ z : Mp, (Option.getD (some z) []) = z := fun _ => rfl
    by_cases hc : c = c'
    · have cb : (c == c') = true := by rw [hc]; simp
      refine ⟨_, by simp only [disk_Disk_Same_pp_smvvvvmsmvvvvm, there5, Option.bind_some, hfi, h4, lt1, cb, if_true, hg]; rfl, ?_⟩
      rw [beq_iff_eq]
      exact ⟨fun hl => ⟨hc, by omega, h5⟩, fun hl => by rw [hl.2.1]⟩
    · have cb : (c == c') = false := by simpa using hc
      exact ⟨false, by simp only [disk_Disk_Same_pp_smvvvvmsmvvvvm, there5, Option.bind_some, hfi, h4, lt1, cb, Bool.false_eq_true, if_false], by simp [hc]⟩
  · have h4 := files_1 (k := k) _ (names s.x) (sizes s.x) (by simp [sizes]) (by omega) (by omega) h1
    have h4 : disk_Disk_Files_1_ypp_loo k (fun (s' : Unit) (u : List UInt8 × Int) => disk_Disk_Same_pp_smvvvvmsmvvvvm.y1 k s.x y u.1 u.2) (Sum.inl ()) (names s.x) (sizes s.x) = some (.inr ()) := h4
    refine ⟨false, by simp only [disk_Disk_Same_pp_smvvvvmsmvvvvm, there5, Option.bind_some, hfi, h4, lt1], ?_⟩
    constructor
    · intro h; cases h
    · rintro ⟨_, _, h5⟩
      obtain ⟨u, hu⟩ := hm e h2
      exact absurd (by rw [hu, h5 _ _ hu]) h3
theorem crash_len (keep : List Int) {cap : Int} {x : Mp} (h : XInv cap x) : (crash keep x).1.length = x.length := by
  obtain ⟨h1, h2, h3⟩ := crash_facts keep h
  have hp : ((crash keep x).1.map Prod.fst).Perm (x.map Prod.fst) := by
    rw [List.perm_ext_iff_of_nodup h1.kn h.kn]
    intro n
    constructor
    · intro hn
      cases hg : mget n x with
      | none => exact absurd hn (mget_none_iff.1 (h2 n hg))
      | some u => exact List.mem_map.2 ⟨_, mget_mem hg, rfl⟩
    · intro hn
      cases hg : mget n x with
      | none => exact absurd hn (mget_none_iff.1 hg)
      | some u =>
        obtain ⟨v, hv, _⟩ := h3 n u hg
        exact List.mem_map.2 ⟨_, mget_mem hv, rfl⟩
  have := hp.length_eq
  simpa using this
end Go.Proofs.Ytipchpbcjkhnaaa
