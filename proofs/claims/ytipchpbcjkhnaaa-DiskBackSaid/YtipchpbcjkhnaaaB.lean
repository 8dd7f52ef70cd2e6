/- Disks: the other functions; what stays. -/
import Derived.Test.YtipchpbcjkhnaaaA
namespace Go.Proofs.Ytipchpbcjkhnaaa
open Go Fw
set_option linter.unusedVariables false
set_option linter.unusedSimpArgs false

def fnd (x : Mp) (n : List UInt8) : Int := if mayN n = false then 2 else if mget n x = none then 6 else 0
theorem fnd_cases (x : Mp) (n : List UInt8) : (fnd x n = 2 ∧ mayN n = false) ∨ (fnd x n = 6 ∧ mayN n = true ∧ mget n x = none) ∨ (fnd x n = 0 ∧ mayN n = true ∧ ∃ u, mget n x = some u) := by
  unfold fnd
  by_cases h1 : mayN n = false
  · exact .inl ⟨if_pos h1, h1⟩
  · rw [if_neg h1]
    have h1 : mayN n = true := by simpa using h1
    cases h2 : mget n x with
    | none => exact .inr (.inl ⟨if_pos rfl, h1, rfl⟩)
    | some u => exact .inr (.inr ⟨if_neg (by intro h; cases h), h1, u, rfl⟩)
theorem find_eq {k : Nat} (n : List UInt8) (hk : n.length < k) (hn : n.length ≤ 1000000) (c f : Int) (d : Bool) (w : Int) (x : Mp) : disk_Disk_find_pv_smvvvvm k n c f d w x = some (if fnd x n = 0 then mget n x else none, fnd x n) := by
  have hm := mayName_eq n hk hn
  have hg : mgetO (some x) n = mget n x := rfl
  rcases fnd_cases x n with ⟨h1, h2⟩ | ⟨h1, h2, h3⟩ | ⟨h1, h2, u, h3⟩
  · simp only [disk_Disk_find_pv_smvvvvm, there5, Option.bind_some, hm, h2, lt1, Bool.not_false, if_true, h1]; rfl
  · simp only [disk_Disk_find_pv_smvvvvm, there5, Option.bind_some, hm, h2, lt1, Bool.not_true, Bool.false_eq_true, if_false, hg, h3, Option.isNone_none, if_true, h1]; rfl
  · simp only [disk_Disk_find_pv_smvvvvm, there5, Option.bind_some, hm, h2, lt1, Bool.not_true, Bool.false_eq_true, if_false, hg, h3, Option.isNone_some, h1, if_true]
theorem wSync {k : Nat} (s : DS) (h : DInv s) (hw : s.writes < 9223372036854775807) (X : Mp) (n : List UInt8) (o : Option disk_file) (hact : disk_Disk_Sync_1_p_xm k n o s.x = some X) : ∃ q, disk_Disk_write_pcpc_smvvvvmx k s.cap s.fuse s.dead s.writes s.x n o = some q ∧ (q) = tup (wr s X s.x) := by
  have e1 : w64 (s.writes + 1) = s.writes + 1 := w64_id (by have := h.wr1; omega) (by omega)
  unfold wr
  by_cases hd : s.dead = true
  · rw [if_pos hd]
    refine ⟨_, by simp only [disk_Disk_write_pcpc_smvvvvmx, hd, if_true]; rfl, ?_⟩
    rw [tup, hd]
  · have hd' : s.dead = false := by simpa using hd
    rw [if_neg hd]
    by_cases hz : s.fuse = 0
    · rw [if_pos hz]
      have hz' : (s.fuse == 0) = true := by rw [hz]; rfl
      refine ⟨_, by simp only [disk_Disk_write_pcpc_smvvvvmx, hd', Bool.false_eq_true, if_false, e1, hz', if_true, disk_nothing, Option.bind_some, lt1]; rfl, rfl⟩
    · rw [if_neg hz]
      have hz' : (s.fuse == 0) = false := by simpa using hz
      by_cases hp : s.fuse > 0
      · have e2 : w64 (s.fuse - 1) = s.fuse - 1 := w64_id (by omega) (by have := h.fuse2; omega)
        refine ⟨_, by simp only [disk_Disk_write_pcpc_smvvvvmx, hd', Bool.false_eq_true, if_false, e1, hz', dec_t hp, if_true, e2, Option.bind_some, lt1, hact]; rfl, ?_⟩
        rw [tup, if_pos hp, hd']
      · refine ⟨_, by simp only [disk_Disk_write_pcpc_smvvvvmx, hd', Bool.false_eq_true, if_false, e1, hz', dec_f hp, Option.bind_some, lt1, hact]; rfl, ?_⟩
        rw [tup, if_neg hp, hd']
theorem wCut {k : Nat} (s : DS) (h : DInv s) (hw : s.writes < 9223372036854775807) (X : Mp) (n : List UInt8) (o : Option disk_file) (m : Int) (hact : disk_Disk_Cut_1_pp_xmv k n o s.x m = some X) : ∃ q, disk_Disk_write_pcppc_smvvvvmxv k s.cap s.fuse s.dead s.writes s.x n o m = some q ∧ (q) = tup (wr s X s.x) := by
  have e1 : w64 (s.writes + 1) = s.writes + 1 := w64_id (by have := h.wr1; omega) (by omega)
  unfold wr
  by_cases hd : s.dead = true
  · rw [if_pos hd]
    refine ⟨_, by simp only [disk_Disk_write_pcppc_smvvvvmxv, hd, if_true]; rfl, ?_⟩
    rw [tup, hd]
  · have hd' : s.dead = false := by simpa using hd
    rw [if_neg hd]
    by_cases hz : s.fuse = 0
    · rw [if_pos hz]
      have hz' : (s.fuse == 0) = true := by rw [hz]; rfl
      refine ⟨_, by simp only [disk_Disk_write_pcppc_smvvvvmxv, hd', Bool.false_eq_true, if_false, e1, hz', if_true, disk_nothing, Option.bind_some, lt1]; rfl, rfl⟩
    · rw [if_neg hz]
      have hz' : (s.fuse == 0) = false := by simpa using hz
      by_cases hp : s.fuse > 0
      · have e2 : w64 (s.fuse - 1) = s.fuse - 1 := w64_id (by omega) (by have := h.fuse2; omega)
        refine ⟨_, by simp only [disk_Disk_write_pcppc_smvvvvmxv, hd', Bool.false_eq_true, if_false, e1, hz', dec_t hp, if_true, e2, Option.bind_some, lt1, hact]; rfl, ?_⟩
        rw [tup, if_pos hp, hd']
      · refine ⟨_, by simp only [disk_Disk_write_pcppc_smvvvvmxv, hd', Bool.false_eq_true, if_false, e1, hz', dec_f hp, Option.bind_some, lt1, hact]; rfl, ?_⟩
        rw [tup, if_neg hp, hd']
theorem wRemove {k : Nat} (s : DS) (h : DInv s) (hw : s.writes < 9223372036854775807) (X : Mp) (n : List UInt8) (hact : ∀ c f d w, disk_Disk_Remove_1_pp_psmvvvvmv k c f d w s.x n = some X) : ∃ q, disk_Disk_write_pcppc_smvvvvmrv k s.cap s.fuse s.dead s.writes s.x n = some q ∧ (q) = tup (wr s X s.x) := by
  have e1 : w64 (s.writes + 1) = s.writes + 1 := w64_id (by have := h.wr1; omega) (by omega)
  unfold wr
  by_cases hd : s.dead = true
  · rw [if_pos hd]
    refine ⟨_, by simp only [disk_Disk_write_pcppc_smvvvvmrv, hd, if_true]; rfl, ?_⟩
    rw [tup, hd]
  · have hd' : s.dead = false := by simpa using hd
    rw [if_neg hd]
    by_cases hz : s.fuse = 0
    · rw [if_pos hz]
      have hz' : (s.fuse == 0) = true := by rw [hz]; rfl
      refine ⟨_, by simp only [disk_Disk_write_pcppc_smvvvvmrv, hd', Bool.false_eq_true, if_false, e1, hz', if_true, disk_nothing, Option.bind_some, lt1]; rfl, rfl⟩
    · rw [if_neg hz]
      have hz' : (s.fuse == 0) = false := by simpa using hz
      by_cases hp : s.fuse > 0
      · have e2 : w64 (s.fuse - 1) = s.fuse - 1 := w64_id (by omega) (by have := h.fuse2; omega)
        refine ⟨_, by simp only [disk_Disk_write_pcppc_smvvvvmrv, hd', Bool.false_eq_true, if_false, e1, hz', dec_t hp, if_true, e2, Option.bind_some, lt1, hact]; rfl, ?_⟩
        rw [tup, if_pos hp, hd']
      · refine ⟨_, by simp only [disk_Disk_write_pcppc_smvvvvmrv, hd', Bool.false_eq_true, if_false, e1, hz', dec_f hp, Option.bind_some, lt1, hact]; rfl, ?_⟩
        rw [tup, if_neg hp, hd']
theorem wRename {k : Nat} (s : DS) (h : DInv s) (hw : s.writes < 9223372036854775807) (X : Mp) (n t : List UInt8) (o : Option disk_file) (hact : ∀ c f d w, disk_Disk_Rename_1_pppp_psmvvvvmvxv k c f d w s.x n o t = some X) : ∃ q, disk_Disk_write_pcppppc_smvvvvmrvxv k s.cap s.fuse s.dead s.writes s.x n o t = some q ∧ (q.1, q.2.1, q.2.2.1, q.2.2.2.1, q.2.2.2.2.1) = tup (wr s X s.x) := by
  have e1 : w64 (s.writes + 1) = s.writes + 1 := w64_id (by have := h.wr1; omega) (by omega)
  unfold wr
  by_cases hd : s.dead = true
  · rw [if_pos hd]
    refine ⟨_, by simp only [disk_Disk_write_pcppppc_smvvvvmrvxv, hd, if_true]; rfl, ?_⟩
    rw [tup, hd]
  · have hd' : s.dead = false := by simpa using hd
    rw [if_neg hd]
    by_cases hz : s.fuse = 0
    · rw [if_pos hz]
      have hz' : (s.fuse == 0) = true := by rw [hz]; rfl
      refine ⟨_, by simp only [disk_Disk_write_pcppppc_smvvvvmrvxv, hd', Bool.false_eq_true, if_false, e1, hz', if_true, disk_nothing, Option.bind_some, lt1]; rfl, rfl⟩
    · rw [if_neg hz]
      have hz' : (s.fuse == 0) = false := by simpa using hz
      by_cases hp : s.fuse > 0
      · have e2 : w64 (s.fuse - 1) = s.fuse - 1 := w64_id (by omega) (by have := h.fuse2; omega)
        refine ⟨_, by simp only [disk_Disk_write_pcppppc_smvvvvmrvxv, hd', Bool.false_eq_true, if_false, e1, hz', dec_t hp, if_true, e2, Option.bind_some, lt1, hact]; rfl, ?_⟩
        rw [tup, if_pos hp, hd']
      · refine ⟨_, by simp only [disk_Disk_write_pcppppc_smvvvvmrvxv, hd', Bool.false_eq_true, if_false, e1, hz', dec_f hp, Option.bind_some, lt1, hact]; rfl, ?_⟩
        rw [tup, if_neg hp, hd']
theorem old_some {x : Mp} {n : List UInt8} {u : disk_file} (h : mget n x = some u) : old x n = u := by simp [old, h]
def sync (s : DS) (n : List UInt8) : Int × DS := if fnd s.x n = 0 then wr s (mput n { old s.x n with lasts := ((old s.x n).b.length : Int) } s.x) s.x else (fnd s.x n, s)
def cutF (u : disk_file) (m : Int) : disk_file := ⟨u.b.take m.toNat, minI m u.lasts⟩
def cut (s : DS) (n : List UInt8) (m : Int) : Int × DS :=
  if fnd s.x n = 0 then (if m < 0 ∨ m > (old s.x n).b.length then (2, s) else wr s (mput n (cutF (old s.x n) m) s.x) s.x) else if fnd s.x n = 6 ∧ m < 0 then (2, s) else (fnd s.x n, s)
def rename (s : DS) (n t : List UInt8) : Int × DS := if mayN t = false then (2, s) else if fnd s.x n = 0 then wr s (mput t (old s.x n) (mdel n s.x)) s.x else (fnd s.x n, s)
def remove (s : DS) (n : List UInt8) : Int × DS := if fnd s.x n = 0 then wr s (mdel n s.x) s.x else (fnd s.x n, s)
theorem sync_eq {k : Nat} (s : DS) (h : DInv s) (hw : s.writes < 9223372036854775807) (n : List UInt8) (hk : n.length < k) (hn : n.length ≤ 1000000) : disk_Disk_Sync_pv_smvvvvm k n s.cap s.fuse s.dead s.writes s.x = some (tup (sync s n)) := by
  unfold sync
  rcases fnd_cases s.x n with ⟨h1, h2⟩ | ⟨h1, h2, h3⟩ | ⟨h1, h2, u, h3⟩
  · have e : ((2 : Int) != 0) = true := rfl
    rw [if_neg (by rw [h1]; decide)]
    simp only [disk_Disk_Sync_pv_smvvvvm, find_eq n hk hn, Option.bind_some, lt1, h1, e, if_true]; rfl
  · have e : ((6 : Int) != 0) = true := rfl
    rw [if_neg (by rw [h1]; decide)]
    simp only [disk_Disk_Sync_pv_smvvvvm, find_eq n hk hn, Option.bind_some, lt1, h1, e, if_true]; rfl
  · have e : ((0 : Int) != 0) = false := rfl
    rw [if_pos h1, old_some h3]
    have hg : mgetO (some s.x) n = some u := h3
    obtain ⟨q, q1, q2⟩ := wSync s h hw (mput n { u with lasts := (u.b.length : Int) } s.x) n (some u) (k := k) (by simp only [disk_Disk_Sync_1_p_xm, Option.bind_some, hg, qupdN, h3, Option.map_some])
    simp only [disk_Disk_Sync_pv_smvvvvm, find_eq n hk hn, Option.bind_some, lt1, h1, e, if_true, h3, Bool.false_eq_true, if_false, q1]
    exact congrArg some q2
theorem cut_eq {k : Nat} (s : DS) (h : DInv s) (hw : s.writes < 9223372036854775807) (n : List UInt8) (m : Int) (hk : n.length < k) (hn : n.length ≤ 1000000) : disk_Disk_Cut_pvv_smvvvvm k n m s.cap s.fuse s.dead s.writes s.x = some (tup (cut s n m)) := by
  unfold cut
  rcases fnd_cases s.x n with ⟨h1, h2⟩ | ⟨h1, h2, h3⟩ | ⟨h1, h2, u, h3⟩
  · have e : ((2 : Int) != 0) = true := rfl
    have e6 : ((2 : Int) == 6) = false := rfl
    rw [if_neg (by rw [h1]; decide), if_neg (by rw [h1]; intro h; exact absurd h.1 (by decide))]
    simp only [disk_Disk_Cut_pvv_smvvvvm, find_eq n hk hn, Option.bind_some, lt1, h1, e, e6, cond_false, Bool.false_eq_true, if_false, if_true]; rfl
  · have e : ((6 : Int) != 0) = true := rfl
    have e6 : ((6 : Int) == 6) = true := rfl
    rw [if_neg (by rw [h1]; decide)]
    by_cases hm : m < 0
    · rw [if_pos ⟨h1, hm⟩]
      simp only [disk_Disk_Cut_pvv_smvvvvm, find_eq n hk hn, Option.bind_some, lt1, h1, e6, cond_true, dec_t hm, if_true]; rfl
    · rw [if_neg (fun h => hm h.2)]
      simp only [disk_Disk_Cut_pvv_smvvvvm, find_eq n hk hn, Option.bind_some, lt1, h1, e6, cond_true, dec_f hm, Bool.false_eq_true, if_false, e, if_true]; rfl
  · have e : ((0 : Int) != 0) = false := rfl
    have e6 : ((0 : Int) == 6) = false := rfl
    rw [if_pos h1, old_some h3]
    have hg : mgetO (some s.x) n = some u := h3
    by_cases hm : m < 0
    · rw [if_pos (.inl hm)]
      simp only [disk_Disk_Cut_pvv_smvvvvm, find_eq n hk hn, Option.bind_some, lt1, h1, e6, cond_false, Bool.false_eq_true, if_false, e, dec_t hm, if_true]; rfl
    · by_cases hl : m > u.b.length
      · rw [if_pos (.inr hl)]
        simp only [disk_Disk_Cut_pvv_smvvvvm, find_eq n hk hn, Option.bind_some, lt1, h1, e6, cond_false, Bool.false_eq_true, if_false, e, dec_f hm, if_true, h3, hg, dec_t hl]; rfl
      · rw [if_neg (fun h => h.elim hm hl)]
        have hs : subL u.b 0 m = some (u.b.take m.toNat) := by
          rw [subL_ok (by omega) (by omega) (by omega)]; simp
        have hx1 : qupdN s.x n (fun v => { v with b := u.b.take m.toNat }) = some (mput n { u with b := u.b.take m.toNat } s.x) := by simp only [qupdN, h3, Option.map_some]
        have hx2 : qupdN (mput n { u with b := u.b.take m.toNat } s.x) n (fun v => { v with lasts := minI m u.lasts }) = some (mput n (cutF u m) s.x) := by
          simp only [qupdN, mget_mput, if_true, Option.map_some, mput_mput]; rfl
        obtain ⟨q, q1, q2⟩ := wCut s h hw (mput n (cutF u m) s.x) n (some u) m (k := k) (by simp only [disk_Disk_Cut_1_pp_xmv, Option.bind_some, hg, hs, lt1, hx1, hx2])
        simp only [disk_Disk_Cut_pvv_smvvvvm, find_eq n hk hn, Option.bind_some, lt1, h1, e6, cond_false, Bool.false_eq_true, if_false, e, dec_f hm, if_true, h3, hg, dec_f hl, q1]
        exact congrArg some q2
theorem rename_eq {k : Nat} (s : DS) (h : DInv s) (hw : s.writes < 9223372036854775807) (n t : List UInt8) (hk : n.length < k) (hn : n.length ≤ 1000000) (hk' : t.length < k) (hn' : t.length ≤ 1000000) : disk_Disk_Rename_pvv_smvvvvm k n t s.cap s.fuse s.dead s.writes s.x = some (tup (rename s n t)) := by
  unfold rename
  have hm := mayName_eq t hk' hn'
  have g1 : (fnd s.x n == 1) = false := by
    rcases fnd_cases s.x n with ⟨h1, _⟩ | ⟨h1, _⟩ | ⟨h1, _⟩ <;> rw [h1] <;> rfl
  by_cases ht : mayN t = true
  · rw [if_neg (by rw [ht]; decide)]
    rcases fnd_cases s.x n with ⟨h1, h2⟩ | ⟨h1, h2, h3⟩ | ⟨h1, h2, u, h3⟩
    · have e : ((2 : Int) != 0) = true := rfl
      rw [if_neg (by rw [h1]; decide)]
      simp only [disk_Disk_Rename_pvv_smvvvvm, find_eq n hk hn, Option.bind_some, lt1, g1, Bool.false_eq_true, if_false, hm, ht, Bool.not_true, h1, e, if_true]; rfl
    · have e : ((6 : Int) != 0) = true := rfl
      rw [if_neg (by rw [h1]; decide)]
      simp only [disk_Disk_Rename_pvv_smvvvvm, find_eq n hk hn, Option.bind_some, lt1, g1, Bool.false_eq_true, if_false, hm, ht, Bool.not_true, h1, e, if_true]; rfl
    · have e : ((0 : Int) != 0) = false := rfl
      rw [if_pos h1, old_some h3]
      have hg : mgetO (some s.x) n = some u := h3
      obtain ⟨q, q1, q2⟩ := wRename s h hw (mput t u (mdel n s.x)) n t (some u) (k := k) (fun c f d w => by simp only [disk_Disk_Rename_1_pppp_psmvvvvmvxv, hg, andO, Option.bind_some, lt1])
      simp only [disk_Disk_Rename_pvv_smvvvvm, find_eq n hk hn, Option.bind_some, lt1, g1, Bool.false_eq_true, if_false, hm, ht, Bool.not_true, h1, e, if_true, h3, q1]
      exact congrArg some q2
  · have ht : mayN t = false := by simpa using ht
    rw [if_pos ht]
    simp only [disk_Disk_Rename_pvv_smvvvvm, find_eq n hk hn, Option.bind_some, lt1, g1, Bool.false_eq_true, if_false, hm, ht, Bool.not_false, if_true]; rfl
theorem remove_eq {k : Nat} (s : DS) (h : DInv s) (hw : s.writes < 9223372036854775807) (n : List UInt8) (hk : n.length < k) (hn : n.length ≤ 1000000) : disk_Disk_Remove_pv_smvvvvm k n s.cap s.fuse s.dead s.writes s.x = some (tup (remove s n)) := by
  unfold remove
  rcases fnd_cases s.x n with ⟨h1, h2⟩ | ⟨h1, h2, h3⟩ | ⟨h1, h2, u, h3⟩
  · have e : ((2 : Int) != 0) = true := rfl
    rw [if_neg (by rw [h1]; decide)]
    simp only [disk_Disk_Remove_pv_smvvvvm, find_eq n hk hn, Option.bind_some, lt1, h1, e, if_true]; rfl
  · have e : ((6 : Int) != 0) = true := rfl
    rw [if_neg (by rw [h1]; decide)]
    simp only [disk_Disk_Remove_pv_smvvvvm, find_eq n hk hn, Option.bind_some, lt1, h1, e, if_true]; rfl
  · have e : ((0 : Int) != 0) = false := rfl
    rw [if_pos h1]
    obtain ⟨q, q1, q2⟩ := wRemove s h hw (mdel n s.x) n (k := k) (fun c f d w => rfl)
    simp only [disk_Disk_Remove_pv_smvvvvm, find_eq n hk hn, Option.bind_some, lt1, h1, e, Bool.false_eq_true, if_false, q1]
    exact congrArg some q2
theorem read_eq {k : Nat} (n : List UInt8) (hk : n.length < k) (hn : n.length ≤ 1000000) (s : DS) (h : DInv s) (c f : Int) (d : Bool) (w : Int) : disk_Disk_Read_pv_smvvvvm k n c f d w s.x = some (if fnd s.x n = 0 then (old s.x n).b else [], fnd s.x n) := by
  rcases fnd_cases s.x n with ⟨h1, h2⟩ | ⟨h1, h2, h3⟩ | ⟨h1, h2, u, h3⟩
  · have e : ((2 : Int) != 0) = true := rfl
    simp only [disk_Disk_Read_pv_smvvvvm, find_eq n hk hn, Option.bind_some, lt1, h1, e, if_true]; rfl
  · have e : ((6 : Int) != 0) = true := rfl
    simp only [disk_Disk_Read_pv_smvvvvm, find_eq n hk hn, Option.bind_some, lt1, h1, e, if_true]; rfl
  · have e : ((0 : Int) != 0) = false := rfl
    have hg : mgetO (some s.x) n = some u := h3
    simp only [disk_Disk_Read_pv_smvvvvm, find_eq n hk hn, Option.bind_some, lt1, h1, e, Bool.false_eq_true, if_false, if_true, h3, hg, clone5 k u.b (by have := h.size h3; omega), old_some h3]
theorem lasts_eq {k : Nat} (n : List UInt8) (hk : n.length < k) (hn : n.length ≤ 1000000) (x : Mp) (c f : Int) (d : Bool) (w : Int) : disk_Disk_Lasts_pv_smvvvvm k n c f d w x = some (if fnd x n = 0 then (old x n).lasts else 0, fnd x n) := by
  rcases fnd_cases x n with ⟨h1, h2⟩ | ⟨h1, h2, h3⟩ | ⟨h1, h2, u, h3⟩
  · have e : ((2 : Int) != 0) = true := rfl
    simp only [disk_Disk_Lasts_pv_smvvvvm, find_eq n hk hn, Option.bind_some, lt1, h1, e, if_true]; rfl
  · have e : ((6 : Int) != 0) = true := rfl
    simp only [disk_Disk_Lasts_pv_smvvvvm, find_eq n hk hn, Option.bind_some, lt1, h1, e, if_true]; rfl
  · have e : ((0 : Int) != 0) = false := rfl
    have hg : mgetO (some x) n = some u := h3
    simp only [disk_Disk_Lasts_pv_smvvvvm, find_eq n hk hn, Option.bind_some, lt1, h1, e, Bool.false_eq_true, if_false, if_true, h3, hg, old_some h3]
theorem fuse_eq (k : Nat) (n c f : Int) (d : Bool) (w : Int) (x : Mp) : disk_Disk_Fuse_pv_smvvvvm k n c f d w x = some (maxI n (-1)) := rfl
/-! ### what stays -/
structure XInv (cap : Int) (x : Mp) : Prop where
  kn : (x.map Prod.fst).Nodup
  tot : (tot sz x : Int) ≤ cap
  lasts : ∀ e ∈ x, 0 ≤ e.2.lasts ∧ e.2.lasts ≤ e.2.b.length
  names : ∀ e ∈ x, mayN e.1 = true
  len : x.length ≤ 64
theorem DInv.X {s : DS} (h : DInv s) : XInv s.cap s.x := ⟨h.kn, h.tot, h.lasts, h.names, h.len⟩
theorem DInv.of {s : DS} (h : DInv s) {x : Mp} {f w : Int} {d : Bool} (hx : XInv s.cap x) (h1 : -1 ≤ f) (h2 : f ≤ 9223372036854775807) (h3 : 0 ≤ w) : DInv ⟨s.cap, f, d, w, x⟩ := ⟨h.cap1, h.cap2, h1, h2, h3, hx.kn, hx.tot, hx.lasts, hx.names, hx.len⟩
theorem wr_inv {s : DS} (h : DInv s) {a b : Mp} (ha : XInv s.cap a) (hb : XInv s.cap b) : DInv (wr s a b).2 ∧ (wr s a b).2.cap = s.cap ∧ (wr s a b).2.writes ≤ s.writes + 1 := by
  have h1 := h.fuse1; have h2 := h.fuse2; have h3 := h.wr1
  unfold wr
  by_cases hd : s.dead = true
  · rw [if_pos hd]; exact ⟨h, rfl, by show s.writes ≤ s.writes + 1; omega⟩
  · rw [if_neg hd]
    by_cases hz : s.fuse = 0
    · rw [if_pos hz]; exact ⟨h.of hb h1 h2 (by omega), rfl, Int.le_refl _⟩
    · rw [if_neg hz]
      refine ⟨h.of ha ?_ ?_ (by omega), rfl, Int.le_refl _⟩ <;> split <;> omega
theorem XInv.put {cap : Int} {x : Mp} (h : XInv cap x) {n : List UInt8} {u f : disk_file} (hg : mget n x = some u) (hf : f.b.length ≤ u.b.length) (hl : 0 ≤ f.lasts ∧ f.lasts ≤ f.b.length) : XInv cap (mput n f x) := by
  refine ⟨mput_nodup _ _ _ h.kn, ?_, fun e he => ?_, fun e he => ?_, ?_⟩
  · have h1 := tot_put sz n f x
    rw [hg] at h1
    simp only [Option.map_some, Option.getD_some, sz] at h1
    have := h.tot
    omega
  · rcases mem_mput he with rfl | he
    · exact hl
    · exact h.lasts e he
  · rcases mem_mput he with rfl | he
    · show mayN n = true; exact h.names (n, u) (mget_mem hg)
    · exact h.names e he
  · rw [len_put, hg]; exact h.len
theorem XInv.del {cap : Int} {x : Mp} (h : XInv cap x) (n : List UInt8) : XInv cap (mdel n x) := by
  refine ⟨mdel_nodup h.kn, ?_, fun e he => h.lasts e (mem_mdel he), fun e he => h.names e (mem_mdel he), ?_⟩
  · have h1 := tot_del sz n x
    have := h.tot
    omega
  · have := h.len
    rw [len_del]; split <;> omega
theorem old_inv {cap : Int} {x : Mp} (h : XInv cap x) (n : List UInt8) : 0 ≤ (old x n).lasts ∧ (old x n).lasts ≤ (old x n).b.length := by
  unfold old
  cases hg : mget n x with
  | none => exact ⟨Int.le_refl _, Int.le_refl _⟩
  | some u => exact h.lasts _ (mget_mem hg)
theorem XInv.lay {s : DS} (h : DInv s) {n b : List UInt8} (hn : mayN n = true) (hf : ¬ full s n b) : XInv s.cap (lay s.x n b) := by
  have hX := h.X
  have hroom : (b.length : Int) ≤ s.cap - (_root_.Go.Proofs.Ytipchpbcjkhnaaa.tot sz s.x : Int) := Int.not_lt.1 fun h => hf (.inl h)
  refine ⟨mput_nodup _ _ _ h.kn, ?_, fun e he => ?_, fun e he => ?_, ?_⟩
  · have h1 := tot_put sz n ⟨(old s.x n).b ++ b, (old s.x n).lasts⟩ s.x
    have h2 : ((mget n s.x).map sz).getD 0 = (old s.x n).b.length := by
      unfold old
      cases mget n s.x <;> rfl
    rw [h2] at h1
    simp only [sz, List.length_append] at h1
    unfold _root_.Go.Proofs.Ytipchpbcjkhnaaa.lay
    omega
  · rcases mem_mput he with rfl | he
    · have := old_inv hX n
      simp only [List.length_append]
      omega
    · exact h.lasts e he
  · rcases mem_mput he with rfl | he
    · exact hn
    · exact h.names e he
  · unfold _root_.Go.Proofs.Ytipchpbcjkhnaaa.lay
    rw [len_put]
    cases hg : mget n s.x with
    | none =>
      have : ¬ s.x.length ≥ 64 := fun h => hf (.inr ⟨hg, h⟩)
      simp; omega
    | some u => simpa using h.len
theorem append_inv {s : DS} (h : DInv s) (n b : List UInt8) : DInv (append s n b).2 ∧ (append s n b).2.cap = s.cap ∧ (append s n b).2.writes ≤ s.writes + 1 := by
  have h0 : DInv s ∧ s.cap = s.cap ∧ s.writes ≤ s.writes + 1 := ⟨h, rfl, by omega⟩
  unfold append
  by_cases hn : mayN n = false
  · rw [if_pos hn]; exact h0
  · rw [if_neg hn]
    have hn : mayN n = true := by simpa using hn
    by_cases hf : full s n b
    · rw [if_pos hf]; exact h0
    · rw [if_neg hf]; exact wr_inv h (XInv.lay h hn hf) (XInv.lay h hn hf)
theorem sync_inv {s : DS} (h : DInv s) (n : List UInt8) : DInv (sync s n).2 ∧ (sync s n).2.cap = s.cap ∧ (sync s n).2.writes ≤ s.writes + 1 := by
  unfold sync
  rcases fnd_cases s.x n with ⟨h1, h2⟩ | ⟨h1, h2, h3⟩ | ⟨h1, h2, u, h3⟩
  · rw [if_neg (by rw [h1]; decide)]; exact ⟨h, rfl, by show s.writes ≤ s.writes + 1; omega⟩
  · rw [if_neg (by rw [h1]; decide)]; exact ⟨h, rfl, by show s.writes ≤ s.writes + 1; omega⟩
  · rw [if_pos h1, old_some h3]
    exact wr_inv h (h.X.put h3 (Nat.le_refl _) ⟨by show (0 : Int) ≤ (u.b.length : Int); omega, Int.le_refl _⟩) h.X
theorem cut_inv {s : DS} (h : DInv s) (n : List UInt8) (m : Int) : DInv (cut s n m).2 ∧ (cut s n m).2.cap = s.cap ∧ (cut s n m).2.writes ≤ s.writes + 1 := by
  have h0 : ∀ e : Int, DInv (e, s).2 ∧ (e, s).2.cap = s.cap ∧ (e, s).2.writes ≤ s.writes + 1 := fun e => ⟨h, rfl, by show s.writes ≤ s.writes + 1; omega⟩
  unfold cut
  rcases fnd_cases s.x n with ⟨h1, h2⟩ | ⟨h1, h2, h3⟩ | ⟨h1, h2, u, h3⟩
  · rw [if_neg (by rw [h1]; decide)]; split <;> exact h0 _
  · rw [if_neg (by rw [h1]; decide)]; split <;> exact h0 _
  · rw [if_pos h1, old_some h3]
    by_cases hm : m < 0 ∨ m > u.b.length
    · rw [if_pos hm]; exact h0 _
    · rw [if_neg hm]
      have hl : 0 ≤ u.lasts ∧ u.lasts ≤ u.b.length := h.lasts _ (mget_mem h3)
      refine wr_inv h (h.X.put h3 ?_ ?_) h.X
      · simp only [cutF, List.length_take]; omega
      · have : 0 ≤ m ∧ m ≤ u.b.length := ⟨by omega, by omega⟩
        simp only [cutF, List.length_take, minI]
        split <;> omega
theorem rename_inv {s : DS} (h : DInv s) (n t : List UInt8) : DInv (rename s n t).2 ∧ (rename s n t).2.cap = s.cap ∧ (rename s n t).2.writes ≤ s.writes + 1 := by
  have h0 : ∀ e : Int, DInv (e, s).2 ∧ (e, s).2.cap = s.cap ∧ (e, s).2.writes ≤ s.writes + 1 := fun e => ⟨h, rfl, by show s.writes ≤ s.writes + 1; omega⟩
  unfold rename
  by_cases ht : mayN t = false
  · rw [if_pos ht]; exact h0 _
  · rw [if_neg ht]
    have ht : mayN t = true := by simpa using ht
    rcases fnd_cases s.x n with ⟨h1, h2⟩ | ⟨h1, h2, h3⟩ | ⟨h1, h2, u, h3⟩
    · rw [if_neg (by rw [h1]; decide)]; exact h0 _
    · rw [if_neg (by rw [h1]; decide)]; exact h0 _
    · rw [if_pos h1, old_some h3]
      have hD := h.X.del n
      refine wr_inv h ⟨mput_nodup _ _ _ hD.kn, ?_, fun e he => ?_, fun e he => ?_, ?_⟩ h.X
      · have k1 := tot_put sz t u (mdel n s.x)
        have k2 := tot_del sz n s.x
        rw [h3] at k2
        simp only [Option.map_some, Option.getD_some] at k2
        have := h.tot
        omega
      · rcases mem_mput he with rfl | he
        · show 0 ≤ u.lasts ∧ u.lasts ≤ u.b.length; exact h.lasts (n, u) (mget_mem h3)
        · exact hD.lasts e he
      · rcases mem_mput he with rfl | he
        · exact ht
        · exact hD.names e he
      · have k3 := len_del n s.x
        rw [h3] at k3
        simp only [Option.isSome_some, if_true] at k3
        have k4 : 0 < s.x.length := by
          cases hx : s.x with
          | nil => rw [hx] at h3; cases h3
          | cons _ _ => simp
        have := h.len
        rw [len_put]; split <;> omega
theorem remove_inv {s : DS} (h : DInv s) (n : List UInt8) : DInv (remove s n).2 ∧ (remove s n).2.cap = s.cap ∧ (remove s n).2.writes ≤ s.writes + 1 := by
  unfold remove
  rcases fnd_cases s.x n with ⟨h1, h2⟩ | ⟨h1, h2, h3⟩ | ⟨h1, h2, u, h3⟩
  · rw [if_neg (by rw [h1]; decide)]; exact ⟨h, rfl, by show s.writes ≤ s.writes + 1; omega⟩
  · rw [if_neg (by rw [h1]; decide)]; exact ⟨h, rfl, by show s.writes ≤ s.writes + 1; omega⟩
  · rw [if_pos h1]; exact wr_inv h (h.X.del n) h.X
end Go.Proofs.Ytipchpbcjkhnaaa
