/- Disks: what each of their functions computes. -/
import Derived.Test.YtipchpbcjkhnaaaM
import Derived.Test.YtipchpbcjkhnaaaG
import Derived.Test.YtipchpbcjkhnaaaS
namespace Go.Proofs.Ytipchpbcjkhnaaa
open Go Fw
set_option linter.unusedVariables false
set_option linter.unusedSimpArgs false

abbrev Mp := List (List UInt8 × disk_file)
/-- A disk. -/
structure DS where
  cap : Int
  fuse : Int
  dead : Bool
  writes : Int
  x : Mp
def sz (f : disk_file) : Nat := f.b.length
def okC (c : UInt8) : Bool := !(((decide (c < 97) || decide (122 < c)) && (decide (c < 48) || decide (57 < c))) && (!(c == 46)) && (!(c == 45)))
def mayN (s : List UInt8) : Bool := s.all okC && (decide (1 ≤ s.length) && decide (s.length ≤ 32))
structure DInv (s : DS) : Prop where
  cap1 : 1 ≤ s.cap
  cap2 : s.cap ≤ 16777216
  fuse1 : -1 ≤ s.fuse
  fuse2 : s.fuse ≤ 9223372036854775807
  wr1 : 0 ≤ s.writes
  kn : (s.x.map Prod.fst).Nodup
  tot : (tot sz s.x : Int) ≤ s.cap
  lasts : ∀ e ∈ s.x, 0 ≤ e.2.lasts ∧ e.2.lasts ≤ e.2.b.length
  names : ∀ e ∈ s.x, mayN e.1 = true
  len : s.x.length ≤ 64
theorem DInv.size {s : DS} (h : DInv s) {n : List UInt8} {f : disk_file} (hf : mget n s.x = some f) : f.b.length ≤ 16777216 := by
  have h1 := tot_del sz n s.x
  rw [hf] at h1
  simp only [Option.map_some, Option.getD_some, sz] at h1
  have h2 := h.tot
  have h3 := h.cap2
  omega
theorem mayName_eq {k : Nat} (n : List UInt8) (hk : n.length < k) (hn : n.length ≤ 1000000) : disk_MayName k n = some (mayN n) := by
  have h1 := loop_all (body := fun s => disk_MayName.b1 k n s) n.length (fun i => ∀ h : i < n.length, okC n[i] = true) (b := false) (k := k) ?_ ?_ hk
  · simp only [disk_MayName, lt1, h1]
    by_cases ha : n.all okC = true
    · have : ∀ i, i < n.length → ∀ h : i < n.length, okC n[i] = true := fun i _ h => List.all_eq_true.1 ha _ (List.getElem_mem h)
      rw [if_pos this]
      simp only [Option.bind_some, mayN, ha, Bool.true_and]
      congr 1
      by_cases h1 : 1 ≤ n.length
      · by_cases h2 : n.length ≤ 32
        · simp only [dec_t (show (n.length : Int) ≥ 1 by omega), dec_t (show (n.length : Int) ≤ 32 by omega), dec_t h1, dec_t h2]; rfl
        · simp only [dec_t (show (n.length : Int) ≥ 1 by omega), dec_f (show ¬ (n.length : Int) ≤ 32 by omega), dec_t h1, dec_f h2]; rfl
      · simp only [dec_f (show ¬ (n.length : Int) ≥ 1 by omega), dec_f h1]; rfl
    · have : ¬ ∀ i, i < n.length → ∀ h : i < n.length, okC n[i] = true := fun h => ha (List.all_eq_true.2 fun c hc => by
        obtain ⟨i, hi, rfl⟩ := List.getElem_of_mem hc
        exact h i hi hi)
      rw [if_neg this]
      have ha : n.all okC = false := by simpa using ha
      simp only [Option.bind_some, mayN, ha, Bool.false_and]
  · intro i hi
    simp only [disk_MayName.b1, lt1, dec_t (show (i : Int) < (n.length : Int) by omega), if_true, idxL_lt hi, Option.bind_some, w64_succ (show i < 9223372036854775807 by omega)]
    have hb : (bif bif (bif (bif decide (n[i] < 97) then true else decide (122 < n[i])) then (bif decide (n[i] < 48) then true else decide (57 < n[i])) else false) then !(n[i] == 46) else false then !(n[i] == 45) else false) = !okC n[i] := by
      unfold okC
      cases decide (n[i] < 97) <;> cases decide (122 < n[i]) <;> cases decide (n[i] < 48) <;> cases decide (57 < n[i]) <;> cases (n[i] == 46) <;> cases (n[i] == 45) <;> rfl
    rw [hb]
    by_cases hc : okC n[i] = true
    · rw [if_pos (show ∀ h : i < n.length, okC n[i] = true from fun _ => hc)]; simp [hc]
    · have hc' : okC n[i] = false := by simpa using hc
      rw [if_neg (show ¬ ∀ h : i < n.length, okC n[i] = true from fun h => hc (h hi))]; simp [hc']
  · simp only [disk_MayName.b1, lt1, dec_f (show ¬ (n.length : Int) < (n.length : Int) by omega), Bool.false_eq_true, if_false]
theorem there5 (k : Nat) (a b : Int) (c : Bool) (d : Int) (x : Mp) : disk_Disk_there_p_smvvvvm k a b c d x = some () := rfl
theorem clone5 (k : Nat) (s : List UInt8) (h : s.length ≤ 140737488355328) : slices_Clonebyte_byte k s = some s := by
  simp only [slices_Clonebyte_byte, apL_ok (show (([] : List UInt8).length + s.length) * 1 ≤ 140737488355328 by simp; omega), Option.bind_some]
  rfl
theorem room_eq (k : Nat) (s : DS) (h : DInv s) (b : Int) (c : Bool) (d : Int) : disk_Disk_Room_p_smvvvvm k s.cap b c d s.x = some (s.cap - (tot sz s.x : Int)) := by
  have h1 : rangeM (Option.getD (some s.x) []) (fun n e => disk_Disk_Room_p_smvvvvm.b1 k s.x n e) (fun n => disk_Disk_Room_p_smvvvvm.f1 k n) s.cap = some (s.cap - (tot sz s.x : Int)) := by
    refine rangeM_of fun l hl => ?_
    have hl : l.Perm s.x := hl
    have key : ∀ (l : Mp) (n : Int), (∀ e ∈ l, e ∈ s.x) → -16777216 + (tot sz l : Int) ≤ n → n ≤ 16777216 → foldO (fun n e => disk_Disk_Room_p_smvvvvm.b1 k s.x n e) (fun n => disk_Disk_Room_p_smvvvvm.f1 k n) l n = some (n - (tot sz l : Int)) := by
      intro l
      induction l with
      | nil => intro n _ _ _; simp [foldO, disk_Disk_Room_p_smvvvvm.f1, tot]
      | cons e l ih =>
        intro n hm h1 h2
        have he := mget_of_mem h.kn (show (e.1, e.2) ∈ s.x from hm e (List.mem_cons_self ..))
        have e1 : mgetO (some s.x) e.1 = some e.2 := he
        have e2 : tot sz (e :: l) = e.2.b.length + tot sz l := by simp [tot, sz]
        have e3 : w64 (n - (e.2.b.length : Int)) = n - (e.2.b.length : Int) := w64_id (by omega) (by omega)
        have hb : disk_Disk_Room_p_smvvvvm.b1 k s.x n e = some (.inl (n - (e.2.b.length : Int))) := by simp only [disk_Disk_Room_p_smvvvvm.b1, e1, Option.bind_some, lt1, e3]
        simp only [foldO, hb]
        rw [ih _ (fun x hx => hm x (List.mem_cons_of_mem _ hx)) (by omega) (by omega), e2]
        congr 1
        omega
    rw [key l s.cap (fun e he => hl.mem_iff.1 he) (by rw [tot_perm sz hl]; have := h.tot; have := h.cap1; omega) h.cap2, tot_perm sz hl]
  simp only [disk_Disk_Room_p_smvvvvm, there5, Option.bind_some, h1]
/-- A write. -/
def wr (s : DS) (whole torn : Mp) : Int × DS :=
  if s.dead = true then (8, s) else if s.fuse = 0 then (8, { s with dead := true, writes := s.writes + 1, x := torn }) else (0, { s with writes := s.writes + 1, fuse := if s.fuse > 0 then s.fuse - 1 else s.fuse, x := whole })
def tup (r : Int × DS) : Int × Mp × Int × Bool × Int := (r.1, r.2.x, r.2.fuse, r.2.dead, r.2.writes)
def old (x : Mp) (n : List UInt8) : disk_file := (mget n x).getD ⟨[], 0⟩
def lay (x : Mp) (n b : List UInt8) : Mp := mput n ⟨(old x n).b ++ b, (old x n).lasts⟩ x
def full (s : DS) (n b : List UInt8) : Prop := (b.length : Int) > s.cap - (tot sz s.x : Int) ∨ (mget n s.x = none ∧ s.x.length ≥ 64)
instance (s : DS) (n b : List UInt8) : Decidable (full s n b) := inferInstanceAs (Decidable (_ ∨ _))
def append (s : DS) (n b : List UInt8) : Int × DS := if mayN n = false then (2, s) else if full s n b then (5, s) else wr s (lay s.x n b) (lay s.x n b)
theorem append1_eq (k : Nat) (x : Mp) (n b : List UInt8) (c : Int) (f : Int) (d : Bool) (w : Int) (hs : (old x n).b.length + b.length ≤ 140737488355328) : ∃ o, disk_Disk_Append_1_pppp_xmpsmvvvvvv k (mget n x) x c f d w n b = some (lay x n b, o) := by
  cases hg : mget n x with
  | none =>
    have ho : old x n = ⟨[], 0⟩ := by simp [old, hg]
    have e1 : mgetO (some (mput n (⟨[], 0⟩ : disk_file) x)) n = some ⟨[], 0⟩ := by show mget n _ = _; rw [mget_mput, if_pos rfl]
    have e2 : qupdN (mput n (⟨[], 0⟩ : disk_file) x) n (fun u => { u with b := [] ++ b }) = some (lay x n b) := by
      unfold qupdN
      rw [mget_mput, if_pos rfl]
      simp only [Option.map_some, mput_mput, lay, ho]
    rw [ho] at hs
    refine ⟨some default, ?_⟩
    simp only [disk_Disk_Append_1_pppp_xmpsmvvvvvv, lt1, Option.isNone_none, if_true, Option.bind_some, e1, clone5 k [] (by simp), apL_ok (show (([] : List UInt8).length + b.length) * 1 ≤ 140737488355328 by simp at hs ⊢; omega), e2]
  | some u =>
    have ho : old x n = u := by simp [old, hg]
    have e1 : mgetO (some x) n = some u := hg
    rw [ho] at hs
    have e2 : qupdN x n (fun v => { v with b := u.b ++ b }) = some (lay x n b) := by
      unfold qupdN
      rw [hg]
      simp only [Option.map_some, lay, ho]
    refine ⟨some u, ?_⟩
    simp only [disk_Disk_Append_1_pppp_xmpsmvvvvvv, lt1, Option.isNone_some, Bool.false_eq_true, if_false, Option.bind_some, e1, clone5 k u.b (by omega), apL_ok (show (u.b.length + b.length) * 1 ≤ 140737488355328 by omega), e2]
theorem old_size {s : DS} (h : DInv s) (n : List UInt8) : (old s.x n).b.length ≤ 16777216 := by
  unfold old
  cases hg : mget n s.x with
  | none => simp
  | some u => simpa using h.size hg
theorem append_eq {k : Nat} (s : DS) (h : DInv s) (hw : s.writes < 9223372036854775807) (n b : List UInt8) (hk : n.length < k) (hn : n.length ≤ 1000000) (hb : b.length ≤ 100000000) : disk_Disk_Append_pvv_smvvvvm k n b s.cap s.fuse s.dead s.writes s.x = some (tup (append s n b)) := by
  have hm := mayName_eq n hk hn
  unfold append
  by_cases hn' : mayN n = true
  · have e0 : (if mayN n = false then ((2 : Int), s) else if full s n b then (5, s) else wr s (lay s.x n b) (lay s.x n b)) = if full s n b then (5, s) else wr s (lay s.x n b) (lay s.x n b) := by rw [if_neg (by rw [hn']; decide)]
    rw [e0]
    have hf : ∀ (v : Bool) , (disk_Disk_Room_p_smvvvvm k s.cap s.fuse v s.writes s.x).bind (fun v_19 => if decide ((b.length : Int) > v_19) = true then some true else if (mget n s.x).isNone = true then some (decide ((s.x.length : Int) ≥ 64)) else some false) = some (decide (full s n b)) := by
      intro v
      rw [room_eq k s h]
      simp only [Option.bind_some]
      by_cases h1 : (b.length : Int) > s.cap - (tot sz s.x : Int)
      · rw [dec_t h1, if_pos rfl, dec_t (show full s n b from .inl h1)]
      · rw [dec_f h1, if_neg (by decide)]
        cases hg : mget n s.x with
        | none =>
          simp only [Option.isNone_none, if_true]
          by_cases h2 : s.x.length ≥ 64
          · rw [dec_t (show (s.x.length : Int) ≥ 64 by omega), dec_t (show full s n b from .inr ⟨hg, h2⟩)]
          · rw [dec_f (show ¬ (s.x.length : Int) ≥ 64 by omega), dec_f (show ¬ full s n b from fun h => h.elim h1 fun h => h2 h.2)]
        | some u =>
          simp only [Option.isNone_some, Bool.false_eq_true, if_false]
          rw [dec_f (show ¬ full s n b from fun h => h.elim h1 fun h => by rw [hg] at h; cases h.1)]
    by_cases hfl : full s n b
    · rw [if_pos hfl]
      simp only [dec_t hfl] at hf
      have hg : mgetO (some s.x) n = mget n s.x := rfl
      have hgd : (Option.getD (some s.x) []) = s.x := rfl
      simp only [disk_Disk_Append_pvv_smvvvvm, there5, Option.bind_some, hm, hn', lt1, Bool.not_true, Bool.false_eq_true, if_false, hg, hgd, hf, if_true]
      rfl
    · rw [if_neg hfl]
      simp only [dec_f hfl] at hf
      have hg : mgetO (some s.x) n = mget n s.x := rfl
      have hgd : (Option.getD (some s.x) []) = s.x := rfl
      have ha := fun c f d w => append1_eq k s.x n b c f d w (by have := old_size h n; omega)
      have e1 : w64 (s.writes + 1) = s.writes + 1 := w64_id (by have := h.wr1; omega) (by omega)
      unfold wr
      by_cases hd : s.dead = true
      · rw [if_pos hd]
        simp only [disk_Disk_Append_pvv_smvvvvm, there5, Option.bind_some, hm, hn', lt1, Bool.not_true, Bool.false_eq_true, if_false, hg, hgd, hf, disk_Disk_write_pcppppcrrrr_smvvvvmxrvv, hd, if_true]
        rw [tup, hd]
      · have hd' : s.dead = false := by simpa using hd
        rw [if_neg hd]
        by_cases hz : s.fuse = 0
        · rw [if_pos hz]
          obtain ⟨o, ho⟩ := ha s.cap s.fuse true (s.writes + 1)
          have hz' : (s.fuse == 0) = true := by rw [hz]; rfl
          simp only [disk_Disk_Append_pvv_smvvvvm, there5, Option.bind_some, hm, hn', lt1, Bool.not_true, Bool.false_eq_true, if_false, hg, hgd, hf, disk_Disk_write_pcppppcrrrr_smvvvvmxrvv, hd', e1, hz', if_true, ho]
          rfl
        · rw [if_neg hz]
          have hz' : (s.fuse == 0) = false := by simpa using hz
          by_cases hp : s.fuse > 0
          · obtain ⟨o, ho⟩ := ha s.cap (s.fuse - 1) false (s.writes + 1)
            have e2 : w64 (s.fuse - 1) = s.fuse - 1 := w64_id (by omega) (by have := h.fuse2; omega)
            simp only [disk_Disk_Append_pvv_smvvvvm, there5, Option.bind_some, hm, hn', lt1, Bool.not_true, Bool.false_eq_true, if_false, hg, hgd, hf, disk_Disk_write_pcppppcrrrr_smvvvvmxrvv, hd', e1, hz', dec_t hp, if_true, e2, ho]
            rw [tup, if_pos hp]
          · obtain ⟨o, ho⟩ := ha s.cap s.fuse false (s.writes + 1)
            simp only [disk_Disk_Append_pvv_smvvvvm, there5, Option.bind_some, hm, hn', lt1, Bool.not_true, Bool.false_eq_true, if_false, hg, hgd, hf, disk_Disk_write_pcppppcrrrr_smvvvvmxrvv, hd', e1, hz', dec_f hp, ho]
            rw [tup, if_neg hp]
  · have hn' : mayN n = false := by simpa using hn'
    rw [if_pos hn']
    simp only [disk_Disk_Append_pvv_smvvvvm, there5, Option.bind_some, hm, hn', lt1, Bool.not_false, if_true]
    rfl
end Go.Proofs.Ytipchpbcjkhnaaa
