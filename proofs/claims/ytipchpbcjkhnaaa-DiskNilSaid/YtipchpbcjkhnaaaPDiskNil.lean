/- The plain law DiskNil. -/
import Derived.Test.YtipchpbcjkhnaaaD
namespace Go.Proofs.Ytipchpbcjkhnaaa
open Go Fw
set_option linter.unusedVariables false
set_option linter.unusedSimpArgs false
set_option maxRecDepth 100000

def nmI (i : Nat) : List UInt8 := [102, UInt8.ofNat (97 + i / 26), UInt8.ofNat (97 + i % 26)]
def filled : Nat → DS
  | 0 => ⟨16777216, -1, false, 0, []⟩
  | i + 1 => (append (filled i) (nmI i) []).2
def om : List UInt8 := [111, 110, 101, 45, 109, 111, 114, 101]
def E1 : DS := (rename (filled 64) [102, 97, 97] om).2
theorem filled_ok : (∀ i, i < 64 → (append (filled i) (nmI i) []).1 = 0 ∧ (filled i).fuse = -1 ∧ (filled i).dead = false ∧ (filled i).writes = (i : Int)) := by decide +kernel
theorem filled_end : (mget om (filled 64).x).isNone = true ∧ (filled 64).x.length = 64 ∧ (filled 64).fuse = -1 ∧ (filled 64).dead = false ∧ (filled 64).writes = 64 := by decide +kernel
theorem filled_ren : (rename (filled 64) [102, 97, 97] om).1 = 0 := by decide +kernel
theorem E1_ok : tot sz E1.x = 0 ∧ (mget om E1.x).isSome = true ∧ E1.fuse = -1 ∧ E1.dead = false ∧ E1.writes = 65 ∧ E1.x.length = 64 := by decide +kernel
theorem E1_fab : (old E1.x om).b = [] := by decide +kernel
theorem filled_inv : ∀ i, DInv (filled i) ∧ (filled i).cap = 16777216
  | 0 => ⟨D0 _ (by decide) (by decide), rfl⟩
  | i + 1 => by
    obtain ⟨h1, h2⟩ := filled_inv i
    obtain ⟨h3, h4, _⟩ := append_inv h1 (nmI i) []
    exact ⟨h3, h4.trans h2⟩
theorem nothing_n (k : Nat) (a : Int) (b : Int) (c : Bool) (d : Int) (x : Mp) : law05_nothing_np_smvvvvm (k + 1) a b c d x = some true := rfl
theorem nothing_z (k : Nat) (a : Int) (b : Int) (c : Bool) (d : Int) (x : Mp) : law05_nothing_pp_snvvvvsmvvvvm (k + 1) 0 0 false 0 a b c d x = some true := rfl
theorem same_z (k : Nat) : disk_Disk_Same_pn_snvvvv k 0 0 false 0 = some true := rfl
theorem nmI_ok (i : Nat) (hi : i < 64) : (UN.ofI ((97 : Int) + ((i / 26 : Nat) : Int)) : UInt8) = UInt8.ofNat (97 + i / 26) ∧ (UN.ofI ((97 : Int) + ((i % 26 : Nat) : Int)) : UInt8) = UInt8.ofNat (97 + i % 26) := by
  have : ∀ i, i < 64 → (UN.ofI ((97 : Int) + ((i / 26 : Nat) : Int)) : UInt8) = UInt8.ofNat (97 + i / 26) ∧ (UN.ofI ((97 : Int) + ((i % 26 : Nat) : Int)) : UInt8) = UInt8.ofNat (97 + i % 26) := by decide +kernel
  exact this i hi
theorem pure_DiskNil   : ∃ k, law05_DiskNil k  = some true := by
  refine ⟨100000, ?_⟩
  have hk : (100000 : Nat) = 99999 + 1 := rfl
  generalize (99999 : Nat) = K at hk
  have hK : 1000 ≤ K := by omega
  rw [hk]
  clear hk
  have hloop : loopO (fun s => law05_DiskNil.b1 (K + 1) s.1 s.2.1 s.2.2.1 s.2.2.2.1 s.2.2.2.2) (K + 1) (([] : (List ((List UInt8) × disk_file))), (-1 : Int), false, (0 : Int), (0 : Int)) = some (.inl ((filled 64).x, -1, false, 64)) := by
    refine loop_st (fun i => ((filled i).x, (-1 : Int), false, (i : Int), (i : Int))) _ 64 (fun i hi => ?_) ?_ (by omega)
    · obtain ⟨h1, h2, h3, h4⟩ := filled_ok i hi
      obtain ⟨i1, i2⟩ := filled_inv i
      have hn := nmI_ok i hi
      have e := append_eq (k := K + 1) (filled i) i1 (by omega) (nmI i) [] (by simp [nmI]; omega) (by simp [nmI]) (by simp)
      have h5 : (filled (i + 1)).fuse = -1 ∧ (filled (i + 1)).dead = false ∧ (filled (i + 1)).writes = ((i + 1 : Nat) : Int) := by
        by_cases hi' : i + 1 < 64
        · exact (filled_ok (i + 1) hi').2
        · have : i + 1 = 64 := by omega
          rw [this]
          exact filled_end.2.2
      have e' : disk_Disk_Append_pvv_smvvvvm (K + 1) (nmI i) [] 16777216 (-1) false (i : Int) (filled i).x = some (0, (filled (i + 1)).x, -1, false, ((i + 1 : Nat) : Int)) := by
        rw [← h2, ← h3, ← i2]
        have h4' : disk_Disk_Append_pvv_smvvvvm (K + 1) (nmI i) [] (filled i).cap (filled i).fuse (filled i).dead (filled i).writes (filled i).x = some (tup (append (filled i) (nmI i) [])) := e
        rw [h4] at h4'
        rw [h4', tup, h1]
        have : (append (filled i) (nmI i) []).2 = filled (i + 1) := rfl
        rw [this, h5.1, h5.2.1, h5.2.2, h2, h3]
      have d1 : divI (i : Int) 26 = some ((i / 26 : Nat) : Int) := by
        unfold divI; rw [if_neg (by decide)]
        have : (i : Int).tdiv 26 = ((i / 26 : Nat) : Int) := rfl
        rw [this, w64_id (by omega) (by omega)]
      have d2 : modI (i : Int) 26 = some ((i % 26 : Nat) : Int) := by
        unfold modI; rw [if_neg (by decide)]; congr 1
      have w1 : w64 ((97 : Int) + ((i / 26 : Nat) : Int)) = (97 : Int) + ((i / 26 : Nat) : Int) := w64_id (by omega) (by omega)
      have w2 : w64 ((97 : Int) + ((i % 26 : Nat) : Int)) = (97 : Int) + ((i % 26 : Nat) : Int) := w64_id (by omega) (by omega)
      have cs : catS ([102] : List UInt8) ([UInt8.ofNat (97 + i / 26), UInt8.ofNat (97 + i % 26)] : List UInt8) = some (nmI i) := rfl
      simp only [law05_DiskNil.b1, lt1, dec_t (show (i : Int) < 64 by omega), if_true, d1, d2, Option.bind_some, w1, w2, hn.1, hn.2, cs, e', law05_num, show ((0 : Int) != 0) = false from rfl, Bool.false_eq_true, if_false, w64_succ (show i < 9223372036854775807 by omega)]
    · have : ¬ ((64 : Nat) : Int) < 64 := by decide
      simp only [law05_DiskNil.b1, lt1, dec_f this, Bool.false_eq_true, if_false]
      rfl
  obtain ⟨f1, f2, f3, f4, f5⟩ := filled_end
  obtain ⟨i1, i2⟩ := filled_inv 64
  have hom : mayN om = true := by decide
  have omk : om.length < K + 1 := by simp [om]; omega
  have e1 : disk_Disk_Append_pvv_smvvvvm (K + 1) om [] 16777216 (-1) false 64 (filled 64).x = some (5, (filled 64).x, -1, false, 64) := by
    have e := append_eq (k := K + 1) (filled 64) i1 (by omega) om [] omk (by decide) (by decide)
    have ha : append (filled 64) om [] = (5, filled 64) := by
      unfold append
      rw [if_neg (by rw [hom]; decide), if_pos (.inr ⟨Option.isNone_iff_eq_none.1 f1, by omega⟩)]
    rw [ha, tup, i2, f3, f4, f5] at e
    exact e
  obtain ⟨j1, j2, _⟩ := rename_inv i1 [102, 97, 97] om
  have j2 : E1.cap = 16777216 := j2.trans i2
  have j1 : DInv E1 := j1
  obtain ⟨g1, g2, g3, g4, g5, g6⟩ := E1_ok
  have e2 : disk_Disk_Rename_pvv_smvvvvm (K + 1) [102, 97, 97] om 16777216 (-1) false 64 (filled 64).x = some (0, E1.x, -1, false, 65) := by
    have e := rename_eq (k := K + 1) (filled 64) i1 (by omega) [102, 97, 97] om (by simp; omega) (by decide) omk (by decide)
    rw [tup, filled_ren, i2, f3, f4, f5] at e
    have : (rename (filled 64) [102, 97, 97] om).2 = E1 := rfl
    rw [this, g3, g4, g5] at e
    exact e
  have hm : mkL 1 (16777216 : Int) (0 : UInt8) = some (List.replicate 16777216 0) := by
    unfold mkL
    rfl
  have hzl : (List.replicate 16777216 (0 : UInt8)).length = 16777216 := List.length_replicate ..
  generalize List.replicate 16777216 (0 : UInt8) = z at hm hzl
  obtain ⟨u, hu⟩ := Option.isSome_iff_exists.1 g2
  have ou : old E1.x om = u := old_some hu
  have hub : u.b = [] := by rw [← ou]; exact E1_fab
  let E2 : DS := ⟨16777216, -1, false, 66, lay E1.x om z⟩
  have ha : append E1 om z = (0, E2) := by
    unfold append
    have : ¬ full E1 om z := by
      rintro (h | h)
      · rw [j2, g1, hzl] at h; omega
      · rw [hu] at h; cases h.1
    rw [if_neg (by rw [hom]; decide), if_neg this]
    unfold wr
    rw [if_neg (by rw [g4]; decide), if_neg (by rw [g3]; decide), g3, g4, g5, j2]
    rfl
  have e3 : disk_Disk_Append_pvv_smvvvvm (K + 1) om z 16777216 (-1) false 65 E1.x = some (0, E2.x, -1, false, 66) := by
    have e := append_eq (k := K + 1) E1 j1 (by omega) om z omk (by decide) (by omega)
    rw [ha, g3, g4, g5, j2] at e
    exact e
  have l1 : DInv E2 := by
    have := (append_inv j1 om z).1
    rw [ha] at this
    exact this
  have ht : (tot sz E2.x : Int) = 16777216 := by
    have := tot_put sz om ⟨u.b ++ z, u.lasts⟩ E1.x
    have ho : (lay E1.x om z) = mput om ⟨u.b ++ z, u.lasts⟩ E1.x := by unfold lay; rw [ou]
    rw [hu, g1] at this
    simp only [Option.map_some, Option.getD_some, sz, hub, List.nil_append, List.length_nil, hzl] at this
    show (tot sz (lay E1.x om z) : Int) = _
    rw [ho, hub, List.nil_append]
    omega
  have e4 : disk_Disk_Append_pvv_smvvvvm (K + 1) [102, 97, 98] [1] 16777216 (-1) false 66 E2.x = some (5, E2.x, -1, false, 66) := by
    have e := append_eq (k := K + 1) E2 l1 (show (66 : Int) < 9223372036854775807 by decide) [102, 97, 98] [1] (by simp; omega) (by decide) (by decide)
    have hb : append E2 [102, 97, 98] [1] = (5, E2) := by
      unfold append
      rw [if_neg (by decide), if_pos (.inl (by rw [ht]; show (1 : Int) > 16777216 - 16777216; decide))]
    rw [hb] at e
    exact e
  have e5 := room_eq (K + 1) E2 l1 (-1) false 66
  rw [ht] at e5
  have e5 : disk_Disk_Room_p_smvvvvm (K + 1) 16777216 (-1) false 66 E2.x = some 0 := e5
  have e1 : disk_Disk_Append_pvv_smvvvvm (K + 1) [111, 110, 101, 45, 109, 111, 114, 101] [] 16777216 (-1) false 64 (filled 64).x = some (5, (filled 64).x, -1, false, 64) := e1
  have e2 : disk_Disk_Rename_pvv_smvvvvm (K + 1) [102, 97, 97] [111, 110, 101, 45, 109, 111, 114, 101] 16777216 (-1) false 64 (filled 64).x = some (0, E1.x, -1, false, 65) := e2
  have e3 : disk_Disk_Append_pvv_smvvvvm (K + 1) [111, 110, 101, 45, 109, 111, 114, 101] z 16777216 (-1) false 65 E1.x = some (0, E2.x, -1, false, 66) := e3
  simp only [law05_DiskNil, new_ok (K + 1) 16777216 (by decide) (by decide), law05_num, Option.bind_some, hloop, lt1, e1, e2, hm, e3, e4, e5, show ((5 : Int) == 5) = true from rfl, show ((0 : Int) == 0) = true from rfl, if_true, nothing_n, nothing_z, same_z, known5 (show 1000 ≤ K + 1 by omega), cond_true]
end Go.Proofs.Ytipchpbcjkhnaaa
