/- Disks: the known courses. -/
import Derived.Test.YtipchpbcjkhnaaaC
namespace Go.Proofs.Ytipchpbcjkhnaaa
open Go Fw
set_option linter.unusedVariables false
set_option linter.unusedSimpArgs false

theorem D0 (c : Int) (h1 : 1 ≤ c) (h2 : c ≤ 16777216) : DInv ⟨c, -1, false, 0, []⟩ :=
  ⟨h1, h2, show (-1 : Int) ≤ -1 by decide, show (-1 : Int) ≤ 9223372036854775807 by decide, show (0 : Int) ≤ 0 by decide, by simp, by simp only [tot, List.map_nil, List.sum_nil]; omega, by simp, by simp, by simp⟩
theorem new_ok (k : Nat) (c : Int) (h1 : 1 ≤ c) (h2 : c ≤ 16777216) : disk_New k c = some (.inl ()) := by
  simp only [disk_New, lt1, dec_f (show ¬ c < 1 by omega), dec_f (show ¬ c > 16777216 by omega), cond_false, Option.bind_some, Bool.false_eq_true, if_false]
theorem crash_one (keep : List Int) (n : List UInt8) (u : disk_file) : (crash keep [(n, u)]).1 = (lose keep ([(n, u)], 0) n).1 := by
  have h1 : canon [(n, u)] = [(n, u)] := List.singleton_perm.1 (canon_perm [(n, u)]) |>.symm
  unfold crash names
  rw [h1]
  simp only [List.map_cons, List.map_nil, List.mergeSort_singleton, List.foldl_cons, List.foldl_nil]
theorem known5 {k : Nat} (hk : 1000 ≤ k) : law05_known k = some true := by
  have i0 := D0 9 (by decide) (by decide)
  have a1 : append ⟨9, -1, false, 0, []⟩ [97] [120, 121, 122] = (0, ⟨9, -1, false, 1, [([97], ⟨[120, 121, 122], 0⟩)]⟩) := rfl
  have i1 := (append_inv i0 [97] [120, 121, 122]).1
  have e1 := append_eq (k := k) _ i0 (by decide) [97] [120, 121, 122] (by simp; omega) (by decide) (by decide)
  rw [a1] at i1 e1
  have a2 : sync ⟨9, -1, false, 1, [([97], ⟨[120, 121, 122], 0⟩)]⟩ [97] = (0, ⟨9, -1, false, 2, [([97], ⟨[120, 121, 122], 3⟩)]⟩) := rfl
  have i2 := (sync_inv i1 [97]).1
  have e2 := sync_eq (k := k) _ i1 (by decide) [97] (by simp; omega) (by decide)
  rw [a2] at i2 e2
  have a3 : append ⟨9, -1, false, 2, [([97], ⟨[120, 121, 122], 3⟩)]⟩ [97] [117, 118] = (0, ⟨9, -1, false, 3, [([97], ⟨[120, 121, 122, 117, 118], 3⟩)]⟩) := rfl
  have i3 := (append_inv i2 [97] [117, 118]).1
  have e3 := append_eq (k := k) _ i2 (by decide) [97] [117, 118] (by simp; omega) (by decide) (by decide)
  rw [a3] at i3 e3
  have e4 := fun c f d w => crash_eq (k := k) (by omega) [1] _ i3 c f d w
  have a4 : (crash [1] [([97], (⟨[120, 121, 122, 117, 118], 3⟩ : disk_file))]).1 = [([97], ⟨[120, 121, 122, 117], 4⟩)] := by rw [crash_one]; rfl
  simp only [a4] at e4
  have i4 : DInv ⟨9, -1, false, 0, [([97], ⟨[120, 121, 122, 117], 4⟩)]⟩ :=
    ⟨by decide, by decide, by decide, by decide, by decide, by simp, by simp [tot, sz], by simp, by simp; rfl, by simp⟩
  have e5 := fun c f d w => read_eq (k := k) [97] (by simp; omega) (by decide) _ i4 c f d w
  have a5 : fnd [([97], (⟨[120, 121, 122, 117], 4⟩ : disk_file))] [97] = 0 := rfl
  have b5 : old [([97], (⟨[120, 121, 122, 117], 4⟩ : disk_file))] [97] = ⟨[120, 121, 122, 117], 4⟩ := rfl
  simp only [a5, b5, if_true] at e5
  have e6 := fun c f d w => lasts_eq (k := k) [97] (by simp; omega) (by decide) [([97], (⟨[120, 121, 122, 117, 118], 3⟩ : disk_file))] c f d w
  have a6 : fnd [([97], (⟨[120, 121, 122, 117, 118], 3⟩ : disk_file))] [97] = 0 := rfl
  have b6 : old [([97], (⟨[120, 121, 122, 117, 118], 3⟩ : disk_file))] [97] = ⟨[120, 121, 122, 117, 118], 3⟩ := rfl
  simp only [a6, b6, if_true] at e6
  have j3 : DInv ⟨9, 1, false, 3, [([97], ⟨[120, 121, 122, 117, 118], 3⟩)]⟩ := i3.of i3.X (by decide) (by decide) (by decide)
  have a7 : rename ⟨9, 1, false, 3, [([97], ⟨[120, 121, 122, 117, 118], 3⟩)]⟩ [97] [98] = (0, ⟨9, 0, false, 4, [([98], ⟨[120, 121, 122, 117, 118], 3⟩)]⟩) := rfl
  have i7 := (rename_inv j3 [97] [98]).1
  have e7 := rename_eq (k := k) _ j3 (by decide) [97] [98] (by simp; omega) (by decide) (by simp; omega) (by decide)
  rw [a7] at i7 e7
  have a8 : append ⟨9, 0, false, 4, [([98], ⟨[120, 121, 122, 117, 118], 3⟩)]⟩ [98] [119] = (8, ⟨9, 0, true, 5, [([98], ⟨[120, 121, 122, 117, 118, 119], 3⟩)]⟩) := rfl
  have i8 := (append_inv i7 [98] [119]).1
  have e8 := append_eq (k := k) _ i7 (by decide) [98] [119] (by simp; omega) (by decide) (by decide)
  rw [a8] at i8 e8
  have e9 := fun c f d w => read_eq (k := k) [98] (by simp; omega) (by decide) _ i8 c f d w
  have a9 : fnd [([98], (⟨[120, 121, 122, 117, 118, 119], 3⟩ : disk_file))] [98] = 0 := rfl
  have b9 : old [([98], (⟨[120, 121, 122, 117, 118, 119], 3⟩ : disk_file))] [98] = ⟨[120, 121, 122, 117, 118, 119], 3⟩ := rfl
  simp only [a9, b9, if_true] at e9
  have f9 := fun c f d w => read_eq (k := k) [99] (by simp; omega) (by decide) _ i8 c f d w
  have c9 : fnd [([98], (⟨[120, 121, 122, 117, 118, 119], 3⟩ : disk_file))] [99] = 6 := rfl
  simp only [c9] at f9
  have a10 : cut ⟨9, 0, true, 5, [([98], ⟨[120, 121, 122, 117, 118, 119], 3⟩)]⟩ [98] 0 = (8, ⟨9, 0, true, 5, [([98], ⟨[120, 121, 122, 117, 118, 119], 3⟩)]⟩) := rfl
  have e10 := cut_eq (k := k) _ i8 (by decide) [98] 0 (by simp; omega) (by decide)
  rw [a10] at e10
  have a11 : append ⟨9, 0, true, 5, [([98], ⟨[120, 121, 122, 117, 118, 119], 3⟩)]⟩ [66] [120] = (2, ⟨9, 0, true, 5, [([98], ⟨[120, 121, 122, 117, 118, 119], 3⟩)]⟩) := rfl
  have e11 := append_eq (k := k) _ i8 (by decide) [66] [120] (by simp; omega) (by decide) (by decide)
  rw [a11] at e11
  have a12 : append ⟨9, 0, true, 5, [([98], ⟨[120, 121, 122, 117, 118, 119], 3⟩)]⟩ [98] (List.replicate 99 0) = (5, ⟨9, 0, true, 5, [([98], ⟨[120, 121, 122, 117, 118, 119], 3⟩)]⟩) := rfl
  have e12 := append_eq (k := k) _ i8 (by decide) [98] (List.replicate 99 0) (by simp; omega) (by decide) (by decide)
  rw [a12] at e12
  have m : mkL 1 (99 : Int) (0 : UInt8) = some (List.replicate 99 0) := rfl
  generalize List.replicate 99 (0 : UInt8) = z at m e12
  simp only [tup] at e1 e2 e3 e7 e8 e10 e11 e12
  have fu : maxI 1 (-1) = 1 := rfl
  have w0 : w64 ((0 : Int) + 0) = 0 := w64_id (by decide) (by decide)
  simp only [law05_known, new_ok k 9 (by decide) (by decide), law05_num, Option.bind_some, lt1, e1, e2, e3, w0]
  simp only [show ((0 : Int) != 0) = false from rfl, Bool.false_eq_true, if_false, Option.bind_some, e4, e5, e6, w0, fuse_eq, fu]
  simp [e4, e5, e6, w0, fuse_eq, fu, e7, e8, e9, f9, e10, e11, e12, m]
end Go.Proofs.Ytipchpbcjkhnaaa
