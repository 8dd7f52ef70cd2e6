/- The plain law NetNil. -/
import Derived.Test.YtnadeehdnmgebaaK
namespace Go.Proofs.Ytnadeehdnmgebaa
open Go Fw
set_option linter.unusedVariables false
set_option linter.unusedSimpArgs false

theorem mkL_ok (n : Nat) (hn : n ≤ 2000000) : ∃ b : List UInt8, mkL 1 (n : Int) (0 : UInt8) = some b ∧ b.length = n := by
  refine ⟨List.replicate n 0, ?_, List.length_replicate ..⟩
  unfold mkL
  rw [if_pos (by omega)]
  simp
def zf : api_Flight := ⟨1, 2, []⟩
def G (b : List UInt8) (j : Nat) : List api_Flight := ⟨1, 2, b⟩ :: List.replicate j zf
theorem G_mem {b : List UInt8} {j : Nat} {x : api_Flight} (h : x ∈ G b j) : x.From = 1 ∧ x.To = 2 := by
  rcases List.mem_cons.1 h with rfl | h
  · exact ⟨rfl, rfl⟩
  · rw [(List.mem_replicate.1 h).2]; exact ⟨rfl, rfl⟩
theorem G_len (b : List UInt8) (j : Nat) : (G b j).length = j + 1 := by simp [G]
theorem G_line (b : List UInt8) (j : Nat) : lineF (G b j) 1 2 = G b j := filter_all fun x hx => isL_iff.2 (G_mem hx)
theorem lay_all {F : List api_Flight} {g : api_Flight} (h : ∀ x ∈ F, ahead g x = true) : layF g F = F ++ [g] := by
  unfold layF
  have h1 := takeWhile_app (A := F) (B := []) h (fun x hx => nomatch hx)
  rw [List.append_nil] at h1
  rw [h1.1, h1.2]
theorem G_lay (b : List UInt8) (j : Nat) : layF zf (G b j) = G b (j + 1) := by
  rw [lay_all]
  · unfold G
    rw [List.cons_append, List.replicate_succ']
  · intro x hx
    obtain ⟨h1, h2⟩ := G_mem hx
    unfold ahead zf
    simp [h1, h2]
theorem nothing_eq (k : Nat) (hk : 1 ≤ k) : law12_nothing k = some true := by
  obtain ⟨j, rfl⟩ : ∃ j, k = j + 1 := ⟨k - 1, by omega⟩
  rfl
theorem nothing2_eq (k : Nat) (hk : 1 ≤ k) (a b : Int) : law12_nothing'2 k a b = some true := by
  obtain ⟨j, rfl⟩ : ∃ j, k = j + 1 := ⟨k - 1, by omega⟩
  rfl
theorem bad2 {n : Nat} (h : n ≤ 1048576) {f t : Int} (hf : f = 1 ∨ f = 2) (ht : t = 1 ∨ t = 2) (hne : f ≠ t) : ¬ badS 2 f t n := by
  unfold badS
  omega
theorem pure_NetNil   : ∃ k, law12_NetNil k  = some true := by
  obtain ⟨k, hk⟩ : ∃ k, k = 3000000 := ⟨3000000, rfl⟩
  refine ⟨k, ?_⟩
  have hnum : ∀ v, law12_num k v = some () := fun _ => rfl
  have hnew : net_New k 2 = some (.inl ()) := by
    simp only [net_New, lt1, dec_f (show ¬ (2 : Int) < 1 by omega), dec_f (show ¬ (2 : Int) > 16 by omega), cond_false, Option.bind_some, Bool.false_eq_true, if_false]
  obtain ⟨b1, m1, l1⟩ := mkL_ok 1048577 (by omega)
  obtain ⟨b2, m2, l2⟩ := mkL_ok 1048576 (by omega)
  have I0 : Inv [] 2 := Inv.nil (by omega)
  have F0 : allF [] 2 = [] := by decide
  obtain ⟨M1, s1, i1, f1⟩ := Send_F k I0 1 2 b1 0
  have e1 : sendF 2 1 2 b1 0 (allF [] 2) = (2, [], 0) := by
    unfold sendF
    rw [if_pos (by unfold badS; omega), F0]
  rw [e1] at s1 f1
  obtain ⟨M2, s2, i2, f2⟩ := Send_F k i1 1 2 b2 0
  have e2 : sendF 2 1 2 b2 0 (allF M1 2) = (0, G b2 0, 0) := by
    rw [f1]
    unfold sendF
    rw [if_neg (bad2 (by omega) (.inl rfl) (.inr rfl) (by omega)), if_neg (by simp [lineF])]
    rfl
  rw [e2] at s2 f2
  have hlp := loop_inv (body := fun s : Mp × Int × Int => law12_NetNil.b1 k s.1 s.2.1 s.2.2)
    (I := fun s => ∃ j : Nat, s.2.2 = ((j + 1 : Nat) : Int) ∧ j < 64 ∧ Inv s.1 2 ∧ allF s.1 2 = G b2 j ∧ s.2.1 = 0) (m := fun s => (65 - s.2.2).toNat)
    (fun r => ∃ M, r = .inl (M, 0) ∧ Inv M 2 ∧ allF M 2 = G b2 63) ?_ k (M2, (0 : Int), (1 : Int)) ⟨0, rfl, by omega, i2, f2, rfl⟩ (by show (65 - (1 : Int)).toNat < k; omega)
  · obtain ⟨r, g1, M, rfl, hI, hF⟩ := hlp
    obtain ⟨M3, s3, i3, f3⟩ := Send_F k hI 1 2 [] 0
    have e3 : sendF 2 1 2 [] 0 (allF M 2) = (5, G b2 63, 1) := by
      rw [hF]
      unfold sendF
      rw [if_neg (bad2 (by simp) (.inl rfl) (.inr rfl) (by omega)), if_pos (by rw [G_line, G_len]; omega), show w64 ((0 : Int) + 1) = 1 from w64_id (by decide) (by decide)]
    rw [e3] at s3 f3
    have hz : (G b2 63)[3]? = some zf := rfl
    have hz' : atM (G b2 63) 3 = (zf, 0) := by
      unfold atM
      rw [if_neg (by omega)]
      show (match (G b2 63)[3]? with | some f => (f, (0 : Int)) | none => (zeroF, 6)) = _
      rw [hz]
    obtain ⟨M4, s4, i4, f4⟩ := Double_F k (by omega) i3 1 3
    have e4 : dblF (allF M3 2) 3 = (5, G b2 63) := by
      rw [f3]
      unfold dblF
      simp only [hz']
      rw [if_neg (by simp)]
      show (if 64 ≤ (lineF (G b2 63) 1 2).length then _ else _) = _
      rw [if_pos (by rw [G_line, G_len]; omega)]
    rw [e4] at s4 f4
    obtain ⟨M5, s5, i5, f5⟩ := Send_F k i4 2 1 [] 1
    have e5 : sendF 2 2 1 [] 1 (allF M4 2) = (0, G b2 63 ++ [⟨2, 1, []⟩], 1) := by
      rw [f4]
      unfold sendF
      have hn : lineF (G b2 63) 2 1 = [] := filter_none fun x hx => by
        rw [← Bool.not_eq_true, isL_iff]
        have := G_mem hx
        omega
      rw [if_neg (bad2 (by simp) (.inr rfl) (.inl rfl) (by omega)), hn, if_neg (by simp)]
      simp only
      rw [lay_all]
      intro x hx
      obtain ⟨h1, h2⟩ := G_mem hx
      unfold ahead
      simp [h1]
    rw [e5] at s5 f5
    have hL := Line_F k i5 1 1 2
    have hl1 : lineF (allF M5 2) 1 2 = G b2 63 := by
      rw [f5]
      simp only
      unfold lineF
      rw [List.filter_append]
      have := G_line b2 63
      unfold lineF at this
      rw [this]
      simp [isL]
    rw [hl1, G_len] at hL
    obtain ⟨M6, s6, i6, f6⟩ := Clear_F k i5 2 1
    have c1 : (allF M5 2).filter (toB 2) = G b2 63 := by
      rw [f5]
      simp only
      rw [List.filter_append, filter_all fun x hx => by simp [toB, (G_mem hx).2]]
      simp [toB]
    have c2 : (allF M5 2).filter (notB 2) = [⟨2, 1, []⟩] := by
      rw [f5]
      simp only
      rw [List.filter_append, filter_none fun x hx => by simp [notB, (G_mem hx).2]]
      simp [notB]
    rw [c1, G_len] at s6
    rw [c2] at f6
    have hLn := Len_F k i6 1
    rw [f6] at hLn
    have hLo : net_Net_Lost k 2 1 M5 = some () := rfl
    simp only [show ((2 : Nat) : Int) = 2 from rfl] at s1 s2 s3 s4 s5 s6 hL hLn
    have m1' : mkL 1 (1048577 : Int) (0 : UInt8) = some b1 := m1
    have m2' : mkL 1 (1048576 : Int) (0 : UInt8) = some b2 := m2
    have hL' : net_Net_Line k 1 2 2 1 M5 = some 64 := hL
    have s6' : net_Net_Clear k 2 2 1 M5 = some (64, M6) := s6
    have hLn' : net_Net_Len k 2 1 M6 = some 1 := hLn
    have d1 : ((2 : Int) != 2) = false := rfl
    have d2 : ((0 : Int) != 0) = false := rfl
    simp only [law12_NetNil, hnew, hnum, m1', m2', s1, s2, s3, s4, s5, s6', hL', hLn', lt1, Option.bind_some, d1, d2, Bool.false_eq_true, if_false, g1, beq_self_eq_true, if_true, hLo, nothing_eq k (by omega), nothing2_eq k (by omega), known_eq k (by omega), cond_true]
  · rintro ⟨M, lost, i⟩ ⟨j, hj, hj', hI, hF, hlo⟩
    simp only at hj hI hF hlo
    subst hj hlo
    by_cases hlt : j + 1 < 64
    · left
      obtain ⟨M3, s3, i3, f3⟩ := Send_F k hI 1 2 [] 0
      have e3 : sendF 2 1 2 [] 0 (allF M 2) = (0, G b2 (j + 1), 0) := by
        rw [hF]
        unfold sendF
        rw [if_neg (bad2 (by simp) (.inl rfl) (.inr rfl) (by omega)), if_neg (by rw [G_line, G_len]; omega)]
        show ((0 : Int), layF zf (G b2 j), (0 : Int)) = _
        rw [G_lay]
      rw [e3] at s3 f3
      simp only [show ((2 : Nat) : Int) = 2 from rfl] at s3
      simp only [law12_NetNil.b1, lt1, dec_t (show ((j + 1 : Nat) : Int) < 64 by omega), if_true, s3, hnum, Option.bind_some, bne_self_eq_false, Bool.false_eq_true, if_false, w64_succ (show j + 1 < 9223372036854775807 by omega)]
      exact ⟨_, rfl, ⟨j + 1, rfl, by omega, i3, f3, rfl⟩, by show (65 - ((j + 1 + 1 : Nat) : Int)).toNat < (65 - ((j + 1 : Nat) : Int)).toNat; omega⟩
    · right
      have : j = 63 := by omega
      subst this
      simp only [law12_NetNil.b1, lt1, dec_f (show ¬ ((63 + 1 : Nat) : Int) < 64 by omega), Bool.false_eq_true, if_false]
      exact ⟨_, rfl, M, rfl, hI, hF⟩
end Go.Proofs.Ytnadeehdnmgebaa
