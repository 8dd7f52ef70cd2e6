/- FrameLists, but for what is known of the constants. -/
import Derived.Test.YtklnihlchhhhlaaC
import Derived.Test.YtklnihlchhhhlaaG
namespace Go.Proofs.Ytklnihlchhhhlaa
open Go Fw
set_option linter.unusedVariables false
set_option linter.unusedSimpArgs false

theorem long_eq (k : Nat) (hk : 6000 ≤ k) (l : List api_Item) : ∃ b, ref11_Long k l = some b ∧ (b = false → l.length ≤ 5000) := by
  have hlp := loop_inv (body := fun s : Int × Int => ref11_Long.b1 k l s.1 s.2) (I := fun s => 0 ≤ s.2 ∧ s.2 ≤ (l.length : Int) ∧ s.2 ≤ 5001 ∧ 0 ≤ s.1 ∧ s.1 ≤ 200000) (m := fun s => (5002 - s.2).toNat) (fun r => r = .inl () ∨ r = .inr true) ?_ k ((0 : Int), (0 : Int)) ⟨Int.le_refl _, by show (0 : Int) ≤ _; omega, by show (0 : Int) ≤ 5001; omega, Int.le_refl _, by show (0 : Int) ≤ 200000; omega⟩ (by show (5002 - (0 : Int)).toNat < k; omega)
  · obtain ⟨r, h1, h2⟩ := hlp
    rcases h2 with rfl | rfl
    · refine ⟨decide ((l.length : Int) > 5000), by simp only [ref11_Long, h1, Option.bind_some, lt1], fun h => ?_⟩
      have := of_decide_eq_false h
      omega
    · exact ⟨true, by simp only [ref11_Long, h1, Option.bind_some], fun h => by cases h⟩
  · rintro ⟨n, s⟩ ⟨h0, h1, h2, h3, h4⟩
    simp only at h0 h1 h2 h3 h4
    obtain ⟨i, rfl⟩ : ∃ i : Nat, s = i := ⟨s.toNat, by omega⟩
    by_cases hlt : i < l.length
    · by_cases h5 : i ≤ 5000
      · have e1 : ∀ x : Nat, minI (x : Int) 200001 = ((min x 200001 : Nat) : Int) := fun x => by unfold minI; split <;> omega
        simp only [ref11_Long.b1, lt1, dec_t (show (i : Int) < (l.length : Int) by omega), dec_t (show (i : Int) ≤ 5000 by omega), cond_true, Option.bind_some, if_true, idxL_lt hlt, e1]
        have w1 : w64 (n + ((min l[i].Key.Topic.length 200001 : Nat) : Int)) = n + ((min l[i].Key.Topic.length 200001 : Nat) : Int) := w64_id (by omega) (by omega)
        rw [w1]
        have w2 : w64 (n + ((min l[i].Key.Topic.length 200001 : Nat) : Int) + ((min l[i].Key.Device.length 200001 : Nat) : Int)) = n + ((min l[i].Key.Topic.length 200001 : Nat) : Int) + ((min l[i].Key.Device.length 200001 : Nat) : Int) := w64_id (by omega) (by omega)
        rw [w2]
        by_cases h6 : n + ((min l[i].Key.Topic.length 200001 : Nat) : Int) + ((min l[i].Key.Device.length 200001 : Nat) : Int) > 200000
        · right
          rw [dec_t h6]
          exact ⟨_, rfl, .inr rfl⟩
        · left
          rw [dec_f h6]
          simp only [Bool.false_eq_true, if_false, w64_succ (show i < 9223372036854775807 by omega)]
          exact ⟨_, rfl, ⟨by show (0 : Int) ≤ ((i + 1 : Nat) : Int); omega, by show ((i + 1 : Nat) : Int) ≤ _; omega, by show ((i + 1 : Nat) : Int) ≤ 5001; omega, by show (0 : Int) ≤ n + _ + _; omega, by show n + _ + _ ≤ (200000 : Int); omega⟩, by show (5002 - ((i + 1 : Nat) : Int)).toNat < (5002 - (i : Int)).toNat; omega⟩
      · right
        simp only [ref11_Long.b1, lt1, dec_t (show (i : Int) < (l.length : Int) by omega), dec_f (show ¬ (i : Int) ≤ 5000 by omega), cond_true, Option.bind_some, Bool.false_eq_true, if_false]
        exact ⟨_, rfl, .inl rfl⟩
    · right
      simp only [ref11_Long.b1, lt1, dec_f (show ¬ (i : Int) < (l.length : Int) by omega), cond_false, Option.bind_some, Bool.false_eq_true, if_false]
      exact ⟨_, rfl, .inl rfl⟩
theorem alike_eq (k : Nat) (a b : List api_Item) (hk : a.length < k) (hl : a.length ≤ 1000000) : loopO (fun s => law11_FrameLists'4.b1 k a b s.1 s.2) k (((a.length : Int) == (b.length : Int)), (0 : Int)) = some (decide (a = b)) := by
  have h0e : (((a.length : Int) == (b.length : Int)) = true) → a.length = b.length := fun h => by have := beq_iff_eq.1 h; omega
  have hlp := loop_inv (body := fun s : Bool × Int => law11_FrameLists'4.b1 k a b s.1 s.2) (I := fun s => 0 ≤ s.2 ∧ s.2 ≤ (a.length : Int) ∧ (s.1 = true → ∃ h : a.length = b.length, ∀ j (hj : j < a.length), (j : Int) < s.2 → a[j] = b[j]'(by omega)) ∧ (s.1 = false → a ≠ b)) (m := fun s => ((a.length : Int) - s.2).toNat) (fun r => r = decide (a = b)) ?_ k (((a.length : Int) == (b.length : Int)), (0 : Int)) ⟨Int.le_refl _, by show (0 : Int) ≤ _; omega, fun h => ⟨h0e h, fun j hj h0 => by have h0 : (j : Int) < 0 := h0; omega⟩, fun h hab => by subst hab; have h : ((a.length : Int) == (a.length : Int)) = false := h; simp at h⟩ (by show ((a.length : Int) - 0).toNat < k; omega)
  · obtain ⟨r, h1, rfl⟩ := hlp
    exact h1
  · rintro ⟨al, s⟩ ⟨h0, h1, h2, h3⟩
    simp only at h0 h1 h2 h3
    obtain ⟨i, rfl⟩ : ∃ i : Nat, s = i := ⟨s.toNat, by omega⟩
    cases al
    · right
      have hne : ¬ a = b := h3 rfl
      refine ⟨false, ?_, by rw [decide_eq_false hne]⟩
      simp only [law11_FrameLists'4.b1, lt1, Option.bind_some]
      by_cases hlt : (i : Int) < (a.length : Int)
      · rw [dec_t hlt]; rfl
      · rw [dec_f hlt]; rfl
    · obtain ⟨hl', hj⟩ := h2 rfl
      by_cases hlt : i < a.length
      · left
        have hlt2 : i < b.length := by omega
        simp only [law11_FrameLists'4.b1, lt1, Option.bind_some, dec_t (show (i : Int) < (a.length : Int) by omega), cond_true, if_true, idxL_lt hlt, idxL_lt hlt2, w64_succ (show i < 9223372036854775807 by omega)]
        refine ⟨_, rfl, ⟨by show (0 : Int) ≤ ((i + 1 : Nat) : Int); omega, by show ((i + 1 : Nat) : Int) ≤ _; omega, fun h => ⟨hl', fun j hjl hji => ?_⟩, fun h hab => ?_⟩, by show ((a.length : Int) - ((i + 1 : Nat) : Int)).toNat < ((a.length : Int) - (i : Int)).toNat; omega⟩
        · have hji : (j : Int) < ((i + 1 : Nat) : Int) := hji
          by_cases he : j = i
          · subst he; exact eq_api_Item_iff.1 h
          · exact hj j hjl (by omega)
        · subst hab
          have h : eq_api_Item a[i] a[i] = false := h
          rw [eq_api_Item_iff.2 rfl] at h; cases h
      · right
        simp only [law11_FrameLists'4.b1, lt1, Option.bind_some, dec_f (show ¬ (i : Int) < (a.length : Int) by omega), cond_false, Bool.false_eq_true, if_false]
        refine ⟨_, rfl, ?_⟩
        have : a = b := (lists_eq hl').2 fun j hj' => hj j hj' (by omega)
        rw [decide_eq_true this]
theorem itemsB_len2 (l : List api_Item) : 2 ≤ (itemsB l).length := by unfold itemsB; rw [List.length_append, put_length]; omega
theorem head_eq (l : List api_Item) (h : l.length ≤ 65535) : ∃ x0 x1 : UInt8, (itemsB l)[0]? = some x0 ∧ (itemsB l)[1]? = some x1 ∧ x0.toNat * 256 + x1.toNat = l.length := by
  refine ⟨UInt8.ofNat (l.length / 256), UInt8.ofNat l.length, ?_, ?_, ?_⟩
  · unfold itemsB
    rw [List.getElem?_append_left (by rw [put_length]; omega), put_get _ _ _ (by omega)]
  · unfold itemsB
    rw [List.getElem?_append_left (by rw [put_length]; omega), put_get _ _ _ (by omega)]
    simp
  · simp; omega
theorem lists_main (k : Nat) (hk : 6000 ≤ k) (hkn : law11_known'4 k = some true) (a b : List api_Item) : law11_FrameLists'4 k a b = some true := by
  obtain ⟨la, h1, h1'⟩ := long_eq k hk a
  obtain ⟨lb, h2, h2'⟩ := long_eq k hk b
  simp only [law11_FrameLists'4, h1, Option.bind_some, lt1]
  cases la
  case true => simp [hkn]
  case false =>
  simp only [Bool.not_false, if_true, h2, Option.bind_some, cond_false]
  cases lb
  case true => simp [hkn]
  case false =>
  have ha := h1' rfl
  have hb := h2' rfl
  simp only [Bool.false_eq_true, if_false, ItemBytes_eq k a (by omega) (by omega) (by omega), ItemBytes_eq k b (by omega) (by omega) (by omega), Option.bind_some]
  by_cases pa : ∀ i ∈ a, mayItem i
  case neg =>
    rw [if_neg (fun h : a.length ≤ 65535 ∧ _ => pa h.2)]
    simp [hkn]
  case pos =>
  rw [if_pos (show a.length ≤ 65535 ∧ _ from ⟨by omega, pa⟩)]
  have ea := itemsB_len2 a
  have na : (((itemsB a).length : Int) == 0) = false := by simp; intro h; rw [h] at ea; simp at ea
  simp only [na, Bool.false_eq_true, if_false]
  by_cases pb : ∀ i ∈ b, mayItem i
  case neg =>
    rw [if_neg (fun h : b.length ≤ 65535 ∧ _ => pb h.2)]
    simp [hkn]
  case pos =>
  rw [if_pos (show b.length ≤ 65535 ∧ _ from ⟨by omega, pb⟩)]
  have eb := itemsB_len2 b
  have nb : (((itemsB b).length : Int) == 0) = false := by simp; intro h; rw [h] at eb; simp at eb
  have hp := all_pre a b (by omega) (by omega) pa pb
  have lA : (itemsB a).length ≤ 1000000 := by
    have := items_len a pa
    unfold itemsB
    rw [List.length_append, put_length]; omega
  have lB : (itemsB b).length ≤ 1000000 := by
    have := items_len b pb
    unfold itemsB
    rw [List.length_append, put_length]; omega
  obtain ⟨x0, x1, q0, q1, q2⟩ := head_eq a (by omega)
  have begins : (if decide (((itemsB a).length : Int) ≤ ((itemsB b).length : Int)) = true then Option.bind (subL (itemsB b) 0 ((itemsB a).length : Int)) fun v => some (v == itemsB a) else some false) = some (decide (a = b)) := by
    by_cases hle : (itemsB a).length ≤ (itemsB b).length
    · rw [dec_t (show ((itemsB a).length : Int) ≤ ((itemsB b).length : Int) by omega), if_pos rfl, subL_ok (by omega) (by omega) (by omega)]
      simp only [Option.bind_some, Option.some.injEq]
      have e : ((itemsB b).take ((itemsB a).length : Int).toNat).drop (0 : Int).toNat = (itemsB b).take (itemsB a).length := by simp
      rw [Bool.eq_iff_iff, beq_iff_eq, decide_eq_true_iff, ← hp, List.prefix_iff_eq_take]
      simp [eq_comm]
    · rw [dec_f (show ¬ ((itemsB a).length : Int) ≤ ((itemsB b).length : Int) by omega), if_neg (by simp)]
      have : ¬ a = b := fun h => hle (by rw [h]; exact Nat.le_refl _)
      rw [decide_eq_false this]
  have alike := alike_eq k a b (by omega) (by omega)
  have same : (itemsB a == itemsB b) = decide (a = b) := by
    rw [Bool.eq_iff_iff, beq_iff_eq, decide_eq_true_iff]
    exact ⟨fun h => hp.1 (by rw [h]; exact List.prefix_rfl), fun h => by rw [h]⟩
  simp only [nb, Bool.false_eq_true, if_false, Option.bind_some, alike, begins, inO_ok (show (0 : Int) ≤ 0 by omega) (show (0 : Int).toNat < (itemsB a).length by simp; omega), inO_ok (show (0 : Int) ≤ 1 by omega) (show (1 : Int).toNat < (itemsB a).length by simp; omega), show (0 : Int).toNat = 0 from rfl, show (1 : Int).toNat = 1 from rfl, q0, q1, same, beq_self_eq_true, if_true, hkn, cond_true]
  have u0 : (UN.toN x0 : Int) = (x0.toNat : Int) := rfl
  have u1 : (UN.toN x1 : Int) = (x1.toNat : Int) := rfl
  have b0 := x0.toNat_lt
  have b1 := x1.toNat_lt
  have v0 : w64 (x0.toNat : Int) = (x0.toNat : Int) := w64_id (by omega) (by omega)
  have v1 : w64 (x1.toNat : Int) = (x1.toNat : Int) := w64_id (by omega) (by omega)
  have v2 : w64 ((x0.toNat : Int) * 256) = (x0.toNat : Int) * 256 := w64_id (by omega) (by omega)
  have v3 : w64 ((x0.toNat : Int) * 256 + (x1.toNat : Int)) = (x0.toNat : Int) * 256 + (x1.toNat : Int) := w64_id (by omega) (by omega)
  rw [u0, u1, v0, v2, v1, v3]
  have e2 : ((x0.toNat : Int) * 256 + (x1.toNat : Int) == (a.length : Int)) = true := by rw [beq_iff_eq]; omega
  rw [e2]
  simp
end Go.Proofs.Ytklnihlchhhhlaa
