/- What the two readers read. -/
import Derived.Test.YtkbkdfcakpbojaaB
namespace Go.Proofs.Ytkbkdfcakpbojaa
open Go Fw
set_option linter.unusedVariables false
set_option linter.unusedSimpArgs false

def badS (size : Int) : Bool := bif decide (size < 1) then true else decide (size > 8)
def szV (size : Int) : Int := if badS size = true then -1 else size
theorem Rel.failed {x B : List UInt8} {o n : Nat} {is made : Bool} {r : ref01_Reader} (h : Rel x B o n is made r) : ∃ o' n' : Nat, Rel x B 0 0 false true { r with Failed := true } ∧ Rel x B (if is = false then o else 0) (if is = false then n else 0) false true { r with Failed := true } := by
  refine ⟨0, 0, ⟨h.hB, rfl, rfl, h.len, h.small, h.at0, h.at1, by omega, by omega, (fun h => by cases h)⟩, ⟨h.hB, rfl, rfl, h.len, h.small, h.at0, h.at1, ?_, ?_, (fun h => by cases h)⟩⟩
  · split
    · exact h.n0
    · omega
  · split
    · exact h.o0
    · omega
theorem num_rel (k : Nat) (hk : 9 ≤ k) (size : Int) {x B : List UInt8} {o n : Nat} {is made : Bool} {r : ref01_Reader} (h : Rel x B o n is made r) :
    ∃ v o' n' is' made' r', wire_Reader_Number k size o n is made x = some (v, o', n', is', made') ∧ ref01_Reader_Number'2 k size r = some (v, r') ∧ Rel x B o' n' is' made' r' ∧ (size ≤ 2 → v.toNat ≤ 65535) := by
  have hs : (if badS size = true then some (-1 : Int) else some size) = some (szV size) := by unfold szV; split <;> rfl
  by_cases hb : badS size = true
  · have hm : szV size = -1 := if_pos hb
    have hr1 : Rel x B o n is made r := h
    obtain ⟨vo, vn, ok, o', n', is', made', bs, r', h1, h2, h3, h4, h5, h6, h7, h8, h9, h10, h11, h12⟩ := take_rel k (-1) h
    have hvn : vn = 0 := by omega
    subst hvn
    have hg := get_eq k hk vo 0 x (.inl rfl) (by omega) (by omega)
    have hbs : bs = [] := List.eq_nil_of_length_eq_zero h6
    have hrF : ref01_Reader_Bytes k size { r with Failed := true } = some ([], { r with Failed := true }) := by
      have := refBytes_eq k size { r with Failed := true } h.at0 (by show r.At ≤ (r.B.length : Int); rw [h.hB]; exact h.at1) (by show r.B.length ≤ 9000; rw [h.hB]; exact h.small)
      rw [if_pos (Or.inl rfl)] at this
      exact this
    have hrN : ref01_Reader_Bytes k (-1) r = some ([], { r with Failed := true }) := by
      rw [refBytes_eq k (-1) _ h.at0 (by rw [h.hB]; exact h.at1) (by rw [h.hB]; exact h.small), if_pos (.inr (.inl (by omega)))]
    rw [hrN] at h2
    cases h2
    refine ⟨0, o', n', is', made', { r with Failed := true }, ?_, ?_, h3, fun _ => by decide⟩
    · have hb2 : (bif decide (size < 1) then true else decide (size > 8)) = true := hb
      simp only [wire_Reader_Number, lt1, Option.bind_some, hb2, if_true, take_eq, h1, hg]
      rfl
    · have hb2 : (bif decide (size < 1) then true else decide (size > 8)) = true := hb
      have hg2 := refGet_eq k hk [] (by simp)
      simp only [ref01_Reader_Number'2, lt1, Option.bind_some, hb2, if_true, hrF, hg2]
      rfl
  · have hb2 : (bif decide (size < 1) then true else decide (size > 8)) = false := by simpa [badS] using hb
    have hsz : 1 ≤ size ∧ size ≤ 8 := by
      by_cases h1 : size < 1
      · simp [h1] at hb2
      · simp [h1] at hb2; omega
    obtain ⟨vo, vn, ok, o', n', is', made', bs, r', h1, h2, h3, h4, h5, h6, h7, h8, h9, h10, h11, h12⟩ := take_rel k size h
    have hg := get_eq k hk vo vn x h4 (by omega) (by omega)
    have hg2 := refGet_eq k hk bs (by omega)
    refine ⟨getU bs, o', n', is', made', r', ?_, ?_, h3, fun h => ?_⟩
    · simp only [wire_Reader_Number, lt1, Option.bind_some, hb2, Bool.false_eq_true, if_false, take_eq, h1, hg]
      by_cases hv : 1 ≤ vn ∧ vn ≤ 8
      · simp only [if_pos hv, Option.bind_some, h5]
      · have hv0 : vn = 0 := by omega
        have hbs : bs = [] := List.eq_nil_of_length_eq_zero (by omega)
        simp only [if_neg hv, Option.bind_some, hbs]
        rfl
    · simp only [ref01_Reader_Number'2, lt1, Option.bind_some, hb2, Bool.false_eq_true, if_false, h2, hg2]
    · rw [getU_toNat bs (by omega)]
      have h13 := getB_lt bs
      have : 256 ^ bs.length ≤ 256 ^ 2 := Nat.pow_le_pow_right (by decide) (by omega)
      have h14 : (256 : Nat) ^ 2 = 65536 := by decide
      omega
theorem bytes_rel (k : Nat) (m : Int) {x B : List UInt8} {o n : Nat} {is made : Bool} {r : ref01_Reader} (h : Rel x B o n is made r) :
    ∃ vo vn o' n' is' made' bs r', wire_Reader_Bytes k m o n is made x = some (vo, vn, o', n', is', made') ∧ ref01_Reader_Bytes k m r = some (bs, r') ∧ Rel x B o' n' is' made' r' ∧ viewL x vo vn = some bs ∧ bs.length = vn ∧ vn ≤ 9000 ∧ vo ≤ 9000 ∧ (vn = 0 ∨ vo + vn ≤ x.length) ∧ (is' = true → vo + vn ≤ o') := by
  obtain ⟨vo, vn, ok, o', n', is', made', bs, r', h1, h2, h3, h4, h5, h6, h7, h8, h9, h10, h11, h12⟩ := take_rel k m h
  refine ⟨vo, vn, o', n', is', made', bs, r', ?_, h2, h3, by rw [view_ok h4, h5], h6, h7, h8, h4, h11⟩
  simp only [wire_Reader_Bytes, take_eq, h1, Option.bind_some]
theorem blob_rel (k : Nat) (hk : 9 ≤ k) {x B : List UInt8} {o n : Nat} {is made : Bool} {r : ref01_Reader} (h : Rel x B o n is made r) :
    ∃ vo vn o' n' is' made' bs r', wire_Reader_Blob k o n is made x = some (vo, vn, o', n', is', made') ∧ ref01_Reader_Blob'2 k r = some (bs, r') ∧ Rel x B o' n' is' made' r' ∧ viewL x vo vn = some bs := by
  obtain ⟨v, o1, n1, is1, made1, r1, h1, h2, h3, _⟩ := num_rel k hk 2 h
  obtain ⟨vo, vn, o', n', is', made', bs, r', h4, h5, h6, h7, _⟩ := bytes_rel k (w64 (UN.toN v : Int)) h3
  refine ⟨vo, vn, o', n', is', made', bs, r', ?_, ?_, h6, h7⟩
  · simp only [wire_Reader_Blob, h1, Option.bind_some, lt1, h4]
  · simp only [ref01_Reader_Blob'2, h2, Option.bind_some, lt1, h5]
/-- Of a list of its own, read anew. -/
theorem clone_view (k : Nat) {x bs : List UInt8} {o n : Nat} (h : viewL x o n = some bs) (hb : bs.length ≤ 1000000) : wire_Read'2 k o n x = some (bs, bs.length) := by
  simp only [wire_Read'2, slices_Clonebyte_byte'2, apV, h, Option.bind_some, apL_ok (show (([] : List UInt8).length + bs.length) * 1 ≤ 140737488355328 by simp; omega), List.nil_append]
theorem num_at (k : Nat) (hk : 9 ≤ k) (s : Nat) (hs : 1 ≤ s ∧ s ≤ 8) (o n : Nat) (v : List UInt8) (h : o + n = v.length) (hl : v.length ≤ 9000) (hn : s ≤ n) : wire_Reader_Number k (s : Int) o n true true v = some (getU ((v.drop o).take s), o + s, n - s, true, true) := by
  have h1 : (decide ((s : Int) < 1)) = false := dec_f (by omega)
  have h2 : (decide ((s : Int) > 8)) = false := dec_f (by omega)
  have ht : takeV (s : Int) o n true true = (o, s, true, o + s, n - s, true, true) := by
    unfold takeV
    rw [if_neg (by decide), if_neg (by omega)]
    simp
  have hg := get_eq k hk o s v (.inr (by omega)) (by omega) (by omega)
  rw [if_pos hs] at hg
  simp only [wire_Reader_Number, lt1, h1, h2, cond_false, Option.bind_some, Bool.false_eq_true, if_false, take_eq, ht, hg]
theorem num_fail (k : Nat) (hk : 9 ≤ k) (size : Int) (v : List UInt8) (made : Bool) : ∃ made', wire_Reader_Number k size 0 0 false made v = some (0, 0, 0, false, made') := by
  have hg := get_eq k hk 0 0 v (.inl rfl) (by omega) (by omega)
  rw [if_neg (by omega)] at hg
  have ht : ∀ m, takeV m 0 0 false made = (0, 0, false, 0, 0, false, made) := fun m => rfl
  refine ⟨made, ?_⟩
  simp only [wire_Reader_Number, lt1, Option.bind_some]
  by_cases hb : (bif decide (size < 1) then true else decide (size > 8)) = true
  · simp only [hb, if_true, Option.bind_some, take_eq, ht, hg]
  · simp only [hb, Bool.false_eq_true, if_false, Option.bind_some, take_eq, ht, hg]
theorem num_empty (k : Nat) (hk : 9 ≤ k) (size : Int) (hs : 1 ≤ size) : wire_Reader_Number k size 0 0 true true [] = some (0, 0, 0, false, true) := by
  have hg := get_eq k hk 0 0 [] (.inl rfl) (by omega) (by omega)
  rw [if_neg (by omega)] at hg
  have ht : ∀ m : Int, (m < 0 ∨ m > ((0 : Nat) : Int)) → takeV m 0 0 true true = (0, 0, false, 0, 0, false, true) := fun m hm => by unfold takeV; rw [if_neg (by decide), if_pos hm]
  simp only [wire_Reader_Number, lt1, Option.bind_some]
  by_cases hb : (bif decide (size < 1) then true else decide (size > 8)) = true
  · simp only [hb, if_true, Option.bind_some, take_eq, ht (-1) (.inl (by omega)), hg]
  · simp only [hb, Bool.false_eq_true, if_false, Option.bind_some, take_eq, ht size (.inr (by omega)), hg]
theorem dot_rel (k : Nat) (hk : 9 ≤ k) {x B : List UInt8} {o n : Nat} {is made : Bool} {r : ref01_Reader} (h : Rel x B o n is made r) :
    ∃ d o' n' is' made' r', wire_Reader_Dot k o n is made x = some (d, o', n', is', made') ∧ ref01_Reader_Dot k r = some (d, r') ∧ Rel x B o' n' is' made' r' := by
  obtain ⟨vo, vn, ok, o', n', is', made', bs, r', h1, h2, h3, h4, h5, h6, h7, h8, h9, h10, h11, h12⟩ := take_rel k 9 h
  have hv : viewL x vo vn = some bs := by rw [view_ok h4, h5]
  have hc := clone_view k hv (by omega)
  simp only [wire_Reader_Dot, take_eq, h1, Option.bind_some, hc, ref01_Reader_Dot, h2, lt1]
  by_cases h0 : vn = 0
  · have hbs : bs = [] := List.eq_nil_of_length_eq_zero (by omega)
    subst hbs
    have hn1 := num_empty k hk 1 (by omega)
    obtain ⟨m2, hn2⟩ := num_fail k hk 8 [] true
    have hw : w64 (UN.toN (0 : UInt64) : Int) = 0 := w64_id (by decide) (by decide)
    simp only [List.length_nil, hn1, Option.bind_some, hn2, hw]
    exact ⟨_, _, _, _, _, _, rfl, rfl, h3⟩
  · have h9' := h10 h0
    have hl9 : bs.length = 9 := by omega
    have hn1 := num_at k hk 1 ⟨by omega, by omega⟩ 0 9 bs (by omega) (by omega) (by omega)
    have hn2 := num_at k hk 8 ⟨by omega, by omega⟩ (0 + 1) (9 - 1) bs (by omega) (by omega) (by omega)
    have hz : ((List.length bs : Int) == 0) = false := by rw [beq_eq_false_iff_ne]; omega
    have hi : idxL bs 0 = some bs[0] := idxL_lt (i := 0) (by omega)
    have hsub : subL bs 1 (List.length bs : Int) = some (bs.drop 1) := by
      rw [subL_ok (by omega) (by omega) (by omega)]
      congr 1
      rw [List.take_of_length_le (by simp)]; rfl
    have hg2 := refGet_eq k hk (bs.drop 1) (by simp; omega)
    have e1 : getU ((bs.drop 0).take 1) = UInt64.ofNat bs[0].toNat := by
      rw [List.drop_zero, List.take_succ_eq_append_getElem (by omega)]
      simp [getU, getB]
    have e2 : w64 (UN.toN (UInt64.ofNat bs[0].toNat) : Int) = w64 (UN.toN bs[0] : Int) := by
      congr 2
      show (UInt64.ofNat bs[0].toNat).toNat = bs[0].toNat
      have := bs[0].toNat_lt
      exact UInt64.toNat_ofNat_of_lt' (by show _ < 2 ^ 64; omega)
    have e3 : (bs.drop (0 + 1)).take 8 = bs.drop 1 := List.take_of_length_le (by simp; omega)
    rw [hl9]
    rw [hl9] at hz hsub
    simp only [show ((1 : Nat) : Int) = 1 from rfl, show ((8 : Nat) : Int) = 8 from rfl] at hn1 hn2
    simp only [hn1, hn2, Option.bind_some, hz, Bool.false_eq_true, if_false, hi, hsub, hg2, e1, e2, e3]
    exact ⟨_, _, _, _, _, _, rfl, rfl, h3⟩
end Go.Proofs.Ytkbkdfcakpbojaa
