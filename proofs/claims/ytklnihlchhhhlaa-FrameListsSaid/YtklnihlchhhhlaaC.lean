/- Items' bytes begin one another only if the items do. -/
import Derived.Test.YtklnihlchhhhlaaB
namespace Go.Proofs.Ytklnihlchhhhlaa
open Go Fw
set_option linter.unusedVariables false
set_option linter.unusedSimpArgs false

theorem put_inj {a b s : Nat} (ha : a < 256 ^ s) (hb : b < 256 ^ s) (h : put a s = put b s) : a = b := by
  have h1 := congrArg getB h
  rw [getB_put, getB_put, Nat.mod_eq_of_lt ha, Nat.mod_eq_of_lt hb] at h1
  exact h1
/-- What begins both ways. -/
theorem pre_split {a b x y : List UInt8} (hl : a.length = b.length) : a ++ x <+: b ++ y ↔ a = b ∧ x <+: y := by
  constructor
  · rintro ⟨t, ht⟩
    rw [List.append_assoc] at ht
    obtain ⟨h1, h2⟩ := List.append_inj ht hl
    exact ⟨h1, ⟨t, h2⟩⟩
  · rintro ⟨rfl, h⟩
    obtain ⟨t, rfl⟩ := h
    exact ⟨t, by rw [List.append_assoc]⟩
theorem dotB_inj {d e : api_Dot} (hd : mayDot d) (he : mayDot e) (h : dotB d = dotB e) : d = e := by
  obtain ⟨d1, d2⟩ := d
  obtain ⟨e1, e2⟩ := e
  unfold dotB at h
  injection h with h1 h2
  have h3 := put_inj (by exact Nat.lt_of_lt_of_le d2.toNat_lt (by decide)) (by exact Nat.lt_of_lt_of_le e2.toNat_lt (by decide)) h2
  have h4 : d2 = e2 := UInt64.toNat_inj.1 h3
  have a1 := hd.1
  have a2 := hd.2.1
  have b1 := he.1
  have b2 := he.2.1
  simp only at a1 a2 b1 b2 h1
  have h5 := congrArg UInt8.toNat h1
  rw [UInt8.toNat_ofNat_of_lt' (show d1.toNat < 256 by omega), UInt8.toNat_ofNat_of_lt' (show e1.toNat < 256 by omega)] at h5
  have h6 : d1 = e1 := by omega
  rw [h4, h6]
theorem blob_pre {a b x y : List UInt8} (ha : a.length ≤ 65535) (hb : b.length ≤ 65535) : blobB a ++ x <+: blobB b ++ y ↔ a = b ∧ x <+: y := by
  unfold blobB
  rw [List.append_assoc, List.append_assoc, pre_split (by rw [put_length, put_length])]
  constructor
  · rintro ⟨h1, h2⟩
    have hl := put_inj (by omega) (by omega) h1
    rw [pre_split hl] at h2
    exact h2
  · rintro ⟨rfl, h⟩
    exact ⟨rfl, by rw [pre_split rfl]; exact ⟨rfl, h⟩⟩
theorem item_pre {i j : api_Item} (hi : mayItem i) (hj : mayItem j) (x y : List UInt8) : itemB i ++ x <+: itemB j ++ y ↔ i = j ∧ x <+: y := by
  obtain ⟨d, ⟨t, v⟩, g⟩ := i
  obtain ⟨e, ⟨t', v'⟩, g'⟩ := j
  obtain ⟨hd, hk⟩ := hi
  obtain ⟨he, hk'⟩ := hj
  simp only at hd hk he hk'
  have hd0 : ∀ {p q : List UInt8}, dotB d ++ p <+: dotB e ++ q ↔ d = e ∧ p <+: q := fun {p q} => by
    rw [pre_split (by rw [dotB_len, dotB_len])]
    exact ⟨fun h => ⟨dotB_inj hd he h.1, h.2⟩, fun h => ⟨by rw [h.1], h.2⟩⟩
  unfold itemB
  simp only [List.append_assoc]
  rw [hd0, pre_split (show (flagB g).length = (flagB g').length from rfl)]
  cases g <;> cases g'
  · have hk : mayName t ∧ mayName v := hk
    have hk' : mayName t' ∧ mayName v' := hk'
    simp only [Bool.false_eq_true, if_false, List.append_assoc, true_and]
    rw [blob_pre (by have := hk.1.2; omega) (by have := hk'.1.2; omega), blob_pre (by have := hk.2.2; omega) (by have := hk'.2.2; omega)]
    simp only [api_Item.mk.injEq, api_Key.mk.injEq]
    constructor
    · intro h; simp_all
    · intro h; simp_all
  · simp [flagB]
  · simp [flagB]
  · have hk : api_Key.mk t v = ⟨[], []⟩ := hk
    have hk' : api_Key.mk t' v' = ⟨[], []⟩ := hk'
    rw [hk, hk']
    simp
theorem items_pre : ∀ (a b : List api_Item), a.length = b.length → (∀ i ∈ a, mayItem i) → (∀ i ∈ b, mayItem i) → (a.flatMap itemB <+: b.flatMap itemB ↔ a = b)
  | [], [], _, _, _ => by simp
  | i :: a, j :: b, hl, ha, hb => by
    have ih := items_pre a b (by simpa using hl) (fun x hx => ha x (List.mem_cons_of_mem _ hx)) (fun x hx => hb x (List.mem_cons_of_mem _ hx))
    rw [List.flatMap_cons, List.flatMap_cons, item_pre (ha i (List.mem_cons_self ..)) (hb j (List.mem_cons_self ..)), ih]
    simp
theorem all_pre (a b : List api_Item) (la : a.length ≤ 65535) (lb : b.length ≤ 65535) (ha : ∀ i ∈ a, mayItem i) (hb : ∀ i ∈ b, mayItem i) : (itemsB a <+: itemsB b ↔ a = b) := by
  unfold itemsB
  rw [pre_split (by rw [put_length, put_length])]
  constructor
  · rintro ⟨h1, h2⟩
    have hl := put_inj (by omega) (by omega) h1
    exact (items_pre a b hl ha hb).1 h2
  · rintro rfl
    exact ⟨rfl, List.prefix_rfl⟩
end Go.Proofs.Ytklnihlchhhhlaa
