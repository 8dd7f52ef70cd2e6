/- The reference's items. -/
import Derived.Test.YtklnihlchhhhlaaGreatX
namespace Go.Proofs.YtklnihlchhhhlaaGreat
open Go Fw
set_option linter.unusedVariables false
set_option linter.unusedSimpArgs false

theorem refMayDot_eq (k : Nat) (d : api_Dot) : ref09_MayDot k d = some (decide (mayDot d)) := by
  simp only [ref09_MayDot, lt1, mayDot, UInt64.le_iff_toNat_le, show (1 : UInt64).toNat = 1 from rfl, show (4611686018427387904 : UInt64).toNat = 4611686018427387904 from rfl, ge_iff_le]
  by_cases h1 : 1 ≤ d.Region <;> by_cases h2 : d.Region ≤ 16 <;> by_cases h3 : 1 ≤ d.Count.toNat <;> simp [h1, h2, h3]
theorem refMayName_eq (k : Nat) (s : List UInt8) : ref09_MayName k s = some (decide (mayName s)) := by
  simp only [ref09_MayName, lt1, mayName, Option.bind_some, Option.some.injEq]
  by_cases h1 : 1 ≤ s.length
  · rw [dec_t (show (s.length : Int) > 0 by omega)]
    by_cases h2 : s.length ≤ 32
    · rw [dec_t (show (s.length : Int) ≤ 32 by omega)]; simp [h1, h2]
    · rw [dec_f (show ¬ (s.length : Int) ≤ 32 by omega)]; simp [h1, h2]
  · rw [dec_f (show ¬ (s.length : Int) > 0 by omega)]; simp [h1]
theorem refMayItem_eq (k : Nat) (i : api_Item) : ref11_MayItem k i = some (decide (mayItem i)) := by
  obtain ⟨d, ⟨t, v⟩, g⟩ := i
  simp only [ref11_MayItem, refMayDot_eq, refMayName_eq, lt1, Option.bind_some, mayItem]
  by_cases h1 : mayDot d
  · simp only [decide_eq_true h1, Bool.not_true, Bool.false_eq_true, if_false, h1, true_and]
    cases g
    · by_cases h2 : mayName t <;> simp [h2]
    · by_cases h2 : t = [] <;> by_cases h3 : v = [] <;> simp [h2, h3, api_Key.mk.injEq]
  · simp [h1]
theorem refFlag_eq (k : Nat) (g : Bool) : ref11_flag k g = some (flagB g) := by cases g <;> rfl
theorem refDot (k : Nat) (hk : 9 ≤ k) {d : api_Dot} (h : mayDot d) : ref01_Dot k d = some (dotB d) := refDot_eq k hk d ⟨by have := h.1; omega, by have := h.2.1; omega⟩
theorem refBlob (k : Nat) (hk : 9 ≤ k) {b : List UInt8} (h : b.length ≤ 65535) : ref01_Blob k b = some (blobB b) := refBlob_eq k hk b (by omega)
theorem refPut2 (k : Nat) (hk : 9 ≤ k) {n : Nat} (h : n ≤ 65535) : ref01_Put k (UN.ofI (n : Int) : UInt64) 2 = some (put n 2) := by
  have h1 := refPut_eq k hk (UN.ofI (n : Int)) 2 (by omega)
  rw [ofI_toNat (by omega)] at h1
  exact h1
/-- What the reference lists of an item. -/
def partsI (i : api_Item) : List (List UInt8) := [dotB i.Dot, flagB i.Gone] ++ if i.Gone then [] else [blobB i.Key.Topic, blobB i.Key.Device]
theorem partsI_len (i : api_Item) : (partsI i).length ≤ 4 := by unfold partsI; cases i.Gone <;> simp
theorem partsI_flat (i : api_Item) : (partsI i).flatten = itemB i := by unfold partsI itemB; cases i.Gone <;> simp
theorem partsL_len (l : List api_Item) : (l.flatMap partsI).length ≤ 4 * l.length := by
  induction l with
  | nil => simp
  | cons i l ih => have := partsI_len i; rw [List.flatMap_cons, List.length_append, List.length_cons]; omega
theorem partsL_flat (l : List api_Item) : (l.flatMap partsI).flatten = l.flatMap itemB := by
  induction l with
  | nil => rfl
  | cons i l ih => rw [List.flatMap_cons, List.flatMap_cons, List.flatten_append, ih, partsI_flat]
theorem apR {x y : List (List UInt8)} (h : x.length + y.length ≤ 1000000) : apL 24 x y = some (x ++ y) := apL_ok (by omega)
theorem refItem_step (k : Nat) (hk : 9 ≤ k) (l : List api_Item) (i : Nat) (hi : i < l.length) (hm : mayItem l[i]) (hl : l.length ≤ 65535) (x : List (List UInt8)) (hx : x.length ≤ 300000) :
    ref11_Items.b1 k l x (i : Int) = some (.inl (x ++ partsI l[i], ((i + 1 : Nat) : Int))) := by
  obtain ⟨it, hit⟩ : ∃ it, l[i] = it := ⟨_, rfl⟩
  rw [hit] at hm
  have hd := refDot k hk hm.1
  simp only [ref11_Items.b1, lt1, dec_t (show (i : Int) < (l.length : Int) by omega), if_true, idxL_lt hi, hit, Option.bind_some, hd, refFlag_eq, apR (show x.length + ([dotB it.Dot, flagB it.Gone] : List (List UInt8)).length ≤ 1000000 by show x.length + 2 ≤ _; omega), w64_succ (show i < 9223372036854775807 by omega)]
  obtain ⟨_, hm2⟩ := hm
  cases hg : it.Gone
  · rw [hg] at hm2
    have hm2 : mayName it.Key.Topic ∧ mayName it.Key.Device := hm2
    have h1 := hm2.1.2
    have h2 := hm2.2.2
    simp only [Bool.not_false, if_true, refBlob k hk (b := it.Key.Topic) (by omega), refBlob k hk (b := it.Key.Device) (by omega), Option.bind_some]
    rw [apR (by simp; omega)]
    simp [partsI, hg]
  · simp [partsI, hg]
theorem refItems_eq (k : Nat) (l : List api_Item) (hk : 4 * l.length + 10 < k) (hl : l.length ≤ 10000) (hm : ∀ i ∈ l, mayItem i) : ref11_Items k l = some (itemsB l) := by
  have hlp : loopO (fun s => ref11_Items.b1 k l s.1 s.2) k (([put l.length 2] : List (List UInt8)), (0 : Int)) = some ([put l.length 2] ++ l.flatMap partsI) := by
    refine loop_g (f := fun i => ([put l.length 2] ++ (l.take i).flatMap partsI, ((i : Nat) : Int))) l.length _ (by simp) ?_ ?_ (by omega)
    · intro i hi
      have h4 := partsL_len (l.take i)
      rw [List.length_take] at h4
      show ref11_Items.b1 k l ([put l.length 2] ++ (l.take i).flatMap partsI) (i : Int) = _
      rw [refItem_step k (by omega) l i hi (hm _ (List.getElem_mem hi)) (by omega) _ (by rw [List.length_append]; show 1 + _ ≤ _; omega)]
      rw [List.take_succ_eq_append_getElem hi, List.flatMap_append]
      simp
    · show ref11_Items.b1 k l ([put l.length 2] ++ (l.take l.length).flatMap partsI) (l.length : Int) = _
      rw [List.take_length]
      simp only [ref11_Items.b1, lt1, dec_f (show ¬ (l.length : Int) < (l.length : Int) by omega), Bool.false_eq_true, if_false]
  have hf : ([put l.length 2] ++ l.flatMap partsI).flatten = itemsB l := by
    rw [List.flatten_append, partsL_flat]; simp [itemsB]
  have hn : ([put l.length 2] ++ l.flatMap partsI).length ≤ 4 * l.length + 1 := by
    have := partsL_len l
    rw [List.length_append]; show 1 + _ ≤ _; omega
  have hB : (itemsB l).length ≤ 1000000 := by
    have := items_len l hm
    unfold itemsB
    rw [List.length_append, put_length]; omega
  have hj := refJoin_eq k ([put l.length 2] ++ l.flatMap partsI) (by omega) (by rw [hf]; exact hB) (by omega)
  rw [hf] at hj
  simp only [ref11_Items, lt1, refPut2 k (by omega) (show l.length ≤ 65535 by omega), Option.bind_some, hlp, hj]
end Go.Proofs.YtklnihlchhhhlaaGreat
