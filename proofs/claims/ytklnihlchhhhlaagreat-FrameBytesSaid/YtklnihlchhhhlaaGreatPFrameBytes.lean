/- The plain law FrameBytes: what the functions compute, and that it is as the statement says. -/
import Derived.Test.YtklnihlchhhhlaaGreatFa
import Derived.Test.YtklnihlchhhhlaaGreatFq
import Derived.Test.YtklnihlchhhhlaaGreatS
import Derived.Test.YtklnihlchhhhlaaGreatH
namespace Go.Proofs.YtklnihlchhhhlaaGreat
open Go Fw
set_option linter.unusedVariables false
set_option linter.unusedSimpArgs false
def put (n s : Nat) : List UInt8 := (List.range s).map fun i => UInt8.ofNat (n / 256 ^ (s - 1 - i))
theorem put_length (n s : Nat) : (put n s).length = s := by simp [put]
theorem put_get (n s i : Nat) (h : i < s) : (put n s)[i]? = some (UInt8.ofNat (n / 256 ^ (s - 1 - i))) := by simp [put, h]
theorem pow256 (m : Nat) : 2 ^ (8 * m) = 256 ^ m := by rw [Nat.pow_mul]
theorem shrU_nat (n : UInt64) (m : Nat) (h : m ≤ 8) : shrU n ((8 * m : Nat) : Int) = some (UInt64.ofNat (n.toNat / 256 ^ m)) := by
  simp only [shrU, UN.shr]
  rw [if_neg (by omega)]
  have e : min (((8 * m : Nat) : Int)).toNat (UN.bits UInt64) = 8 * m := by
    show min _ 64 = _
    omega
  rw [e, pow256]
  rfl
theorem ofNat_div (n : UInt64) (m : Nat) : (UInt64.ofNat (n.toNat / 256 ^ m)).toNat = n.toNat / 256 ^ m := UInt64.toNat_ofNat_of_lt' (Nat.lt_of_le_of_lt (Nat.div_le_self _ _) n.toNat_lt)
def room (n : UInt64) (size : Int) : Prop := 1 ≤ size ∧ size ≤ 8 ∧ n.toNat < 256 ^ size.toNat
instance (n : UInt64) (size : Int) : Decidable (room n size) := inferInstanceAs (Decidable (_ ∧ _))
theorem wirePut_loop (k s : Nat) (hk : 9 ≤ k) (hs : s ≤ 8) (n : UInt64) : loopO (fun x => wire_Put.b1 k (s : Int) n x.1 x.2) k (([] : List UInt8), (0 : Int)) = some (put n.toNat s) := by
  refine loop_g (n := s) (fun i => ((put n.toNat s).take i, ((i : Nat) : Int))) _ (by simp) ?_ ?_ (by omega)
  · intro i hi
    have e1 : w64 ((s : Int) - 1) = ((s - 1 : Nat) : Int) := by rw [w64_id (by omega) (by omega)]; omega
    have e2 : w64 (((s - 1 : Nat) : Int) - (i : Int)) = ((s - 1 - i : Nat) : Int) := by rw [w64_id (by omega) (by omega)]; omega
    have e3 : w64 (8 * ((s - 1 - i : Nat) : Int)) = ((8 * (s - 1 - i) : Nat) : Int) := by rw [w64_id (by omega) (by omega)]; omega
    have e4 : apL 1 ((put n.toNat s).take i) [UN.to (UInt64.ofNat (n.toNat / 256 ^ (s - 1 - i)))] = some ((put n.toNat s).take (i + 1)) := by
      rw [apL_ok (by simp [put_length]; omega)]
      congr 1
      have h1 : (UN.to (UInt64.ofNat (n.toNat / 256 ^ (s - 1 - i))) : UInt8) = UInt8.ofNat (n.toNat / 256 ^ (s - 1 - i)) := by
        show UInt8.ofNat (UInt64.toNat _) = _
        rw [ofNat_div]
      rw [h1]
      have h2 : i < (put n.toNat s).length := by rw [put_length]; exact hi
      rw [List.take_succ_eq_append_getElem h2]
      congr 2
      have h3 := put_get n.toNat s i hi
      rw [List.getElem?_eq_getElem h2] at h3
      exact (Option.some.inj h3).symm
    simp only [wire_Put.b1, lt1, dec_t (show (i : Int) < (s : Int) by omega), if_true, e1, e2, e3, shrU_nat n _ (show s - 1 - i ≤ 8 by omega), Option.bind_some, e4, w64_succ (show i < 9223372036854775807 by omega)]
  · simp only [wire_Put.b1, lt1, dec_f (show ¬ (s : Int) < (s : Int) by omega), Bool.false_eq_true, if_false]
    rw [List.take_of_length_le (by rw [put_length]; exact Nat.le_refl _)]
theorem wirePut_eq (k : Nat) (hk : 9 ≤ k) (n : UInt64) (size : Int) (hs0 : -9223372036854775808 ≤ size) (hs1 : size ≤ 9223372036854775807) : wire_Put k n size = some (if room n size then (put n.toNat size.toNat, 0) else ([], 2)) := by
  simp only [wire_Put, lt1]
  by_cases h1 : size < 1
  · have : ¬ room n size := fun h => by have := h.1; omega
    simp [h1, this]
  by_cases h2 : size > 8
  · have : ¬ room n size := fun h => by have := h.2.1; omega
    simp [h1, h2, this]
  obtain ⟨s, rfl⟩ : ∃ s : Nat, size = s := ⟨size.toNat, by omega⟩
  have hs : s ≤ 8 := by omega
  have e1 : w64 (8 * (s : Int)) = ((8 * s : Nat) : Int) := by rw [w64_id (by omega) (by omega)]; omega
  simp only [dec_f h1, dec_f h2, cond_false, e1, shrU_nat n s hs, Bool.not_false, Bool.true_and, wirePut_loop k s hk hs n]
  by_cases h3 : (s : Int) < 8
  · simp only [dec_t h3, if_true, Option.bind_some, cond_true]
    by_cases h4 : n.toNat < 256 ^ s
    · have hr : room n s := ⟨by omega, by omega, by simpa using h4⟩
      have : UInt64.ofNat (n.toNat / 256 ^ s) = 0 := by rw [Nat.div_eq_of_lt h4]; rfl
      simp [this, hr]
    · have hr : ¬ room n s := fun h => h4 (by simpa using h.2.2)
      have : ¬ UInt64.ofNat (n.toNat / 256 ^ s) = 0 := fun h => by
        have h5 := congrArg UInt64.toNat h
        rw [ofNat_div] at h5
        have h6 : 0 < n.toNat / 256 ^ s := Nat.div_pos (by omega) (Nat.pow_pos (by decide))
        have h7 : (0 : UInt64).toNat = 0 := rfl
        omega
      simp [this, hr]
  · have h8 : s = 8 := by omega
    subst h8
    have hr : room n ((8 : Nat) : Int) := ⟨by omega, by omega, by have := n.toNat_lt; simpa using this⟩
    simp only [dec_f h3, Bool.false_eq_true, if_false, Option.bind_some, cond_false, if_pos hr, Int.toNat_natCast]
theorem wireBlob_eq (k : Nat) (hk : 9 ≤ k) (b : List UInt8) (hb : b.length ≤ 140000000000000) : wire_Blob k b = some (if b.length ≤ 65535 then (put b.length 2 ++ b, 0) else ([], 3)) := by
  simp only [wire_Blob, lt1]
  by_cases h : b.length ≤ 65535
  · have h1 : ¬ (b.length : Int) > 65535 := by omega
    have h2 : (UN.ofI (b.length : Int) : UInt64).toNat = b.length := by
      show (UInt64.ofNat ((b.length : Int) % ((2 ^ 64 : Nat) : Int)).toNat).toNat = _
      have : ((b.length : Int) % ((2 ^ 64 : Nat) : Int)).toNat = b.length := by omega
      rw [this]
      exact UInt64.toNat_ofNat_of_lt' (by show _ < 2 ^ 64; omega)
    have hr : room (UN.ofI (b.length : Int) : UInt64) 2 := ⟨by decide, by decide, by rw [h2]; show b.length < 65536; omega⟩
    simp only [h1, decide_false, Bool.false_eq_true, if_false, wirePut_eq k hk _ 2 (by omega) (by omega), if_pos hr, Option.bind_some, h2, apL_ok (show ((put b.length (2 : Int).toNat).length + b.length) * 1 ≤ 140737488355328 by rw [put_length]; omega), if_pos h]
    rfl
  · have h1 : (b.length : Int) > 65535 := by omega
    simp only [h1, decide_true, if_true, if_neg h]
theorem wireDot_eq (k : Nat) (hk : 9 ≤ k) (d : api_Dot) : wire_Dot k d = some (if 0 ≤ d.Region ∧ d.Region ≤ 255 then (UInt8.ofNat d.Region.toNat :: put d.Count.toNat 8, 0) else ([], 2)) := by
  simp only [wire_Dot, lt1]
  by_cases h1 : d.Region < 0
  · have : ¬ (0 ≤ d.Region ∧ d.Region ≤ 255) := by omega
    simp [h1, this]
  · by_cases h2 : d.Region > 255
    · have : ¬ (0 ≤ d.Region ∧ d.Region ≤ 255) := by omega
      simp [h1, h2, this]
    · have h3 : 0 ≤ d.Region ∧ d.Region ≤ 255 := by omega
      have hr : room d.Count 8 := ⟨by omega, by omega, by have := d.Count.toNat_lt; simpa using this⟩
      have h4 : (UN.ofI d.Region : UInt8) = UInt8.ofNat d.Region.toNat := by
        show UInt8.ofNat (d.Region % ((2 ^ 8 : Nat) : Int)).toNat = _
        congr 1
        omega
      simp only [h1, h2, decide_false, Bool.false_eq_true, if_false, Option.bind_some, wirePut_eq k hk _ 8 (by omega) (by omega), if_pos hr, if_pos h3, h4, apL_ok (show (([UInt8.ofNat d.Region.toNat] : List UInt8).length + (put d.Count.toNat (8 : Int).toNat).length) * 1 ≤ 140737488355328 by rw [put_length]; show (1 + 8) * 1 ≤ _; omega)]
      rfl
def dotB (d : api_Dot) : List UInt8 := UInt8.ofNat d.Region.toNat :: put d.Count.toNat 8
theorem dotB_len (d : api_Dot) : (dotB d).length = 9 := by simp [dotB, put_length]
def blobB (b : List UInt8) : List UInt8 := put b.length 2 ++ b
def flagB (g : Bool) : List UInt8 := [if g then 1 else 0]
def itemB (i : api_Item) : List UInt8 := dotB i.Dot ++ (flagB i.Gone ++ if i.Gone then [] else blobB i.Key.Topic ++ blobB i.Key.Device)
def itemsB (l : List api_Item) : List UInt8 := put l.length 2 ++ l.flatMap itemB
def mayDot (d : api_Dot) : Prop := 1 ≤ d.Region ∧ d.Region ≤ 16 ∧ 1 ≤ d.Count.toNat ∧ d.Count.toNat ≤ 4611686018427387904
instance (d : api_Dot) : Decidable (mayDot d) := inferInstanceAs (Decidable (_ ∧ _))
def mayName (s : List UInt8) : Prop := 1 ≤ s.length ∧ s.length ≤ 32
instance (s : List UInt8) : Decidable (mayName s) := inferInstanceAs (Decidable (_ ∧ _))
def mayItem (i : api_Item) : Prop := mayDot i.Dot ∧ (if i.Gone then i.Key = ⟨[], []⟩ else mayName i.Key.Topic ∧ mayName i.Key.Device)
instance (i : api_Item) : Decidable (mayItem i) := by unfold mayItem; exact inferInstance
theorem itemB_len {i : api_Item} (h : mayItem i) : (itemB i).length ≤ 78 := by
  unfold itemB
  obtain ⟨_, h⟩ := h
  cases hg : i.Gone
  · rw [hg] at h
    have h : mayName i.Key.Topic ∧ mayName i.Key.Device := h
    have h1 := h.1.2
    have h2 := h.2.2
    simp [blobB, flagB, dotB_len, put_length]; omega
  · simp [flagB, dotB_len]
theorem items_len (l : List api_Item) (h : ∀ i ∈ l, mayItem i) : (l.flatMap itemB).length ≤ 78 * l.length := by
  induction l with
  | nil => simp
  | cons i l ih =>
    have h1 := itemB_len (h i (List.mem_cons_self ..))
    have h2 := ih fun j hj => h j (List.mem_cons_of_mem _ hj)
    rw [List.flatMap_cons, List.length_append, List.length_cons]; omega
theorem ap1 {x y : List UInt8} (h : x.length + y.length ≤ 100000000) : apL 1 x y = some (x ++ y) := apL_ok (by omega)
theorem wDot (k : Nat) (hk : 9 ≤ k) {d : api_Dot} (h : mayDot d) : wire_Dot k d = some (dotB d, 0) := by
  rw [wireDot_eq k hk, if_pos (by have := h.1; have := h.2.1; omega)]; rfl
theorem wBlob (k : Nat) (hk : 9 ≤ k) {b : List UInt8} (h : b.length ≤ 65535) : wire_Blob k b = some (blobB b, 0) := by rw [wireBlob_eq k hk b (by omega), if_pos h]; rfl
theorem items_step (k : Nat) (hk : 9 ≤ k) (l : List api_Item) (i : Nat) (hi : i < l.length) (hm : mayItem l[i]) (hl : l.length ≤ 65535) (x : List UInt8) (hx : x.length ≤ 10000000) :
    frame_writer_items'3.b1 k l x (i : Int) = some (.inl (x ++ itemB l[i], ((i + 1 : Nat) : Int))) := by
  obtain ⟨it, hit⟩ : ∃ it, l[i] = it := ⟨_, rfl⟩
  have hd := wDot k hk hm.1
  have hlen := itemB_len hm
  rw [hit] at hm hd hlen
  have hdl := dotB_len it.Dot
  simp only [frame_writer_items'3.b1, lt1, dec_t (show (i : Int) < (l.length : Int) by omega), if_true, idxL_lt hi, hit, Option.bind_some, hd, frame_writer_put'2, ap1 (show x.length + (dotB it.Dot).length ≤ 100000000 by omega), frame_writer_flag, w64_succ (show i < 9223372036854775807 by omega)]
  obtain ⟨_, hm2⟩ := hm
  cases hg : it.Gone
  · rw [hg] at hm2
    have hm2 : mayName it.Key.Topic ∧ mayName it.Key.Device := hm2
    have h1 := hm2.1.2
    have h2 := hm2.2.2
    have hb1 := wBlob k hk (b := it.Key.Topic) (by omega)
    have hb2 := wBlob k hk (b := it.Key.Device) (by omega)
    have e1 : (blobB it.Key.Topic).length ≤ 34 := by simp [blobB, put_length]; omega
    have e2 : (blobB it.Key.Device).length ≤ 34 := by simp [blobB, put_length]; omega
    simp only [Bool.false_eq_true, if_false, Option.bind_some, Bool.not_false, if_true, hb1, hb2]
    rw [ap1 (by simp; omega), Option.bind_some, Option.bind_some, ap1 (by simp; omega), Option.bind_some, Option.bind_some, ap1 (by simp; omega), Option.bind_some, Option.bind_some, Option.bind_some]
    simp [itemB, hg, flagB]
  · simp only [if_true, Option.bind_some, Bool.not_true, Bool.false_eq_true, if_false]
    rw [ap1 (by simp; omega), Option.bind_some, Option.bind_some, Option.bind_some]
    simp [itemB, hg, flagB]
theorem ctxMay_eq (k : Nat) (d : api_Dot) : ctx_May k d = some (decide (mayDot d)) := by
  simp only [ctx_May, lt1, mayDot, UInt64.le_iff_toNat_le, show (1 : UInt64).toNat = 1 from rfl, show (4611686018427387904 : UInt64).toNat = 4611686018427387904 from rfl, ge_iff_le]
  by_cases h1 : 1 ≤ d.Region <;> by_cases h2 : d.Region ≤ 16 <;> by_cases h3 : 1 ≤ d.Count.toNat <;> simp [h1, h2, h3]
theorem mayName_eq (k : Nat) (s : List UInt8) : event_MayName k s = some (decide (mayName s)) := by
  simp only [event_MayName, lt1, mayName, Option.bind_some, Option.some.injEq]
  by_cases h1 : 1 ≤ s.length
  · by_cases h2 : s.length ≤ 32
    · rw [dec_t (show (s.length : Int) ≥ 1 by omega), dec_t (show (s.length : Int) ≤ 32 by omega)]; simp [h1, h2]
    · rw [dec_t (show (s.length : Int) ≥ 1 by omega), dec_f (show ¬ (s.length : Int) ≤ 32 by omega)]; simp [h1, h2]
  · rw [dec_f (show ¬ (s.length : Int) ≥ 1 by omega)]; simp [h1]
theorem mayItem_eq (k : Nat) (i : api_Item) : frame_MayItem k i = some (decide (mayItem i)) := by
  simp only [frame_MayItem, ctxMay_eq, mayName_eq, lt1, Option.bind_some]
  by_cases hg : i.Gone = true
  · by_cases h1 : mayDot i.Dot
    · by_cases h2 : i.Key = ⟨[], []⟩
      · have e := (eq_api_Key_iff (x := i.Key) (y := ⟨[], []⟩)).2 h2
        have hm : mayItem i := ⟨h1, by rw [if_pos hg]; exact h2⟩
        rw [if_pos hg, e, decide_eq_true hm, decide_eq_true h1]; rfl
      · have e : eq_api_Key i.Key ⟨[], []⟩ = false := by
          rw [← Bool.not_eq_true, eq_api_Key_iff]; exact h2
        have hm : ¬ mayItem i := fun h => by have := h.2; rw [if_pos hg] at this; exact h2 this
        rw [if_pos hg, e, decide_eq_false hm, decide_eq_true h1]; rfl
    · have hm : ¬ mayItem i := fun h => h1 h.1
      rw [if_pos hg, decide_eq_false hm, decide_eq_false h1]; rfl
  · rw [if_neg hg]
    by_cases h1 : mayDot i.Dot
    · by_cases h2 : mayName i.Key.Topic
      · by_cases h3 : mayName i.Key.Device
        · have hm : mayItem i := ⟨h1, by rw [if_neg hg]; exact ⟨h2, h3⟩⟩
          rw [decide_eq_true hm, decide_eq_true h1, decide_eq_true h2, decide_eq_true h3]; rfl
        · have hm : ¬ mayItem i := fun h => by have := h.2; rw [if_neg hg] at this; exact h3 this.2
          rw [decide_eq_false hm, decide_eq_true h1, decide_eq_true h2, decide_eq_false h3]; rfl
      · have hm : ¬ mayItem i := fun h => by have := h.2; rw [if_neg hg] at this; exact h2 this.1
        rw [decide_eq_false hm, decide_eq_true h1, decide_eq_false h2]; rfl
    · have hm : ¬ mayItem i := fun h => h1 h.1
      rw [decide_eq_false hm, decide_eq_false h1]; rfl
theorem contains_eq (k : Nat) (l : List api_Item) (hk : l.length < k) (hl : l.length ≤ 1000000) : slices_ContainsFuncapi_Item_api_Item k l = some (!decide (∀ i ∈ l, mayItem i)) := by
  have hlp := loop_inv (body := fun s : Int => slices_IndexFuncapi_Item_api_Item.b1 k l s) (I := fun s => 0 ≤ s ∧ s ≤ (l.length : Int) ∧ ∀ j (h : j < l.length), (j : Int) < s → mayItem l[j]) (m := fun s => ((l.length : Int) - s).toNat)
    (fun r => (r = .inl () ∧ ∀ i ∈ l, mayItem i) ∨ ∃ n : Nat, r = .inr (n : Int) ∧ ¬ ∀ i ∈ l, mayItem i) ?_ k (0 : Int) ⟨Int.le_refl _, by omega, fun j h h0 => by omega⟩ (by omega)
  · obtain ⟨r, h1, h2⟩ := hlp
    rcases h2 with ⟨rfl, h2⟩ | ⟨n, rfl, h2⟩
    · simp only [slices_ContainsFuncapi_Item_api_Item, slices_IndexFuncapi_Item_api_Item, h1, Option.bind_some, lt1, decide_eq_true h2]; rfl
    · simp only [slices_ContainsFuncapi_Item_api_Item, slices_IndexFuncapi_Item_api_Item, h1, Option.bind_some, lt1, decide_eq_false h2, dec_t (show (n : Int) ≥ 0 by omega)]; rfl
  · rintro s ⟨h0, h1, h2⟩
    obtain ⟨i, rfl⟩ : ∃ i : Nat, s = i := ⟨s.toNat, by omega⟩
    by_cases hlt : i < l.length
    · by_cases hm : mayItem l[i]
      · left
        simp only [slices_IndexFuncapi_Item_api_Item.b1, frame_items_1, mayItem_eq, lt1, dec_t (show (i : Int) < (l.length : Int) by omega), if_true, idxL_lt hlt, Option.bind_some, decide_eq_true hm, Bool.not_true, Bool.false_eq_true, if_false, w64_succ (show i < 9223372036854775807 by omega)]
        refine ⟨_, rfl, ⟨by omega, by omega, fun j hj hji => ?_⟩, by omega⟩
        by_cases hji' : j = i
        · subst hji'; exact hm
        · exact h2 j hj (by omega)
      · right
        simp only [slices_IndexFuncapi_Item_api_Item.b1, frame_items_1, mayItem_eq, lt1, dec_t (show (i : Int) < (l.length : Int) by omega), if_true, idxL_lt hlt, Option.bind_some, decide_eq_false hm, Bool.not_false]
        exact ⟨_, rfl, .inr ⟨i, rfl, fun h => hm (h _ (List.getElem_mem hlt))⟩⟩
    · right
      simp only [slices_IndexFuncapi_Item_api_Item.b1, lt1, dec_f (show ¬ (i : Int) < (l.length : Int) by omega), Bool.false_eq_true, if_false]
      refine ⟨_, rfl, .inl ⟨rfl, fun x hx => ?_⟩⟩
      obtain ⟨j, hj, rfl⟩ := List.getElem_of_mem hx
      exact h2 j hj (by omega)
theorem ofI_toNat {m : Nat} (h : m < 18446744073709551616) : (UN.ofI (m : Int) : UInt64).toNat = m := by
  show (UInt64.ofNat ((m : Int) % ((2 ^ 64 : Nat) : Int)).toNat).toNat = _
  have : ((m : Int) % ((2 ^ 64 : Nat) : Int)).toNat = m := by omega
  rw [this]
  exact UInt64.toNat_ofNat_of_lt' h
theorem wPut2 (k : Nat) (hk : 9 ≤ k) {n : Nat} (h : n ≤ 65535) : wire_Put k (UN.ofI (n : Int) : UInt64) 2 = some (put n 2, 0) := by
  have e : (UN.ofI (n : Int) : UInt64).toNat = n := ofI_toNat (by omega)
  have hr : room (UN.ofI (n : Int) : UInt64) 2 := ⟨by omega, by omega, by rw [e]; exact Nat.lt_of_le_of_lt h (by decide)⟩
  rw [wirePut_eq k hk _ 2 (by omega) (by omega), if_pos hr, e]; rfl
/-- A loop that leaves at the first place where something is not so. -/
theorem loop_all {body : Int → Option (Int ⊕ (Unit ⊕ Bool))} (n : Nat) (P : Nat → Prop) [DecidablePred P] {b : Bool} (hs : ∀ i, i < n → body (i : Int) = some (if P i then .inl ((i + 1 : Nat) : Int) else .inr (.inr b))) (he : body (n : Int) = some (.inr (.inl ()))) {k : Nat} (hk : n < k) :
    loopO body k (0 : Int) = some (if ∀ i, i < n → P i then .inl () else .inr b) := by
  have h := loop_inv (body := body) (I := fun s => 0 ≤ s ∧ s ≤ n ∧ ∀ i : Nat, (i : Int) < s → P i) (m := fun s => ((n : Int) - s).toNat) (fun t => t = if ∀ i, i < n → P i then .inl () else .inr b) ?_ k (0 : Int) ⟨Int.le_refl _, by omega, fun i h => by omega⟩ (by omega)
  · obtain ⟨t, h1, rfl⟩ := h
    exact h1
  · rintro s ⟨h0, h1, h2⟩
    obtain ⟨i, rfl⟩ : ∃ i : Nat, s = i := ⟨s.toNat, by omega⟩
    by_cases hlt : i < n
    · rw [hs i hlt]
      by_cases hP : P i
      · left
        refine ⟨_, by rw [if_pos hP], ⟨by omega, by omega, fun j hj => ?_⟩, by omega⟩
        by_cases hji : j = i
        · subst hji; exact hP
        · exact h2 j (by omega)
      · right
        exact ⟨_, by rw [if_neg hP], by rw [if_neg (fun h => hP (h i hlt))]⟩
    · have : i = n := by omega
      subst this
      right
      exact ⟨_, he, by rw [if_pos (fun j hj => h2 j (by omega))]⟩
theorem beq_dec {α : Type} [DecidableEq α] (a b : α) : (a == b) = decide (a = b) := by by_cases h : a = b <;> simp [h]
theorem div256 (n : UInt64) : divU n (256 : UInt64) = some (UInt64.ofNat (n.toNat / 256)) := by
  unfold divU
  rw [if_neg (by decide)]
  refine congrArg some (UInt64.toNat_inj.1 ?_)
  show (n / 256).toNat = _
  rw [UInt64.toNat_div, UInt64.toNat_ofNat_of_lt' (Nat.lt_of_le_of_lt (Nat.div_le_self _ _) n.toNat_lt)]
  rfl
theorem mod256 (n : UInt64) : modU n (256 : UInt64) = some (UInt64.ofNat (n.toNat % 256)) := by
  unfold modU
  rw [if_neg (by decide)]
  refine congrArg some (UInt64.toNat_inj.1 ?_)
  show (n % 256).toNat = _
  rw [UInt64.toNat_mod, UInt64.toNat_ofNat_of_lt' (Nat.lt_of_le_of_lt (Nat.mod_le _ _) n.toNat_lt)]
  rfl
theorem refPut_eq (k : Nat) (hk : 9 ≤ k) (n : UInt64) (s : Nat) (hs : s ≤ 8) : ref01_Put k n (s : Int) = some (put n.toNat s) := by
  have e0 : w64 ((s : Int) - 1) = (s : Int) - 1 := w64_id (by omega) (by omega)
  have hl : loopO (fun x => ref01_Put.b1 k x.1 x.2.1 x.2.2) k (n, List.replicate s (0 : UInt8), (s : Int) - 1) = some (put n.toNat s) := by
    refine loop_g (n := s) (fun j => (UInt64.ofNat (n.toNat / 256 ^ j), (List.range s).map (fun i => if s - 1 - i < j then UInt8.ofNat (n.toNat / 256 ^ (s - 1 - i)) else 0), (s : Int) - 1 - (j : Int))) _ ?_ ?_ ?_ (by omega)
    · simp only [Nat.pow_zero, Nat.div_one, Nat.not_lt_zero, if_false]
      refine Prod.ext (by simp) (Prod.ext ?_ (by simp))
      apply List.ext_getElem?
      intro i
      by_cases hi : i < s <;> simp [hi]
    · intro j hj
      have e1 : inO ((List.range s).map (fun i => if s - 1 - i < j then UInt8.ofNat (n.toNat / 256 ^ (s - 1 - i)) else 0)) ((s : Int) - 1 - (j : Int)) = some (s - 1 - j) := by
        rw [inO_ok (by omega) (by simp; omega)]
        congr 1
        omega
      have e2 : w64 ((s : Int) - 1 - (j : Int) - 1) = (s : Int) - 1 - ((j + 1 : Nat) : Int) := by rw [w64_id (by omega) (by omega)]; omega
      have e3 : (UN.to (UInt64.ofNat (n.toNat / 256 ^ j % 256)) : UInt8) = UInt8.ofNat (n.toNat / 256 ^ j) := by
        show UInt8.ofNat (UInt64.toNat _) = _
        have : (UInt64.ofNat (n.toNat / 256 ^ j % 256)).toNat = n.toNat / 256 ^ j % 256 := UInt64.toNat_ofNat_of_lt' (Nat.lt_of_lt_of_le (Nat.mod_lt _ (by decide)) (by decide))
        rw [this]
        apply UInt8.toNat_inj.1
        simp
      simp only [ref01_Put.b1, lt1, dec_t (show (s : Int) - 1 - (j : Int) ≥ 0 by omega), if_true, mod256, div256, ofNat_div, Option.bind_some, e1, e2, e3, setO'_ok (show s - 1 - j < ((List.range s).map (fun i => if s - 1 - i < j then UInt8.ofNat (n.toNat / 256 ^ (s - 1 - i)) else 0)).length by simp; omega), Nat.div_div_eq_div_mul, ← Nat.pow_succ, Option.some.injEq, Sum.inl.injEq, Prod.mk.injEq, true_and, and_true]
      apply List.ext_getElem?
      intro i
      by_cases hi : i < s
      · rw [List.getElem?_set]
        by_cases hij : s - 1 - j = i
        · have h1 : s - 1 - i = j := by omega
          rw [if_pos hij, if_pos (by simp; omega)]
          simp [hi, h1]
        · rw [if_neg hij]
          have h1 : (s - 1 - i < j) ↔ (s - 1 - i < j + 1) := by omega
          simp [hi, h1]
      · rw [List.getElem?_eq_none (by simp; omega), List.getElem?_eq_none (by simp; omega)]
    · simp only [ref01_Put.b1, lt1, dec_f (show ¬ (s : Int) - 1 - (s : Int) ≥ 0 by omega), Bool.false_eq_true, if_false, Option.some.injEq, Sum.inr.injEq]
      apply List.ext_getElem?
      intro i
      by_cases hi : i < s
      · have : s - 1 - i < s := by omega
        simp [put, hi, this]
      · rw [List.getElem?_eq_none (by simp; omega), List.getElem?_eq_none (by rw [put_length]; omega)]
  simp only [ref01_Put, lt1, mkL_ok (show 0 ≤ (s : Int) by omega) (show (s : Int).toNat * 1 ≤ 281474976710656 by omega) (show (s : Int) ≤ 9223372036854775807 by omega), Option.bind_some, e0, Int.toNat_natCast, hl]
theorem refPut8 (k : Nat) (hk : 9 ≤ k) (n : UInt64) : ref01_Put k n 8 = some (put n.toNat 8) := refPut_eq k hk n 8 (Nat.le_refl _)
theorem refBlob_eq (k : Nat) (hk : 9 ≤ k) (b : List UInt8) (hb : b.length ≤ 140000000000000) : ref01_Blob k b = some (put b.length 2 ++ b) := by
  have h1 := refPut_eq k hk (UN.ofI (b.length : Int)) 2 (by omega)
  rw [ofI_toNat (by omega)] at h1
  have h1 : ref01_Put k (UN.ofI (b.length : Int)) 2 = some (put b.length 2) := h1
  simp only [ref01_Blob, lt1, h1, Option.bind_some, apL_ok (show ((put b.length 2).length + b.length) * 1 ≤ 140737488355328 by rw [put_length]; omega)]
theorem put1 (m : Nat) (h : m < 256) : put m 1 = [UInt8.ofNat m] := by simp [put]
theorem refDot_eq (k : Nat) (hk : 9 ≤ k) (d : api_Dot) (h : 0 ≤ d.Region ∧ d.Region ≤ 255) : ref01_Dot k d = some (UInt8.ofNat d.Region.toNat :: put d.Count.toNat 8) := by
  obtain ⟨m, hm⟩ : ∃ m : Nat, d.Region = m := ⟨d.Region.toNat, by omega⟩
  have h1 := refPut_eq k hk (UN.ofI d.Region) 1 (by omega)
  rw [hm, ofI_toNat (by omega), put1 m (by omega)] at h1
  have h1 : ref01_Put k (UN.ofI (m : Int)) 1 = some [UInt8.ofNat m] := h1
  simp only [ref01_Dot, lt1, hm, h1, refPut8 k hk, Option.bind_some, Int.toNat_natCast, apL_ok (show (([UInt8.ofNat m] : List UInt8).length + (put d.Count.toNat 8).length) * 1 ≤ 140737488355328 by rw [put_length]; show (1 + 8) * 1 ≤ _; omega)]
  rfl
/-- How many bytes the first i have. -/
def sumL (l : List (List UInt8)) (i : Nat) : Nat := ((l.take i).map List.length).sum
theorem sumL_succ (l : List (List UInt8)) (i : Nat) (h : i < l.length) : sumL l (i + 1) = sumL l i + l[i].length := by
  rw [sumL, List.take_succ_eq_append_getElem h]
  simp only [List.map_append, List.sum_append, List.map_cons, List.map_nil, List.sum_cons, List.sum_nil, Nat.add_zero, sumL]
theorem sumL_mono (l : List (List UInt8)) : ∀ i, sumL l i ≤ sumL l l.length := by
  intro i
  by_cases h : i ≤ l.length
  · have key : ∀ d, i + d ≤ l.length → sumL l i ≤ sumL l (i + d) := by
      intro d
      induction d with
      | zero => intro _; exact Nat.le_refl _
      | succ d ih =>
        intro hd
        have := ih (by omega)
        rw [← Nat.add_assoc, sumL_succ l (i + d) (by omega)]
        omega
    have := key (l.length - i) (by omega)
    rwa [show i + (l.length - i) = l.length by omega] at this
  · rw [sumL, sumL, List.take_of_length_le (by omega), List.take_length]; exact Nat.le_refl _
theorem flat_succ (l : List (List UInt8)) (i : Nat) (h : i < l.length) : (l.take (i + 1)).flatten = (l.take i).flatten ++ l[i] := by
  rw [List.take_succ_eq_append_getElem h, List.flatten_append]; simp only [List.flatten_cons, List.flatten_nil, List.append_nil]
theorem flat_len (l : List (List UInt8)) (i : Nat) : (l.take i).flatten.length = sumL l i := by simp [sumL, List.length_flatten]
theorem flat_all (l : List (List UInt8)) : sumL l l.length = l.flatten.length := by rw [← flat_len, List.take_length]
theorem refJoin_eq (k : Nat) (l : List (List UInt8)) (hk : l.length < k) (hs0 : l.flatten.length ≤ 1000000) (hl : l.length ≤ 1000000) : ref01_Join k l = some l.flatten := by
  have hs : sumL l l.length ≤ 1000000 := by rw [flat_all]; exact hs0
  have h3 : loopO (fun s => ref01_Join.b1 k l s.1 s.2) k (([] : List UInt8), (0 : Int)) = some l.flatten := by
    refine loop_g (n := l.length) (fun i => ((l.take i).flatten, ((i : Nat) : Int))) _ (by simp) ?_ ?_ (by omega)
    · intro i hi
      have h4 := sumL_mono l (i + 1)
      have h5 := sumL_succ l i hi
      have h6 := flat_len l i
      simp only [ref01_Join.b1, lt1, dec_t (show (i : Int) < (l.length : Int) by omega), if_true, idxL_lt hi, Option.bind_some, apL_ok (show ((l.take i).flatten.length + l[i].length) * 1 ≤ 140737488355328 by omega), flat_succ l i hi, w64_succ (show i < 9223372036854775807 by omega)]
    · simp only [ref01_Join.b1, lt1, dec_f (show ¬ (l.length : Int) < (l.length : Int) by omega), Bool.false_eq_true, if_false, List.take_length]
  simp only [ref01_Join, h3, Option.bind_some]
theorem refMayDot_eq (k : Nat) (d : api_Dot) : ref09_MayDot k d = some (decide (mayDot d)) := by
  simp only [ref09_MayDot, lt1, mayDot, UInt64.le_iff_toNat_le, show (1 : UInt64).toNat = 1 from rfl, show (4611686018427387904 : UInt64).toNat = 4611686018427387904 from rfl, ge_iff_le]
  by_cases h1 : 1 ≤ d.Region <;> by_cases h2 : d.Region ≤ 16 <;> by_cases h3 : 1 ≤ d.Count.toNat <;> simp [h1, h2, h3]
theorem refMayName_eq (k : Nat) (s : List UInt8) : ref09_MayName k s = some (decide (mayName s)) := by
  simp only [ref09_MayName, lt1, mayName, Option.bind_some, Option.some.injEq]
  by_cases h1 : 1 ≤ s.length
  · rw [dec_t (show (s.length : Int) > 0 by omega)]
    by_cases h2 : s.length ≤ 32
    · rw [dec_t (show (s.length : Int) ≤ 32 by omega)]; simp [h1, h2]
    · rw [dec_f (show ¬ (s.length : Int) ≤ 32 by omega)]; simp [h1, h2]
  · rw [dec_f (show ¬ (s.length : Int) > 0 by omega)]; simp [h1]
theorem refMayItem_eq (k : Nat) (i : api_Item) : ref11_MayItem k i = some (decide (mayItem i)) := by
  obtain ⟨d, ⟨t, v⟩, g⟩ := i
  simp only [ref11_MayItem, refMayDot_eq, refMayName_eq, lt1, Option.bind_some, mayItem]
  by_cases h1 : mayDot d
  · simp only [decide_eq_true h1, Bool.not_true, Bool.false_eq_true, if_false, h1, true_and]
    cases g
    · by_cases h2 : mayName t <;> simp [h2]
    · by_cases h2 : t = [] <;> by_cases h3 : v = [] <;> simp [h2, h3, api_Key.mk.injEq]
  · simp [h1]
theorem refFlag_eq (k : Nat) (g : Bool) : ref11_flag k g = some (flagB g) := by cases g <;> rfl
theorem refDot (k : Nat) (hk : 9 ≤ k) {d : api_Dot} (h : mayDot d) : ref01_Dot k d = some (dotB d) := refDot_eq k hk d ⟨by have := h.1; omega, by have := h.2.1; omega⟩
theorem refBlob (k : Nat) (hk : 9 ≤ k) {b : List UInt8} (h : b.length ≤ 65535) : ref01_Blob k b = some (blobB b) := refBlob_eq k hk b (by omega)
theorem refPut2 (k : Nat) (hk : 9 ≤ k) {n : Nat} (h : n ≤ 65535) : ref01_Put k (UN.ofI (n : Int) : UInt64) 2 = some (put n 2) := by
  have h1 := refPut_eq k hk (UN.ofI (n : Int)) 2 (by omega)
  rw [ofI_toNat (by omega)] at h1
  exact h1
/-- What the reference lists of an item. -/
def partsI (i : api_Item) : List (List UInt8) := [dotB i.Dot, flagB i.Gone] ++ if i.Gone then [] else [blobB i.Key.Topic, blobB i.Key.Device]
theorem partsI_len (i : api_Item) : (partsI i).length ≤ 4 := by unfold partsI; cases i.Gone <;> simp
theorem partsI_flat (i : api_Item) : (partsI i).flatten = itemB i := by unfold partsI itemB; cases i.Gone <;> simp
theorem partsL_len (l : List api_Item) : (l.flatMap partsI).length ≤ 4 * l.length := by
  induction l with
  | nil => simp
  | cons i l ih => have := partsI_len i; rw [List.flatMap_cons, List.length_append, List.length_cons]; omega
theorem partsL_flat (l : List api_Item) : (l.flatMap partsI).flatten = l.flatMap itemB := by
  induction l with
  | nil => rfl
  | cons i l ih => rw [List.flatMap_cons, List.flatMap_cons, List.flatten_append, ih, partsI_flat]
theorem apR {x y : List (List UInt8)} (h : x.length + y.length ≤ 1000000) : apL 24 x y = some (x ++ y) := apL_ok (by omega)
theorem refItem_step (k : Nat) (hk : 9 ≤ k) (l : List api_Item) (i : Nat) (hi : i < l.length) (hm : mayItem l[i]) (hl : l.length ≤ 65535) (x : List (List UInt8)) (hx : x.length ≤ 300000) :
    ref11_Items.b1 k l x (i : Int) = some (.inl (x ++ partsI l[i], ((i + 1 : Nat) : Int))) := by
  obtain ⟨it, hit⟩ : ∃ it, l[i] = it := ⟨_, rfl⟩
  rw [hit] at hm
  have hd := refDot k hk hm.1
  simp only [ref11_Items.b1, lt1, dec_t (show (i : Int) < (l.length : Int) by omega), if_true, idxL_lt hi, hit, Option.bind_some, hd, refFlag_eq, apR (show x.length + ([dotB it.Dot, flagB it.Gone] : List (List UInt8)).length ≤ 1000000 by show x.length + 2 ≤ _; omega), w64_succ (show i < 9223372036854775807 by omega)]
  obtain ⟨_, hm2⟩ := hm
  cases hg : it.Gone
  · rw [hg] at hm2
    have hm2 : mayName it.Key.Topic ∧ mayName it.Key.Device := hm2
    have h1 := hm2.1.2
    have h2 := hm2.2.2
    simp only [Bool.not_false, if_true, refBlob k hk (b := it.Key.Topic) (by omega), refBlob k hk (b := it.Key.Device) (by omega), Option.bind_some]
    rw [apR (by simp; omega)]
    simp [partsI, hg]
  · simp [partsI, hg]
theorem refItems_eq (k : Nat) (l : List api_Item) (hk : 4 * l.length + 10 < k) (hl : l.length ≤ 10000) (hm : ∀ i ∈ l, mayItem i) : ref11_Items k l = some (itemsB l) := by
  have hlp : loopO (fun s => ref11_Items.b1 k l s.1 s.2) k (([put l.length 2] : List (List UInt8)), (0 : Int)) = some ([put l.length 2] ++ l.flatMap partsI) := by
    refine loop_g (f := fun i => ([put l.length 2] ++ (l.take i).flatMap partsI, ((i : Nat) : Int))) l.length _ (by simp) ?_ ?_ (by omega)
    · intro i hi
      have h4 := partsL_len (l.take i)
      rw [List.length_take] at h4
      show ref11_Items.b1 k l ([put l.length 2] ++ (l.take i).flatMap partsI) (i : Int) = _
      rw [refItem_step k (by omega) l i hi (hm _ (List.getElem_mem hi)) (by omega) _ (by rw [List.length_append]; show 1 + _ ≤ _; omega)]
      rw [List.take_succ_eq_append_getElem hi, List.flatMap_append]
      simp
    · show ref11_Items.b1 k l ([put l.length 2] ++ (l.take l.length).flatMap partsI) (l.length : Int) = _
      rw [List.take_length]
      simp only [ref11_Items.b1, lt1, dec_f (show ¬ (l.length : Int) < (l.length : Int) by omega), Bool.false_eq_true, if_false]
  have hf : ([put l.length 2] ++ l.flatMap partsI).flatten = itemsB l := by
    rw [List.flatten_append, partsL_flat]; simp [itemsB]
  have hn : ([put l.length 2] ++ l.flatMap partsI).length ≤ 4 * l.length + 1 := by
    have := partsL_len l
    rw [List.length_append]; show 1 + _ ≤ _; omega
  have hB : (itemsB l).length ≤ 1000000 := by
    have := items_len l hm
    unfold itemsB
    rw [List.length_append, put_length]; omega
  have hj := refJoin_eq k ([put l.length 2] ++ l.flatMap partsI) (by omega) (by rw [hf]; exact hB) (by omega)
  rw [hf] at hj
  simp only [ref11_Items, lt1, refPut2 k (by omega) (show l.length ≤ 65535 by omega), Option.bind_some, hlp, hj]
theorem cmpI_eq (k : Nat) (x y : Int) : cmp_Compareint k x y = some (if x < y then -1 else if x > y then 1 else 0) := by
  simp only [cmp_Compareint, cmp_isNaNint, lt1, Option.bind_some, bne_self_eq_false, Bool.false_eq_true, if_false, decide_eq_true_eq]
  repeat' split
  all_goals simp_all
theorem cmpU_eq (k : Nat) (x y : UInt64) : cmp_Compareuint64 k x y = some (if x < y then -1 else if y < x then 1 else 0) := by
  simp only [cmp_Compareuint64, cmp_isNaNuint64, lt1, Option.bind_some, beq_self_eq_true, Bool.not_true, Bool.false_eq_true, if_false, decide_eq_true_eq]
  repeat' split
  all_goals simp_all
theorem or2_eq (k : Nat) (hk : 3 ≤ k) (x y : Int) : cmp_Orint k [x, y] = some (if x ≠ 0 then x else y) := by
  obtain ⟨k, rfl⟩ : ∃ j, k = j + 3 := ⟨k - 3, by omega⟩
  have h1 : w64 1 = 1 := w64_id (by omega) (by omega)
  have h2 : w64 2 = 2 := w64_id (by omega) (by omega)
  by_cases hx : x = 0 <;> by_cases hy : y = 0 <;> simp [cmp_Orint, loopO, cmp_Orint.b1, idxL, lt1, hx, hy, h1, h2]
def less (a b : api_Dot) : Prop := a.Region < b.Region ∨ (a.Region = b.Region ∧ a.Count.toNat < b.Count.toNat)
instance (a b : api_Dot) : Decidable (less a b) := inferInstanceAs (Decidable (_ ∨ _))
theorem less_eq (k : Nat) (hk : 3 ≤ k) (a b : api_Dot) : event_Less k a b = some (decide (less a b)) := by
  simp only [event_Less, cmpI_eq, cmpU_eq, or2_eq k hk, lt1, Option.bind_some, Option.some.injEq, decide_eq_decide, less, UInt64.lt_iff_toNat_lt]
  by_cases h1 : a.Region < b.Region
  · simp [h1]
  · by_cases h2 : a.Region > b.Region
    · rw [if_neg h1, if_pos h2]; simp [h1, show ¬ a.Region = b.Region from by omega]
    · have h3 : a.Region = b.Region := by omega
      rw [if_neg h1, if_neg h2]
      by_cases h4 : a.Count.toNat < b.Count.toNat
      · simp [h3, h4]
      · by_cases h5 : b.Count.toNat < a.Count.toNat
        · simp [h3, h4, h5]
        · simp [h3, h4, h5]
abbrev Vc := Vector UInt64 16
def at_ (v : Vc) (r : Int) : Nat := (v[(r - 1).toNat]?.getD 0).toNat
theorem at_lt {v : Vc} {r : Int} (h : (r - 1).toNat < 16) : at_ v r = v[(r - 1).toNat].toNat := by unfold at_; rw [Vector.getElem?_eq_getElem h]; rfl
theorem w64_pred {r : Int} (h : 1 ≤ r) (h2 : r ≤ 16) : w64 (r - 1) = r - 1 := w64_id (by omega) (by omega)
/-- The places of a vector, each small. -/
def small (v : Vc) : Prop := ∀ i (h : i < 16), v[i].toNat ≤ 4611686018427387904
instance (v : Vc) : Decidable (small v) := inferInstanceAs (Decidable (∀ i (h : i < 16), v[i].toNat ≤ 4611686018427387904))
theorem mv1_eq (k : Nat) (n : UInt64) : event_mayVector_1 k n = some (decide (4611686018427387904 < n.toNat)) := by
  simp [event_mayVector_1, lt1, UInt64.lt_iff_toNat_lt]
theorem mayVector_eq (k : Nat) (hk : 17 ≤ k) (v : Vc) : ∃ b, event_mayVector k v = some b ∧ (b = true ↔ small v) := by
  have hs : subL (Vector.toList v) 0 16 = some v.toList := by rw [subL_ok (by omega) (by omega) (by simp)]; simp only [Option.some.injEq]; exact List.take_of_length_le (by simp)
  have hlp : ∃ t, loopO (fun s => slices_IndexFuncuint64_uint64.b1 k v.toList s) k (0 : Int) = some t ∧ ((∃ i, t = .inr i ∧ 0 ≤ i ∧ ¬ small v) ∨ (t = .inl () ∧ small v)) := by
    refine loop_inv (I := fun s => 0 ≤ s ∧ s ≤ 16 ∧ ∀ (i : Nat) (h : i < 16), (i : Int) < s → v[i].toNat ≤ 4611686018427387904) (m := fun s => (16 - s).toNat) _ ?_ k 0 ⟨by omega, by omega, fun i _ h => by omega⟩ (by show (16 - (0 : Int)).toNat < k; omega)
    intro s ⟨h0, h1, h2⟩
    by_cases hlt : s < 16
    · obtain ⟨i, rfl⟩ : ∃ i : Nat, s = i := ⟨s.toNat, by omega⟩
      have hi : i < 16 := by omega
      have hx : idxL v.toList (i : Int) = some v[i] := by rw [idxL_lt (by simpa using hi)]; simp
      simp only [slices_IndexFuncuint64_uint64.b1, lt1, Vector.length_toList, dec_t (show (i : Int) < ((16 : Nat) : Int) by omega), if_true, hx, mv1_eq, Option.bind_some, w64_succ (show i < 9223372036854775807 by omega)]
      by_cases hb : 4611686018427387904 < v[i].toNat
      · right
        simp only [hb, decide_true, if_true]
        exact ⟨_, rfl, .inl ⟨_, rfl, by omega, fun h => by have := h i hi; omega⟩⟩
      · left
        simp only [hb, decide_false, Bool.false_eq_true, if_false]
        refine ⟨_, rfl, ⟨by omega, by omega, fun j hj hlt => ?_⟩, by omega⟩
        by_cases hji : j = i
        · subst hji; omega
        · exact h2 j hj (by omega)
    · right
      simp only [slices_IndexFuncuint64_uint64.b1, lt1, Vector.length_toList, dec_f (show ¬ s < ((16 : Nat) : Int) by omega), Bool.false_eq_true, if_false]
      exact ⟨_, rfl, .inr ⟨rfl, fun i hi => h2 i hi (by omega)⟩⟩
  obtain ⟨t, h1, h2⟩ := hlp
  simp only [event_mayVector, hs, slices_ContainsFuncuint64_uint64, slices_IndexFuncuint64_uint64, lt1, Option.bind_some, h1]
  rcases h2 with ⟨i, rfl, h3, h4⟩ | ⟨rfl, h4⟩
  · refine ⟨_, rfl, ?_⟩
    simp [h4]; omega
  · refine ⟨_, rfl, ?_⟩
    simp [h4]
theorem mayVectorD (k : Nat) (hk : 17 ≤ k) (v : Vc) : event_mayVector k v = some (decide (small v)) := by
  obtain ⟨b, h1, h2⟩ := mayVector_eq k hk v
  rw [h1]
  cases b
  · rw [decide_eq_false (fun h => by simpa using h2.2 h)]
  · rw [decide_eq_true (h2.1 rfl)]
theorem past_eq (k : Nat) (hk : 17 ≤ k) (v : Vc) : (Option.bind (subL (Vector.toList v) (0 : Int) (16 : Int)) fun v_25 => Option.bind (slices_ContainsFuncuint64_uint64'2 k v_25) fun v_26 => lt1 ((!v_26)) fun v_27 => some v_27) = some (decide (small v)) := by
  rw [← mayVectorD k hk v]; rfl
def core (e : api_Event) : Prop := mayDot e.ID ∧ small e.Past ∧ at_ e.Past e.ID.Region = e.ID.Count.toNat - 1 ∧ mayName e.Topic ∧ e.Payload.length ≤ 512 ∧ e.To.length ≤ 1024
theorem pred_toNat {c : UInt64} (h : 1 ≤ c.toNat) : (c - 1).toNat = c.toNat - 1 := by
  rw [UInt64.toNat_sub_of_le _ _ (by rw [UInt64.le_iff_toNat_le]; exact h)]; rfl
theorem eq_toNat {a b : UInt64} : (a == b) = decide (a.toNat = b.toNat) := by
  rw [Bool.eq_iff_iff, beq_iff_eq, decide_eq_true_eq, UInt64.toNat_inj]
theorem refMayVector_eq (k : Nat) (hk : 17 ≤ k) (v : Vc) : ref09_MayVector k v = some (decide (small v)) := by
  have hlp : ∃ t, loopO (fun s => ref09_MayVector.b1 k v s) k (0 : Int) = some t ∧ ((t = .inr false ∧ ¬ small v) ∨ (t = .inl () ∧ small v)) := by
    refine loop_inv (I := fun s => 0 ≤ s ∧ s ≤ 16 ∧ ∀ (i : Nat) (h : i < 16), (i : Int) < s → v[i].toNat ≤ 4611686018427387904) (m := fun s => (16 - s).toNat) _ ?_ k 0 ⟨by omega, by omega, fun i _ h => by omega⟩ (by show (16 - (0 : Int)).toNat < k; omega)
    intro s ⟨h0, h1, h2⟩
    by_cases hlt : s < 16
    · obtain ⟨i, rfl⟩ : ∃ i : Nat, s = i := ⟨s.toNat, by omega⟩
      have hi : i < 16 := by omega
      have h3 : inV 16 (i : Int) = some ⟨i, hi⟩ := inV_ok (by omega) (by simpa using hi)
      simp only [ref09_MayVector.b1, lt1, dec_t (show (i : Int) < 16 by omega), if_true, h3, Option.bind_some, w64_succ (show i < 9223372036854775807 by omega)]
      by_cases hb : 4611686018427387904 < v[i].toNat
      · right
        have : decide ((4611686018427387904 : UInt64) < getV v ⟨i, hi⟩) = true := decide_eq_true (by rw [UInt64.lt_iff_toNat_lt]; exact hb)
        simp only [this, if_true]
        exact ⟨_, rfl, .inl ⟨rfl, fun h => by have := h i hi; omega⟩⟩
      · left
        have : decide ((4611686018427387904 : UInt64) < getV v ⟨i, hi⟩) = false := decide_eq_false (by rw [UInt64.lt_iff_toNat_lt]; exact hb)
        simp only [this, Bool.false_eq_true, if_false]
        refine ⟨_, rfl, ⟨by omega, by omega, fun j hj hlt => ?_⟩, by omega⟩
        by_cases hji : j = i
        · subst hji; omega
        · exact h2 j hj (by omega)
    · right
      simp only [ref09_MayVector.b1, lt1, dec_f (show ¬ s < (16 : Int) by omega), Bool.false_eq_true, if_false]
      exact ⟨_, rfl, .inr ⟨rfl, fun i hi => h2 i hi (by omega)⟩⟩
  obtain ⟨t, h1, h2⟩ := hlp
  simp only [ref09_MayVector, h1, Option.bind_some]
  rcases h2 with ⟨rfl, h4⟩ | ⟨rfl, h4⟩ <;> simp [h4]
theorem succ_eq (v c : UInt64) (h : 1 ≤ c.toNat) : (v + 1 == c) = decide (v.toNat = c.toNat - 1) := by
  rw [Bool.eq_iff_iff, beq_iff_eq, decide_eq_true_eq, ← UInt64.toNat_inj, UInt64.toNat_add]
  have h1 := v.toNat_lt
  have h2 := c.toNat_lt
  have h3 : (1 : UInt64).toNat = 1 := rfl
  rw [h3]
  omega
/-- A loop that leaves at the first place where something is not so. -/
theorem loop_allB {β : Type} {body : Int → Option (Int ⊕ (Unit ⊕ β))} (n : Nat) (P : Nat → Prop) [DecidablePred P] {b : β} (hs : ∀ i, i < n → body (i : Int) = some (if P i then .inl ((i + 1 : Nat) : Int) else .inr (.inr b))) (he : body (n : Int) = some (.inr (.inl ()))) {k : Nat} (hk : n < k) :
    loopO body k (0 : Int) = some (if ∀ i, i < n → P i then .inl () else .inr b) := by
  have h := loop_inv (body := body) (I := fun s => 0 ≤ s ∧ s ≤ n ∧ ∀ i : Nat, (i : Int) < s → P i) (m := fun s => ((n : Int) - s).toNat) (fun t => t = if ∀ i, i < n → P i then .inl () else .inr b) ?_ k (0 : Int) ⟨Int.le_refl _, by omega, fun i h => by omega⟩ (by omega)
  · obtain ⟨t, h1, rfl⟩ := h
    exact h1
  · rintro s ⟨h0, h1, h2⟩
    obtain ⟨i, rfl⟩ : ∃ i : Nat, s = i := ⟨s.toNat, by omega⟩
    by_cases hlt : i < n
    · rw [hs i hlt]
      by_cases hP : P i
      · left
        refine ⟨_, by rw [if_pos hP], ⟨by omega, by omega, fun j hj => ?_⟩, by omega⟩
        by_cases hji : j = i
        · subst hji; exact hP
        · exact h2 j (by omega)
      · right
        exact ⟨_, by rw [if_neg hP], by rw [if_neg (fun h => hP (h i hlt))]⟩
    · have : i = n := by omega
      subst this
      right
      exact ⟨_, he, by rw [if_pos (fun j hj => h2 j (by omega))]⟩
def dg (l : List api_Dot) (i : Nat) : api_Dot := l[i]?.getD ⟨0, 0⟩
theorem idxD {l : List api_Dot} {i : Nat} (h : i < l.length) : idxL l (i : Int) = some (dg l i) := by
  rw [idxL_lt h, dg, List.getElem?_eq_getElem h]; rfl
theorem ctxLess_eq (k : Nat) (hk : 3 ≤ k) (a b : api_Dot) : ctx_Less k a b = some (decide (less a b)) := by
  rw [← less_eq k hk a b]
  simp only [ctx_Less, ctx_order, event_Less, cmpI_eq, cmpU_eq, or2_eq k hk, lt1, Option.bind_some]
theorem refLess_eq (k : Nat) (a b : api_Dot) : ref09_Less k a b = some (decide (less a b)) := by
  simp only [ref09_Less, lt1, Option.bind_some, less, UInt64.lt_iff_toNat_lt]
  by_cases h1 : a.Region < b.Region <;> by_cases h2 : a.Region = b.Region <;> simp [h1, h2]
theorem w64_back (i : Nat) (h : i < 9223372036854775807) : w64 (((i + 1 : Nat) : Int) - 1) = (i : Int) := by rw [w64_id (by omega) (by omega)]; omega
/-- A list of dots: each one may be, and is more than the one ahead. -/
def riseP (l : List api_Dot) (i : Nat) : Prop := mayDot (dg l i) ∧ (i = 0 ∨ less (dg l (i - 1)) (dg l i))
instance (l : List api_Dot) : DecidablePred (riseP l) := fun i => inferInstanceAs (Decidable (_ ∧ _))
def exP (v : Vc) (l : List api_Dot) (i : Nat) : Prop := riseP l i ∧ at_ v (dg l i).Region + 1 < (dg l i).Count.toNat
instance (v : Vc) (l : List api_Dot) : DecidablePred (exP v l) := fun i => inferInstanceAs (Decidable (_ ∧ _))
theorem at_small {v : Vc} (hv : small v) {r : Int} : at_ v r ≤ 4611686018427387904 := by
  unfold at_
  by_cases h : (r - 1).toNat < 16
  · rw [Vector.getElem?_eq_getElem h]; exact hv _ h
  · rw [Vector.getElem?_eq_none (by omega)]; decide
theorem under_eq {v : Vc} (hv : small v) {d : api_Dot} (h : (d.Region - 1).toNat < 16) : decide (d.Count ≤ getV v ⟨(d.Region - 1).toNat, h⟩ + 1) = !decide (at_ v d.Region + 1 < d.Count.toNat) := by
  have h1 := at_small hv (r := d.Region)
  have h2 : (getV v ⟨(d.Region - 1).toNat, h⟩).toNat = at_ v d.Region := by rw [at_lt h]; rfl
  have h3 : (getV v ⟨(d.Region - 1).toNat, h⟩ + 1).toNat = at_ v d.Region + 1 := by
    rw [UInt64.toNat_add, h2, show (1 : UInt64).toNat = 1 from rfl]; omega
  rw [← decide_not, decide_eq_decide, UInt64.le_iff_toNat_le, h3]
  omega
theorem ofB2 (k : Nat) (hk : 3 ≤ k) {v : Vc} (hv : small v) (l : List api_Dot) (i : Nat) (hi : i < l.length) (hl : l.length ≤ 1000000) : ctx_Of.b2 k l v (i : Int) = some (if exP v l i then .inl ((i + 1 : Nat) : Int) else .inr (.inr (.inr 2))) := by
  simp only [ctx_Of.b2, lt1, dec_t (show (i : Int) < (l.length : Int) by omega), if_true, idxD hi, Option.bind_some, ctxMay_eq, w64_succ (show i < 9223372036854775807 by omega)]
  by_cases hd : mayDot (dg l i)
  case neg => simp [hd, exP, riseP]
  have g1 := hd.1
  have g2 := hd.2.1
  have h16 : ((dg l i).Region - 1).toNat < 16 := by omega
  simp only [decide_eq_true hd, Bool.not_true, Bool.not_false, w64_pred g1 g2, inV_ok (show 0 ≤ (dg l i).Region - 1 by omega) h16, Option.bind_some, under_eq hv h16, exP, riseP, hd, true_and]
  by_cases h0 : i = 0
  · subst h0
    by_cases hc : at_ v (dg l 0).Region + 1 < (dg l 0).Count.toNat <;> simp [hc]
  · obtain ⟨j, rfl⟩ : ∃ j, i = j + 1 := ⟨i - 1, by omega⟩
    have e : decide (((j + 1 : Nat) : Int) > 0) = true := decide_eq_true (by omega)
    simp only [e, w64_back j (by omega), idxD (show j < l.length by omega), ctxLess_eq k hk, Bool.and_true, Option.bind_some, if_true, cond_true, cond_false, Nat.add_sub_cancel, h0, false_or]
    by_cases hL : less (dg l j) (dg l (j + 1)) <;> by_cases hc : at_ v (dg l (j + 1)).Region + 1 < (dg l (j + 1)).Count.toNat <;> simp [hL, hc]
theorem seenB1 (k : Nat) {v : Vc} (hv : small v) (l : List api_Dot) (i : Nat) (hi : i < l.length) (hl : l.length ≤ 1000000) : ref11_Seen.b1 k l v (i : Int) = some (if exP v l i then .inl ((i + 1 : Nat) : Int) else .inr (.inr false)) := by
  simp only [ref11_Seen.b1, lt1, dec_t (show (i : Int) < (l.length : Int) by omega), if_true, idxD hi, Option.bind_some, refMayDot_eq, w64_succ (show i < 9223372036854775807 by omega)]
  by_cases hd : mayDot (dg l i)
  case neg => simp [hd, exP, riseP]
  have g1 := hd.1
  have g2 := hd.2.1
  have h16 : ((dg l i).Region - 1).toNat < 16 := by omega
  simp only [decide_eq_true hd, Bool.not_true, Bool.not_false, w64_pred g1 g2, inV_ok (show 0 ≤ (dg l i).Region - 1 by omega) h16, Option.bind_some, under_eq hv h16, exP, riseP, hd, true_and]
  by_cases h0 : i = 0
  · subst h0
    by_cases hc : at_ v (dg l 0).Region + 1 < (dg l 0).Count.toNat <;> simp [hc]
  · obtain ⟨j, rfl⟩ : ∃ j, i = j + 1 := ⟨i - 1, by omega⟩
    have e : decide (((j + 1 : Nat) : Int) > 0) = true := decide_eq_true (by omega)
    simp only [e, w64_back j (by omega), idxD (show j < l.length by omega), refLess_eq, Bool.and_true, Option.bind_some, if_true, cond_true, cond_false, Nat.add_sub_cancel, h0, false_or]
    by_cases hL : less (dg l j) (dg l (j + 1)) <;> by_cases hc : at_ v (dg l (j + 1)).Region + 1 < (dg l (j + 1)).Count.toNat <;> simp [hL, hc]
theorem ofB1 (k : Nat) (v : Vc) (i : Nat) (hi : i < 16) : ctx_Of.b1 k v (i : Int) = some (if v[i].toNat ≤ 4611686018427387904 then .inl ((i + 1 : Nat) : Int) else .inr (.inr (.inr 2))) := by
  have h3 : idxV v (i : Int) = some v[i] := by simp [idxV, hi]
  simp only [ctx_Of.b1, lt1, dec_t (show (i : Int) < 16 by omega), if_true, h3, Option.bind_some, w64_succ (show i < 9223372036854775807 by omega)]
  by_cases hb : v[i].toNat ≤ 4611686018427387904
  · have : decide ((4611686018427387904 : UInt64) < v[i]) = false := decide_eq_false (by rw [UInt64.lt_iff_toNat_lt]; show ¬ 4611686018427387904 < _; omega)
    simp [this, hb]
  · have : decide ((4611686018427387904 : UInt64) < v[i]) = true := decide_eq_true (by rw [UInt64.lt_iff_toNat_lt]; show 4611686018427387904 < _; omega)
    simp [this, hb]
/-- What a context may be. -/
def seenP (v : Vc) (l : List api_Dot) : Prop := small v ∧ l.length ≤ 4096 ∧ ∀ i, i < l.length → exP v l i
instance (v : Vc) (l : List api_Dot) : Decidable (seenP v l) := inferInstanceAs (Decidable (_ ∧ _ ∧ _))
theorem frameSeen_eq (k : Nat) (hk : 6000 ≤ k) (f : api_Frame) (hl : f.Extra.length ≤ 5000) : frame_seen k f = some (decide (seenP f.Seen f.Extra)) := by
  have h1 := loop_allB (body := fun s => ctx_Of.b1 k f.Seen s) (k := k) 16 (fun i => f.Seen.toList[i]?.all fun x => decide (x.toNat ≤ 4611686018427387904)) (b := (.inr 2 : List api_Dot ⊕ Int)) (fun i hi => by
    rw [ofB1 k f.Seen i hi]
    have : f.Seen.toList[i]? = some f.Seen[i] := by simp [hi]
    rw [this]
    simp) (by simp only [ctx_Of.b1, lt1, dec_f (show ¬ ((16 : Nat) : Int) < 16 by omega), Bool.false_eq_true, if_false]) (by omega)
  have hs : (∀ i, i < 16 → (f.Seen.toList[i]?.all fun x => decide (x.toNat ≤ 4611686018427387904)) = true) ↔ small f.Seen := by
    constructor
    · intro h i hi
      have := h i hi
      have e : f.Seen.toList[i]? = some f.Seen[i] := by simp [hi]
      rw [e] at this
      simpa using this
    · intro h i hi
      have e : f.Seen.toList[i]? = some f.Seen[i] := by simp [hi]
      rw [e]
      simpa using h i hi
  simp only [frame_seen, ctx_Of, h1, lt1]
  by_cases hv : small f.Seen
  case neg =>
    rw [if_neg (fun h => hv (hs.1 h))]
    simp [seenP, hv]
  rw [if_pos (hs.2 hv)]
  have h2 := loop_allB (body := fun s => ctx_Of.b2 k f.Extra f.Seen s) (k := k) f.Extra.length (exP f.Seen f.Extra) (b := (.inr 2 : List api_Dot ⊕ Int)) (fun i hi => ofB2 k (by omega) hv f.Extra i hi (by omega)) (by simp only [ctx_Of.b2, lt1, dec_f (show ¬ (f.Extra.length : Int) < (f.Extra.length : Int) by omega), Bool.false_eq_true, if_false]) (by omega)
  simp only [Option.bind_some, h2]
  by_cases hx : ∀ i, i < f.Extra.length → exP f.Seen f.Extra i
  case neg =>
    rw [if_neg hx]
    simp [seenP, hx]
  rw [if_pos hx]
  have ha : apL 16 ([] : List api_Dot) f.Extra = some f.Extra := by rw [apL_ok (by simp; omega)]; rfl
  by_cases h4 : f.Extra.length ≤ 4096
  · simp only [Option.bind_some, dec_f (show ¬ (f.Extra.length : Int) > 4096 by omega), Bool.false_eq_true, if_false, slices_Cloneapi_Dot_api_Dot, ha]
    rw [decide_eq_true (show seenP f.Seen f.Extra from ⟨hv, h4, hx⟩)]
  · simp only [Option.bind_some, dec_t (show (f.Extra.length : Int) > 4096 by omega), if_true]
    rw [decide_eq_false (show ¬ seenP f.Seen f.Extra from fun h => h4 h.2.1)]
    rfl
theorem refSeen_eq (k : Nat) (hk : 6000 ≤ k) (v : Vc) (l : List api_Dot) (hl : l.length ≤ 5000) : ref11_Seen k v l = some (decide (seenP v l)) := by
  simp only [ref11_Seen, refMayVector_eq k (by omega), lt1, Option.bind_some]
  by_cases hv : small v
  case neg => simp [hv, seenP]
  by_cases h4 : l.length ≤ 4096
  case neg =>
    rw [dec_t (show (l.length : Int) > 4096 by omega)]
    simp [seenP, h4]
  have h2 := loop_allB (body := fun s => ref11_Seen.b1 k l v s) (k := k) l.length (exP v l) (b := false) (fun i hi => seenB1 k hv l i hi (by omega)) (by simp only [ref11_Seen.b1, lt1, dec_f (show ¬ (l.length : Int) < (l.length : Int) by omega), Bool.false_eq_true, if_false]) (by omega)
  rw [dec_f (show ¬ (l.length : Int) > 4096 by omega), decide_eq_true hv]
  simp only [Bool.not_true, cond_false, Bool.false_eq_true, if_false, h2, Option.bind_some]
  by_cases hx : ∀ i, i < l.length → exP v l i
  · rw [if_pos hx, decide_eq_true (show seenP v l from ⟨hv, h4, hx⟩)]; rfl
  · rw [if_neg hx, decide_eq_false (show ¬ seenP v l from fun h => hx h.2.2)]; rfl
theorem loop_allT {body : Bool × Int → Option (Bool × Int ⊕ Bool)} (n : Nat) (P : Nat → Prop) [DecidablePred P] (hs : ∀ i, i < n → body (true, (i : Int)) = some (if P i then .inl (true, ((i + 1 : Nat) : Int)) else .inr false)) (he : body (true, (n : Int)) = some (.inr true)) {k : Nat} (hk : n < k) :
    loopO body k (true, (0 : Int)) = some (decide (∀ i, i < n → P i)) := by
  have h := loop_inv (body := body) (I := fun s => s.1 = true ∧ 0 ≤ s.2 ∧ s.2 ≤ n ∧ ∀ i : Nat, (i : Int) < s.2 → P i) (m := fun s => ((n : Int) - s.2).toNat) (fun t => t = decide (∀ i, i < n → P i)) ?_ k (true, (0 : Int)) ⟨rfl, Int.le_refl _, by show (0 : Int) ≤ _; omega, fun i h => by have h : (i : Int) < 0 := h; omega⟩ (by show ((n : Int) - 0).toNat < k; omega)
  · obtain ⟨t, h1, rfl⟩ := h
    exact h1
  · rintro ⟨x, s⟩ ⟨hx, h0, h1, h2⟩
    simp only at hx h0 h1 h2
    subst hx
    obtain ⟨i, rfl⟩ : ∃ i : Nat, s = i := ⟨s.toNat, by omega⟩
    by_cases hlt : i < n
    · rw [hs i hlt]
      by_cases hP : P i
      · left
        refine ⟨_, by rw [if_pos hP], ⟨rfl, by show (0 : Int) ≤ ((i + 1 : Nat) : Int); omega, by show ((i + 1 : Nat) : Int) ≤ _; omega, fun j hj => ?_⟩, by show ((n : Int) - ((i + 1 : Nat) : Int)).toNat < _; omega⟩
        have hj : (j : Int) < ((i + 1 : Nat) : Int) := hj
        by_cases hji : j = i
        · subst hji; exact hP
        · exact h2 j (by omega)
      · right
        exact ⟨_, by rw [if_neg hP], (decide_eq_false (fun h => hP (h i hlt))).symm⟩
    · have : i = n := by omega
      subst this
      right
      exact ⟨_, he, (decide_eq_true (fun j hj => h2 j (by omega))).symm⟩
theorem evMayDot_eq (k : Nat) (d : api_Dot) : event_MayDot k d = some (decide (mayDot d)) := by rw [← ctxMay_eq k d]; rfl
def tg (l : List api_Dest) (i : Nat) : api_Dest := l[i]?.getD ⟨⟨0, 0⟩, []⟩
theorem idxT {l : List api_Dest} {i : Nat} (h : i < l.length) : idxL l (i : Int) = some (tg l i) := by
  rw [idxL_lt h, tg, List.getElem?_eq_getElem h]; rfl
def toP (l : List api_Dest) (i : Nat) : Prop := mayDot (tg l i).Dot ∧ mayName (tg l i).Device ∧ (i = 0 ∨ less (tg l (i - 1)).Dot (tg l i).Dot)
instance (l : List api_Dest) : DecidablePred (toP l) := fun i => inferInstanceAs (Decidable (_ ∧ _ ∧ _))
def may (e : api_Event) : Prop := core e ∧ ∀ i, i < e.To.length → toP e.To i
instance (e : api_Event) : Decidable (may e) := by unfold may core; exact inferInstance
theorem mayB1 (k : Nat) (hk : 3 ≤ k) (e : api_Event) (i : Nat) (hi : i < e.To.length) (hl : e.To.length ≤ 1000000) : event_May.b1 k e true (i : Int) = some (if toP e.To i then .inl (true, ((i + 1 : Nat) : Int)) else .inr false) := by
  simp only [event_May.b1, lt1, dec_t (show (i : Int) < (e.To.length : Int) by omega), if_true, idxT hi, Option.bind_some, evMayDot_eq, w64_succ (show i < 9223372036854775807 by omega)]
  by_cases hd : mayDot (tg e.To i).Dot
  case neg => simp [hd, toP]
  simp only [decide_eq_true hd, if_true, mayName_eq, Option.bind_some, cond_true]
  by_cases hn : mayName (tg e.To i).Device
  case neg => simp [hn, toP]
  by_cases h0 : i = 0
  · subst h0
    simp [hd, hn, toP]
  · obtain ⟨j, rfl⟩ : ∃ j, i = j + 1 := ⟨i - 1, by omega⟩
    have e0 : ((((j + 1 : Nat) : Int)) == 0) = false := by simp; omega
    simp only [decide_eq_true hn, e0, w64_back j (by omega), Bool.not_false, Bool.and_true, if_true, idxT (show j < e.To.length by omega), less_eq k hk, Option.bind_some, cond_true, cond_false]
    by_cases hL : less (tg e.To j).Dot (tg e.To (j + 1)).Dot <;> simp [hL, hd, hn, toP]
theorem eventMay_eq (k : Nat) (hk : 6000 ≤ k) (e : api_Event) (hl : e.To.length ≤ 3000) : event_May k e = some (decide (may e)) := by
  have hlp := loop_allT (body := fun s => event_May.b1 k e s.1 s.2) (k := k) e.To.length (toP e.To) (fun i hi => mayB1 k (by omega) e i hi (by omega)) (by simp only [event_May.b1, lt1, dec_f (show ¬ (e.To.length : Int) < (e.To.length : Int) by omega), Bool.false_eq_true, if_false]) (by omega)
  simp only [event_May, evMayDot_eq, lt1, Option.bind_some, may, core]
  by_cases h1 : mayDot e.ID
  case neg => simp [h1]
  have h1a := h1.1
  have h1b := h1.2.1
  have h1c := h1.2.2.1
  have h16 : (e.ID.Region - 1).toNat < 16 := by omega
  simp only [decide_eq_true h1, Bool.not_true, Bool.not_false, if_true, mayVectorD k (by omega), Option.bind_some, cond_false]
  by_cases h2 : small e.Past
  case neg => simp [h2]
  simp only [decide_eq_true h2, Bool.not_true, Bool.false_eq_true, if_false, w64_pred h1a h1b, inV_ok (show 0 ≤ e.ID.Region - 1 by omega) h16, Option.bind_some, getV, eq_toNat, pred_toNat h1c, ← at_lt h16]
  by_cases h3 : at_ e.Past e.ID.Region = e.ID.Count.toNat - 1
  case neg => simp [h3]
  simp only [decide_eq_true h3, Bool.not_true, Bool.false_eq_true, if_false, mayName_eq, Option.bind_some]
  by_cases h4 : mayName e.Topic
  case neg => simp [h4]
  by_cases h5 : e.Payload.length ≤ 512
  case neg => rw [dec_t (show (e.Payload.length : Int) > 512 by omega)]; simp [h5]
  by_cases h6 : e.To.length ≤ 1024
  case neg => rw [dec_t (show (e.To.length : Int) > 1024 by omega)]; simp [h6]
  rw [dec_f (show ¬ (e.Payload.length : Int) > 512 by omega), dec_f (show ¬ (e.To.length : Int) > 1024 by omega)]
  simp only [decide_eq_true h4, Bool.not_true, cond_false, Bool.false_eq_true, if_false, hlp, Option.bind_some]
  simp [h1, h2, h3, h4, h5, h6]
theorem refMayB1 (k : Nat) (e : api_Event) (i : Nat) (hi : i < e.To.length) (hl : e.To.length ≤ 1000000) : ref09_May.b1 k e (i : Int) = some (if toP e.To i then .inl ((i + 1 : Nat) : Int) else .inr (.inr false)) := by
  simp only [ref09_May.b1, lt1, dec_t (show (i : Int) < (e.To.length : Int) by omega), if_true, idxT hi, Option.bind_some, refMayDot_eq, w64_succ (show i < 9223372036854775807 by omega)]
  by_cases hd : mayDot (tg e.To i).Dot
  case neg => simp [hd, toP]
  simp only [decide_eq_true hd, Bool.not_true, Bool.not_false, if_true, refMayName_eq, Option.bind_some, cond_false]
  by_cases hn : mayName (tg e.To i).Device
  case neg => simp [hn, toP]
  by_cases h0 : i = 0
  · subst h0
    simp [hd, hn, toP]
  · obtain ⟨j, rfl⟩ : ∃ j, i = j + 1 := ⟨i - 1, by omega⟩
    have e0 : decide (((j + 1 : Nat) : Int) > 0) = true := decide_eq_true (by omega)
    simp only [decide_eq_true hn, e0, w64_back j (by omega), Bool.not_true, Bool.not_false, Bool.and_true, if_true, idxT (show j < e.To.length by omega), refLess_eq, Option.bind_some, cond_true, cond_false]
    by_cases hL : less (tg e.To j).Dot (tg e.To (j + 1)).Dot <;> simp [hL, hd, hn, toP]
theorem refEventMay_eq (k : Nat) (hk : 6000 ≤ k) (e : api_Event) (hl : e.To.length ≤ 3000) : ref09_May k e = some (decide (may e)) := by
  have hlp := loop_allB (body := fun s => ref09_May.b1 k e s) (k := k) e.To.length (toP e.To) (b := false) (fun i hi => refMayB1 k e i hi (by omega)) (by simp only [ref09_May.b1, lt1, dec_f (show ¬ (e.To.length : Int) < (e.To.length : Int) by omega), Bool.false_eq_true, if_false]) (by omega)
  simp only [ref09_May, refMayDot_eq, lt1, Option.bind_some, may, core]
  by_cases h1 : mayDot e.ID
  case neg => simp [h1]
  have h1a := h1.1
  have h1b := h1.2.1
  have h1c := h1.2.2.1
  have h16 : (e.ID.Region - 1).toNat < 16 := by omega
  simp only [decide_eq_true h1, Bool.not_true, Bool.not_false, if_true, refMayVector_eq k (by omega), Option.bind_some, cond_false]
  by_cases h2 : small e.Past
  case neg => simp [h2]
  simp only [decide_eq_true h2, Bool.not_true, Bool.false_eq_true, if_false, w64_pred h1a h1b, inV_ok (show 0 ≤ e.ID.Region - 1 by omega) h16, Option.bind_some, getV, succ_eq _ _ h1c, ← at_lt h16]
  by_cases h3 : at_ e.Past e.ID.Region = e.ID.Count.toNat - 1
  case neg => simp [h3]
  simp only [decide_eq_true h3, Bool.not_true, Bool.not_false, if_true, refMayName_eq, Option.bind_some, cond_false]
  by_cases h4 : mayName e.Topic
  case neg => simp [h4]
  by_cases h5 : e.Payload.length ≤ 512
  case neg => rw [dec_t (show (e.Payload.length : Int) > 512 by omega)]; simp [h5]
  by_cases h6 : e.To.length ≤ 1024
  case neg => rw [dec_t (show (e.To.length : Int) > 1024 by omega)]; simp [h6]
  rw [dec_f (show ¬ (e.Payload.length : Int) > 512 by omega), dec_f (show ¬ (e.To.length : Int) > 1024 by omega)]
  simp only [decide_eq_true h4, Bool.not_true, cond_false, Bool.false_eq_true, if_false, hlp, Option.bind_some]
  by_cases hx : ∀ i, i < e.To.length → toP e.To i
  · rw [if_pos hx]; simp [h1, h2, h3, h4, h5, h6]; exact hx
  · rw [if_neg hx]; simp [h1, h2, h3, h4, h5, h6, hx]
theorem long_eq (k : Nat) (hk : 6000 ≤ k) (l : List api_Item) : ∃ b, ref11_Long k l = some b ∧ (b = false → l.length ≤ 5000) := by
  have hlp := loop_inv (body := fun s : Int × Int => ref11_Long.b1 k l s.1 s.2) (I := fun s => 0 ≤ s.2 ∧ s.2 ≤ (l.length : Int) ∧ s.2 ≤ 5001 ∧ 0 ≤ s.1 ∧ s.1 ≤ 200000) (m := fun s => (5002 - s.2).toNat) (fun r => r = .inl () ∨ r = .inr true) ?_ k ((0 : Int), (0 : Int)) ⟨Int.le_refl _, by show (0 : Int) ≤ _; omega, by show (0 : Int) ≤ 5001; omega, Int.le_refl _, by show (0 : Int) ≤ 200000; omega⟩ (by show (5002 - (0 : Int)).toNat < k; omega)
  · obtain ⟨r, h1, h2⟩ := hlp
    rcases h2 with rfl | rfl
    · refine ⟨decide ((l.length : Int) > 5000), by simp only [ref11_Long, h1, Option.bind_some, lt1], fun h => ?_⟩
      have := of_decide_eq_false h
      omega
    · exact ⟨true, by simp only [ref11_Long, h1, Option.bind_some], fun h => by cases h⟩
  · rintro ⟨n, s⟩ ⟨h0, h1, h2, h3, h4⟩
    simp only at h0 h1 h2 h3 h4
    obtain ⟨i, rfl⟩ : ∃ i : Nat, s = i := ⟨s.toNat, by omega⟩
    by_cases hlt : i < l.length
    · by_cases h5 : i ≤ 5000
      · have e1 : ∀ x : Nat, minI (x : Int) 200001 = ((min x 200001 : Nat) : Int) := fun x => by unfold minI; split <;> omega
        simp only [ref11_Long.b1, lt1, dec_t (show (i : Int) < (l.length : Int) by omega), dec_t (show (i : Int) ≤ 5000 by omega), cond_true, Option.bind_some, if_true, idxL_lt hlt, e1]
        have w1 : w64 (n + ((min l[i].Key.Topic.length 200001 : Nat) : Int)) = n + ((min l[i].Key.Topic.length 200001 : Nat) : Int) := w64_id (by omega) (by omega)
        rw [w1]
        have w2 : w64 (n + ((min l[i].Key.Topic.length 200001 : Nat) : Int) + ((min l[i].Key.Device.length 200001 : Nat) : Int)) = n + ((min l[i].Key.Topic.length 200001 : Nat) : Int) + ((min l[i].Key.Device.length 200001 : Nat) : Int) := w64_id (by omega) (by omega)
        rw [w2]
        by_cases h6 : n + ((min l[i].Key.Topic.length 200001 : Nat) : Int) + ((min l[i].Key.Device.length 200001 : Nat) : Int) > 200000
        · right
          rw [dec_t h6]
          exact ⟨_, rfl, .inr rfl⟩
        · left
          rw [dec_f h6]
          simp only [Bool.false_eq_true, if_false, w64_succ (show i < 9223372036854775807 by omega)]
          exact ⟨_, rfl, ⟨by show (0 : Int) ≤ ((i + 1 : Nat) : Int); omega, by show ((i + 1 : Nat) : Int) ≤ _; omega, by show ((i + 1 : Nat) : Int) ≤ 5001; omega, by show (0 : Int) ≤ n + _ + _; omega, by show n + _ + _ ≤ (200000 : Int); omega⟩, by show (5002 - ((i + 1 : Nat) : Int)).toNat < (5002 - (i : Int)).toNat; omega⟩
      · right
        simp only [ref11_Long.b1, lt1, dec_t (show (i : Int) < (l.length : Int) by omega), dec_f (show ¬ (i : Int) ≤ 5000 by omega), cond_true, Option.bind_some, Bool.false_eq_true, if_false]
        exact ⟨_, rfl, .inl rfl⟩
    · right
      simp only [ref11_Long.b1, lt1, dec_f (show ¬ (i : Int) < (l.length : Int) by omega), cond_false, Option.bind_some, Bool.false_eq_true, if_false]
      exact ⟨_, rfl, .inl rfl⟩
theorem dEq {α : Type} [DecidableEq α] (f : α → α → Bool) (hf : ∀ x y, f x y = true ↔ x = y) (x y : α) : f x y = decide (x = y) := by
  rw [Bool.eq_iff_iff, hf, decide_eq_true_iff]
theorem dItem (x y : api_Item) : eq_api_Item x y = decide (x = y) := dEq _ (fun _ _ => eq_api_Item_iff) x y
theorem dDot (x y : api_Dot) : eq_api_Dot x y = decide (x = y) := dEq _ (fun _ _ => eq_api_Dot_iff) x y
theorem dDest (x y : api_Dest) : eq_api_Dest x y = decide (x = y) := dEq _ (fun _ _ => eq_api_Dest_iff) x y
theorem dVec {α : Type} [BEq α] [LawfulBEq α] [DecidableEq α] {n : Nat} (x y : Vector α n) : eqV (fun x y => x == y) x y = decide (x = y) := dEq _ (fun _ _ => eqV_iff fun _ _ => beq_iff_eq) x y
theorem dVec2 {α : Type} [DecidableEq α] {n : Nat} (x y : Vector α n) : eqV (fun x y => decide (x = y)) x y = decide (x = y) := dEq _ (fun _ _ => eqV_iff fun _ _ => decide_eq_true_iff) x y
theorem dBne {α : Type} [DecidableEq α] (x y : α) : (x != y) = !decide (x = y) := by simp only [bne, beq_dec]
theorem eq_loop {α : Type} [DecidableEq α] (a b : List α) {body : Int → Option (Int ⊕ (Unit ⊕ Bool))} (hl : a.length = b.length) (hs : ∀ i (h : i < a.length) (h2 : i < b.length), body (i : Int) = some (if a[i] = b[i] then .inl ((i + 1 : Nat) : Int) else .inr (.inr false))) (he : body (a.length : Int) = some (.inr (.inl ()))) {k : Nat} (hk : a.length < k) : loopO body k (0 : Int) = some (if a = b then .inl () else .inr false) := by
  rw [loop_all (b := false) a.length (fun i => a[i]? = b[i]?) ?_ he hk]
  · have : (∀ i, i < a.length → a[i]? = b[i]?) ↔ a = b := by
      constructor
      · intro h
        refine List.ext_getElem? fun i => ?_
        by_cases hi : i < a.length
        · exact h i hi
        · rw [List.getElem?_eq_none (by omega), List.getElem?_eq_none (by omega)]
      · rintro rfl i _; rfl
    by_cases h : a = b
    · rw [if_pos (this.2 h), if_pos h]
    · rw [if_neg (fun hh => h (this.1 hh)), if_neg h]
  · intro i hi
    rw [hs i hi (by omega)]
    have : (a[i]? = b[i]?) ↔ a[i] = b[i] := by rw [List.getElem?_eq_getElem hi, List.getElem?_eq_getElem (by omega)]; simp
    by_cases h : a[i] = b[i]'(by omega)
    · rw [if_pos h, if_pos (this.2 h)]
    · rw [if_neg h, if_neg (fun hh => h (this.1 hh))]
theorem ne_len {α β : Type} (a : List α) (b : List β) : ((a.length : Int) != (b.length : Int)) = !decide (a.length = b.length) := by
  rw [dBne]; by_cases h : a.length = b.length
  · simp [h]
  · have : ¬ (a.length : Int) = (b.length : Int) := by omega
    simp [h, this]
theorem sw {b : Prop} [Decidable b] {α : Type} (x y : α) : (if (!decide b) = true then x else y) = if b then y else x := by by_cases h : b <;> simp [h]
theorem eqItems (k : Nat) (a b : List (api_Item)) (hk : a.length < k) (hm : a.length ≤ 1000000) : slices_Equalapi_Item_api_Item k a b = some (decide (a = b)) := by
  simp only [slices_Equalapi_Item_api_Item, lt1, ne_len]
  by_cases hl : a.length = b.length
  · have h := eq_loop a b (body := fun s => slices_Equalapi_Item_api_Item.b1 k a b s) hl (fun i h1 h2 => by
      simp only [slices_Equalapi_Item_api_Item.b1, lt1, dec_t (show (i : Int) < (a.length : Int) by omega), if_true, idxL_lt h1, idxL_lt h2, Option.bind_some, dItem, dDot, dDest, dVec, dVec2, dBne, beq_dec, sw, w64_succ (show i < 9223372036854775807 by omega)]
      by_cases h : a[i] = b[i] <;> simp [h]) (by simp only [slices_Equalapi_Item_api_Item.b1, lt1, dec_f (show ¬ (a.length : Int) < (a.length : Int) by omega), Bool.false_eq_true, if_false]) hk
    simp only [decide_eq_true hl, Bool.not_true, Bool.false_eq_true, if_false, h, Option.bind_some]
    by_cases hab : a = b <;> simp [hab]
  · have : ¬ a = b := fun h => hl (by rw [h])
    simp [hl, this]
theorem eqDots (k : Nat) (a b : List (api_Dot)) (hk : a.length < k) (hm : a.length ≤ 1000000) : slices_Equalapi_Dot_api_Dot k a b = some (decide (a = b)) := by
  simp only [slices_Equalapi_Dot_api_Dot, lt1, ne_len]
  by_cases hl : a.length = b.length
  · have h := eq_loop a b (body := fun s => slices_Equalapi_Dot_api_Dot.b1 k a b s) hl (fun i h1 h2 => by
      simp only [slices_Equalapi_Dot_api_Dot.b1, lt1, dec_t (show (i : Int) < (a.length : Int) by omega), if_true, idxL_lt h1, idxL_lt h2, Option.bind_some, dItem, dDot, dDest, dVec, dVec2, dBne, beq_dec, sw, w64_succ (show i < 9223372036854775807 by omega)]
      by_cases h : a[i] = b[i] <;> simp [h]) (by simp only [slices_Equalapi_Dot_api_Dot.b1, lt1, dec_f (show ¬ (a.length : Int) < (a.length : Int) by omega), Bool.false_eq_true, if_false]) hk
    simp only [decide_eq_true hl, Bool.not_true, Bool.false_eq_true, if_false, h, Option.bind_some]
    by_cases hab : a = b <;> simp [hab]
  · have : ¬ a = b := fun h => hl (by rw [h])
    simp [hl, this]
theorem eqHashes (k : Nat) (a b : List (Vector UInt8 32)) (hk : a.length < k) (hm : a.length ≤ 1000000) : slices_Equalapi_Hash_api_Hash k a b = some (decide (a = b)) := by
  simp only [slices_Equalapi_Hash_api_Hash, lt1, ne_len]
  by_cases hl : a.length = b.length
  · have h := eq_loop a b (body := fun s => slices_Equalapi_Hash_api_Hash.b1 k a b s) hl (fun i h1 h2 => by
      simp only [slices_Equalapi_Hash_api_Hash.b1, lt1, dec_t (show (i : Int) < (a.length : Int) by omega), if_true, idxL_lt h1, idxL_lt h2, Option.bind_some, dItem, dDot, dDest, dVec, dVec2, dBne, beq_dec, sw, w64_succ (show i < 9223372036854775807 by omega)]
      by_cases h : a[i] = b[i] <;> simp [h]) (by simp only [slices_Equalapi_Hash_api_Hash.b1, lt1, dec_f (show ¬ (a.length : Int) < (a.length : Int) by omega), Bool.false_eq_true, if_false]) hk
    simp only [decide_eq_true hl, Bool.not_true, Bool.false_eq_true, if_false, h, Option.bind_some]
    by_cases hab : a = b <;> simp [hab]
  · have : ¬ a = b := fun h => hl (by rw [h])
    simp [hl, this]
theorem eqInts (k : Nat) (a b : List (Int)) (hk : a.length < k) (hm : a.length ≤ 1000000) : slices_Equalint_int k a b = some (decide (a = b)) := by
  simp only [slices_Equalint_int, lt1, ne_len]
  by_cases hl : a.length = b.length
  · have h := eq_loop a b (body := fun s => slices_Equalint_int.b1 k a b s) hl (fun i h1 h2 => by
      simp only [slices_Equalint_int.b1, lt1, dec_t (show (i : Int) < (a.length : Int) by omega), if_true, idxL_lt h1, idxL_lt h2, Option.bind_some, dItem, dDot, dDest, dVec, dVec2, dBne, beq_dec, sw, w64_succ (show i < 9223372036854775807 by omega)]
      by_cases h : a[i] = b[i] <;> simp [h]) (by simp only [slices_Equalint_int.b1, lt1, dec_f (show ¬ (a.length : Int) < (a.length : Int) by omega), Bool.false_eq_true, if_false]) hk
    simp only [decide_eq_true hl, Bool.not_true, Bool.false_eq_true, if_false, h, Option.bind_some]
    by_cases hab : a = b <;> simp [hab]
  · have : ¬ a = b := fun h => hl (by rw [h])
    simp [hl, this]
theorem eqBytes (k : Nat) (a b : List (UInt8)) (hk : a.length < k) (hm : a.length ≤ 1000000) : slices_Equalbyte_byte k a b = some (decide (a = b)) := by
  simp only [slices_Equalbyte_byte, lt1, ne_len]
  by_cases hl : a.length = b.length
  · have h := eq_loop a b (body := fun s => slices_Equalbyte_byte.b1 k a b s) hl (fun i h1 h2 => by
      simp only [slices_Equalbyte_byte.b1, lt1, dec_t (show (i : Int) < (a.length : Int) by omega), if_true, idxL_lt h1, idxL_lt h2, Option.bind_some, dItem, dDot, dDest, dVec, dVec2, dBne, beq_dec, sw, w64_succ (show i < 9223372036854775807 by omega)]
      by_cases h : a[i] = b[i] <;> simp [h]) (by simp only [slices_Equalbyte_byte.b1, lt1, dec_f (show ¬ (a.length : Int) < (a.length : Int) by omega), Bool.false_eq_true, if_false]) hk
    simp only [decide_eq_true hl, Bool.not_true, Bool.false_eq_true, if_false, h, Option.bind_some]
    by_cases hab : a = b <;> simp [hab]
  · have : ¬ a = b := fun h => hl (by rw [h])
    simp [hl, this]
theorem eqDests (k : Nat) (a b : List (api_Dest)) (hk : a.length < k) (hm : a.length ≤ 1000000) : slices_Equalapi_Dest_api_Dest k a b = some (decide (a = b)) := by
  simp only [slices_Equalapi_Dest_api_Dest, lt1, ne_len]
  by_cases hl : a.length = b.length
  · have h := eq_loop a b (body := fun s => slices_Equalapi_Dest_api_Dest.b1 k a b s) hl (fun i h1 h2 => by
      simp only [slices_Equalapi_Dest_api_Dest.b1, lt1, dec_t (show (i : Int) < (a.length : Int) by omega), if_true, idxL_lt h1, idxL_lt h2, Option.bind_some, dItem, dDot, dDest, dVec, dVec2, dBne, beq_dec, sw, w64_succ (show i < 9223372036854775807 by omega)]
      by_cases h : a[i] = b[i] <;> simp [h]) (by simp only [slices_Equalapi_Dest_api_Dest.b1, lt1, dec_f (show ¬ (a.length : Int) < (a.length : Int) by omega), Bool.false_eq_true, if_false]) hk
    simp only [decide_eq_true hl, Bool.not_true, Bool.false_eq_true, if_false, h, Option.bind_some]
    by_cases hab : a = b <;> simp [hab]
  · have : ¬ a = b := fun h => hl (by rw [h])
    simp [hl, this]
theorem eventSame_eq (k : Nat) (a b : api_Event) (h1 : a.Payload.length < k) (h2 : a.To.length < k) (h3 : a.Payload.length ≤ 1000000) (h4 : a.To.length ≤ 1000000) : event_Same k a b = some (decide (a = b)) := by
  simp only [event_Same, lt1, dDot, dVec, dVec2, beq_dec, eqBytes k _ _ h1 h3, eqDests k _ _ h2 h4, Option.bind_some]
  obtain ⟨a1, a2, a3, a4, a5⟩ := a
  obtain ⟨b1, b2, b3, b4, b5⟩ := b
  simp only [api_Event.mk.injEq]
  by_cases e1 : a1 = b1 <;> by_cases e2 : a2 = b2 <;> by_cases e3 : a3 = b3 <;> by_cases e4 : a4 = b4 <;> simp [e1, e2, e3, e4]
theorem refEventSame_eq (k : Nat) (a b : api_Event) (h2 : a.To.length < k) (h4 : a.To.length ≤ 1000000) : ref09_Same k a b = some (decide (a = b)) := by
  simp only [ref09_Same, lt1, dDot, dVec, dVec2, dBne, ne_len, Option.bind_some]
  obtain ⟨a1, a2, a3, a4, a5⟩ := a
  obtain ⟨b1, b2, b3, b4, b5⟩ := b
  simp only [api_Event.mk.injEq]
  by_cases e1 : a1 = b1 <;> by_cases e2 : a2 = b2 <;> by_cases e3 : a3 = b3 <;> by_cases e4 : a4 = b4 <;> try (simp [e1, e2, e3, e4]; done)
  by_cases hl : a5.length = b5.length
  · have h := eq_loop a5 b5 (body := fun s => ref09_Same.b1 k ⟨a1, a2, a3, a4, a5⟩ ⟨b1, b2, b3, b4, b5⟩ s) hl (fun i h1 h2 => by
      simp only [ref09_Same.b1, lt1, dec_t (show (i : Int) < (a5.length : Int) by omega), if_true, idxL_lt h1, idxL_lt h2, Option.bind_some, dDest, sw, w64_succ (show i < 9223372036854775807 by simp only at h4; omega)]
      by_cases h : a5[i] = b5[i] <;> simp [h]) (by simp only [ref09_Same.b1, lt1, dec_f (show ¬ (a5.length : Int) < (a5.length : Int) by omega), Bool.false_eq_true, if_false]) h2
    simp only [e1, e2, e3, e4, hl, decide_true, Bool.not_true, Bool.false_eq_true, if_false, true_and, Option.bind_some]
    subst e1 e2 e3 e4
    simp only [h, Option.bind_some]
    by_cases hab : a5 = b5 <;> simp [hab]
  · have : ¬ a5 = b5 := fun h => hl (by rw [h])
    have hl' : ¬ (a5.length : Int) = (b5.length : Int) := by omega
    simp [e1, e2, e3, e4, hl, hl', this]
/-- Whether a frame's lists are short. -/
def shortF (k : Nat) (f : api_Frame) : Prop := (f.Items.length < k ∧ f.Items.length ≤ 1000000) ∧ (f.Extra.length < k ∧ f.Extra.length ≤ 1000000) ∧ (f.Live.length < k ∧ f.Live.length ≤ 1000000) ∧ (f.Leaves.length < k ∧ f.Leaves.length ≤ 1000000) ∧ (f.Buckets.length < k ∧ f.Buckets.length ≤ 1000000) ∧ (f.Event.Payload.length < k ∧ f.Event.Payload.length ≤ 1000000) ∧ (f.Event.To.length < k ∧ f.Event.To.length ≤ 1000000)
theorem and_some (p q : Prop) [Decidable p] [Decidable q] : (if decide p = true then some (decide q) else some false) = some (decide (p ∧ q)) := by by_cases h : p <;> simp [h]
theorem and_dfl (p q : Prop) [Decidable p] [Decidable q] : (if decide p = true then some (decide q) else some default) = some (decide (p ∧ q)) := by by_cases h : p <;> simp [h]
theorem and_bif (p q : Prop) [Decidable p] [Decidable q] : (bif decide p then decide q else false) = decide (p ∧ q) := by by_cases h : p <;> simp [h]
theorem frameSame_eq (k : Nat) (a b : api_Frame) (h : shortF k a) : frame_Same k a b = some (decide (a = b)) := by
  obtain ⟨h1, h2, h3, h4, h5, h6, h7⟩ := h
  simp only [frame_Same, lt1, dVec, dVec2, beq_dec, eqItems k _ _ h1.1 h1.2, eqDots k _ _ h2.1 h2.2, eqDots k _ _ h3.1 h3.2, eqHashes k _ _ h4.1 h4.2, eqInts k _ _ h5.1 h5.2, eventSame_eq k _ _ h6.1 h7.1 h6.2 h7.2, Option.bind_some]
  clear h1 h2 h3 h4 h5 h6 h7
  obtain ⟨a1, a2, a3, a4, a5, a6, a7, a8, a9, a10, a11, a12, a13⟩ := a
  obtain ⟨b1, b2, b3, b4, b5, b6, b7, b8, b9, b10, b11, b12, b13⟩ := b
  simp only [and_some, and_dfl, and_bif, Option.bind_some, api_Frame.mk.injEq]
  exact congrArg some (decide_eq_decide.2 (by grind))
/-- A loop that leaves at the first place where something is not so, from a place on. -/
theorem loop_from {β : Type} {body : Int → Option (Int ⊕ (Unit ⊕ β))} (m n : Nat) (P : Nat → Prop) [DecidablePred P] {b : β} (hm : ∀ i, i < m → P i) (hs : ∀ i, m ≤ i → i < n → body (i : Int) = some (if P i then .inl ((i + 1 : Nat) : Int) else .inr (.inr b))) (he : ∀ i, n ≤ i → i ≤ m + n → body (i : Int) = some (.inr (.inl ()))) {k : Nat} (hk : n + 1 < k) :
    loopO body k (m : Int) = some (if ∀ i, i < n → P i then .inl () else .inr b) := by
  have h := loop_inv (body := body) (I := fun s => (m : Int) ≤ s ∧ s ≤ (m + n : Nat) ∧ ∀ i : Nat, (i : Int) < s → P i) (m := fun s => ((n : Int) + 1 - s).toNat) (fun t => t = if ∀ i, i < n → P i then .inl () else .inr b) ?_ k (m : Int) ⟨Int.le_refl _, by omega, fun i h => hm i (by omega)⟩ (by omega)
  · obtain ⟨t, h1, rfl⟩ := h
    exact h1
  · rintro s ⟨h0, h1, h2⟩
    obtain ⟨i, rfl⟩ : ∃ i : Nat, s = i := ⟨s.toNat, by omega⟩
    by_cases hlt : i < n
    · rw [hs i (by omega) hlt]
      by_cases hP : P i
      · left
        refine ⟨_, by rw [if_pos hP], ⟨by omega, by omega, fun j hj => ?_⟩, by omega⟩
        by_cases hji : j = i
        · subst hji; exact hP
        · exact h2 j (by omega)
      · right
        exact ⟨_, by rw [if_neg hP], by rw [if_neg (fun h => hP (h i hlt))]⟩
    · right
      exact ⟨_, he i (by omega) (by omega), by rw [if_pos (fun j hj => h2 j (by omega))]⟩
def itg (l : List api_Item) (i : Nat) : api_Item := l[i]?.getD ⟨⟨0, 0⟩, ⟨[], []⟩, false⟩
theorem idxI {l : List api_Item} {i : Nat} (h : i < l.length) : idxL l (i : Int) = some (itg l i) := by
  rw [idxL_lt h, itg, List.getElem?_eq_getElem h]; rfl
theorem itg_mem {l : List api_Item} : (∀ i, i < l.length → mayItem (itg l i)) ↔ ∀ x ∈ l, mayItem x := by
  constructor
  · intro h x hx
    obtain ⟨i, hi, rfl⟩ := List.getElem_of_mem hx
    have := h i hi
    rw [itg, List.getElem?_eq_getElem hi] at this
    exact this
  · intro h i hi
    rw [itg, List.getElem?_eq_getElem hi]
    exact h _ (List.getElem_mem hi)
def bg (l : List Int) (i : Nat) : Int := l[i]?.getD 0
theorem idxG {l : List Int} {i : Nat} (h : i < l.length) : idxL l (i : Int) = some (bg l i) := by
  rw [idxL_lt h, bg, List.getElem?_eq_getElem h]; rfl
def mayItemsP (l : List api_Item) : Prop := l.length ≤ 4096 ∧ ∀ x ∈ l, mayItem x
instance (l : List api_Item) : Decidable (mayItemsP l) := inferInstanceAs (Decidable (_ ∧ _))
def itemsUp (l : List api_Item) (i : Nat) : Prop := i = 0 ∨ less (itg l (i - 1)).Dot (itg l i).Dot
instance (l : List api_Item) : DecidablePred (itemsUp l) := fun i => inferInstanceAs (Decidable (_ ∨ _))
def bucketP (l : List Int) (i : Nat) : Prop := (0 ≤ bg l i ∧ bg l i < 64) ∧ (i = 0 ∨ bg l (i - 1) < bg l i)
instance (l : List Int) : DecidablePred (bucketP l) := fun i => inferInstanceAs (Decidable (_ ∧ _))
theorem frameItems_eq (k : Nat) (f : api_Frame) (hk : 6000 ≤ k) (hl : f.Items.length ≤ 5000) : frame_items k f = some (decide (mayItemsP f.Items)) := by
  simp only [frame_items, lt1]
  by_cases h : f.Items.length ≤ 4096
  · rw [dec_t (show (f.Items.length : Int) ≤ 4096 by omega)]
    simp only [if_true, contains_eq k f.Items (by omega) (by omega), Option.bind_some, Bool.not_not, cond_true]
    rw [show decide (mayItemsP f.Items) = decide (∀ x ∈ f.Items, mayItem x) from decide_eq_decide.2 ⟨fun h => h.2, fun hh => ⟨h, hh⟩⟩]
  · rw [dec_f (show ¬ (f.Items.length : Int) ≤ 4096 by omega), decide_eq_false (show ¬ mayItemsP f.Items from fun hh => h hh.1)]
    simp
theorem refMayItems_eq (k : Nat) (l : List api_Item) (hk : 6000 ≤ k) (hl : l.length ≤ 5000) : ref11_mayItems k l = some (decide (mayItemsP l)) := by
  have hlp := loop_from (body := fun s => ref11_mayItems.b1 k l s) (k := k) 0 (min l.length 4097) (fun i => mayItem (itg l i)) (b := false) (fun i hi => by omega) (fun i _ hi => by
      have e1 : decide ((i : Int) < (l.length : Int)) = true := decide_eq_true (by omega)
      have e2 : decide ((i : Int) ≤ 4096) = true := decide_eq_true (by omega)
      simp only [ref11_mayItems.b1, lt1, e1, e2, cond_true, Option.bind_some, if_true, idxI (show i < l.length by omega), refMayItem_eq, w64_succ (show i < 9223372036854775807 by omega)]
      by_cases h : mayItem (itg l i) <;> simp [h]) (fun i hi _ => by
      have e : (bif decide ((i : Int) < (l.length : Int)) then decide ((i : Int) ≤ 4096) else false) = false := by
        by_cases h1 : (i : Int) < (l.length : Int)
        · rw [dec_t h1, dec_f (show ¬ (i : Int) ≤ 4096 by omega)]; rfl
        · rw [dec_f h1]; rfl
      simp only [ref11_mayItems.b1, lt1, e, Option.bind_some, Bool.false_eq_true, if_false]) (by omega)
  have hlp' : loopO (fun s => ref11_mayItems.b1 k l s) k (0 : Int) = _ := hlp
  simp only [ref11_mayItems, hlp', Option.bind_some, lt1]
  by_cases hx : ∀ i, i < min l.length 4097 → mayItem (itg l i)
  · rw [if_pos hx]
    simp only [Option.bind_some, Option.some.injEq, decide_eq_decide]
    constructor
    · intro h
      exact ⟨by omega, itg_mem.1 fun i hi => hx i (by omega)⟩
    · intro h; have := h.1; omega
  · rw [if_neg hx, decide_eq_false (show ¬ mayItemsP l from fun h => hx fun i hi => itg_mem.2 h.2 i (by omega))]
    rfl
def zeroE : api_Event := ⟨⟨0, 0⟩, [], [], Vector.replicate 16 0, []⟩
def zeroP (f : api_Frame) : Prop := (f.Items = [] ∨ f.Kind = 1 ∨ f.Kind = 7) ∧ (f.Past = Vector.replicate 16 0 ∨ f.Kind = 3) ∧ (f.Hash = Vector.replicate 32 0 ∨ f.Kind = 5) ∧ (f.Leaves = [] ∨ f.Kind = 6) ∧ (f.Buckets = [] ∨ f.Kind = 7) ∧ (f.Reply = false ∨ f.Kind = 7) ∧ (f.Live = [] ∨ f.Kind = 4) ∧ ((f.Seen = Vector.replicate 16 0 ∧ f.Extra = []) ∨ f.Kind = 4 ∨ f.Kind = 7) ∧ (f.Event = zeroE ∨ f.Kind = 2)
instance (f : api_Frame) : Decidable (zeroP f) := by unfold zeroP; exact inferInstance
theorem bare_eq (k : Nat) (f : api_Frame) : ∃ b, frame_bare k f = some b ∧ (f = b ↔ zeroP f) := by
  obtain ⟨a1, a2, a3, a4, a5, a6, a7, a8, a9, a10, a11, a12, a13⟩ := f
  simp only [frame_bare, lt1, zeroP, zeroE]
  by_cases k1 : a1 = 1
  · subst k1; exact ⟨_, rfl, by simp only [api_Frame.mk.injEq]; simp; try grind⟩
  by_cases k2 : a1 = 2
  · subst k2; exact ⟨_, rfl, by simp only [api_Frame.mk.injEq]; simp; try grind⟩
  by_cases k3 : a1 = 3
  · subst k3; exact ⟨_, rfl, by simp only [api_Frame.mk.injEq]; simp; try grind⟩
  by_cases k4 : a1 = 4
  · subst k4; exact ⟨_, rfl, by simp only [api_Frame.mk.injEq]; simp; try grind⟩
  by_cases k5 : a1 = 5
  · subst k5; exact ⟨_, rfl, by simp only [api_Frame.mk.injEq]; simp; try grind⟩
  by_cases k6 : a1 = 6
  · subst k6; exact ⟨_, rfl, by simp only [api_Frame.mk.injEq]; simp; try grind⟩
  by_cases k7 : a1 = 7
  · subst k7; exact ⟨_, rfl, by simp only [api_Frame.mk.injEq]; simp; try grind⟩
  have e1 : (a1 == 1) = false := by simp [k1]
  have e2 : (a1 == 2) = false := by simp [k2]
  have e3 : (a1 == 3) = false := by simp [k3]
  have e4 : (a1 == 4) = false := by simp [k4]
  have e5 : (a1 == 5) = false := by simp [k5]
  have e6 : (a1 == 6) = false := by simp [k6]
  have e7 : (a1 == 7) = false := by simp [k7]
  simp only [e1, e2, e3, e4, e5, e6, e7, Bool.false_eq_true, if_false, Option.bind_some]
  exact ⟨_, rfl, by simp only [api_Frame.mk.injEq]; simp [k1, k2, k3, k4, k5, k6, k7]; try grind⟩
theorem len_pos {α : Type} (l : List α) : decide ((l.length : Int) > 0) = !decide (l = []) := by
  cases l with
  | nil => rfl
  | cons a l => rw [dec_t (show ((a :: l).length : Int) > 0 by simp)]; rfl
theorem not_or (p q : Bool) : (bif p then q else false) = (p && q) := by cases p <;> rfl
theorem or_bif (p q : Prop) [Decidable p] [Decidable q] : (bif decide p then true else decide q) = decide (p ∨ q) := by by_cases h : p <;> simp [h]
theorem orn_dfl (p q : Prop) [Decidable p] [Decidable q] : (Option.bind (if (!decide p) = true then some (decide q) else some default) fun v => some (bif decide p then true else v)) = some (decide (p ∨ q)) := by by_cases h : p <;> simp [h]
theorem zero_eq (k : Nat) (hk : 6000 ≤ k) (f : api_Frame) (hs : f.Event.To.length ≤ 3000) : ref11_zero k f = some (decide (zeroP f)) := by
  have hE := refEventSame_eq k f.Event zeroE (by omega) (by omega)
  have hE' : ref09_Same k f.Event (api_Event.mk (api_Dot.mk (0 : Int) (0 : UInt64)) ([] : (List UInt8)) ([] : (List UInt8)) (Vector.replicate 16 (0 : UInt64)) ([] : (List api_Dest))) = some (decide (f.Event = zeroE)) := hE
  have hR : f.Reply = decide (f.Reply = true) := by simp
  have hR2 : (bif f.Reply then (!decide (f.Kind = 7)) else false) = decide (f.Reply = true ∧ ¬ f.Kind = 7) := by cases f.Reply <;> simp
  simp only [ref11_zero, lt1, Option.bind_some, len_pos, dVec, dVec2, beq_dec, dBne, hR2, hE', orn_dfl]
  simp only [← decide_not, and_bif, or_bif]
  split
  · rename_i h
    have h := of_decide_eq_true h
    exact congrArg some (decide_eq_false (by unfold zeroP; grind)).symm
  · rename_i h
    have h := of_decide_eq_false (Bool.not_eq_true _ ▸ h)
    split
    · rename_i h2
      have h2 := of_decide_eq_true h2
      exact congrArg some (decide_eq_false (by unfold zeroP; grind)).symm
    · rename_i h2
      have h2 := of_decide_eq_false (Bool.not_eq_true _ ▸ h2)
      exact congrArg some (decide_eq_decide.2 (by unfold zeroP; grind))
/-- What a frame of its kind may be. -/
def kindP (f : api_Frame) : Prop :=
  if f.Kind = 1 then f.Items ≠ [] ∧ mayItemsP f.Items
  else if f.Kind = 2 then may f.Event
  else if f.Kind = 3 then small f.Past
  else if f.Kind = 4 then (∀ i, i < f.Live.length → riseP f.Live i) ∧ f.Live.length ≤ 1024 ∧ seenP f.Seen f.Extra
  else if f.Kind = 5 then True
  else if f.Kind = 6 then f.Leaves.length = 64
  else if f.Kind = 7 then (∀ i, i < f.Buckets.length → bucketP f.Buckets i) ∧ (∀ i, i < f.Items.length → itemsUp f.Items i) ∧ f.Buckets ≠ [] ∧ mayItemsP f.Items ∧ seenP f.Seen f.Extra
  else False
instance (f : api_Frame) : Decidable (kindP f) := by unfold kindP; exact inferInstance
def headP (f : api_Frame) : Prop := (1 ≤ f.From ∧ f.From ≤ 16 ∧ 1 ≤ f.To ∧ f.To ≤ 16) ∧ f.From ≠ f.To
instance (f : api_Frame) : Decidable (headP f) := inferInstanceAs (Decidable (_ ∧ _))
def mayF (f : api_Frame) : Prop := headP f ∧ zeroP f ∧ kindP f
instance (f : api_Frame) : Decidable (mayF f) := inferInstanceAs (Decidable (_ ∧ _ ∧ _))
theorem headB (f : api_Frame) : (bif bif bif bif decide (f.From < 1) then true else decide (f.From > 16) then true else decide (f.To < 1) then true else decide (f.To > 16) then true else (f.From == f.To)) = !decide (headP f) := by
  rw [beq_dec]
  simp only [or_bif, ← decide_not]
  exact decide_eq_decide.2 (by unfold headP; omega)
theorem liveB1 (k : Nat) (hk : 3 ≤ k) (f : api_Frame) (i : Nat) (hi : i < f.Live.length) (hl : f.Live.length ≤ 1000000) : frame_May.b1 k f (i : Int) = some (if riseP f.Live i then .inl ((i + 1 : Nat) : Int) else .inr (.inr false)) := by
  simp only [frame_May.b1, lt1, dec_t (show (i : Int) < (f.Live.length : Int) by omega), if_true, idxD hi, Option.bind_some, ctxMay_eq, w64_succ (show i < 9223372036854775807 by omega), frame_May_1]
  by_cases hd : mayDot (dg f.Live i)
  case neg => simp [hd, riseP]
  simp only [decide_eq_true hd, Bool.not_true, Bool.not_false, if_true, Option.bind_some, cond_false, riseP, hd, true_and]
  by_cases h0 : i = 0
  · subst h0
    simp
  · obtain ⟨j, rfl⟩ : ∃ j, i = j + 1 := ⟨i - 1, by omega⟩
    have e : decide (((j + 1 : Nat) : Int) > 0) = true := decide_eq_true (by omega)
    have e0 : ((((j + 1 : Nat) : Int)) == 0) = false := by simp; omega
    simp only [e, e0, w64_back j (by omega), idxD (show j < f.Live.length by omega), ctxLess_eq k hk, Bool.and_true, Bool.true_and, Option.bind_some, if_true, cond_true, cond_false, Nat.add_sub_cancel, h0, false_or]
    by_cases hL : less (dg f.Live j) (dg f.Live (j + 1)) <;> simp [hL]
theorem refLiveB1 (k : Nat) (f : api_Frame) (i : Nat) (hi : i < f.Live.length) (hl : f.Live.length ≤ 1000000) : ref11_May.b1 k f (i : Int) = some (if riseP f.Live i then .inl ((i + 1 : Nat) : Int) else .inr (.inr false)) := by
  simp only [ref11_May.b1, lt1, dec_t (show (i : Int) < (f.Live.length : Int) by omega), if_true, idxD hi, Option.bind_some, refMayDot_eq, w64_succ (show i < 9223372036854775807 by omega)]
  by_cases hd : mayDot (dg f.Live i)
  case neg => simp [hd, riseP]
  simp only [decide_eq_true hd, Bool.not_true, Bool.not_false, if_true, Option.bind_some, cond_false, riseP, hd, true_and]
  by_cases h0 : i = 0
  · subst h0
    simp
  · obtain ⟨j, rfl⟩ : ∃ j, i = j + 1 := ⟨i - 1, by omega⟩
    have e : decide (((j + 1 : Nat) : Int) > 0) = true := decide_eq_true (by omega)
    simp only [e, w64_back j (by omega), idxD (show j < f.Live.length by omega), refLess_eq, Bool.and_true, Bool.true_and, Option.bind_some, if_true, cond_true, cond_false, Nat.add_sub_cancel, h0, false_or]
    by_cases hL : less (dg f.Live j) (dg f.Live (j + 1)) <;> simp [hL]
theorem buckB2 (k : Nat) (f : api_Frame) (i : Nat) (hi : i < f.Buckets.length) (hl : f.Buckets.length ≤ 1000000) : frame_May.b2 k f (i : Int) = some (if bucketP f.Buckets i then .inl ((i + 1 : Nat) : Int) else .inr (.inr false)) := by
  simp only [frame_May.b2, lt1, dec_t (show (i : Int) < (f.Buckets.length : Int) by omega), if_true, idxG hi, Option.bind_some, w64_succ (show i < 9223372036854775807 by omega), frame_May_1]
  by_cases c1 : bg f.Buckets i < 0
  case pos => simp [c1, bucketP, show ¬ 0 ≤ bg f.Buckets i by omega]
  by_cases c2 : bg f.Buckets i ≥ 64
  case pos => simp [c1, c2, bucketP, show ¬ bg f.Buckets i < 64 by omega]
  have c3 : 0 ≤ bg f.Buckets i ∧ bg f.Buckets i < 64 := by omega
  simp only [dec_f c1, dec_f c2, Bool.not_true, Bool.not_false, if_true, Option.bind_some, cond_false, bucketP, c3, true_and]
  by_cases h0 : i = 0
  · subst h0
    simp
  · obtain ⟨j, rfl⟩ : ∃ j, i = j + 1 := ⟨i - 1, by omega⟩
    have e : decide (((j + 1 : Nat) : Int) > 0) = true := decide_eq_true (by omega)
    have e0 : ((((j + 1 : Nat) : Int)) == 0) = false := by simp; omega
    simp only [e, e0, w64_back j (by omega), idxG (show j < f.Buckets.length by omega), Bool.and_true, Bool.true_and, Option.bind_some, if_true, cond_true, cond_false, Nat.add_sub_cancel, h0, false_or]
    by_cases hL : bg f.Buckets j < bg f.Buckets (j + 1) <;> simp [hL]
theorem refBuckB1 (k : Nat) (f : api_Frame) (i : Nat) (hi : i < f.Buckets.length) (hl : f.Buckets.length ≤ 1000000) : ref11_mayBuckets.b1 k f (i : Int) = some (if bucketP f.Buckets i then .inl ((i + 1 : Nat) : Int) else .inr (.inr false)) := by
  simp only [ref11_mayBuckets.b1, lt1, dec_t (show (i : Int) < (f.Buckets.length : Int) by omega), if_true, idxG hi, Option.bind_some, w64_succ (show i < 9223372036854775807 by omega)]
  by_cases c1 : bg f.Buckets i < 0
  case pos => simp [c1, bucketP, show ¬ 0 ≤ bg f.Buckets i by omega]
  by_cases c2 : bg f.Buckets i ≥ 64
  case pos => simp [c1, c2, bucketP, show ¬ bg f.Buckets i < 64 by omega]
  have c3 : 0 ≤ bg f.Buckets i ∧ bg f.Buckets i < 64 := by omega
  simp only [dec_f c1, dec_f c2, Bool.not_true, Bool.not_false, if_true, Option.bind_some, cond_false, bucketP, c3, true_and]
  by_cases h0 : i = 0
  · subst h0
    simp
  · obtain ⟨j, rfl⟩ : ∃ j, i = j + 1 := ⟨i - 1, by omega⟩
    have e : decide (((j + 1 : Nat) : Int) > 0) = true := decide_eq_true (by omega)
    simp only [e, w64_back j (by omega), idxG (show j < f.Buckets.length by omega), Bool.and_true, Bool.true_and, Option.bind_some, if_true, cond_true, cond_false, Nat.add_sub_cancel, h0, false_or, c2, decide_false, Bool.not_false]
    by_cases hL : bg f.Buckets j < bg f.Buckets (j + 1)
    · simp [hL, show ¬ bg f.Buckets (j + 1) ≤ bg f.Buckets j by omega]
    · simp [hL, show bg f.Buckets (j + 1) ≤ bg f.Buckets j by omega]
theorem itemB3 (k : Nat) (hk : 3 ≤ k) (f : api_Frame) (i : Nat) (hi : i < f.Items.length) (hl : f.Items.length ≤ 1000000) : frame_May.b3 k f (i : Int) = some (if itemsUp f.Items i then .inl ((i + 1 : Nat) : Int) else .inr (.inr false)) := by
  simp only [frame_May.b3, lt1, dec_t (show (i : Int) < (f.Items.length : Int) by omega), if_true, idxI hi, Option.bind_some, w64_succ (show i < 9223372036854775807 by omega), frame_May_1, itemsUp]
  by_cases h0 : i = 0
  · subst h0
    simp
  · obtain ⟨j, rfl⟩ : ∃ j, i = j + 1 := ⟨i - 1, by omega⟩
    have e : decide (((j + 1 : Nat) : Int) > 0) = true := decide_eq_true (by omega)
    have e0 : ((((j + 1 : Nat) : Int)) == 0) = false := by simp; omega
    simp only [e, e0, w64_back j (by omega), idxI (show j < f.Items.length by omega), ctxLess_eq k hk, Bool.and_true, Bool.true_and, Option.bind_some, if_true, cond_true, cond_false, Nat.add_sub_cancel, h0, false_or]
    by_cases hL : less (itg f.Items j).Dot (itg f.Items (j + 1)).Dot <;> simp [hL]
theorem refItemB2 (k : Nat) (f : api_Frame) (i : Nat) (h1 : 1 ≤ i) (hi : i < f.Items.length) (hl : f.Items.length ≤ 1000000) : ref11_mayBuckets.b2 k f (i : Int) = some (if itemsUp f.Items i then .inl ((i + 1 : Nat) : Int) else .inr (.inr false)) := by
  obtain ⟨j, rfl⟩ : ∃ j, i = j + 1 := ⟨i - 1, by omega⟩
  simp only [ref11_mayBuckets.b2, lt1, dec_t (show ((j + 1 : Nat) : Int) < (f.Items.length : Int) by omega), if_true, idxI hi, idxI (show j < f.Items.length by omega), w64_back j (by omega), Option.bind_some, refLess_eq, w64_succ (show j + 1 < 9223372036854775807 by omega), itemsUp, Nat.add_sub_cancel, Nat.add_one_ne_zero, false_or]
  by_cases hL : less (itg f.Items j).Dot (itg f.Items (j + 1)).Dot <;> simp [hL]
theorem muchEvent (k : Nat) (hk : 6000 ≤ k) (e : api_Event) : ∃ b, ref09_Much k e = some b ∧ (b = false → e.Topic.length ≤ 300 ∧ e.Payload.length ≤ 3000 ∧ e.To.length ≤ 3000) := by
  simp only [ref09_Much, lt1]
  by_cases h1 : e.Topic.length ≤ 300
  case neg => exact ⟨true, by rw [dec_t (show (e.Topic.length : Int) > 300 by omega)]; rfl, fun h => by cases h⟩
  by_cases h2 : e.Payload.length ≤ 3000
  case neg => exact ⟨true, by rw [dec_t (show (e.Payload.length : Int) > 3000 by omega)]; simp, fun h => by cases h⟩
  by_cases h3 : e.To.length ≤ 3000
  case neg => exact ⟨true, by rw [dec_t (show (e.To.length : Int) > 3000 by omega)]; simp, fun h => by cases h⟩
  have hlp := loop_inv (body := fun s : Int × Int => ref09_Much.b1 k e s.1 s.2) (I := fun s => 0 ≤ s.2 ∧ s.2 ≤ (e.To.length : Int) ∧ 0 ≤ s.1 ∧ s.1 ≤ 200000) (m := fun s => ((e.To.length : Int) - s.2).toNat) (fun r => r = .inl () ∨ r = .inr true) ?_ k ((0 : Int), (0 : Int)) ⟨Int.le_refl _, by show (0 : Int) ≤ _; omega, Int.le_refl _, by show (0 : Int) ≤ 200000; omega⟩ (by show ((e.To.length : Int) - (0 : Int)).toNat < k; omega)
  · simp only [dec_f (show ¬ (e.Topic.length : Int) > 300 by omega), dec_f (show ¬ (e.Payload.length : Int) > 3000 by omega), dec_f (show ¬ (e.To.length : Int) > 3000 by omega), Bool.false_eq_true, if_false, Option.bind_some]
    obtain ⟨r, g1, g2⟩ := hlp
    rcases g2 with rfl | rfl
    · exact ⟨false, by simp only [cond_false, Bool.false_eq_true, if_false, g1, Option.bind_some], fun _ => ⟨h1, h2, h3⟩⟩
    · exact ⟨true, by simp only [cond_false, Bool.false_eq_true, if_false, g1, Option.bind_some], fun h => by cases h⟩
  · rintro ⟨n, s⟩ ⟨h0, h4, h5, h6⟩
    simp only at h0 h4 h5 h6
    obtain ⟨i, rfl⟩ : ∃ i : Nat, s = i := ⟨s.toNat, by omega⟩
    by_cases hlt : i < e.To.length
    · have e1 : ∀ x : Nat, minI (x : Int) 200001 = ((min x 200001 : Nat) : Int) := fun x => by unfold minI; split <;> omega
      simp only [ref09_Much.b1, lt1, dec_t (show (i : Int) < (e.To.length : Int) by omega), if_true, idxL_lt hlt, Option.bind_some, e1]
      have w1 : w64 (n + ((min e.To[i].Device.length 200001 : Nat) : Int)) = n + ((min e.To[i].Device.length 200001 : Nat) : Int) := w64_id (by omega) (by omega)
      rw [w1]
      by_cases h7 : n + ((min e.To[i].Device.length 200001 : Nat) : Int) > 200000
      · right
        rw [dec_t h7]
        exact ⟨_, rfl, .inr rfl⟩
      · left
        rw [dec_f h7]
        simp only [Bool.false_eq_true, if_false, w64_succ (show i < 9223372036854775807 by omega)]
        exact ⟨_, rfl, ⟨by show (0 : Int) ≤ ((i + 1 : Nat) : Int); omega, by show ((i + 1 : Nat) : Int) ≤ _; omega, by show (0 : Int) ≤ n + _; omega, by show n + _ ≤ (200000 : Int); omega⟩, by show ((e.To.length : Int) - ((i + 1 : Nat) : Int)).toNat < ((e.To.length : Int) - (i : Int)).toNat; omega⟩
    · right
      simp only [ref09_Much.b1, lt1, dec_f (show ¬ (i : Int) < (e.To.length : Int) by omega), Bool.false_eq_true, if_false]
      exact ⟨_, rfl, .inl rfl⟩
def sizes (f : api_Frame) : Prop := f.Items.length ≤ 5000 ∧ f.Event.Topic.length ≤ 300 ∧ f.Event.Payload.length ≤ 3000 ∧ f.Event.To.length ≤ 3000 ∧ f.Extra.length ≤ 5000 ∧ f.Live.length ≤ 5000 ∧ f.Leaves.length ≤ 300 ∧ f.Buckets.length ≤ 300
theorem sizes_short {k : Nat} (hk : 6000 ≤ k) {f : api_Frame} (h : sizes f) : shortF k f := by
  obtain ⟨h1, h2, h3, h4, h5, h6, h7, h8⟩ := h
  exact ⟨⟨by omega, by omega⟩, ⟨by omega, by omega⟩, ⟨by omega, by omega⟩, ⟨by omega, by omega⟩, ⟨by omega, by omega⟩, ⟨by omega, by omega⟩, ⟨by omega, by omega⟩⟩
theorem much_eq (k : Nat) (hk : 6000 ≤ k) (f : api_Frame) : ∃ b, ref11_Much k f = some b ∧ (b = false → sizes f) := by
  obtain ⟨l, h1, h1'⟩ := long_eq k hk f.Items
  obtain ⟨m, h2, h2'⟩ := muchEvent k hk f.Event
  simp only [ref11_Much, lt1, h1, h2, Option.bind_some]
  cases l
  case true => exact ⟨true, rfl, fun h => by cases h⟩
  cases m
  case true => exact ⟨true, by simp, fun h => by cases h⟩
  have h1 := h1' rfl
  have h2 := h2' rfl
  by_cases h3 : f.Extra.length ≤ 5000
  case neg => exact ⟨true, by rw [dec_t (show (f.Extra.length : Int) > 5000 by omega)]; simp, fun h => by cases h⟩
  by_cases h4 : f.Live.length ≤ 5000
  case neg => exact ⟨true, by rw [dec_t (show (f.Live.length : Int) > 5000 by omega)]; simp, fun h => by cases h⟩
  by_cases h5 : f.Leaves.length ≤ 300
  case neg => exact ⟨true, by rw [dec_t (show (f.Leaves.length : Int) > 300 by omega)]; simp, fun h => by cases h⟩
  by_cases h6 : f.Buckets.length ≤ 300
  case neg => exact ⟨true, by rw [dec_t (show (f.Buckets.length : Int) > 300 by omega)]; simp, fun h => by cases h⟩
  exact ⟨false, by rw [dec_f (show ¬ (f.Extra.length : Int) > 5000 by omega), dec_f (show ¬ (f.Live.length : Int) > 5000 by omega), dec_f (show ¬ (f.Leaves.length : Int) > 300 by omega), dec_f (show ¬ (f.Buckets.length : Int) > 300 by omega)]; simp, fun _ => ⟨h1, h2.1, h2.2.1, h2.2.2, h3, h4, h5, h6⟩⟩
theorem endB {f : Nat} : decide ((f : Int) < (f : Int)) = false := dec_f (by omega)
theorem frameMay_eq (k : Nat) (hk : 6000 ≤ k) (f : api_Frame) (hs : sizes f) : frame_May k f = some (decide (mayF f)) := by
  have hsh := sizes_short hk hs
  obtain ⟨s1, s2, s3, s4, s5, s6, s7, s8⟩ := hs
  obtain ⟨b, hb, hbz⟩ := bare_eq k f
  simp only [frame_May, lt1, headB]
  by_cases hh : headP f
  case neg => simp [hh, mayF]
  simp only [decide_eq_true hh, Bool.not_true, Bool.not_false, if_true, hb, frameSame_eq k f b hsh, Option.bind_some, cond_false]
  by_cases hz : zeroP f
  case neg =>
    rw [decide_eq_false (fun h => hz (hbz.1 h))]
    simp [hz, mayF]
  rw [decide_eq_true (hbz.2 hz)]
  have hmay : decide (mayF f) = decide (kindP f) := decide_eq_decide.2 ⟨fun h => h.2.2, fun h => ⟨hh, hz, h⟩⟩
  rw [hmay]
  simp only [Bool.not_true, Bool.false_eq_true, if_false, kindP]
  clear hb hbz hmay hsh
  by_cases k1 : f.Kind = 1
  · simp only [k1, beq_self_eq_true, if_true, len_pos, frameItems_eq k f hk s1]
    by_cases c : f.Items = [] <;> simp [c]
  have e1 : (f.Kind == 1) = false := by simp [k1]
  simp only [e1, k1, Bool.false_eq_true, if_false]
  by_cases k2 : f.Kind = 2
  · simp only [k2, beq_self_eq_true, if_true, eventMay_eq k hk f.Event s4, Option.bind_some]
  have e2 : (f.Kind == 2) = false := by simp [k2]
  simp only [e2, k2, Bool.false_eq_true, if_false]
  by_cases k3 : f.Kind = 3
  · simp only [k3, beq_self_eq_true, if_true]
    have hp := past_eq k (by omega) f.Past
    simp only [lt1] at hp
    cases hx : subL (Vector.toList f.Past) 0 16 with
    | none => rw [hx] at hp; cases hp
    | some x =>
      rw [hx] at hp
      simp only [Option.bind_some] at hp ⊢
      cases hy : slices_ContainsFuncuint64_uint64'2 k x with
      | none => rw [hy] at hp; cases hp
      | some y =>
        rw [hy] at hp
        simp only [Option.bind_some] at hp ⊢
        exact hp
  have e3 : (f.Kind == 3) = false := by simp [k3]
  simp only [e3, k3, Bool.false_eq_true, if_false]
  by_cases k4 : f.Kind = 4
  · have hlp := loop_allB (body := fun s => frame_May.b1 k f s) (k := k) f.Live.length (riseP f.Live) (b := false) (fun i hi => liveB1 k (by omega) f i hi (by omega)) (by simp only [frame_May.b1, lt1, endB, Bool.false_eq_true, if_false]) (by omega)
    simp only [k4, beq_self_eq_true, if_true, hlp, Option.bind_some]
    by_cases hx : ∀ i, i < f.Live.length → riseP f.Live i
    · rw [if_pos hx]
      by_cases h4 : f.Live.length ≤ 1024
      · rw [dec_t (show (f.Live.length : Int) ≤ 1024 by omega)]
        simp only [if_true, frameSeen_eq k hk f s5, Option.bind_some, cond_true]
        exact congrArg some (decide_eq_decide.2 ⟨fun h => ⟨hx, h4, h⟩, fun h => h.2.2⟩)
      · rw [dec_f (show ¬ (f.Live.length : Int) ≤ 1024 by omega)]
        exact congrArg some (decide_eq_false fun h => h4 h.2.1).symm
    · rw [if_neg hx]
      exact congrArg some (decide_eq_false fun h => hx h.1).symm
  have e4 : (f.Kind == 4) = false := by simp [k4]
  simp only [e4, k4, Bool.false_eq_true, if_false]
  by_cases k5 : f.Kind = 5
  · simp only [k5, beq_self_eq_true, if_true]
    rfl
  have e5 : (f.Kind == 5) = false := by simp [k5]
  simp only [e5, k5, Bool.false_eq_true, if_false]
  by_cases k6 : f.Kind = 6
  · simp only [k6, beq_self_eq_true, if_true, Option.bind_some, beq_dec]
    exact congrArg some (decide_eq_decide.2 (by omega))
  have e6 : (f.Kind == 6) = false := by simp [k6]
  simp only [e6, k6, Bool.false_eq_true, if_false]
  by_cases k7 : f.Kind = 7
  · have h2 := loop_allB (body := fun s => frame_May.b2 k f s) (k := k) f.Buckets.length (bucketP f.Buckets) (b := false) (fun i hi => buckB2 k f i hi (by omega)) (by simp only [frame_May.b2, lt1, endB, Bool.false_eq_true, if_false]) (by omega)
    have h3 := loop_allB (body := fun s => frame_May.b3 k f s) (k := k) f.Items.length (itemsUp f.Items) (b := false) (fun i hi => itemB3 k (by omega) f i hi (by omega)) (by simp only [frame_May.b3, lt1, endB, Bool.false_eq_true, if_false]) (by omega)
    simp only [k7, beq_self_eq_true, if_true, h2, Option.bind_some]
    by_cases hx : ∀ i, i < f.Buckets.length → bucketP f.Buckets i
    case neg =>
      rw [if_neg hx]
      exact congrArg some (decide_eq_false fun h => hx h.1).symm
    rw [if_pos hx]
    simp only [Option.bind_some, h3]
    by_cases hy : ∀ i, i < f.Items.length → itemsUp f.Items i
    case neg =>
      rw [if_neg hy]
      exact congrArg some (decide_eq_false fun h => hy h.2.1).symm
    rw [if_pos hy]
    simp only [len_pos, frameItems_eq k f hk s1, frameSeen_eq k hk f s5, Option.bind_some]
    by_cases c1 : f.Buckets = []
    case pos =>
      rw [decide_eq_true c1]
      exact congrArg some (decide_eq_false fun h => h.2.2.1 c1).symm
    rw [decide_eq_false c1]
    by_cases c2 : mayItemsP f.Items
    case neg =>
      rw [decide_eq_false c2]
      exact congrArg some (decide_eq_false fun h => c2 h.2.2.2.1).symm
    rw [decide_eq_true c2]
    exact congrArg some (decide_eq_decide.2 ⟨fun h => ⟨hx, hy, c1, c2, h⟩, fun h => h.2.2.2.2⟩)
  have e7 : (f.Kind == 7) = false := by simp [k7]
  simp only [e7, k7, Bool.false_eq_true, if_false]
  rfl
theorem refMayBuckets_eq (k : Nat) (hk : 6000 ≤ k) (f : api_Frame) (hs : sizes f) : ref11_mayBuckets k f = some (decide ((∀ i, i < f.Buckets.length → bucketP f.Buckets i) ∧ (∀ i, i < f.Items.length → itemsUp f.Items i) ∧ f.Buckets ≠ [] ∧ mayItemsP f.Items ∧ seenP f.Seen f.Extra)) := by
  obtain ⟨s1, s2, s3, s4, s5, s6, s7, s8⟩ := hs
  have h2 := loop_allB (body := fun s => ref11_mayBuckets.b1 k f s) (k := k) f.Buckets.length (bucketP f.Buckets) (b := false) (fun i hi => refBuckB1 k f i hi (by omega)) (by simp only [ref11_mayBuckets.b1, lt1, endB, Bool.false_eq_true, if_false]) (by omega)
  have h3 := loop_from (body := fun s => ref11_mayBuckets.b2 k f s) (k := k) 1 f.Items.length (itemsUp f.Items) (b := false) (fun i hi => .inl (by omega)) (fun i h1 hi => refItemB2 k f i h1 hi (by omega)) (fun i hi _ => by simp only [ref11_mayBuckets.b2, lt1, dec_f (show ¬ (i : Int) < (f.Items.length : Int) by omega), Bool.false_eq_true, if_false]) (by omega)
  have h3' : loopO (fun s => ref11_mayBuckets.b2 k f s) k (1 : Int) = _ := h3
  simp only [ref11_mayBuckets, lt1, h2, Option.bind_some]
  by_cases hx : ∀ i, i < f.Buckets.length → bucketP f.Buckets i
  case neg =>
    rw [if_neg hx]
    exact congrArg some (decide_eq_false fun h => hx h.1).symm
  rw [if_pos hx]
  simp only [Option.bind_some, h3']
  by_cases hy : ∀ i, i < f.Items.length → itemsUp f.Items i
  case neg =>
    rw [if_neg hy]
    exact congrArg some (decide_eq_false fun h => hy h.2.1).symm
  rw [if_pos hy]
  have e : decide ((f.Buckets.length : Int) ≥ 1) = !decide (f.Buckets = []) := by rw [← len_pos]; exact decide_eq_decide.2 (by omega)
  simp only [e, refMayItems_eq k f.Items hk s1, refSeen_eq k hk f.Seen f.Extra s5, Option.bind_some]
  by_cases c1 : f.Buckets = []
  case pos =>
    rw [decide_eq_true c1]
    exact congrArg some (decide_eq_false fun h => h.2.2.1 c1).symm
  rw [decide_eq_false c1]
  by_cases c2 : mayItemsP f.Items
  case neg =>
    rw [decide_eq_false c2]
    exact congrArg some (decide_eq_false fun h => c2 h.2.2.2.1).symm
  rw [decide_eq_true c2]
  exact congrArg some (decide_eq_decide.2 ⟨fun h => ⟨hx, hy, c1, c2, h⟩, fun h => h.2.2.2.2⟩)
theorem refMay_eq (k : Nat) (hk : 6000 ≤ k) (f : api_Frame) (hs : sizes f) : ref11_May k f = some (decide (mayF f)) := by
  have hbk := refMayBuckets_eq k hk f hs
  obtain ⟨s1, s2, s3, s4, s5, s6, s7, s8⟩ := hs
  simp only [ref11_May, lt1, headB]
  by_cases hh : headP f
  case neg => simp [hh, mayF]
  simp only [decide_eq_true hh, Bool.not_true, Bool.not_false, if_true, zero_eq k hk f s4, Option.bind_some, cond_false]
  by_cases hz : zeroP f
  case neg => simp [hz, mayF]
  have hmay : decide (mayF f) = decide (kindP f) := decide_eq_decide.2 ⟨fun h => h.2.2, fun h => ⟨hh, hz, h⟩⟩
  rw [hmay, decide_eq_true hz]
  simp only [Bool.not_true, Bool.false_eq_true, if_false, kindP]
  clear hmay
  by_cases k1 : f.Kind = 1
  · have e : decide ((f.Items.length : Int) ≥ 1) = !decide (f.Items = []) := by rw [← len_pos]; exact decide_eq_decide.2 (by omega)
    simp only [k1, beq_self_eq_true, if_true, e, refMayItems_eq k f.Items hk s1]
    by_cases c : f.Items = [] <;> simp [c]
  have e1 : (f.Kind == 1) = false := by simp [k1]
  simp only [e1, k1, Bool.false_eq_true, if_false]
  by_cases k2 : f.Kind = 2
  · simp only [k2, beq_self_eq_true, if_true, refEventMay_eq k hk f.Event s4, Option.bind_some]
  have e2 : (f.Kind == 2) = false := by simp [k2]
  simp only [e2, k2, Bool.false_eq_true, if_false]
  by_cases k3 : f.Kind = 3
  · simp only [k3, beq_self_eq_true, if_true, refMayVector_eq k (by omega), Option.bind_some]
  have e3 : (f.Kind == 3) = false := by simp [k3]
  simp only [e3, k3, Bool.false_eq_true, if_false]
  by_cases k4 : f.Kind = 4
  · have hlp := loop_allB (body := fun s => ref11_May.b1 k f s) (k := k) f.Live.length (riseP f.Live) (b := false) (fun i hi => refLiveB1 k f i hi (by omega)) (by simp only [ref11_May.b1, lt1, endB, Bool.false_eq_true, if_false]) (by omega)
    simp only [k4, beq_self_eq_true, if_true, hlp, Option.bind_some]
    by_cases hx : ∀ i, i < f.Live.length → riseP f.Live i
    · rw [if_pos hx]
      by_cases h4 : f.Live.length ≤ 1024
      · rw [dec_t (show (f.Live.length : Int) ≤ 1024 by omega)]
        simp only [if_true, refSeen_eq k hk f.Seen f.Extra s5, Option.bind_some, cond_true]
        exact congrArg some (decide_eq_decide.2 ⟨fun h => ⟨hx, h4, h⟩, fun h => h.2.2⟩)
      · rw [dec_f (show ¬ (f.Live.length : Int) ≤ 1024 by omega)]
        exact congrArg some (decide_eq_false fun h => h4 h.2.1).symm
    · rw [if_neg hx]
      exact congrArg some (decide_eq_false fun h => hx h.1).symm
  have e4 : (f.Kind == 4) = false := by simp [k4]
  simp only [e4, k4, Bool.false_eq_true, if_false]
  by_cases k5 : f.Kind = 5
  · simp only [k5, beq_self_eq_true, if_true]
    rfl
  have e5 : (f.Kind == 5) = false := by simp [k5]
  simp only [e5, k5, Bool.false_eq_true, if_false]
  by_cases k6 : f.Kind = 6
  · simp only [k6, beq_self_eq_true, if_true, Option.bind_some, beq_dec]
    exact congrArg some (decide_eq_decide.2 (by omega))
  have e6 : (f.Kind == 6) = false := by simp [k6]
  simp only [e6, k6, Bool.false_eq_true, if_false]
  by_cases k7 : f.Kind = 7
  · simp only [k7, beq_self_eq_true, if_true, hbk, Option.bind_some]
  have e7 : (f.Kind == 7) = false := by simp [k7]
  simp only [e7, k7, Bool.false_eq_true, if_false]
  rfl
/-- The first i words of a vector. -/
def vecB (v : Vector UInt64 16) (i : Nat) : List UInt8 := (v.toList.take i).flatMap fun n => put n.toNat 8
theorem vecB_succ (v : Vector UInt64 16) (i : Nat) (h : i < 16) : vecB v (i + 1) = vecB v i ++ put v[i].toNat 8 := by
  have : i < v.toList.length := by simpa using h
  rw [vecB, List.take_succ_eq_append_getElem this, List.flatMap_append]
  simp [vecB]
theorem vecB_len (v : Vector UInt64 16) : ∀ i, i ≤ 16 → (vecB v i).length = 8 * i := by
  intro i
  induction i with
  | zero => intro _; simp [vecB]
  | succ i ih =>
    intro h
    rw [vecB_succ v i (by omega), List.length_append, ih (by omega), put_length]
    omega
theorem room8 (n : UInt64) : room n 8 := ⟨by omega, by omega, by have := n.toNat_lt; simpa using this⟩
theorem put8 (k : Nat) (hk : 9 ≤ k) (n : UInt64) : wire_Put k n 8 = some (put n.toNat 8, 0) := by
  rw [wirePut_eq k hk n 8 (by omega) (by omega), if_pos (room8 n)]
  rfl
theorem wireVec_eq (k : Nat) (hk : 17 ≤ k) (v : Vector UInt64 16) : wire_Vector k v = some (vecB v 16) := by
  have hl : loopO (fun s => wire_Vector.b1 k v s.1 s.2) k (([] : List UInt8), (0 : Int)) = some (vecB v 16) := by
    refine loop_g (n := 16) (fun i => (vecB v i, ((i : Nat) : Int))) _ (by simp [vecB]) ?_ ?_ (by omega)
    · intro i hi
      have h3 : idxV v (i : Int) = some v[i] := by simp [idxV, hi]
      have h4 := vecB_len v i (by omega)
      simp only [wire_Vector.b1, lt1, dec_t (show (i : Int) < 16 by omega), if_true, h3, put8 k (by omega), Option.bind_some, apL_ok (show ((vecB v i).length + (put v[i].toNat 8).length) * 1 ≤ 140737488355328 by rw [put_length]; omega), vecB_succ v i hi, w64_succ (show i < 9223372036854775807 by omega)]
    · simp only [wire_Vector.b1, lt1, dec_f (show ¬ ((16 : Nat) : Int) < 16 by omega), Bool.false_eq_true, if_false]
  simp only [wire_Vector, hl, Option.bind_some]
end Go.Proofs.YtklnihlchhhhlaaGreat
namespace Go.Proofs.YtklnihlchhhhlaaGreat.Crc
set_option linter.unusedVariables false
def T : BitVec 32 := 2197175160#32
def L (x : BitVec 32) : BitVec 32 := (x >>> 1) ^^^ (bif x.getLsbD 0 then T else 0#32)
theorem L_xor (x y : BitVec 32) : L (x ^^^ y) = L x ^^^ L y := by
  unfold L
  rw [BitVec.ushiftRight_xor_distrib, BitVec.getLsbD_xor]
  cases x.getLsbD 0 <;> cases y.getLsbD 0 <;> simp only [Bool.xor_false, Bool.xor_true, Bool.not_false, Bool.not_true, cond_true, cond_false, BitVec.xor_zero]
  · ac_rfl
  · ac_rfl
  · have h : ∀ a b t : BitVec 32, (a ^^^ t) ^^^ (b ^^^ t) = (a ^^^ b) ^^^ (t ^^^ t) := fun a b t => by ac_rfl
    rw [h, BitVec.xor_self, BitVec.xor_zero]
theorem L_even (y : BitVec 32) (h : y.getLsbD 0 = false) : L y = y >>> 1 := by unfold L; rw [h]; simp
def bt (b : Bool) : BitVec 32 := bif b then 1#32 else 0#32
/-- One bit comes in. -/
def stp (x : BitVec 32) (b : Bool) : BitVec 32 := L (x ^^^ bt b)
def run (x : BitVec 32) (l : List Bool) : BitVec 32 := l.foldl stp x
theorem run_append (x : BitVec 32) (l m : List Bool) : run x (l ++ m) = run (run x l) m := List.foldl_append
/-! ### words' bits -/
/-- The n lowest bits of a word, the lowest first. -/
def bits (n : Nat) (w : BitVec 32) : List Bool := (List.range n).map fun i => w.getLsbD i
theorem bits_succ (n : Nat) (w : BitVec 32) : bits (n + 1) w = bits n w ++ [w.getLsbD n] := by simp [bits, List.range_succ]
theorem bits_length (n : Nat) (w : BitVec 32) : (bits n w).length = n := by simp [bits]
def Ln : Nat → BitVec 32 → BitVec 32
  | 0, x => x
  | n + 1, x => L (Ln n x)
theorem key (s y : BitVec 32) : L (s ^^^ y) = L (s ^^^ bt (y.getLsbD 0)) ^^^ (y >>> 1) := by
  have hy : y = bt (y.getLsbD 0) ^^^ (y ^^^ bt (y.getLsbD 0)) := by
    rw [BitVec.xor_comm, BitVec.xor_assoc]; simp
  have he : (y ^^^ bt (y.getLsbD 0)).getLsbD 0 = false := by
    rw [BitVec.getLsbD_xor]
    cases y.getLsbD 0 <;> decide
  have hs : (y ^^^ bt (y.getLsbD 0)) >>> 1 = y >>> 1 := by
    rw [BitVec.ushiftRight_xor_distrib]
    have : bt (y.getLsbD 0) >>> 1 = 0#32 := by cases y.getLsbD 0 <;> decide
    rw [this]; simp
  conv => lhs; rw [hy]
  rw [← BitVec.xor_assoc, L_xor, L_even _ he, hs]
theorem run_bits (x w : BitVec 32) : ∀ n, run x (bits n w) ^^^ (w >>> n) = Ln n (x ^^^ w)
  | 0 => by simp [bits, run, Ln]
  | n + 1 => by
    rw [bits_succ, run_append]
    show stp (run x (bits n w)) (w.getLsbD n) ^^^ (w >>> (n + 1)) = L (Ln n (x ^^^ w))
    rw [← run_bits x w n, key]
    have h1 : (w >>> n).getLsbD 0 = w.getLsbD n := by rw [BitVec.getLsbD_ushiftRight]; simp
    have h2 : (w >>> n) >>> 1 = w >>> (n + 1) := by rw [BitVec.shiftRight_add]
    rw [h1, h2]
    rfl
theorem run_low (x w : BitVec 32) (n : Nat) (h : w >>> n = 0#32) : run x (bits n w) = Ln n (x ^^^ w) := by
  rw [← run_bits x w n, h]; simp
/-- Four bits at once, by a table of sixteen. -/
theorem L4 (x : BitVec 32) : Ln 4 x = Ln 4 (x &&& 15#32) ^^^ (x >>> 4) := by
  have h1 := run_bits 0#32 x 4
  have h2 := run_bits 0#32 (x &&& 15#32) 4
  have hb : bits 4 (x &&& 15#32) = bits 4 x := by
    unfold bits
    apply List.map_congr_left
    intro i hi
    have hi4 : i < 4 := List.mem_range.1 hi
    rw [BitVec.getLsbD_and]
    have : ∀ i, i < 4 → (15#32).getLsbD i = true := by decide
    rw [this i hi4]; simp
  have hz : (x &&& 15#32) >>> 4 = 0#32 := by
    apply BitVec.eq_of_getLsbD_eq
    intro i hi
    rw [BitVec.getLsbD_ushiftRight, BitVec.getLsbD_and]
    have : ∀ i, i < 32 → (15#32).getLsbD (4 + i) = false := by decide
    rw [this i hi]; simp
  rw [hb, hz] at h2
  simp only [BitVec.zero_xor, BitVec.xor_zero] at h1 h2
  rw [← h1, h2]
end Go.Proofs.YtklnihlchhhhlaaGreat.Crc
namespace Go.Proofs.YtklnihlchhhhlaaGreat.Crc
open Fw
set_option linter.unusedVariables false
set_option linter.unusedSimpArgs false
theorem t32 (n : Nat) : (UInt32.ofNat n).toNat = n % 2 ^ 32 := by simp
theorem t8 (n : Nat) : (UInt8.ofNat n).toNat = n % 2 ^ 8 := by simp
def u32 (x : BitVec 32) : UInt32 := ⟨x⟩
theorem shr32 (x : UInt32) (n : Nat) (h : n ≤ 32) : UN.shr x n = u32 (x.toBitVec >>> n) := by
  unfold UN.shr u32
  apply UInt32.toNat_inj.1
  show (UInt32.ofNat (x.toNat / 2 ^ min n 32)).toNat = (x.toBitVec >>> n).toNat
  rw [Nat.min_eq_left h, BitVec.toNat_ushiftRight, Nat.shiftRight_eq_div_pow]
  have hx : x.toNat / 2 ^ n < 2 ^ 32 := Nat.lt_of_le_of_lt (Nat.div_le_self _ _) x.toNat_lt
  rw [t32]
  exact Nat.mod_eq_of_lt hx
theorem bit0 (x : UInt32) : ((x &&& 1) == 1) = x.toBitVec.getLsbD 0 := by
  have h : (x &&& 1).toNat = x.toNat % 2 := by
    rw [UInt32.toNat_and]; exact Nat.and_one_is_mod _
  have h2 : x.toBitVec.getLsbD 0 = decide (x.toNat % 2 = 1) := by
    rw [BitVec.getLsbD]; exact Nat.testBit_zero _
  rw [h2]
  by_cases hx : x.toNat % 2 = 1
  · have : x &&& 1 = 1 := UInt32.toNat_inj.1 (by rw [h, hx]; rfl)
    rw [this]; simp [hx]
  · have : x &&& 1 ≠ 1 := fun e => hx (by rw [← h, e]; rfl)
    simp [this, hx]
theorem fours_step (k : Nat) (x : UInt32) (i : Nat) (h : i < 4) : crc_fours.b2 k x (i : Int) = some (.inl (u32 (L x.toBitVec), ((i + 1 : Nat) : Int))) := by
  unfold crc_fours.b2
  simp only [lt1, dec_t (show (i : Int) < 4 by omega), if_true, bit0]
  rw [w64_succ (by omega)]
  have e1 : UN.toN (1 : UInt64) = 1 := rfl
  rw [e1, shr32 x 1 (by decide)]
  unfold L
  cases hb : x.toBitVec.getLsbD 0
  · simp
  · simp; rfl
theorem fours_in (k : Nat) (x : UInt32) (hk : 4 < k) : loopO (fun s => crc_fours.b2 k s.1 s.2) k (x, (0 : Int)) = some (u32 (Ln 4 x.toBitVec)) := by
  refine loop_g (body := fun s : UInt32 × Int => crc_fours.b2 k s.1 s.2) (fun i => (u32 (Ln i x.toBitVec), (i : Int))) 4 (u32 (Ln 4 x.toBitVec)) rfl (fun i hi => by
    show crc_fours.b2 k (u32 (Ln i x.toBitVec)) (i : Int) = _
    rw [fours_step k _ i hi]; rfl) (by
    show crc_fours.b2 k _ ((4 : Nat) : Int) = _
    unfold crc_fours.b2
    simp [lt1]) hk
/-- The table. -/
def FT : Vector UInt32 16 := Vector.ofFn fun i => u32 (Ln 4 (BitVec.ofNat 32 i.1))
theorem fours_eq (k : Nat) (hk : 16 < k) : crc_fours k = some FT := by
  have := loop_g (body := fun s : Vector UInt32 16 × UInt32 => crc_fours.b1 k s.1 s.2) (fun i => (Vector.ofFn fun j => if j.1 < i then u32 (Ln 4 (BitVec.ofNat 32 j.1)) else 0, UInt32.ofNat i)) 16 FT (s0 := (Vector.replicate 16 0, 0)) (by
    simp only [Nat.not_lt_zero, if_false]
    congr 1) (fun i hi => by
    show crc_fours.b1 k _ (UInt32.ofNat i) = _
    unfold crc_fours.b1
    have h1 : UInt32.ofNat i < 16 := by
      rw [UInt32.lt_iff_toNat_lt, t32]
      show i % 2 ^ 32 < 16
      omega
    have h2 : UN.toN (UInt32.ofNat i) = i := by
      show (UInt32.ofNat i).toNat = i
      rw [t32]; exact Nat.mod_eq_of_lt (by omega)
    simp only [lt1, dec_t h1, if_true, fours_in k _ (by omega), Option.bind_some, h2, inN_ok hi]
    congr 3
    · apply Vector.ext
      intro j hj
      simp only [putV, Vector.getElem_set, Vector.getElem_ofFn]
      by_cases e : i = j
      · subst e
        rw [if_pos rfl, if_pos (by omega)]
        rfl
      · rw [if_neg e]
        by_cases e2 : j < i
        · rw [if_pos e2, if_pos (by omega)]
        · rw [if_neg e2, if_neg (by omega)]
    · apply UInt32.toNat_inj.1
      simp) (by
    show crc_fours.b1 k _ (UInt32.ofNat 16) = _
    unfold crc_fours.b1
    have h1 : ¬ UInt32.ofNat 16 < 16 := by decide
    simp only [lt1, dec_f h1, Bool.false_eq_true, if_false]
    congr 2) hk
  unfold crc_fours
  rw [this]
  rfl
/-- Four bits by the table. -/
theorem nibble (x : UInt32) : ∃ h : UN.toN (x &&& 15) < 16, getV FT ⟨UN.toN (x &&& 15), h⟩ ^^^ UN.shr x (UN.toN (4 : UInt64)) = u32 (Ln 4 x.toBitVec) := by
  have h : UN.toN (x &&& 15) < 16 := by
    show (x &&& 15).toNat < 16
    rw [UInt32.toNat_and]
    exact Nat.lt_of_le_of_lt Nat.and_le_right (by decide)
  refine ⟨h, ?_⟩
  have e1 : UN.toN (4 : UInt64) = 4 := rfl
  rw [e1, shr32 x 4 (by decide), L4 x.toBitVec]
  have e2 : getV FT ⟨UN.toN (x &&& 15), h⟩ = u32 (Ln 4 (x.toBitVec &&& 15#32)) := by
    unfold getV FT
    rw [Vector.getElem_ofFn]
    congr 2
    apply BitVec.eq_of_toNat_eq
    rw [BitVec.toNat_ofNat]
    show (x &&& 15).toNat % 2 ^ 32 = _
    rw [Nat.mod_eq_of_lt (UInt32.toNat_lt _)]
    rfl
  rw [e2]; rfl
def byte (c : UInt8) : List Bool := bits 8 (c.toBitVec.setWidth 32)
def bitsL (l : List UInt8) : List Bool := l.flatMap byte
/-- The sum's inner state behind some bytes. -/
def upd (x : BitVec 32) (l : List UInt8) : BitVec 32 := run x (bitsL l)
theorem upd_append (x : BitVec 32) (l m : List UInt8) : upd x (l ++ m) = upd (upd x l) m := by unfold upd bitsL; rw [List.flatMap_append, run_append]
theorem upd_one (x : BitVec 32) (c : UInt8) : upd x [c] = Ln 8 (x ^^^ c.toBitVec.setWidth 32) := by
  unfold upd bitsL
  rw [List.flatMap_cons, List.flatMap_nil, List.append_nil]
  refine run_low x _ 8 ?_
  apply BitVec.eq_of_getLsbD_eq
  intro i hi
  rw [BitVec.getLsbD_ushiftRight, BitVec.getLsbD_setWidth]
  simp
theorem Ln8 (x : BitVec 32) : Ln 8 x = Ln 4 (Ln 4 x) := rfl
def ones : BitVec 32 := BitVec.allOnes 32
/-- The sum of bytes. -/
def csum (l : List UInt8) : UInt32 := u32 (~~~ upd ones l)
theorem not32 (x : UInt32) : UN.not x = u32 (~~~ x.toBitVec) := by
  unfold UN.not u32
  apply UInt32.toNat_inj.1
  show (UInt32.ofNat (2 ^ 32 - 1 - x.toNat)).toNat = (~~~ x.toBitVec).toNat
  rw [t32, BitVec.toNat_not]
  exact Nat.mod_eq_of_lt (by omega)
theorem to8_32 (c : UInt8) : (UN.to c : UInt32) = u32 (c.toBitVec.setWidth 32) := by
  unfold UN.to u32
  apply UInt32.toNat_inj.1
  show (UInt32.ofNat c.toNat).toNat = (c.toBitVec.setWidth 32).toNat
  rw [t32, BitVec.toNat_setWidth]
  rfl
theorem take_succ' {T : Type} {l : List T} {i : Nat} (h : i < l.length) : l.take (i + 1) = l.take i ++ [l[i]] := by rw [List.take_add_one, List.getElem?_eq_getElem h]; rfl
theorem sum_eq (k : Nat) (was : UInt32) (b : List UInt8) (hb : b.length < 9223372036854775807) (hk : 16 < k) (hk2 : b.length < k) : crc_sum k was b = some (u32 (~~~ upd (~~~ was.toBitVec) b)) := by
  have := loop_g (body := fun s : UInt32 × Int => crc_sum.b1 k b FT s.1 s.2) (fun i => (u32 (upd (~~~ was.toBitVec) (b.take i)), (i : Int))) b.length (u32 (upd (~~~ was.toBitVec) b)) (s0 := (u32 (~~~ was.toBitVec), (0 : Int))) rfl (fun i hi => by
    show crc_sum.b1 k b FT (u32 _) (i : Int) = _
    unfold crc_sum.b1
    have h1 : (i : Int) < (b.length : Int) := by omega
    simp only [lt1, dec_t h1, if_true, idxL_lt hi, Option.bind_some, to8_32]
    generalize hy : (u32 (upd (~~~ was.toBitVec) (b.take i)) ^^^ u32 (b[i].toBitVec.setWidth 32)) = y
    obtain ⟨g1, g2⟩ := nibble y
    obtain ⟨g3, g4⟩ := nibble (u32 (Ln 4 y.toBitVec))
    simp only [inN_ok g1, Option.bind_some, g2, inN_ok g3, g4]
    rw [w64_succ (by omega), take_succ' hi, upd_append, upd_one, Ln8]
    subst hy
    rfl) (by
    show crc_sum.b1 k b FT _ ((b.length : Nat) : Int) = _
    unfold crc_sum.b1
    simp [lt1, List.take_length]) hk2
  unfold crc_sum
  rw [fours_eq k hk]
  simp only [Option.bind_some, lt1, not32]
  rw [this]
  rfl
theorem Sum_eq (k : Nat) (l : List (List UInt8)) (hl : l.length < 9223372036854775807) (hb : ∀ b ∈ l, b.length < 9223372036854775807) (hk : 16 < k) (hk2 : l.length < k) (hk3 : ∀ b ∈ l, b.length < k) : crc_Sum k l = some (csum l.flatten) := by
  have := loop_g (body := fun s : UInt32 × Int => crc_Sum.b1 k l s.1 s.2) (fun i => (csum (l.take i).flatten, (i : Int))) l.length (csum l.flatten) (s0 := (0, (0 : Int))) (by
    show (csum [], (0 : Int)) = (0, 0)
    congr 1) (fun i hi => by
    show crc_Sum.b1 k l (csum _) (i : Int) = _
    unfold crc_Sum.b1
    have h1 : (i : Int) < (l.length : Int) := by omega
    simp only [lt1, dec_t h1, if_true, idxL_lt hi, Option.bind_some]
    rw [sum_eq k _ _ (hb _ (List.getElem_mem hi)) hk (hk3 _ (List.getElem_mem hi))]
    simp only [Option.bind_some]
    rw [w64_succ (by omega), take_succ' hi, List.flatten_append, List.flatten_singleton]
    unfold csum
    rw [upd_append]
    simp [u32]) (by
    show crc_Sum.b1 k l _ ((l.length : Nat) : Int) = _
    unfold crc_Sum.b1
    simp [lt1, List.take_length]) hk2
  unfold crc_Sum
  rw [this]
  rfl
end Go.Proofs.YtklnihlchhhhlaaGreat.Crc
namespace Go.Proofs.YtklnihlchhhhlaaGreat
open Go Fw
set_option linter.unusedVariables false
set_option linter.unusedSimpArgs false
theorem take_len {α : Type} (g : α → List UInt8) (l : List α) (i : Nat) (h : i < l.length) : ((l.take i).flatMap g).length + (g l[i]).length ≤ (l.flatMap g).length := by
  have e : l.flatMap g = (l.take i).flatMap g ++ ((l.drop i).flatMap g) := by rw [← List.flatMap_append, List.take_append_drop]
  rw [e, List.drop_eq_getElem_cons h, List.flatMap_cons, List.length_append, List.length_append]
  omega
/-- A loop that writes what each element is. -/
theorem app_loop {α : Type} (l : List α) (g : α → List UInt8) {body : List UInt8 × Int → Option (List UInt8 × Int ⊕ List UInt8)} (x : List UInt8) (hs : ∀ i (h : i < l.length) (y : List UInt8), y.length + (g l[i]).length ≤ x.length + (l.flatMap g).length → body (y, (i : Int)) = some (.inl (y ++ g l[i], ((i + 1 : Nat) : Int)))) (he : ∀ y, body (y, (l.length : Int)) = some (.inr y)) {k : Nat} (hk : l.length < k) : loopO body k (x, (0 : Int)) = some (x ++ l.flatMap g) := by
  refine loop_g (f := fun i => (x ++ (l.take i).flatMap g, ((i : Nat) : Int))) l.length _ (by simp) ?_ ?_ hk
  · intro i hi
    have h1 := take_len g l i hi
    show body (x ++ (l.take i).flatMap g, (i : Int)) = _
    rw [hs i hi _ (by rw [List.length_append]; omega), List.take_succ_eq_append_getElem hi, List.flatMap_append]
    simp
  · show body (x ++ (l.take l.length).flatMap g, (l.length : Int)) = _
    rw [he, List.take_length]
def dotsB (l : List api_Dot) : List UInt8 := put l.length 2 ++ l.flatMap dotB
def destB (d : api_Dest) : List UInt8 := dotB d.Dot ++ blobB d.Device
def eventB (e : api_Event) : List UInt8 := dotB e.ID ++ (blobB e.Topic ++ (blobB e.Payload ++ (vecB e.Past 16 ++ (put e.To.length 2 ++ e.To.flatMap destB))))
def byteI (n : Int) : UInt8 := UN.ofI n
def leavesB (l : List (Vector UInt8 32)) : List UInt8 := l.flatMap fun h => h.toList
def bucketsB (l : List Int) : List UInt8 := byteI (l.length : Int) :: l.flatMap fun n => [byteI n]
def kindB (f : api_Frame) : List UInt8 :=
  if f.Kind = 1 then itemsB f.Items
  else if f.Kind = 2 then put (eventB f.Event).length 4 ++ eventB f.Event
  else if f.Kind = 3 then vecB f.Past 16
  else if f.Kind = 4 then vecB f.Seen 16 ++ (dotsB f.Extra ++ dotsB f.Live)
  else if f.Kind = 5 then f.Hash.toList
  else if f.Kind = 6 then leavesB f.Leaves
  else if f.Kind = 7 then bucketsB f.Buckets ++ (itemsB f.Items ++ (vecB f.Seen 16 ++ (dotsB f.Extra ++ flagB f.Reply)))
  else []
def bodyB (f : api_Frame) : List UInt8 := [byteI f.Kind, byteI f.From, byteI f.To] ++ kindB f
def frameB (f : api_Frame) : List UInt8 := bodyB f ++ put (Crc.csum (bodyB f)).toNat 4
theorem flat_le {α : Type} (g : α → List UInt8) (m : Nat) (l : List α) (h : ∀ x ∈ l, (g x).length ≤ m) : (l.flatMap g).length ≤ m * l.length := by
  induction l with
  | nil => simp
  | cons a l ih =>
    have h1 := h a (List.mem_cons_self ..)
    have h2 := ih fun x hx => h x (List.mem_cons_of_mem _ hx)
    rw [List.flatMap_cons, List.length_append, List.length_cons, Nat.mul_add]; omega
theorem dotsB_len (l : List api_Dot) : (dotsB l).length ≤ 2 + 9 * l.length := by
  have := flat_le dotB 9 l fun d _ => by rw [dotB_len]; exact Nat.le_refl _
  unfold dotsB
  rw [List.length_append, put_length]; omega
theorem itemsB_len (l : List api_Item) (h : ∀ i ∈ l, mayItem i) : (itemsB l).length ≤ 2 + 78 * l.length := by
  have := items_len l h
  unfold itemsB
  rw [List.length_append, put_length]; omega
theorem dotsW (k : Nat) (l : List api_Dot) (hk : l.length + 10 < k) (hl : l.length ≤ 5000) (hm : ∀ d ∈ l, mayDot d) (x : List UInt8) (hx : x.length ≤ 1000000) : frame_writer_dots k l x = some (x ++ dotsB l) := by
  have hp := wPut2 k (by omega) (show l.length ≤ 65535 by omega)
  have hb := flat_le dotB 9 l fun d _ => by rw [dotB_len]; exact Nat.le_refl _
  have hlp := app_loop l dotB (body := fun s => frame_writer_dots.b1 k l s.1 s.2) (k := k) (x ++ put l.length 2) (fun i hi y hy => by
    have hd := wDot k (by omega) (hm _ (List.getElem_mem hi))
    rw [List.length_append, put_length] at hy
    simp only [frame_writer_dots.b1, lt1, dec_t (show (i : Int) < (l.length : Int) by omega), if_true, idxL_lt hi, Option.bind_some, hd, frame_writer_put'2, ap1 (show y.length + (dotB l[i]).length ≤ 100000000 by omega), w64_succ (show i < 9223372036854775807 by omega)]) (fun y => by simp only [frame_writer_dots.b1, lt1, endB, Bool.false_eq_true, if_false]) (by omega)
  simp only [frame_writer_dots, lt1, hp, Option.bind_some, frame_writer_put'2, ap1 (show x.length + (put l.length 2).length ≤ 100000000 by rw [put_length]; omega), hlp, dotsB, List.append_assoc]
theorem itemsW (k : Nat) (l : List api_Item) (hk : l.length + 10 < k) (hl : l.length ≤ 5000) (hm : ∀ d ∈ l, mayItem d) (x : List UInt8) (hx : x.length ≤ 1000000) : frame_writer_items'3 k l x = some (x ++ itemsB l) := by
  have hp := wPut2 k (by omega) (show l.length ≤ 65535 by omega)
  have hb := items_len l hm
  have hlp := app_loop l itemB (body := fun s => frame_writer_items'3.b1 k l s.1 s.2) (k := k) (x ++ put l.length 2) (fun i hi y hy => by
    rw [List.length_append, put_length] at hy
    exact items_step k (by omega) l i hi (hm _ (List.getElem_mem hi)) (by omega) y (by omega)) (fun y => by simp only [frame_writer_items'3.b1, lt1, endB, Bool.false_eq_true, if_false]) (by omega)
  simp only [frame_writer_items'3, lt1, hp, Option.bind_some, frame_writer_put'2, ap1 (show x.length + (put l.length 2).length ≤ 100000000 by rw [put_length]; omega), hlp, itemsB, List.append_assoc]
theorem seenW (k : Nat) (f : api_Frame) (hk : 6000 ≤ k) (hl : f.Extra.length ≤ 5000) (hm : ∀ d ∈ f.Extra, mayDot d) (x : List UInt8) (hx : x.length ≤ 900000) : frame_writer_seen k f x = some (x ++ (vecB f.Seen 16 ++ dotsB f.Extra)) := by
  have hv := vecB_len f.Seen 16 (by omega)
  simp only [frame_writer_seen, wireVec_eq k (by omega), Option.bind_some, frame_writer_put'2, ap1 (show x.length + (vecB f.Seen 16).length ≤ 100000000 by omega), dotsW k f.Extra (by omega) hl hm (x ++ vecB f.Seen 16) (by rw [List.length_append]; omega), List.append_assoc]
theorem sub32 (h : Vector UInt8 32) : subL (Vector.toList h) 0 32 = some h.toList := by
  rw [subL_ok (by omega) (by omega) (by simp)]
  simp only [Option.some.injEq]
  exact List.take_of_length_le (by simp)
theorem leavesW (k : Nat) (f : api_Frame) (hk : 6000 ≤ k) (hl : f.Leaves.length ≤ 300) (x : List UInt8) (hx : x.length ≤ 900000) : frame_writer_leaves k f x = some (x ++ leavesB f.Leaves) := by
  have hb := flat_le (fun h : Vector UInt8 32 => h.toList) 32 f.Leaves fun d _ => by simp
  exact app_loop f.Leaves (fun h => h.toList) (body := fun s => frame_writer_leaves.b1 k f s.1 s.2) (k := k) x (fun i hi y hy => by
    have h32 : (f.Leaves[i].toList).length = 32 := by simp
    simp only [frame_writer_leaves.b1, lt1, dec_t (show (i : Int) < (f.Leaves.length : Int) by omega), if_true, idxL_lt hi, Option.bind_some, sub32, ap1 (show y.length + (f.Leaves[i].toList).length ≤ 100000000 by omega), w64_succ (show i < 9223372036854775807 by omega)]) (fun y => by simp only [frame_writer_leaves.b1, lt1, endB, Bool.false_eq_true, if_false]) (by omega)
theorem bucketsW (k : Nat) (f : api_Frame) (hk : 6000 ≤ k) (hl : f.Buckets.length ≤ 300) (x : List UInt8) (hx : x.length ≤ 900000) : loopO (fun s => frame_writer_buckets.b1 k f s.1 s.2) k (x, (0 : Int)) = some (x ++ f.Buckets.flatMap fun n => [byteI n]) := by
  have hb := flat_le (fun n : Int => [byteI n]) 1 f.Buckets fun d _ => by simp
  exact app_loop f.Buckets (fun n => [byteI n]) (body := fun s => frame_writer_buckets.b1 k f s.1 s.2) (k := k) x (fun i hi y hy => by
    have hy : y.length + 1 ≤ x.length + (f.Buckets.flatMap fun n => [byteI n]).length := hy
    have e := ap1 (x := y) (y := [byteI f.Buckets[i]]) (by show y.length + 1 ≤ _; omega)
    have e' : apL 1 y [(UN.ofI f.Buckets[i] : UInt8)] = some (y ++ [byteI f.Buckets[i]]) := e
    simp only [frame_writer_buckets.b1, lt1, dec_t (show (i : Int) < (f.Buckets.length : Int) by omega), if_true, idxL_lt hi, Option.bind_some, e', w64_succ (show i < 9223372036854775807 by omega)]) (fun y => by simp only [frame_writer_buckets.b1, lt1, endB, Bool.false_eq_true, if_false]) (by omega)
theorem destB_len {d : api_Dest} (h : mayName d.Device) : (destB d).length ≤ 43 := by
  have := h.2
  unfold destB blobB
  rw [List.length_append, List.length_append, dotB_len, put_length]; omega
theorem tg_mem {l : List api_Dest} (h : ∀ i, i < l.length → toP l i) : ∀ d ∈ l, mayDot d.Dot ∧ mayName d.Device := by
  intro d hd
  obtain ⟨i, hi, rfl⟩ := List.getElem_of_mem hd
  have := h i hi
  have e : tg l i = l[i] := by rw [tg, List.getElem?_eq_getElem hi]; rfl
  unfold toP at this
  rw [e] at this
  exact ⟨this.1, this.2.1⟩
theorem dg_mem {l : List api_Dot} (h : ∀ i, i < l.length → mayDot (dg l i)) : ∀ d ∈ l, mayDot d := by
  intro d hd
  obtain ⟨i, hi, rfl⟩ := List.getElem_of_mem hd
  have := h i hi
  have e : dg l i = l[i] := by rw [dg, List.getElem?_eq_getElem hi]; rfl
  rwa [e] at this
theorem eventB_len {e : api_Event} (h : may e) : (eventB e).length ≤ 50000 := by
  obtain ⟨⟨_, _, _, h4, h5, h6⟩, h7⟩ := h
  have h4 := h4.2
  have hb := flat_le destB 43 e.To fun d hd => destB_len (tg_mem h7 d hd).2
  have hv := vecB_len e.Past 16 (by omega)
  unfold eventB blobB
  simp only [List.length_append, dotB_len, put_length, hv]
  omega
theorem event_bytes_eq (k : Nat) (hk : 6000 ≤ k) (e : api_Event) (h : may e) : event_bytes k e = some (eventB e) := by
  obtain ⟨⟨h1, _, _, h4, h5, h6⟩, h7⟩ := h
  have h4' := h4.2
  have hb := flat_le destB 43 e.To fun d hd => destB_len (tg_mem h7 d hd).2
  have hv := vecB_len e.Past 16 (by omega)
  have l1 : (blobB e.Topic).length = 2 + e.Topic.length := by simp [blobB, put_length]
  have l2 : (blobB e.Payload).length = 2 + e.Payload.length := by simp [blobB, put_length]
  have l0 := dotB_len e.ID
  have a0 : apL 1 ([] : List UInt8) (dotB e.ID) = some (dotB e.ID) := by rw [ap1 (by simp; omega)]; rfl
  obtain ⟨y1, hy1⟩ : ∃ y, dotB e.ID ++ blobB e.Topic = y := ⟨_, rfl⟩
  have a1 : apL 1 (dotB e.ID) (blobB e.Topic) = some y1 := by rw [ap1 (by omega), hy1]
  have n1 : y1.length ≤ 60 := by rw [← hy1, List.length_append]; omega
  obtain ⟨y2, hy2⟩ : ∃ y, y1 ++ blobB e.Payload = y := ⟨_, rfl⟩
  have a2 : apL 1 y1 (blobB e.Payload) = some y2 := by rw [ap1 (by omega), hy2]
  have n2 : y2.length ≤ 600 := by rw [← hy2, List.length_append]; omega
  obtain ⟨y3, hy3⟩ : ∃ y, y2 ++ vecB e.Past 16 = y := ⟨_, rfl⟩
  have a3 : apL 1 y2 (vecB e.Past 16) = some y3 := by rw [ap1 (by omega), hy3]
  have n3 : y3.length ≤ 800 := by rw [← hy3, List.length_append]; omega
  obtain ⟨y4, hy4⟩ : ∃ y, y3 ++ put e.To.length 2 = y := ⟨_, rfl⟩
  have a4 : apL 1 y3 (put e.To.length 2) = some y4 := by rw [ap1 (by rw [put_length]; omega), hy4]
  have n4 : y4.length ≤ 900 := by rw [← hy4, List.length_append, put_length]; omega
  have hlp := app_loop e.To destB (body := fun s => event_bytes.b1 k e s.1 s.2) (k := k) y4 (fun i hi y hy => by
    have hm := tg_mem h7 _ (List.getElem_mem hi)
    have hn := hm.2.2
    have lb : (blobB e.To[i].Device).length = 2 + e.To[i].Device.length := by simp [blobB, put_length]
    have ld := dotB_len e.To[i].Dot
    have hy' : y.length + (9 + (2 + e.To[i].Device.length)) ≤ y4.length + (e.To.flatMap destB).length := by
      have : (destB e.To[i]).length = 9 + (2 + e.To[i].Device.length) := by unfold destB; rw [List.length_append, lb, ld]
      rw [← this]; exact hy
    simp only [event_bytes.b1, lt1, dec_t (show (i : Int) < (e.To.length : Int) by omega), if_true, idxL_lt hi, Option.bind_some, wDot k (by omega) hm.1, wBlob k (by omega) (show e.To[i].Device.length ≤ 65535 by omega), event_bytes_1'2, ap1 (show y.length + (dotB e.To[i].Dot).length ≤ 100000000 by omega), ap1 (show (y ++ dotB e.To[i].Dot).length + (blobB e.To[i].Device).length ≤ 100000000 by rw [List.length_append]; omega), w64_succ (show i < 9223372036854775807 by omega), destB, List.append_assoc]) (fun y => by simp only [event_bytes.b1, lt1, endB, Bool.false_eq_true, if_false]) (by omega)
  simp only [event_bytes, lt1, wDot k (by omega) h1, event_bytes_1, event_bytes_1'2, a0, wBlob k (by omega) (show e.Topic.length ≤ 65535 by omega), a1, wBlob k (by omega) (show e.Payload.length ≤ 65535 by omega), a2, wireVec_eq k (by omega), a3, wPut2 k (by omega) (show e.To.length ≤ 65535 by omega), a4, hlp, Option.bind_some]
  rw [← hy4, ← hy3, ← hy2, ← hy1]
  simp only [eventB, List.append_assoc]
theorem wPut4 (k : Nat) (hk : 9 ≤ k) {n : Nat} (h : n ≤ 1000000) : wire_Put k (UN.ofI (n : Int) : UInt64) 4 = some (put n 4, 0) := by
  have e : (UN.ofI (n : Int) : UInt64).toNat = n := ofI_toNat (by omega)
  have hr : room (UN.ofI (n : Int) : UInt64) 4 := ⟨by omega, by omega, by rw [e]; exact Nat.lt_of_le_of_lt h (by decide)⟩
  rw [wirePut_eq k hk _ 4 (by omega) (by omega), if_pos hr, e]; rfl
theorem eventW (k : Nat) (hk : 6000 ≤ k) (f : api_Frame) (h : may f.Event) (x : List UInt8) (hx : x.length ≤ 900000) : frame_writer_event k f x = some (x ++ (put (eventB f.Event).length 4 ++ eventB f.Event)) := by
  have hl := eventB_len h
  have hT := h.1.2.2.2.2.2
  simp only [frame_writer_event, event_Bytes, eventMay_eq k hk f.Event (by omega), decide_eq_true h, lt1, Option.bind_some, Bool.not_true, Bool.false_eq_true, if_false, event_bytes_eq k hk f.Event h, wPut4 k (by omega) (show (eventB f.Event).length ≤ 1000000 by omega), frame_writer_put'2, ap1 (show x.length + (put (eventB f.Event).length 4).length ≤ 100000000 by rw [put_length]; omega), ap1 (show (x ++ put (eventB f.Event).length 4).length + (eventB f.Event).length ≤ 100000000 by rw [List.length_append, put_length]; omega), List.append_assoc]
theorem flagW (k : Nat) (g : Bool) (x : List UInt8) (hx : x.length ≤ 10000000) : frame_writer_flag k g x = some (x ++ flagB g) := by
  cases g
  · simp only [frame_writer_flag, Bool.false_eq_true, if_false, Option.bind_some, ap1 (show x.length + ([0] : List UInt8).length ≤ 100000000 by simp; omega), flagB]
  · simp only [frame_writer_flag, if_true, Option.bind_some, ap1 (show x.length + ([1] : List UInt8).length ≤ 100000000 by simp; omega), flagB]
end Go.Proofs.YtklnihlchhhhlaaGreat
namespace Go.Proofs.YtklnihlchhhhlaaGreat.Crc
open Fw
set_option linter.unusedVariables false
set_option linter.unusedSimpArgs false
def tapsL : List UInt8 := [48, 48, 48, 49, 49, 49, 49, 48, 49, 49, 48, 49, 49, 49, 48, 48, 48, 49, 49, 48, 49, 49, 49, 49, 48, 49, 48, 48, 48, 48, 48, 49]
theorem taps_bit : ∀ i, ∀ h : i < 32, (tapsL[i]'h == 49) = T.getLsbD i := by decide +kernel
def vb (x : BitVec 32) : Vector Bool 32 := Vector.ofFn fun i => x.getLsbD i.1
theorem vb_get (x : BitVec 32) (i : Nat) (h : i < 32) : getV (vb x) ⟨i, h⟩ = x.getLsbD i := by unfold getV vb; rw [Vector.getElem_ofFn]
theorem stp_bit (x : BitVec 32) (b : Bool) (i : Nat) : (stp x b).getLsbD i = (x.getLsbD (i + 1) != ((x.getLsbD 0 != b) && T.getLsbD i)) := by
  unfold stp L
  rw [BitVec.getLsbD_xor, BitVec.getLsbD_ushiftRight, BitVec.getLsbD_xor, BitVec.getLsbD_xor]
  have h1 : (bt b).getLsbD (1 + i) = false := by
    cases b
    · simp [bt]
    · show (1#32).getLsbD (1 + i) = false
      rw [Nat.add_comm]; simp
  have h2 : (bt b).getLsbD 0 = b := by cases b <;> decide
  rw [h1, h2, Nat.add_comm 1 i]
  cases x.getLsbD (i + 1) <;> cases x.getLsbD 0 <;> cases b <;> simp
theorem in_eq (k : Nat) (x : BitVec 32) (b : Bool) (hk : 32 < k) : ref02_Bits_in k (vb x) b = some (vb (stp x b)) := by
  have h1 := loop_g (body := fun s : Vector Bool 32 × Int => ref02_Bits_in.b1 k (vb x) (x.getLsbD 0 != b) s.1 s.2) (fun i => (Vector.ofFn fun j => if j.1 < i then (stp x b).getLsbD j.1 else false, (i : Int))) 32 (vb (stp x b)) (s0 := (Vector.replicate 32 false, (0 : Int))) (by
    refine congrArg (fun z => (z, (0 : Int))) ?_
    apply Vector.ext
    intro j hj
    rw [Vector.getElem_ofFn, Vector.getElem_replicate, if_neg (Nat.not_lt_zero _)]) (fun i hi => by
    show ref02_Bits_in.b1 k (vb x) _ _ (i : Int) = _
    unfold ref02_Bits_in.b1
    have g1 : (i : Int) < 32 := by omega
    have g2 : (if decide ((i : Int) < 31) = true then
            (inV 32 ((i + 1 : Nat) : Int)).bind fun i_12 => some (getV (vb x) i_12)
          else some false) = some (x.getLsbD (i + 1)) := by
      by_cases h : i < 31
      · have h31 : (i : Int) < 31 := by omega
        rw [dec_t h31]
        show ((inV 32 ((i + 1 : Nat) : Int)).bind fun z => some (getV (vb x) z)) = _
        rw [inV_ok (by omega) (show ((i + 1 : Nat) : Int).toNat < 32 by omega)]
        exact congrArg some (vb_get x (i + 1) (by omega))
      · have h31 : ¬ (i : Int) < 31 := by omega
        have hi1 : i + 1 = 32 := by omega
        rw [dec_f h31, hi1]
        exact congrArg some (BitVec.getLsbD_of_ge x 32 (Nat.le_refl _)).symm
    have hput : putV (Vector.ofFn fun j : Fin 32 => if j.1 < i then (stp x b).getLsbD j.1 else false) ⟨((i : Nat) : Int).toNat, by omega⟩ ((stp x b).getLsbD i) = Vector.ofFn fun j : Fin 32 => if j.1 < i + 1 then (stp x b).getLsbD j.1 else false := by
      apply Vector.ext
      intro j hj
      simp only [putV, Int.toNat_natCast, Vector.getElem_set, Vector.getElem_ofFn]
      by_cases e : i = j
      · subst e; simp
      · rw [if_neg e]
        by_cases e2 : j < i
        · rw [if_pos e2, if_pos (by omega)]
        · rw [if_neg e2, if_neg (by omega)]
    have hlt : ((i : Nat) : Int).toNat < 32 := by omega
    have hi' : i < tapsL.length := hi
    have ht : (tapsL[i] == 49) = T.getLsbD i := taps_bit i hi
    have hb := stp_bit x b i
    have hin : inV 32 (i : Int) = some ⟨((i : Nat) : Int).toNat, hlt⟩ := inV_ok (by omega) hlt
    have hix : idxL ([48, 48, 48, 49, 49, 49, 49, 48, 49, 49, 48, 49, 49, 49, 48, 48, 48, 49, 49, 48, 49, 49, 49, 49, 48, 49, 48, 48, 48, 48, 48, 49] : List UInt8) (i : Int) = some tapsL[i] := idxL_lt (xs := tapsL) hi'
    simp only [lt1, dec_t g1, if_true, w64_succ (show i < 9223372036854775807 by omega)]
    rw [g2]
    simp only [Option.bind_some, hix, hin]
    cases hu : (x.getLsbD 0 != b) with
    | true =>
      rw [hu, Bool.true_and, ← ht] at hb
      show some (Sum.inl (putV _ _ (x.getLsbD (i + 1) != (tapsL[i] == 49)), ((i + 1 : Nat) : Int))) = _
      rw [← hb, hput]
    | false =>
      rw [hu, Bool.false_and] at hb
      show some (Sum.inl (putV _ _ (x.getLsbD (i + 1) != false), ((i + 1 : Nat) : Int))) = _
      rw [← hb, hput]) (by
    show ref02_Bits_in.b1 k (vb x) _ _ ((32 : Nat) : Int) = _
    unfold ref02_Bits_in.b1
    rw [dec_f (show ¬ ((32 : Nat) : Int) < 32 by decide)]
    refine congrArg (fun z => some (Sum.inr z)) ?_
    apply Vector.ext
    intro j hj
    unfold vb
    rw [Vector.getElem_ofFn, Vector.getElem_ofFn, if_pos hj]) hk
  have h0 : getV (vb x) ⟨Int.toNat 0, by decide⟩ = x.getLsbD 0 := vb_get x 0 (by decide)
  simp only [ref02_Bits_in, inV_ok (show (0 : Int) ≤ 0 by decide) (show (0 : Int).toNat < 32 by decide), ref02_taps, lt1, Option.bind_some, h0, h1]
/-- One byte, bit by bit. -/
theorem byte_eq (k : Nat) (b : List UInt8) (i : Nat) (hi : i < b.length) (x : BitVec 32) (hk : 32 < k) : loopO (fun s => ref02_Sum.b3 k b (i : Int) s.1 s.2) k (vb x, (0 : Int)) = some (vb (run x (byte b[i]))) := by
  refine loop_g (body := fun s : Vector Bool 32 × Int => ref02_Sum.b3 k b (i : Int) s.1 s.2) (fun j => (vb (run x ((byte b[i]).take j)), (j : Int))) 8 (vb (run x (byte b[i]))) rfl (fun j hj => ?_) ?_ (by omega)
  · show ref02_Sum.b3 k b (i : Int) _ (j : Int) = _
    unfold ref02_Sum.b3
    have h1 : (j : Int) < 8 := by omega
    have e0 : UN.toN (UN.ofI (j : Int) : UInt64) = j := by
      show (UInt64.ofNat ((j : Int) % (2 ^ 64 : Nat)).toNat).toNat = j
      have : ((j : Int) % (2 ^ 64 : Nat)).toNat = j := by omega
      rw [this]
      simp
      omega
    have e1 : (UN.shr b[i] j).toNat = b[i].toNat / 2 ^ j := by
      unfold UN.shr
      show (UInt8.ofNat (b[i].toNat / 2 ^ min j 8)).toNat = _
      rw [t8, Nat.min_eq_left (by omega)]
      exact Nat.mod_eq_of_lt (Nat.lt_of_le_of_lt (Nat.div_le_self _ _) b[i].toNat_lt)
    have e2 : modU (UN.shr b[i] j) (2 : UInt8) = some (UN.shr b[i] j % 2) := rfl
    have hl : (byte b[i]).length = 8 := bits_length 8 _
    have e3 : ((UN.shr b[i] j % 2) == 1) = (byte b[i])[j]'(by omega) := by
      have h3 : (byte b[i])[j]'(by omega) = b[i].toNat.testBit j := by
        simp only [byte, bits, List.getElem_map, List.getElem_range, BitVec.getLsbD_setWidth]
        have : j < 32 := by omega
        simp only [this, decide_true, Bool.true_and]
        rfl
      rw [h3, Nat.testBit_eq_decide_div_mod_eq, ← e1]
      by_cases hp : (UN.shr b[i] j).toNat % 2 = 1
      · have : UN.shr b[i] j % 2 = 1 := UInt8.toNat_inj.1 (by rw [UInt8.toNat_mod]; exact hp)
        rw [this]; simp [hp]
      · have : UN.shr b[i] j % 2 ≠ 1 := fun e => hp (by rw [show (UN.shr b[i] j).toNat % 2 = (UN.shr b[i] j % 2).toNat from by rw [UInt8.toNat_mod]; rfl, e]; rfl)
        simp [this, hp]
    simp only [lt1, dec_t h1, if_true, idxL_lt hi, Option.bind_some, e0, e2, e3, in_eq k _ _ hk]
    rw [w64_succ (by omega), take_succ' (by omega), run_append]
    rfl
  · show ref02_Sum.b3 k b (i : Int) _ ((8 : Nat) : Int) = _
    unfold ref02_Sum.b3
    have hl : (byte b[i]).length = 8 := bits_length 8 _
    have h1 : ¬ ((8 : Nat) : Int) < 8 := by decide
    simp only [lt1, dec_f h1, Bool.false_eq_true, if_false]
    rw [List.take_of_length_le (by omega)]
theorem bytes_eq (k : Nat) (b : List UInt8) (x : BitVec 32) (hb : b.length < 9223372036854775807) (hk : 32 < k) (hk2 : b.length < k) : loopO (fun s => ref02_Sum.b2 k b s.1 s.2) k (vb x, (0 : Int)) = some (vb (upd x b)) := by
  refine loop_g (body := fun s : Vector Bool 32 × Int => ref02_Sum.b2 k b s.1 s.2) (fun j => (vb (upd x (b.take j)), (j : Int))) b.length (vb (upd x b)) rfl (fun j hj => ?_) ?_ hk2
  · show ref02_Sum.b2 k b _ (j : Int) = _
    unfold ref02_Sum.b2
    have h1 : (j : Int) < (b.length : Int) := by omega
    simp only [lt1, dec_t h1, if_true, byte_eq k b j hj _ hk, Option.bind_some]
    rw [w64_succ (by omega), take_succ' hj, upd_append]
    unfold upd bitsL
    simp
  · show ref02_Sum.b2 k b _ ((b.length : Nat) : Int) = _
    unfold ref02_Sum.b2
    simp [lt1]
theorem ones_bit (i : Nat) (h : i < 32) : ones.getLsbD i = true := by revert i; decide
theorem ones_eq (k : Nat) (hk : 32 < k) : loopO (fun s => ref02_Sum.b1 k s.1 s.2) k (Vector.replicate 32 false, (0 : Int)) = some (vb ones) := by
  refine loop_g (body := fun s : Vector Bool 32 × Int => ref02_Sum.b1 k s.1 s.2) (fun j => (Vector.ofFn fun i => decide (i.1 < j), (j : Int))) 32 (vb ones) ?_ (fun j hj => ?_) ?_ hk
  · refine congrArg (fun z => (z, (0 : Int))) ?_
    apply Vector.ext
    intro j hj
    rw [Vector.getElem_ofFn, Vector.getElem_replicate]; simp
  · show ref02_Sum.b1 k _ (j : Int) = _
    unfold ref02_Sum.b1
    have h1 : (j : Int) < 32 := by omega
    have hin : inV 32 (j : Int) = some ⟨((j : Nat) : Int).toNat, by omega⟩ := inV_ok (by omega) (by omega)
    simp only [lt1, dec_t h1, if_true, hin, Option.bind_some]
    rw [w64_succ (by omega)]
    refine congrArg (fun z => some (Sum.inl (z, ((j + 1 : Nat) : Int)))) ?_
    apply Vector.ext
    intro i hi
    simp only [putV, Int.toNat_natCast, Vector.getElem_set, Vector.getElem_ofFn]
    by_cases e : j = i
    · subst e; simp
    · rw [if_neg e]
      by_cases e2 : i < j
      · simp [e2]; omega
      · simp [e2]; omega
  · show ref02_Sum.b1 k _ ((32 : Nat) : Int) = _
    unfold ref02_Sum.b1
    rw [dec_f (show ¬ ((32 : Nat) : Int) < 32 by decide)]
    refine congrArg (fun z => some (Sum.inr z)) ?_
    apply Vector.ext
    intro j hj
    unfold vb
    rw [Vector.getElem_ofFn, Vector.getElem_ofFn, ones_bit j hj]
    simp [hj]
/-- The bits as a number. -/
theorem number_eq (k : Nat) (x : BitVec 32) (hk : 32 < k) : loopO (fun s => ref02_Sum.b4 k (vb x) s.1 s.2) k ((0 : UInt32), (31 : Int)) = some (u32 (~~~ x)) := by
  have hN : (~~~ x).toNat < 2 ^ 32 := (~~~ x).isLt
  refine loop_g (body := fun s : UInt32 × Int => ref02_Sum.b4 k (vb x) s.1 s.2) (fun j => (UInt32.ofNat ((~~~ x).toNat / 2 ^ (32 - j)), 31 - (j : Int))) 32 (u32 (~~~ x)) ?_ (fun j hj => ?_) ?_ hk
  · refine congrArg (fun z => (z, (31 : Int))) ?_
    apply UInt32.toNat_inj.1
    rw [t32, Nat.div_eq_of_lt (by simpa using hN)]
    rfl
  · show ref02_Sum.b4 k (vb x) _ (31 - (j : Int)) = _
    unfold ref02_Sum.b4
    have h1 : (31 : Int) - (j : Int) ≥ 0 := by omega
    have hn : (31 - (j : Int)).toNat = 31 - j := by omega
    have hin : inV 32 (31 - (j : Int)) = some ⟨(31 - (j : Int)).toNat, by omega⟩ := inV_ok (by omega) (by omega)
    have hget : getV (vb x) ⟨(31 - (j : Int)).toNat, by omega⟩ = x.getLsbD (31 - j) := by
      rw [show (⟨(31 - (j : Int)).toNat, by omega⟩ : Fin 32) = ⟨31 - j, by omega⟩ from Fin.ext hn]
      exact vb_get x (31 - j) (by omega)
    have hbit : (!x.getLsbD (31 - j)) = decide ((~~~ x).toNat / 2 ^ (31 - j) % 2 = 1) := by
      have : (~~~ x).getLsbD (31 - j) = !x.getLsbD (31 - j) := by
        rw [BitVec.getLsbD_not]
        simp; omega
      rw [← this]
      exact Nat.testBit_eq_decide_div_mod_eq
    have hdiv : (~~~ x).toNat / 2 ^ (31 - j) / 2 = (~~~ x).toNat / 2 ^ (32 - j) := by
      rw [Nat.div_div_eq_div_mul, ← Nat.pow_succ, show (31 - j).succ = 32 - j by omega]
    have hsm : (~~~ x).toNat / 2 ^ (31 - j) < 2 ^ 32 := Nat.lt_of_le_of_lt (Nat.div_le_self _ _) hN
    have hw : w64 (31 - (j : Int) - 1) = 31 - ((j + 1 : Nat) : Int) := by rw [w64_id (by omega) (by omega)]; omega
    simp only [lt1, dec_t h1, if_true, hin, Option.bind_some, hget, hbit, hw]
    by_cases hp : (~~~ x).toNat / 2 ^ (31 - j) % 2 = 1
    · simp only [hp, decide_true, if_true, Option.bind_some]
      refine congrArg (fun z => some (Sum.inl (z, 31 - ((j + 1 : Nat) : Int)))) ?_
      apply UInt32.toNat_inj.1
      rw [UInt32.toNat_add, UInt32.toNat_mul, t32, t32, show 32 - (j + 1) = 31 - j by omega, ← hdiv]
      have e2 : UInt32.toNat 2 = 2 := rfl
      have e1 : UInt32.toNat 1 = 1 := rfl
      rw [e2, e1]
      omega
    · simp only [hp, decide_false, Bool.false_eq_true, if_false, Option.bind_some]
      refine congrArg (fun z => some (Sum.inl (z, 31 - ((j + 1 : Nat) : Int)))) ?_
      apply UInt32.toNat_inj.1
      rw [UInt32.toNat_mul, t32, t32, show 32 - (j + 1) = 31 - j by omega, ← hdiv]
      have e2 : UInt32.toNat 2 = 2 := rfl
      rw [e2]
      omega
  · show ref02_Sum.b4 k (vb x) _ (31 - ((32 : Nat) : Int)) = _
    unfold ref02_Sum.b4
    rw [dec_f (show ¬ (31 - ((32 : Nat) : Int)) ≥ 0 by decide)]
    refine congrArg (fun z => some (Sum.inr z)) ?_
    apply UInt32.toNat_inj.1
    rw [t32]
    show (~~~ x).toNat / 2 ^ 0 % 2 ^ 32 = (~~~ x).toNat
    rw [Nat.pow_zero, Nat.div_one]
    exact Nat.mod_eq_of_lt hN
theorem refSum_eq (k : Nat) (b : List UInt8) (hb : b.length < 9223372036854775807) (hk : 32 < k) (hk2 : b.length < k) : ref02_Sum k b = some (csum b) := by
  unfold ref02_Sum
  rw [ones_eq k hk]
  simp only [Option.bind_some]
  rw [bytes_eq k b ones hb hk hk2]
  simp only [Option.bind_some]
  rw [number_eq k _ hk]
  rfl
end Go.Proofs.YtklnihlchhhhlaaGreat.Crc
namespace Go.Proofs.YtklnihlchhhhlaaGreat
open Go Fw
set_option linter.unusedVariables false
set_option linter.unusedSimpArgs false
theorem app_loopR {α : Type} (l : List α) (g : α → List (List UInt8)) {body : List (List UInt8) × Int → Option (List (List UInt8) × Int ⊕ List (List UInt8))} (x : List (List UInt8)) (m : Nat) (hg : ∀ a ∈ l, (g a).length ≤ m) (hs : ∀ i (h : i < l.length) (y : List (List UInt8)), y.length ≤ x.length + m * l.length → body (y, (i : Int)) = some (.inl (y ++ g l[i], ((i + 1 : Nat) : Int)))) (he : ∀ y, body (y, (l.length : Int)) = some (.inr y)) {k : Nat} (hk : l.length < k) : loopO body k (x, (0 : Int)) = some (x ++ l.flatMap g) := by
  have hb : ∀ i, i ≤ l.length → ((l.take i).flatMap g).length ≤ m * l.length := by
    intro i hi
    have key : ∀ l' : List α, (∀ a ∈ l', (g a).length ≤ m) → (l'.flatMap g).length ≤ m * l'.length := by
      intro l' h
      induction l' with
      | nil => simp
      | cons a l' ih =>
        have h1 := h a (List.mem_cons_self ..)
        have h2 := ih fun x hx => h x (List.mem_cons_of_mem _ hx)
        rw [List.flatMap_cons, List.length_append, List.length_cons, Nat.mul_add]; omega
    have h1 := key (l.take i) fun a ha => hg a (List.mem_of_mem_take ha)
    rw [List.length_take] at h1
    exact Nat.le_trans h1 (Nat.mul_le_mul_left _ (Nat.min_le_right ..))
  refine loop_g (f := fun i => (x ++ (l.take i).flatMap g, ((i : Nat) : Int))) l.length _ (by simp) ?_ ?_ hk
  · intro i hi
    have h1 := hb i (by omega)
    show body (x ++ (l.take i).flatMap g, (i : Int)) = _
    rw [hs i hi _ (by rw [List.length_append]; omega), List.take_succ_eq_append_getElem hi, List.flatMap_append]
    simp
  · show body (x ++ (l.take l.length).flatMap g, (l.length : Int)) = _
    rw [he, List.take_length]
theorem flat_parts {α : Type} (l : List α) (g : α → List (List UInt8)) : (l.flatMap g).flatten = l.flatMap fun a => (g a).flatten := by
  induction l with
  | nil => rfl
  | cons a l ih => rw [List.flatMap_cons, List.flatMap_cons, List.flatten_append, ih]
theorem parts_len {α : Type} (g : α → List (List UInt8)) (m : Nat) (l : List α) (h : ∀ x ∈ l, (g x).length ≤ m) : (l.flatMap g).length ≤ m * l.length := by
  induction l with
  | nil => simp
  | cons a l ih =>
    have h1 := h a (List.mem_cons_self ..)
    have h2 := ih fun x hx => h x (List.mem_cons_of_mem _ hx)
    rw [List.flatMap_cons, List.length_append, List.length_cons, Nat.mul_add]; omega
theorem refVec_eq (k : Nat) (hk : 17 ≤ k) (v : Vector UInt64 16) : ref01_Vector k v = some (vecB v 16) := by
  have hl : loopO (fun s => ref01_Vector.b1 k v s.1 s.2) k (([] : List UInt8), (0 : Int)) = some (vecB v 16) := by
    refine loop_g (n := 16) (fun i => (vecB v i, ((i : Nat) : Int))) _ (by simp [vecB]) ?_ ?_ (by omega)
    · intro i hi
      have h3 : inV 16 (i : Int) = some ⟨i, hi⟩ := inV_ok (by omega) (by simpa using hi)
      have h4 := vecB_len v i (by omega)
      simp only [ref01_Vector.b1, lt1, dec_t (show (i : Int) < 16 by omega), if_true, h3, getV, refPut8 k (by omega), Option.bind_some, apL_ok (show ((vecB v i).length + (put v[i].toNat 8).length) * 1 ≤ 140737488355328 by rw [put_length]; omega), vecB_succ v i hi, w64_succ (show i < 9223372036854775807 by omega)]
    · simp only [ref01_Vector.b1, lt1, dec_f (show ¬ ((16 : Nat) : Int) < 16 by omega), Bool.false_eq_true, if_false]
  simp only [ref01_Vector, hl, Option.bind_some]
theorem refDots_eq (k : Nat) (l : List api_Dot) (hk : l.length + 10 < k) (hl : l.length ≤ 5000) (hm : ∀ d ∈ l, mayDot d) : ref11_dots k l = some (dotsB l) := by
  have hlp := app_loopR l (fun d => [dotB d]) (body := fun s => ref11_dots.b1 k l s.1 s.2) (k := k) [put l.length 2] 1 (fun _ _ => by simp) (fun i hi y hy => by
    have hy : y.length ≤ 1 + 1 * l.length := hy
    simp only [ref11_dots.b1, lt1, dec_t (show (i : Int) < (l.length : Int) by omega), if_true, idxL_lt hi, Option.bind_some, refDot k (by omega) (hm _ (List.getElem_mem hi)), apR (show y.length + ([dotB l[i]] : List (List UInt8)).length ≤ 1000000 by show y.length + 1 ≤ _; omega), w64_succ (show i < 9223372036854775807 by omega)]) (fun y => by simp only [ref11_dots.b1, lt1, endB, Bool.false_eq_true, if_false]) (by omega)
  have hf : ([put l.length 2] ++ l.flatMap fun d => [dotB d]).flatten = dotsB l := by
    rw [List.flatten_append, flat_parts]; simp [dotsB]
  have hn := parts_len (fun d => [dotB d]) 1 l fun _ _ => by simp
  have hj := refJoin_eq k ([put l.length 2] ++ l.flatMap fun d => [dotB d]) (by rw [List.length_append]; show 1 + _ < k; omega) (by rw [hf]; have := dotsB_len l; omega) (by rw [List.length_append]; show 1 + _ ≤ _; omega)
  rw [hf] at hj
  simp only [ref11_dots, lt1, refPut2 k (by omega) (show l.length ≤ 65535 by omega), Option.bind_some, hlp, hj]
theorem refEvent_eq (k : Nat) (hk : 6000 ≤ k) (e : api_Event) (h : may e) : ref09_Bytes k e = some (eventB e) := by
  have hlen := eventB_len h
  obtain ⟨⟨h1, _, _, h4, h5, h6⟩, h7⟩ := h
  have h4' := h4.2
  have hlp := app_loopR e.To (fun d => [dotB d.Dot, blobB d.Device]) (body := fun s => ref09_Bytes.b1 k e s.1 s.2) (k := k) [dotB e.ID, blobB e.Topic, blobB e.Payload, vecB e.Past 16, put e.To.length 2] 2 (fun _ _ => by simp) (fun i hi y hy => by
    have hy : y.length ≤ 5 + 2 * e.To.length := hy
    have hm := tg_mem h7 _ (List.getElem_mem hi)
    have hn := hm.2.2
    simp only [ref09_Bytes.b1, lt1, dec_t (show (i : Int) < (e.To.length : Int) by omega), if_true, idxL_lt hi, Option.bind_some, refDot k (by omega) hm.1, refBlob k (by omega) (show e.To[i].Device.length ≤ 65535 by omega), apR (show y.length + ([dotB e.To[i].Dot, blobB e.To[i].Device] : List (List UInt8)).length ≤ 1000000 by show y.length + 2 ≤ _; omega), w64_succ (show i < 9223372036854775807 by omega)]) (fun y => by simp only [ref09_Bytes.b1, lt1, endB, Bool.false_eq_true, if_false]) (by omega)
  have hf : ([dotB e.ID, blobB e.Topic, blobB e.Payload, vecB e.Past 16, put e.To.length 2] ++ e.To.flatMap fun d => [dotB d.Dot, blobB d.Device]).flatten = eventB e := by
    rw [List.flatten_append, flat_parts]
    have : (fun d : api_Dest => ([dotB d.Dot, blobB d.Device] : List (List UInt8)).flatten) = destB := by funext d; simp [destB]
    rw [this]
    simp [eventB]
  have hn := parts_len (fun d : api_Dest => [dotB d.Dot, blobB d.Device]) 2 e.To fun _ _ => by simp
  have hj := refJoin_eq k ([dotB e.ID, blobB e.Topic, blobB e.Payload, vecB e.Past 16, put e.To.length 2] ++ e.To.flatMap fun d => [dotB d.Dot, blobB d.Device]) (by rw [List.length_append]; show 5 + _ < k; omega) (by rw [hf]; omega) (by rw [List.length_append]; show 5 + _ ≤ _; omega)
  rw [hf] at hj
  simp only [ref09_Bytes, lt1, refDot k (by omega) h1, refBlob k (by omega) (show e.Topic.length ≤ 65535 by omega), refBlob k (by omega) (show e.Payload.length ≤ 65535 by omega), refVec_eq k (by omega), refPut2 k (by omega) (show e.To.length ≤ 65535 by omega), Option.bind_some, hlp, hj]
theorem refBuckets_eq (k : Nat) (hk : 6000 ≤ k) (f : api_Frame) (hl : f.Buckets.length ≤ 300) : loopO (fun s => ref11_Bytes.b2 k f s.1 s.2) k (([(UN.ofI (f.Buckets.length : Int) : UInt8)] : (List UInt8)), (0 : Int)) = some (bucketsB f.Buckets) := by
  have hb := flat_le (fun n : Int => [byteI n]) 1 f.Buckets fun d _ => by simp
  have h := app_loop f.Buckets (fun n => [byteI n]) (body := fun s => ref11_Bytes.b2 k f s.1 s.2) (k := k) [byteI (f.Buckets.length : Int)] (fun i hi y hy => by
    have hy : y.length + 1 ≤ 1 + (f.Buckets.flatMap fun n => [byteI n]).length := hy
    have e := ap1 (x := y) (y := [byteI f.Buckets[i]]) (by show y.length + 1 ≤ _; omega)
    have e' : apL 1 y [(UN.ofI f.Buckets[i] : UInt8)] = some (y ++ [byteI f.Buckets[i]]) := e
    simp only [ref11_Bytes.b2, lt1, dec_t (show (i : Int) < (f.Buckets.length : Int) by omega), if_true, idxL_lt hi, Option.bind_some, e', w64_succ (show i < 9223372036854775807 by omega)]) (fun y => by simp only [ref11_Bytes.b2, lt1, endB, Bool.false_eq_true, if_false]) (by omega)
  exact h
theorem refLeaves_eq (k : Nat) (hk : 6000 ≤ k) (f : api_Frame) (hl : f.Leaves.length ≤ 300) (x : List UInt8) : loopO (fun s => ref11_Bytes.b1 k f s.1 s.2) k (([x] : (List (List UInt8))), (0 : Int)) = some ([x] ++ f.Leaves.flatMap fun h => [h.toList]) := by
  exact app_loopR f.Leaves (fun h => [h.toList]) (body := fun s => ref11_Bytes.b1 k f s.1 s.2) (k := k) [x] 1 (fun _ _ => by simp) (fun i hi y hy => by
    have hy : y.length ≤ 1 + 1 * f.Leaves.length := hy
    simp only [ref11_Bytes.b1, lt1, dec_t (show (i : Int) < (f.Leaves.length : Int) by omega), if_true, idxL_lt hi, Option.bind_some, sub32, apR (show y.length + ([f.Leaves[i].toList] : List (List UInt8)).length ≤ 1000000 by show y.length + 1 ≤ _; omega), w64_succ (show i < 9223372036854775807 by omega)]) (fun y => by simp only [ref11_Bytes.b1, lt1, endB, Bool.false_eq_true, if_false]) (by omega)
theorem kindB_len {f : api_Frame} (h : kindP f) (hs : sizes f) : (kindB f).length ≤ 500000 := by
  obtain ⟨s1, s2, s3, s4, s5, s6, s7, s8⟩ := hs
  have v1 := vecB_len f.Seen 16 (by omega)
  have v2 := vecB_len f.Past 16 (by omega)
  have d1 := dotsB_len f.Extra
  have d2 := dotsB_len f.Live
  unfold kindP at h
  unfold kindB
  by_cases k1 : f.Kind = 1
  · rw [if_pos k1] at h ⊢
    have := itemsB_len f.Items h.2.2
    have := h.2.1
    omega
  rw [if_neg k1] at h ⊢
  by_cases k2 : f.Kind = 2
  · rw [if_pos k2] at h ⊢
    have := eventB_len h
    rw [List.length_append, put_length]; omega
  rw [if_neg k2] at h ⊢
  by_cases k3 : f.Kind = 3
  · rw [if_pos k3]; omega
  rw [if_neg k3] at h ⊢
  by_cases k4 : f.Kind = 4
  · rw [if_pos k4, List.length_append, List.length_append]; omega
  rw [if_neg k4] at h ⊢
  by_cases k5 : f.Kind = 5
  · rw [if_pos k5]; simp
  rw [if_neg k5] at h ⊢
  by_cases k6 : f.Kind = 6
  · rw [if_pos k6]
    have := flat_le (fun h : Vector UInt8 32 => h.toList) 32 f.Leaves fun d _ => by simp
    unfold leavesB; omega
  rw [if_neg k6] at h ⊢
  by_cases k7 : f.Kind = 7
  · rw [if_pos k7] at h ⊢
    have h1 := itemsB_len f.Items h.2.2.2.1.2
    have h2 := flat_le (fun n : Int => [byteI n]) 1 f.Buckets fun d _ => by simp
    have h3 : (flagB f.Reply).length = 1 := rfl
    have h4 : (bucketsB f.Buckets).length = (f.Buckets.flatMap fun n => [byteI n]).length + 1 := rfl
    rw [List.length_append, List.length_append, List.length_append, List.length_append]; omega
  · rw [if_neg k7]; simp
theorem forms_eq (k : Nat) : frame_forms k = some ([((1 : Int), (frame_form.mk (some 92 : Option Nat) (some 93 : Option Nat))), ((2 : Int), (frame_form.mk (some 94 : Option Nat) (some 95 : Option Nat))), ((3 : Int), (frame_form.mk (some 96 : Option Nat) (some 97 : Option Nat))), ((4 : Int), (frame_form.mk (some 98 : Option Nat) (some 99 : Option Nat))), ((5 : Int), (frame_form.mk (some 100 : Option Nat) (some 101 : Option Nat))), ((6 : Int), (frame_form.mk (some 102 : Option Nat) (some 103 : Option Nat))), ((7 : Int), (frame_form.mk (some 104 : Option Nat) (some 105 : Option Nat)))] : (List (Int × frame_form))) := rfl
theorem live_may {f : api_Frame} (h : ∀ i, i < f.Live.length → riseP f.Live i) : ∀ d ∈ f.Live, mayDot d := dg_mem fun i hi => (h i hi).1
theorem seen_may {v : Vc} {l : List api_Dot} (h : seenP v l) : ∀ d ∈ l, mayDot d := dg_mem fun i hi => (h.2.2 i hi).1.1
theorem to64 (s : UInt32) : (UN.to s : UInt64).toNat = s.toNat := UInt64.toNat_ofNat_of_lt' (Nat.lt_of_lt_of_le s.toNat_lt (by decide))
theorem sumW (k : Nat) (hk : 17 < k) (b : List UInt8) (hb : b.length < k) (hl : b.length ≤ 1000000) : crc_Sum k [b] = some (Crc.csum b) := by
  have h := Crc.Sum_eq k [b] (by simp) (fun x hx => by rw [List.mem_singleton.1 hx]; omega) (by omega) (by simp; omega) (fun x hx => by rw [List.mem_singleton.1 hx]; exact hb)
  rw [h]; simp
theorem frameBytes_eq (k : Nat) (hk : 600000 ≤ k) (f : api_Frame) (h : mayF f) (hs : sizes f) : frame_bytes'4 k f = some (frameB f) := by
  have hK := kindB_len h.2.2 hs
  have hp := h.2.2
  obtain ⟨s1, s2, s3, s4, s5, s6, s7, s8⟩ := hs
  obtain ⟨hh, hh'⟩ : ∃ hh, [byteI f.Kind, byteI f.From, byteI f.To] = hh := ⟨_, rfl⟩
  have hh3 : hh.length = 3 := by rw [← hh']; rfl
  have hbody : bodyB f = hh ++ kindB f := by rw [← hh']; rfl
  have hbl : (bodyB f).length ≤ 500003 := by rw [hbody, List.length_append]; omega
  have tail : (Option.bind (some (bodyB f)) fun b_14 => Option.bind (crc_Sum k ([b_14] : (List (List UInt8)))) fun v_17 => Option.bind (wire_Put k (UN.to v_17 : UInt64) (4 : Int)) fun p => Option.bind (frame_writer_put'3 k p.1 p.2 b_14) fun x_23 => some x_23) = some (frameB f) := by
    have hr : room (UN.to (Crc.csum (bodyB f)) : UInt64) 4 := ⟨by omega, by omega, by rw [to64]; exact Nat.lt_of_lt_of_le (Crc.csum (bodyB f)).toNat_lt (by decide)⟩
    have hp : wire_Put k (UN.to (Crc.csum (bodyB f)) : UInt64) 4 = some (put (Crc.csum (bodyB f)).toNat 4, 0) := by
      rw [wirePut_eq k (by omega) _ 4 (by omega) (by omega), if_pos hr, to64]; rfl
    simp only [Option.bind_some, sumW k (by omega) (bodyB f) (by omega) (by omega), hp, frame_writer_put'3, ap1 (show (bodyB f).length + (put (Crc.csum (bodyB f)).toNat 4).length ≤ 100000000 by rw [put_length]; omega), frameB]
  rw [← tail]
  have hx : ([(UN.ofI f.Kind : UInt8), (UN.ofI f.From : UInt8), (UN.ofI f.To : UInt8)] : List UInt8) = hh := hh'
  unfold frame_bytes'4
  simp only [lt1, forms_eq, Option.bind_some, hx]
  have key : ∀ (w : Option (List UInt8)), w = some (bodyB f) → (Option.bind (Option.bind w fun x_11 => some x_11) fun b_14 => Option.bind (crc_Sum k ([b_14] : (List (List UInt8)))) fun v_17 => Option.bind (wire_Put k (UN.to v_17 : UInt64) (4 : Int)) fun p => Option.bind (frame_writer_put'3 k p.1 p.2 b_14) fun x_23 => some x_23) = Option.bind (crc_Sum k ([bodyB f] : (List (List UInt8)))) fun v_17 => Option.bind (wire_Put k (UN.to v_17 : UInt64) (4 : Int)) fun p => Option.bind (frame_writer_put'3 k p.1 p.2 (bodyB f)) fun x_23 => some x_23 := fun w hw => by rw [hw]; rfl
  refine key _ ?_
  rw [hbody]
  clear tail key hbody hbl hx hh' hK
  unfold kindP at hp
  unfold kindB
  by_cases k1 : f.Kind = 1
  · rw [if_pos k1] at hp ⊢
    rw [show Option.getD (mgetO (some ([((1 : Int), (frame_form.mk (some 92 : Option Nat) (some 93 : Option Nat))), ((2 : Int), (frame_form.mk (some 94 : Option Nat) (some 95 : Option Nat))), ((3 : Int), (frame_form.mk (some 96 : Option Nat) (some 97 : Option Nat))), ((4 : Int), (frame_form.mk (some 98 : Option Nat) (some 99 : Option Nat))), ((5 : Int), (frame_form.mk (some 100 : Option Nat) (some 101 : Option Nat))), ((6 : Int), (frame_form.mk (some 102 : Option Nat) (some 103 : Option Nat))), ((7 : Int), (frame_form.mk (some 104 : Option Nat) (some 105 : Option Nat)))] : (List (Int × frame_form)))) f.Kind) (frame_form.mk (none : Option Nat) (none : Option Nat)) = frame_form.mk (some 92 : Option Nat) (some 93 : Option Nat) by rw [k1]; rfl]
    have := hp.2.1
    simp only [Option.some.injEq, Nat.reduceEqDiff, if_true, if_false, frame_writer_delta'4, itemsW k f.Items (by omega) (by omega) hp.2.2 hh (by omega), Option.bind_some]
  rw [if_neg k1] at hp ⊢
  by_cases k2 : f.Kind = 2
  · rw [if_pos k2] at hp ⊢
    rw [show Option.getD (mgetO (some ([((1 : Int), (frame_form.mk (some 92 : Option Nat) (some 93 : Option Nat))), ((2 : Int), (frame_form.mk (some 94 : Option Nat) (some 95 : Option Nat))), ((3 : Int), (frame_form.mk (some 96 : Option Nat) (some 97 : Option Nat))), ((4 : Int), (frame_form.mk (some 98 : Option Nat) (some 99 : Option Nat))), ((5 : Int), (frame_form.mk (some 100 : Option Nat) (some 101 : Option Nat))), ((6 : Int), (frame_form.mk (some 102 : Option Nat) (some 103 : Option Nat))), ((7 : Int), (frame_form.mk (some 104 : Option Nat) (some 105 : Option Nat)))] : (List (Int × frame_form)))) f.Kind) (frame_form.mk (none : Option Nat) (none : Option Nat)) = frame_form.mk (some 94 : Option Nat) (some 95 : Option Nat) by rw [k2]; rfl]
    simp only [Option.some.injEq, Nat.reduceEqDiff, if_true, if_false, eventW k (by omega) f hp hh (by omega)]
  rw [if_neg k2] at hp ⊢
  by_cases k3 : f.Kind = 3
  · rw [if_pos k3]
    rw [show Option.getD (mgetO (some ([((1 : Int), (frame_form.mk (some 92 : Option Nat) (some 93 : Option Nat))), ((2 : Int), (frame_form.mk (some 94 : Option Nat) (some 95 : Option Nat))), ((3 : Int), (frame_form.mk (some 96 : Option Nat) (some 97 : Option Nat))), ((4 : Int), (frame_form.mk (some 98 : Option Nat) (some 99 : Option Nat))), ((5 : Int), (frame_form.mk (some 100 : Option Nat) (some 101 : Option Nat))), ((6 : Int), (frame_form.mk (some 102 : Option Nat) (some 103 : Option Nat))), ((7 : Int), (frame_form.mk (some 104 : Option Nat) (some 105 : Option Nat)))] : (List (Int × frame_form)))) f.Kind) (frame_form.mk (none : Option Nat) (none : Option Nat)) = frame_form.mk (some 96 : Option Nat) (some 97 : Option Nat) by rw [k3]; rfl]
    have hv := vecB_len f.Past 16 (by omega)
    simp only [Option.some.injEq, Nat.reduceEqDiff, if_true, if_false, frame_writer_have, wireVec_eq k (by omega), frame_writer_put'2, ap1 (show hh.length + (vecB f.Past 16).length ≤ 100000000 by omega), Option.bind_some]
  rw [if_neg k3] at hp ⊢
  by_cases k4 : f.Kind = 4
  · rw [if_pos k4] at hp ⊢
    rw [show Option.getD (mgetO (some ([((1 : Int), (frame_form.mk (some 92 : Option Nat) (some 93 : Option Nat))), ((2 : Int), (frame_form.mk (some 94 : Option Nat) (some 95 : Option Nat))), ((3 : Int), (frame_form.mk (some 96 : Option Nat) (some 97 : Option Nat))), ((4 : Int), (frame_form.mk (some 98 : Option Nat) (some 99 : Option Nat))), ((5 : Int), (frame_form.mk (some 100 : Option Nat) (some 101 : Option Nat))), ((6 : Int), (frame_form.mk (some 102 : Option Nat) (some 103 : Option Nat))), ((7 : Int), (frame_form.mk (some 104 : Option Nat) (some 105 : Option Nat)))] : (List (Int × frame_form)))) f.Kind) (frame_form.mk (none : Option Nat) (none : Option Nat)) = frame_form.mk (some 98 : Option Nat) (some 99 : Option Nat) by rw [k4]; rfl]
    have hv := vecB_len f.Seen 16 (by omega)
    have hd := dotsB_len f.Extra
    simp only [Option.some.injEq, Nat.reduceEqDiff, if_true, if_false, frame_writer_known, seenW k f (by omega) s5 (seen_may hp.2.2) hh (by omega), Option.bind_some, dotsW k f.Live (by omega) s6 (live_may hp.1) (hh ++ (vecB f.Seen 16 ++ dotsB f.Extra)) (by rw [List.length_append, List.length_append]; omega), List.append_assoc]
  rw [if_neg k4] at hp ⊢
  by_cases k5 : f.Kind = 5
  · rw [if_pos k5]
    rw [show Option.getD (mgetO (some ([((1 : Int), (frame_form.mk (some 92 : Option Nat) (some 93 : Option Nat))), ((2 : Int), (frame_form.mk (some 94 : Option Nat) (some 95 : Option Nat))), ((3 : Int), (frame_form.mk (some 96 : Option Nat) (some 97 : Option Nat))), ((4 : Int), (frame_form.mk (some 98 : Option Nat) (some 99 : Option Nat))), ((5 : Int), (frame_form.mk (some 100 : Option Nat) (some 101 : Option Nat))), ((6 : Int), (frame_form.mk (some 102 : Option Nat) (some 103 : Option Nat))), ((7 : Int), (frame_form.mk (some 104 : Option Nat) (some 105 : Option Nat)))] : (List (Int × frame_form)))) f.Kind) (frame_form.mk (none : Option Nat) (none : Option Nat)) = frame_form.mk (some 100 : Option Nat) (some 101 : Option Nat) by rw [k5]; rfl]
    simp only [Option.some.injEq, Nat.reduceEqDiff, if_true, if_false, frame_writer_root, sub32, Option.bind_some, ap1 (show hh.length + (f.Hash.toList).length ≤ 100000000 by simp; omega)]
  rw [if_neg k5] at hp ⊢
  by_cases k6 : f.Kind = 6
  · rw [if_pos k6]
    rw [show Option.getD (mgetO (some ([((1 : Int), (frame_form.mk (some 92 : Option Nat) (some 93 : Option Nat))), ((2 : Int), (frame_form.mk (some 94 : Option Nat) (some 95 : Option Nat))), ((3 : Int), (frame_form.mk (some 96 : Option Nat) (some 97 : Option Nat))), ((4 : Int), (frame_form.mk (some 98 : Option Nat) (some 99 : Option Nat))), ((5 : Int), (frame_form.mk (some 100 : Option Nat) (some 101 : Option Nat))), ((6 : Int), (frame_form.mk (some 102 : Option Nat) (some 103 : Option Nat))), ((7 : Int), (frame_form.mk (some 104 : Option Nat) (some 105 : Option Nat)))] : (List (Int × frame_form)))) f.Kind) (frame_form.mk (none : Option Nat) (none : Option Nat)) = frame_form.mk (some 102 : Option Nat) (some 103 : Option Nat) by rw [k6]; rfl]
    simp only [Option.some.injEq, Nat.reduceEqDiff, if_true, if_false, leavesW k f (by omega) s7 hh (by omega)]
  rw [if_neg k6] at hp ⊢
  by_cases k7 : f.Kind = 7
  · rw [if_pos k7] at hp ⊢
    rw [show Option.getD (mgetO (some ([((1 : Int), (frame_form.mk (some 92 : Option Nat) (some 93 : Option Nat))), ((2 : Int), (frame_form.mk (some 94 : Option Nat) (some 95 : Option Nat))), ((3 : Int), (frame_form.mk (some 96 : Option Nat) (some 97 : Option Nat))), ((4 : Int), (frame_form.mk (some 98 : Option Nat) (some 99 : Option Nat))), ((5 : Int), (frame_form.mk (some 100 : Option Nat) (some 101 : Option Nat))), ((6 : Int), (frame_form.mk (some 102 : Option Nat) (some 103 : Option Nat))), ((7 : Int), (frame_form.mk (some 104 : Option Nat) (some 105 : Option Nat)))] : (List (Int × frame_form)))) f.Kind) (frame_form.mk (none : Option Nat) (none : Option Nat)) = frame_form.mk (some 104 : Option Nat) (some 105 : Option Nat) by rw [k7]; rfl]
    have hv := vecB_len f.Seen 16 (by omega)
    have hd := dotsB_len f.Extra
    have hi := itemsB_len f.Items hp.2.2.2.1.2
    have hi4 := hp.2.2.2.1.1
    have hb := flat_le (fun n : Int => [byteI n]) 1 f.Buckets fun d _ => by simp
    have e1 : apL 1 hh [(UN.ofI (f.Buckets.length : Int) : UInt8)] = some (hh ++ [byteI (f.Buckets.length : Int)]) := ap1 (by show hh.length + 1 ≤ _; omega)
    obtain ⟨y1, hy1⟩ : ∃ y, hh ++ [byteI (f.Buckets.length : Int)] = y := ⟨_, rfl⟩
    have n1 : y1.length = 4 := by rw [← hy1, List.length_append, hh3]; rfl
    obtain ⟨y2, hy2⟩ : ∃ y, y1 ++ (f.Buckets.flatMap fun n => [byteI n]) = y := ⟨_, rfl⟩
    have n2 : y2.length ≤ 400 := by rw [← hy2, List.length_append]; omega
    obtain ⟨y3, hy3⟩ : ∃ y, y2 ++ itemsB f.Items = y := ⟨_, rfl⟩
    have n3 : y3.length ≤ 400000 := by rw [← hy3, List.length_append]; omega
    obtain ⟨y4, hy4⟩ : ∃ y, y3 ++ (vecB f.Seen 16 ++ dotsB f.Extra) = y := ⟨_, rfl⟩
    have n4 : y4.length ≤ 500000 := by rw [← hy4, List.length_append, List.length_append]; omega
    rw [hy1] at e1
    simp only [Option.some.injEq, Nat.reduceEqDiff, if_true, if_false, frame_writer_buckets, lt1, e1, Option.bind_some, bucketsW k f (by omega) s8 y1 (by omega), hy2, itemsW k f.Items (by omega) (by omega) hp.2.2.2.1.2 y2 (by omega), hy3, seenW k f (by omega) s5 (seen_may hp.2.2.2.2) y3 (by omega), hy4, flagW k f.Reply y4 (by omega)]
    rw [← hy4, ← hy3, ← hy2, ← hy1]
    simp [bucketsB]
  rw [if_neg k7] at hp
  exact hp.elim
theorem refBytes_eq (k : Nat) (hk : 600000 ≤ k) (f : api_Frame) (h : mayF f) (hs : sizes f) : ref11_Bytes k f = some (frameB f) := by
  have hK := kindB_len h.2.2 hs
  have hp := h.2.2
  obtain ⟨s1, s2, s3, s4, s5, s6, s7, s8⟩ := hs
  obtain ⟨hh, hh'⟩ : ∃ hh, [byteI f.Kind, byteI f.From, byteI f.To] = hh := ⟨_, rfl⟩
  have hh3 : hh.length = 3 := by rw [← hh']; rfl
  have hbody : bodyB f = hh ++ kindB f := by rw [← hh']; rfl
  have hbl : (bodyB f).length ≤ 500003 := by rw [hbody, List.length_append]; omega
  have tail : ∀ (w : Option (List (List UInt8))) (p : List (List UInt8)), w = some p → p.flatten = bodyB f → p.length ≤ 1000 → (Option.bind w fun x_91 => Option.bind (ref01_Join k x_91) fun v_94 => Option.bind (ref02_Sum k v_94) fun v_97 => Option.bind (ref01_Put k (UN.to v_97 : UInt64) (4 : Int)) fun v_99 => Option.bind (apL 1 v_94 v_99) fun x_101 => some x_101) = some (frameB f) := by
    intro w p hw hf hpl
    have hj := refJoin_eq k p (by omega) (by rw [hf]; omega) (by omega)
    have hpt := refPut_eq k (by omega) (UN.to (Crc.csum (bodyB f)) : UInt64) 4 (by omega)
    rw [to64] at hpt
    have hpt : ref01_Put k (UN.to (Crc.csum (bodyB f)) : UInt64) (4 : Int) = some (put (Crc.csum (bodyB f)).toNat 4) := hpt
    simp only [hw, Option.bind_some, hj, hf, Crc.refSum_eq k (bodyB f) (by omega) (by omega) (by omega), hpt, ap1 (show (bodyB f).length + (put (Crc.csum (bodyB f)).toNat 4).length ≤ 100000000 by rw [put_length]; omega), frameB]
  have hx : ([(UN.ofI f.Kind : UInt8), (UN.ofI f.From : UInt8), (UN.ofI f.To : UInt8)] : List UInt8) = hh := hh'
  unfold ref11_Bytes
  simp only [lt1, hx]
  unfold kindP at hp
  have one : ∀ p : List (List UInt8), p.length ≤ 10 → apL 24 ([hh] : List (List UInt8)) p = some ([hh] ++ p) := fun p hp => apR (by show 1 + p.length ≤ _; omega)
  by_cases k1 : f.Kind = 1
  · rw [if_pos k1] at hp
    have := hp.2.1
    refine tail _ [hh, itemsB f.Items] ?_ (by rw [hbody, kindB, if_pos k1]; simp) (by simp)
    simp only [k1, beq_self_eq_true, if_true, refItems_eq k f.Items (by omega) (by omega) hp.2.2, Option.bind_some, one _ (show ([itemsB f.Items] : List (List UInt8)).length ≤ 10 by simp)]
    rfl
  have e1 : (f.Kind == 1) = false := by simp [k1]
  rw [if_neg k1] at hp
  simp only [e1, Bool.false_eq_true, if_false]
  by_cases k2 : f.Kind = 2
  · rw [if_pos k2] at hp
    have hl := eventB_len hp
    have hp4 : ref01_Put k (UN.ofI ((eventB f.Event).length : Int) : UInt64) 4 = some (put (eventB f.Event).length 4) := by
      have h1 := refPut_eq k (by omega) (UN.ofI ((eventB f.Event).length : Int)) 4 (by omega)
      rw [ofI_toNat (by omega)] at h1
      exact h1
    refine tail _ [hh, put (eventB f.Event).length 4, eventB f.Event] ?_ (by rw [hbody, kindB, if_neg k1, if_pos k2]; simp) (by simp)
    simp only [k2, beq_self_eq_true, if_true, refEvent_eq k (by omega) f.Event hp, hp4, Option.bind_some, one _ (show ([put (eventB f.Event).length 4, eventB f.Event] : List (List UInt8)).length ≤ 10 by simp)]
    rfl
  have e2 : (f.Kind == 2) = false := by simp [k2]
  rw [if_neg k2] at hp
  simp only [e2, Bool.false_eq_true, if_false]
  by_cases k3 : f.Kind = 3
  · refine tail _ [hh, vecB f.Past 16] ?_ (by rw [hbody, kindB, if_neg k1, if_neg k2, if_pos k3]; simp) (by simp)
    simp only [k3, beq_self_eq_true, if_true, refVec_eq k (by omega), Option.bind_some, one _ (show ([vecB f.Past 16] : List (List UInt8)).length ≤ 10 by simp)]
    rfl
  have e3 : (f.Kind == 3) = false := by simp [k3]
  rw [if_neg k3] at hp
  simp only [e3, Bool.false_eq_true, if_false]
  by_cases k4 : f.Kind = 4
  · rw [if_pos k4] at hp
    refine tail _ [hh, vecB f.Seen 16, dotsB f.Extra, dotsB f.Live] ?_ (by rw [hbody, kindB, if_neg k1, if_neg k2, if_neg k3, if_pos k4]; simp) (by simp)
    simp only [k4, beq_self_eq_true, if_true, refVec_eq k (by omega), refDots_eq k f.Extra (by omega) s5 (seen_may hp.2.2), refDots_eq k f.Live (by omega) s6 (live_may hp.1), Option.bind_some, one _ (show ([vecB f.Seen 16, dotsB f.Extra, dotsB f.Live] : List (List UInt8)).length ≤ 10 by simp)]
    rfl
  have e4 : (f.Kind == 4) = false := by simp [k4]
  rw [if_neg k4] at hp
  simp only [e4, Bool.false_eq_true, if_false]
  by_cases k5 : f.Kind = 5
  · refine tail _ [hh, f.Hash.toList] ?_ (by rw [hbody, kindB, if_neg k1, if_neg k2, if_neg k3, if_neg k4, if_pos k5]; simp) (by simp)
    simp only [k5, beq_self_eq_true, if_true, sub32, Option.bind_some, one _ (show ([f.Hash.toList] : List (List UInt8)).length ≤ 10 by simp)]
    rfl
  have e5 : (f.Kind == 5) = false := by simp [k5]
  rw [if_neg k5] at hp
  simp only [e5, Bool.false_eq_true, if_false]
  by_cases k6 : f.Kind = 6
  · have hpl : ([hh] ++ f.Leaves.flatMap fun h => [h.toList]).length ≤ 1000 := by
      have := parts_len (fun h : Vector UInt8 32 => [h.toList]) 1 f.Leaves fun _ _ => by simp
      rw [List.length_append]; show 1 + _ ≤ _; omega
    refine tail _ ([hh] ++ f.Leaves.flatMap fun h => [h.toList]) ?_ (by rw [hbody, kindB, if_neg k1, if_neg k2, if_neg k3, if_neg k4, if_neg k5, if_pos k6, List.flatten_append, flat_parts]; simp [leavesB]) hpl
    simp only [k6, beq_self_eq_true, if_true, refLeaves_eq k (by omega) f s7 hh]
  have e6 : (f.Kind == 6) = false := by simp [k6]
  rw [if_neg k6] at hp
  simp only [e6, Bool.false_eq_true, if_false]
  by_cases k7 : f.Kind = 7
  · rw [if_pos k7] at hp
    have hi4 := hp.2.2.2.1.1
    refine tail _ [hh, bucketsB f.Buckets, itemsB f.Items, vecB f.Seen 16, dotsB f.Extra, flagB f.Reply] ?_ (by rw [hbody, kindB, if_neg k1, if_neg k2, if_neg k3, if_neg k4, if_neg k5, if_neg k6, if_pos k7]; simp) (by simp)
    simp only [k7, beq_self_eq_true, if_true, refBuckets_eq k (by omega) f s8, refItems_eq k f.Items (by omega) (by omega) hp.2.2.2.1.2, refVec_eq k (by omega), refDots_eq k f.Extra (by omega) s5 (seen_may hp.2.2.2.2), refFlag_eq, Option.bind_some, one _ (show ([bucketsB f.Buckets, itemsB f.Items, vecB f.Seen 16, dotsB f.Extra, flagB f.Reply] : List (List UInt8)).length ≤ 10 by simp)]
    rfl
  rw [if_neg k7] at hp
  exact hp.elim
theorem Of0_eq (k : Nat) : frame_Of k = some () := by
  have h1 : apL 1 ([] : List UInt8) ([] : List UInt8) = some [] := apL_ok (by decide)
  have r : wire_Read k ([] : List UInt8) = some [] := by simp only [wire_Read, slices_Clonebyte_byte, h1, Option.bind_some]
  have h2 : (decide ((1 : Int) < 1)) = false := by decide
  have h3 : (decide ((1 : Int) > 8)) = false := by decide
  have t1 : wire_Reader_take k 1 true true ([] : List UInt8) = some ([], false, [], false, true) := by simp [wire_Reader_take, wire_Reader_Failed, lt1]
  have n1 : wire_Reader_Number k (1 : Int) true true ([] : (List UInt8)) = some ((0 : UInt64), (wire_Reader.mk ([] : (List UInt8)) false true)) := by
    simp only [wire_Reader_Number, lt1, h2, h3, cond_false, Option.bind_some, Bool.false_eq_true, if_false, t1, get0]
  have t2 : wire_Reader_take'2 k 1 (wire_Reader.mk ([] : (List UInt8)) false true) = some ([], false, wire_Reader.mk ([] : (List UInt8)) false true) := by simp [wire_Reader_take'2, wire_Reader_Failed'2, lt1]
  have n2 : wire_Reader_Number'2 k (1 : Int) (wire_Reader.mk ([] : (List UInt8)) false true) = some ((0 : UInt64), (wire_Reader.mk ([] : (List UInt8)) false true)) := by
    simp only [wire_Reader_Number'2, lt1, h2, h3, cond_false, Option.bind_some, Bool.false_eq_true, if_false, t2, get0]
  have h4 : (decide ((0 : Int) < 1)) = true := by decide
  have hM : ∀ (a b : Int) (i : List api_Item) (e : api_Event) (p s : Vector UInt64 16) (x l : List api_Dot) (h : Vector UInt8 32) (v : List (Vector UInt8 32)) (bu : List Int) (rp : Bool), frame_May k (api_Frame.mk a (0 : Int) b i e p s x l h v bu rp) = some false := fun a b i e p s x l h v bu rp => by
    simp [frame_May, lt1]
  simp only [frame_Of, r, n1, n2, hM, lt1, Option.bind_some]
  rfl
theorem MaySame_eq (k : Nat) (a : Int) (i : List api_Item) (e : api_Event) (p s : Vector UInt64 16) (x l : List api_Dot) (h : Vector UInt8 32) (v : List (Vector UInt8 32)) (bu : List Int) (rp : Bool) : frame_May k (api_Frame.mk a (1 : Int) (1 : Int) i e p s x l h v bu rp) = some false := by
  have h1 : (decide ((1 : Int) < 1)) = false := by decide
  have h2 : (decide ((1 : Int) > 16)) = false := by decide
  simp [frame_May, lt1]
theorem Name7_eq (k : Nat) : frame_Name k 7 = some ([105, 116, 101, 109, 115] : List UInt8) := by rfl
def F3 : api_Frame := api_Frame.mk (3 : Int) (1 : Int) (2 : Int) ([] : (List api_Item)) (api_Event.mk (api_Dot.mk (0 : Int) (0 : UInt64)) ([] : (List UInt8)) ([] : (List UInt8)) (Vector.replicate 16 (0 : UInt64)) ([] : (List api_Dest))) (Vector.replicate 16 (0 : UInt64)) (Vector.replicate 16 (0 : UInt64)) ([] : (List api_Dot)) ([] : (List api_Dot)) (Vector.replicate 32 (0 : UInt8)) ([] : (List (Vector UInt8 32))) ([] : (List Int)) false
theorem sizes3 : sizes F3 := by unfold sizes F3; simp
theorem may3 : mayF F3 := by
  refine ⟨by decide, by unfold zeroP F3; simp [zeroE], ?_⟩
  show small (Vector.replicate 16 0)
  intro i hi
  simp
theorem known_ok (k : Nat) (hk : 600000 ≤ k) : law11_known'4 k = some true := by
  have hv : (vecB (Vector.replicate 16 (0 : UInt64)) 16).length = 128 := vecB_len _ 16 (by omega)
  obtain ⟨t, ht, hl⟩ : ∃ t, frameB F3 = [3, 1, 2] ++ t ∧ t.length = 132 := ⟨vecB (Vector.replicate 16 (0 : UInt64)) 16 ++ put (Crc.csum (bodyB F3)).toNat 4, by
    show ([byteI 3, byteI 1, byteI 2] ++ vecB (Vector.replicate 16 (0 : UInt64)) 16) ++ put (Crc.csum (bodyB F3)).toNat 4 = _
    rw [List.append_assoc]; rfl, by rw [List.length_append, put_length, hv]⟩
  have hM : frame_May k F3 = some true := by rw [frameMay_eq k (by omega) F3 sizes3, decide_eq_true may3]
  have hB : frame_Bytes'4 k F3 = some ([3, 1, 2] ++ t, 0) := by
    simp only [frame_Bytes'4, hM, lt1, Option.bind_some, Bool.not_true, Bool.false_eq_true, if_false, frameBytes_eq k hk F3 may3 sizes3, ht]
  have hB' := hB
  unfold F3 at hB'
  have hnum : ∀ v, law11_num k v = some () := fun _ => rfl
  have hlen : (((([3, 1, 2] : List UInt8) ++ t).length : Int) == 135) = true := by rw [beq_iff_eq, List.length_append, hl]; rfl
  have i0 : inO (([3, 1, 2] : List UInt8) ++ t) (0 : Int) = some 0 := inO_ok (by omega) (by rw [List.length_append]; simp; omega)
  have i1 : inO (([3, 1, 2] : List UInt8) ++ t) (1 : Int) = some 1 := inO_ok (by omega) (by rw [List.length_append]; simp; omega)
  have i2 : inO (([3, 1, 2] : List UInt8) ++ t) (2 : Int) = some 2 := inO_ok (by omega) (by rw [List.length_append]; simp; omega)
  have g0 : (([3, 1, 2] : List UInt8) ++ t)[0]? = some 3 := rfl
  have g1 : (([3, 1, 2] : List UInt8) ++ t)[1]? = some 1 := rfl
  have g2 : (([3, 1, 2] : List UInt8) ++ t)[2]? = some 2 := rfl
  simp only [law11_known'4, hB', Option.bind_some, Of0_eq, hnum, lt1, beq_self_eq_true, if_true, hlen, i0, i1, i2, g0, g1, g2, MaySame_eq, Bool.not_false, cond_true, Name7_eq]
theorem bytes_main (k : Nat) (hk : 600000 ≤ k) (f : api_Frame) : law11_FrameBytes'4 k f = some true := by
  have hkn := known_ok k (by omega)
  obtain ⟨m, h1, h1'⟩ := much_eq k (by omega) f
  simp only [law11_FrameBytes'4, h1, Option.bind_some, lt1]
  cases m
  case true => simp [hkn]
  have hs := h1' rfl
  simp only [Bool.false_eq_true, if_false, frame_Bytes'4, frameMay_eq k (by omega) f hs, refMay_eq k (by omega) f hs, lt1, Option.bind_some, bne_self_eq_false]
  have hnum : ∀ v, law11_num k v = some () := fun _ => rfl
  by_cases h : mayF f
  · simp only [decide_eq_true h, Bool.not_true, Bool.false_eq_true, if_false, frameBytes_eq k hk f h hs, refBytes_eq k hk f h hs, Option.bind_some, beq_self_eq_true, if_true, hnum, cond_true, hkn]
  · simp only [decide_eq_false h, Bool.not_false, if_true, Option.bind_some, hnum, hkn]
    simp
theorem pure_FrameBytes (y0 : api_Frame) (f0 : ((IntKind.min .i64 ≤ y0.Kind ∧ y0.Kind ≤ IntKind.max .i64) ∧ ((IntKind.min .i64 ≤ y0.From ∧ y0.From ≤ IntKind.max .i64) ∧ ((IntKind.min .i64 ≤ y0.To ∧ y0.To ≤ IntKind.max .i64) ∧ ((List.length y0.Items * 56 ≤ 140737488351232 ∧ ∀ z0 ∈ y0.Items, (((IntKind.min .i64 ≤ z0.Dot.Region ∧ z0.Dot.Region ≤ IntKind.max .i64) ∧ (True ∧ True)) ∧ (((List.length z0.Key.Topic ≤ 140737488351232) ∧ ((List.length z0.Key.Device ≤ 140737488351232) ∧ True)) ∧ (True ∧ True)))) ∧ ((((IntKind.min .i64 ≤ y0.Event.ID.Region ∧ y0.Event.ID.Region ≤ IntKind.max .i64) ∧ (True ∧ True)) ∧ ((List.length y0.Event.Topic ≤ 140737488351232) ∧ ((List.length y0.Event.Payload * 1 ≤ 140737488351232 ∧ ∀ z0 ∈ y0.Event.Payload, True) ∧ ((∀ (i : Nat) (h : i < 16), True) ∧ ((List.length y0.Event.To * 32 ≤ 140737488351232 ∧ ∀ z0 ∈ y0.Event.To, (((IntKind.min .i64 ≤ z0.Dot.Region ∧ z0.Dot.Region ≤ IntKind.max .i64) ∧ (True ∧ True)) ∧ ((List.length z0.Device ≤ 140737488351232) ∧ True))) ∧ True))))) ∧ ((∀ (i : Nat) (h : i < 16), True) ∧ ((∀ (i : Nat) (h : i < 16), True) ∧ ((List.length y0.Extra * 16 ≤ 140737488351232 ∧ ∀ z0 ∈ y0.Extra, ((IntKind.min .i64 ≤ z0.Region ∧ z0.Region ≤ IntKind.max .i64) ∧ (True ∧ True))) ∧ ((List.length y0.Live * 16 ≤ 140737488351232 ∧ ∀ z0 ∈ y0.Live, ((IntKind.min .i64 ≤ z0.Region ∧ z0.Region ≤ IntKind.max .i64) ∧ (True ∧ True))) ∧ ((∀ (i : Nat) (h : i < 32), True) ∧ ((List.length y0.Leaves * 32 ≤ 140737488351232 ∧ ∀ z0 ∈ y0.Leaves, (∀ (i : Nat) (h : i < 32), True)) ∧ ((List.length y0.Buckets * 8 ≤ 140737488351232 ∧ ∀ z0 ∈ y0.Buckets, (IntKind.min .i64 ≤ z0 ∧ z0 ≤ IntKind.max .i64)) ∧ (True ∧ True)))))))))))))) : ∃ k, law11_FrameBytes'4 k y0 = some true := by
  exact ⟨600000, bytes_main 600000 (Nat.le_refl _) y0⟩
end Go.Proofs.YtklnihlchhhhlaaGreat
