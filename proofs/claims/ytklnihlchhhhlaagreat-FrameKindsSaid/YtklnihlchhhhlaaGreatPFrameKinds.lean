/- The plain law FrameKinds: what the functions compute, and that it is as the statement says. -/
import Derived.Test.YtklnihlchhhhlaaGreatFa
import Derived.Test.YtklnihlchhhhlaaGreatFq
import Derived.Test.YtklnihlchhhhlaaGreatS
import Derived.Test.YtklnihlchhhhlaaGreatH
namespace Go.Proofs.YtklnihlchhhhlaaGreat
open Go Fw
set_option linter.unusedVariables false
set_option linter.unusedSimpArgs false
def put (n s : Nat) : List UInt8 := (List.range s).map fun i => UInt8.ofNat (n / 256 ^ (s - 1 - i))
theorem ZaK (n s : Nat) : (put n s).length = s := by simp [put]
theorem ZmF (n s i : Nat) (h : i < s) : (put n s)[i]? = some (UInt8.ofNat (n / 256 ^ (s - 1 - i))) := by simp [put, h]
theorem ZnI (m : Nat) : 2 ^ (8 * m) = 256 ^ m := by rw [Nat.pow_mul]
theorem Zlu {m : Nat} (h : m ≤ 8) : 256 ^ m ≤ 18446744073709551616 := by
  have := Nat.pow_le_pow_right (n := 256) (by decide) h
  exact Nat.le_trans this (by decide)
theorem Zka (n : UInt64) (m : Nat) (h : m ≤ 8) : shrU n ((8 * m : Nat) : Int) = some (UInt64.ofNat (n.toNat / 256 ^ m)) := by
  simp only [shrU, UN.shr]
  rw [if_neg (by omega)]
  have e : min (((8 * m : Nat) : Int)).toNat (UN.bits UInt64) = 8 * m := by
    show min _ 64 = _
    omega
  rw [e, ZnI]
  rfl
theorem Zje (n : UInt64) (m : Nat) : (UInt64.ofNat (n.toNat / 256 ^ m)).toNat = n.toNat / 256 ^ m := UInt64.toNat_ofNat_of_lt' (Nat.lt_of_le_of_lt (Nat.div_le_self _ _) n.toNat_lt)
def room (n : UInt64) (size : Int) : Prop := 1 ≤ size ∧ size ≤ 8 ∧ n.toNat < 256 ^ size.toNat
instance (n : UInt64) (size : Int) : Decidable (room n size) := inferInstanceAs (Decidable (_ ∧ _))
theorem Zjm (k s : Nat) (hk : 9 ≤ k) (hs : s ≤ 8) (n : UInt64) : Zbi (fun x => wire_Put.b1 k (s : Int) n x.1 x.2) k (([] : List UInt8), (0 : Int)) = some (put n.toNat s) := by
  refine Zgg (n := s) (fun i => ((put n.toNat s).take i, ((i : Nat) : Int))) _ (by simp) ?_ ?_ (by omega)
  · intro i hi
    have e1 : w64 ((s : Int) - 1) = ((s - 1 : Nat) : Int) := by rw [ZeJ (by omega) (by omega)]; omega
    have e2 : w64 (((s - 1 : Nat) : Int) - (i : Int)) = ((s - 1 - i : Nat) : Int) := by rw [ZeJ (by omega) (by omega)]; omega
    have e3 : w64 (8 * ((s - 1 - i : Nat) : Int)) = ((8 * (s - 1 - i) : Nat) : Int) := by rw [ZeJ (by omega) (by omega)]; omega
    have e4 : apL 1 ((put n.toNat s).take i) [UN.to (UInt64.ofNat (n.toNat / 256 ^ (s - 1 - i)))] = some ((put n.toNat s).take (i + 1)) := by
      rw [Zhm (by simp [ZaK]; omega)]
      congr 1
      have h1 : (UN.to (UInt64.ofNat (n.toNat / 256 ^ (s - 1 - i))) : UInt8) = UInt8.ofNat (n.toNat / 256 ^ (s - 1 - i)) := by
        show UInt8.ofNat (UInt64.toNat _) = _
        rw [Zje]
      rw [h1]
      have h2 : i < (put n.toNat s).length := by rw [ZaK]; exact hi
      rw [List.take_succ_eq_append_getElem h2]
      congr 2
      have h3 := ZmF n.toNat s i hi
      rw [List.getElem?_eq_getElem h2] at h3
      exact (Option.some.inj h3).symm
    simp only [wire_Put.b1, lt1, Zbs (show (i : Int) < (s : Int) by omega), if_true, e1, e2, e3, Zka n _ (show s - 1 - i ≤ 8 by omega), Option.bind_some, e4, Za1 (show i < 9223372036854775807 by omega)]
  · simp only [wire_Put.b1, lt1, Zbt (show ¬ (s : Int) < (s : Int) by omega), Bool.false_eq_true, if_false]
    rw [List.take_of_length_le (by rw [ZaK]; exact Nat.le_refl _)]
theorem Zei (k : Nat) (hk : 9 ≤ k) (n : UInt64) (size : Int) (hs0 : -9223372036854775808 ≤ size) (hs1 : size ≤ 9223372036854775807) : wire_Put k n size = some (if room n size then (put n.toNat size.toNat, 0) else ([], 2)) := by
  simp only [wire_Put, lt1]
  by_cases h1 : size < 1
  · have : ¬ room n size := fun h => by have := h.1; omega
    simp [h1, this]
  by_cases h2 : size > 8
  · have : ¬ room n size := fun h => by have := h.2.1; omega
    simp [h1, h2, this]
  obtain ⟨s, rfl⟩ : ∃ s : Nat, size = s := ⟨size.toNat, by omega⟩
  have hs : s ≤ 8 := by omega
  have e1 : w64 (8 * (s : Int)) = ((8 * s : Nat) : Int) := by rw [ZeJ (by omega) (by omega)]; omega
  simp only [Zbt h1, Zbt h2, cond_false, e1, Zka n s hs, Bool.not_false, Bool.true_and, Zjm k s hk hs n]
  by_cases h3 : (s : Int) < 8
  · simp only [Zbs h3, if_true, Option.bind_some, cond_true]
    by_cases h4 : n.toNat < 256 ^ s
    · have hr : room n s := ⟨by omega, by omega, by simpa using h4⟩
      have : UInt64.ofNat (n.toNat / 256 ^ s) = 0 := by rw [Nat.div_eq_of_lt h4]; rfl
      simp [this, hr]
    · have hr : ¬ room n s := fun h => h4 (by simpa using h.2.2)
      have : ¬ UInt64.ofNat (n.toNat / 256 ^ s) = 0 := fun h => by
        have h5 := congrArg UInt64.toNat h
        rw [Zje] at h5
        have h6 : 0 < n.toNat / 256 ^ s := Nat.div_pos (by omega) (Nat.pow_pos (by decide))
        have h7 : (0 : UInt64).toNat = 0 := rfl
        omega
      simp [this, hr]
  · have h8 : s = 8 := by omega
    subst h8
    have hr : room n ((8 : Nat) : Int) := ⟨by omega, by omega, by have := n.toNat_lt; simpa using this⟩
    simp only [Zbt h3, Bool.false_eq_true, if_false, Option.bind_some, cond_false, if_pos hr, Int.toNat_natCast]
def getB (b : List UInt8) : Nat := b.foldl (fun a x => a * 256 + x.toNat) 0
theorem Zj4 (b : List UInt8) (x : UInt8) : getB (b ++ [x]) = getB b * 256 + x.toNat := by simp [getB]
theorem ZjS (k : Nat) (hk : 9 ≤ k) (b : List UInt8) (hb : b.length ≤ 140000000000000) : Zda k b = some (if b.length ≤ 65535 then (put b.length 2 ++ b, 0) else ([], 3)) := by
  simp only [Zda, lt1]
  by_cases h : b.length ≤ 65535
  · have h1 : ¬ (b.length : Int) > 65535 := by omega
    have h2 : (UN.ofI (b.length : Int) : UInt64).toNat = b.length := by
      show (UInt64.ofNat ((b.length : Int) % ((2 ^ 64 : Nat) : Int)).toNat).toNat = _
      have : ((b.length : Int) % ((2 ^ 64 : Nat) : Int)).toNat = b.length := by omega
      rw [this]
      exact UInt64.toNat_ofNat_of_lt' (by show _ < 2 ^ 64; omega)
    have hr : room (UN.ofI (b.length : Int) : UInt64) 2 := ⟨by decide, by decide, by rw [h2]; show b.length < 65536; omega⟩
    simp only [h1, decide_false, Bool.false_eq_true, if_false, Zei k hk _ 2 (by omega) (by omega), if_pos hr, Option.bind_some, h2, Zhm (show ((put b.length (2 : Int).toNat).length + b.length) * 1 ≤ 140737488355328 by rw [ZaK]; omega), if_pos h]
    rfl
  · have h1 : (b.length : Int) > 65535 := by omega
    simp only [h1, decide_true, if_true, if_neg h]
theorem Zko (k : Nat) (hk : 9 ≤ k) (d : Zaf) : Zea k d = some (if 0 ≤ d.Region ∧ d.Region ≤ 255 then (UInt8.ofNat d.Region.toNat :: put d.Count.toNat 8, 0) else ([], 2)) := by
  simp only [Zea, lt1]
  by_cases h1 : d.Region < 0
  · have : ¬ (0 ≤ d.Region ∧ d.Region ≤ 255) := by omega
    simp [h1, this]
  · by_cases h2 : d.Region > 255
    · have : ¬ (0 ≤ d.Region ∧ d.Region ≤ 255) := by omega
      simp [h1, h2, this]
    · have h3 : 0 ≤ d.Region ∧ d.Region ≤ 255 := by omega
      have hr : room d.Count 8 := ⟨by omega, by omega, by have := d.Count.toNat_lt; simpa using this⟩
      have h4 : (UN.ofI d.Region : UInt8) = UInt8.ofNat d.Region.toNat := by
        show UInt8.ofNat (d.Region % ((2 ^ 8 : Nat) : Int)).toNat = _
        congr 1
        omega
      simp only [h1, h2, decide_false, Bool.false_eq_true, if_false, Option.bind_some, Zei k hk _ 8 (by omega) (by omega), if_pos hr, if_pos h3, h4, Zhm (show (([UInt8.ofNat d.Region.toNat] : List UInt8).length + (put d.Count.toNat (8 : Int).toNat).length) * 1 ≤ 140737488355328 by rw [ZaK]; show (1 + 8) * 1 ≤ _; omega)]
      rfl
theorem ZlV (n s : Nat) : put n (s + 1) = put (n / 256) s ++ [UInt8.ofNat n] := by
  unfold put
  rw [List.range_succ, List.map_append]
  congr 1
  · apply List.map_congr_left
    intro i hi
    have hi : i < s := by simpa using hi
    rw [show s + 1 - 1 - i = (s - 1 - i) + 1 by omega, Nat.pow_succ, Nat.mul_comm, Nat.div_div_eq_div_mul]
  · simp
theorem ZlQ (s : Nat) : ∀ n, getB (put n s) = n % 256 ^ s := by
  induction s with
  | zero => intro n; simp [put, getB, Nat.mod_one]
  | succ s ih =>
    intro n
    rw [ZlV, Zj4, ih]
    have h1 : (UInt8.ofNat n).toNat = n % 256 := by simp
    rw [h1, Nat.pow_succ, Nat.mul_comm (256 ^ s) 256, Nat.mod_mul]
    omega
def dotB (d : Zaf) : List UInt8 := UInt8.ofNat d.Region.toNat :: put d.Count.toNat 8
theorem ZcX (d : Zaf) : (dotB d).length = 9 := by simp [dotB, ZaK]
def Zed (b : List UInt8) : List UInt8 := put b.length 2 ++ b
def Zh8 (g : Bool) : List UInt8 := [if g then 1 else 0]
def Zjj (i : Zap) : List UInt8 := dotB i.Dot ++ (Zh8 i.Gone ++ if i.Gone then [] else Zed i.Key.Topic ++ Zed i.Key.Device)
def Zh2 (l : List Zap) : List UInt8 := put l.length 2 ++ l.flatMap Zjj
def Zb0 (d : Zaf) : Prop := 1 ≤ d.Region ∧ d.Region ≤ 16 ∧ 1 ≤ d.Count.toNat ∧ d.Count.toNat ≤ 4611686018427387904
instance (d : Zaf) : Decidable (Zb0 d) := inferInstanceAs (Decidable (_ ∧ _))
def Zb4 (s : List UInt8) : Prop := 1 ≤ s.length ∧ s.length ≤ 32
instance (s : List UInt8) : Decidable (Zb4 s) := inferInstanceAs (Decidable (_ ∧ _))
def ZbF (i : Zap) : Prop := Zb0 i.Dot ∧ (if i.Gone then i.Key = ⟨[], []⟩ else Zb4 i.Key.Topic ∧ Zb4 i.Key.Device)
instance (i : Zap) : Decidable (ZbF i) := by unfold ZbF; exact inferInstance
theorem Zji {i : Zap} (h : ZbF i) : (Zjj i).length ≤ 78 := by
  unfold Zjj
  obtain ⟨_, h⟩ := h
  cases hg : i.Gone
  · rw [hg] at h
    have h : Zb4 i.Key.Topic ∧ Zb4 i.Key.Device := h
    have h1 := h.1.2
    have h2 := h.2.2
    simp [Zed, Zh8, ZcX, ZaK]; omega
  · simp [Zh8, ZcX]
theorem Zjo (l : List Zap) (h : ∀ i ∈ l, ZbF i) : (l.flatMap Zjj).length ≤ 78 * l.length := by
  induction l with
  | nil => simp
  | cons i l ih =>
    have h1 := Zji (h i (List.mem_cons_self ..))
    have h2 := ih fun j hj => h j (List.mem_cons_of_mem _ hj)
    rw [List.flatMap_cons, List.length_append, List.length_cons]; omega
theorem ap1 {x y : List UInt8} (h : x.length + y.length ≤ 100000000) : apL 1 x y = some (x ++ y) := Zhm (by omega)
theorem wDot (k : Nat) (hk : 9 ≤ k) {d : Zaf} (h : Zb0 d) : Zea k d = some (dotB d, 0) := by
  rw [Zko k hk, if_pos (by have := h.1; have := h.2.1; omega)]; rfl
theorem Zly (k : Nat) (hk : 9 ≤ k) {b : List UInt8} (h : b.length ≤ 65535) : Zda k b = some (Zed b, 0) := by rw [ZjS k hk b (by omega), if_pos h]; rfl
theorem Zky (k : Nat) (hk : 9 ≤ k) (l : List Zap) (i : Nat) (hi : i < l.length) (hm : ZbF l[i]) (hl : l.length ≤ 65535) (x : List UInt8) (hx : x.length ≤ 10000000) :
    frame_writer_items'3.b1 k l x (i : Int) = some (.inl (x ++ Zjj l[i], ((i + 1 : Nat) : Int))) := by
  obtain ⟨it, hit⟩ : ∃ it, l[i] = it := ⟨_, rfl⟩
  have hd := wDot k hk hm.1
  have hlen := Zji hm
  rw [hit] at hm hd hlen
  have hdl := ZcX it.Dot
  simp only [frame_writer_items'3.b1, lt1, Zbs (show (i : Int) < (l.length : Int) by omega), if_true, Zbz hi, hit, Option.bind_some, hd, ZaO, ap1 (show x.length + (dotB it.Dot).length ≤ 100000000 by omega), ZbB, Za1 (show i < 9223372036854775807 by omega)]
  obtain ⟨_, hm2⟩ := hm
  cases hg : it.Gone
  · rw [hg] at hm2
    have hm2 : Zb4 it.Key.Topic ∧ Zb4 it.Key.Device := hm2
    have h1 := hm2.1.2
    have h2 := hm2.2.2
    have hb1 := Zly k hk (b := it.Key.Topic) (by omega)
    have hb2 := Zly k hk (b := it.Key.Device) (by omega)
    have e1 : (Zed it.Key.Topic).length ≤ 34 := by simp [Zed, ZaK]; omega
    have e2 : (Zed it.Key.Device).length ≤ 34 := by simp [Zed, ZaK]; omega
    simp only [Bool.false_eq_true, if_false, Option.bind_some, Bool.not_false, if_true, hb1, hb2]
    rw [ap1 (by simp; omega), Option.bind_some, Option.bind_some, ap1 (by simp; omega), Option.bind_some, Option.bind_some, ap1 (by simp; omega), Option.bind_some, Option.bind_some, Option.bind_some]
    simp [Zjj, hg, Zh8]
  · simp only [if_true, Option.bind_some, Bool.not_true, Bool.false_eq_true, if_false]
    rw [ap1 (by simp; omega), Option.bind_some, Option.bind_some, Option.bind_some]
    simp [Zjj, hg, Zh8]
theorem ZgB (k : Nat) (d : Zaf) : ZfW k d = some (decide (Zb0 d)) := by
  simp only [ZfW, lt1, Zb0, UInt64.le_iff_toNat_le, show (1 : UInt64).toNat = 1 from rfl, show (4611686018427387904 : UInt64).toNat = 4611686018427387904 from rfl, ge_iff_le]
  by_cases h1 : 1 ≤ d.Region <;> by_cases h2 : d.Region ≤ 16 <;> by_cases h3 : 1 ≤ d.Count.toNat <;> simp [h1, h2, h3]
theorem ZgY (k : Nat) (s : List UInt8) : Zcb k s = some (decide (Zb4 s)) := by
  simp only [Zcb, lt1, Zb4, Option.bind_some, Option.some.injEq]
  by_cases h1 : 1 ≤ s.length
  · by_cases h2 : s.length ≤ 32
    · rw [Zbs (show (s.length : Int) ≥ 1 by omega), Zbs (show (s.length : Int) ≤ 32 by omega)]; simp [h1, h2]
    · rw [Zbs (show (s.length : Int) ≥ 1 by omega), Zbt (show ¬ (s.length : Int) ≤ 32 by omega)]; simp [h1, h2]
  · rw [Zbt (show ¬ (s.length : Int) ≥ 1 by omega)]; simp [h1]
theorem Ziu (k : Nat) (i : Zap) : Zdr k i = some (decide (ZbF i)) := by
  simp only [Zdr, ZgB, ZgY, lt1, Option.bind_some]
  by_cases hg : i.Gone = true
  · by_cases h1 : Zb0 i.Dot
    · by_cases h2 : i.Key = ⟨[], []⟩
      · have e := (ZeM (x := i.Key) (y := ⟨[], []⟩)).2 h2
        have hm : ZbF i := ⟨h1, by rw [if_pos hg]; exact h2⟩
        rw [if_pos hg, e, decide_eq_true hm, decide_eq_true h1]; rfl
      · have e : Zej i.Key ⟨[], []⟩ = false := by
          rw [← Bool.not_eq_true, ZeM]; exact h2
        have hm : ¬ ZbF i := fun h => by have := h.2; rw [if_pos hg] at this; exact h2 this
        rw [if_pos hg, e, decide_eq_false hm, decide_eq_true h1]; rfl
    · have hm : ¬ ZbF i := fun h => h1 h.1
      rw [if_pos hg, decide_eq_false hm, decide_eq_false h1]; rfl
  · rw [if_neg hg]
    by_cases h1 : Zb0 i.Dot
    · by_cases h2 : Zb4 i.Key.Topic
      · by_cases h3 : Zb4 i.Key.Device
        · have hm : ZbF i := ⟨h1, by rw [if_neg hg]; exact ⟨h2, h3⟩⟩
          rw [decide_eq_true hm, decide_eq_true h1, decide_eq_true h2, decide_eq_true h3]; rfl
        · have hm : ¬ ZbF i := fun h => by have := h.2; rw [if_neg hg] at this; exact h3 this.2
          rw [decide_eq_false hm, decide_eq_true h1, decide_eq_true h2, decide_eq_false h3]; rfl
      · have hm : ¬ ZbF i := fun h => by have := h.2; rw [if_neg hg] at this; exact h2 this.1
        rw [decide_eq_false hm, decide_eq_true h1, decide_eq_false h2]; rfl
    · have hm : ¬ ZbF i := fun h => h1 h.1
      rw [decide_eq_false hm, decide_eq_false h1]; rfl
theorem ZjA (k : Nat) (l : List Zap) (hk : l.length < k) (hl : l.length ≤ 1000000) : ZaV k l = some (!decide (∀ i ∈ l, ZbF i)) := by
  have hlp := Zd8 (body := fun s : Int => slices_IndexFuncapi_Item_api_Item.b1 k l s) (I := fun s => 0 ≤ s ∧ s ≤ (l.length : Int) ∧ ∀ j (h : j < l.length), (j : Int) < s → ZbF l[j]) (m := fun s => ((l.length : Int) - s).toNat)
    (fun r => (r = .inl () ∧ ∀ i ∈ l, ZbF i) ∨ ∃ n : Nat, r = .inr (n : Int) ∧ ¬ ∀ i ∈ l, ZbF i) ?_ k (0 : Int) ⟨Int.le_refl _, by omega, fun j h h0 => by omega⟩ (by omega)
  · obtain ⟨r, h1, h2⟩ := hlp
    rcases h2 with ⟨rfl, h2⟩ | ⟨n, rfl, h2⟩
    · simp only [ZaV, slices_IndexFuncapi_Item_api_Item, h1, Option.bind_some, lt1, decide_eq_true h2]; rfl
    · simp only [ZaV, slices_IndexFuncapi_Item_api_Item, h1, Option.bind_some, lt1, decide_eq_false h2, Zbs (show (n : Int) ≥ 0 by omega)]; rfl
  · rintro s ⟨h0, h1, h2⟩
    obtain ⟨i, rfl⟩ : ∃ i : Nat, s = i := ⟨s.toNat, by omega⟩
    by_cases hlt : i < l.length
    · by_cases hm : ZbF l[i]
      · left
        simp only [slices_IndexFuncapi_Item_api_Item.b1, ZdB, Ziu, lt1, Zbs (show (i : Int) < (l.length : Int) by omega), if_true, Zbz hlt, Option.bind_some, decide_eq_true hm, Bool.not_true, Bool.false_eq_true, if_false, Za1 (show i < 9223372036854775807 by omega)]
        refine ⟨_, rfl, ⟨by omega, by omega, fun j hj hji => ?_⟩, by omega⟩
        by_cases hji' : j = i
        · subst hji'; exact hm
        · exact h2 j hj (by omega)
      · right
        simp only [slices_IndexFuncapi_Item_api_Item.b1, ZdB, Ziu, lt1, Zbs (show (i : Int) < (l.length : Int) by omega), if_true, Zbz hlt, Option.bind_some, decide_eq_false hm, Bool.not_false]
        exact ⟨_, rfl, .inr ⟨i, rfl, fun h => hm (h _ (List.getElem_mem hlt))⟩⟩
    · right
      simp only [slices_IndexFuncapi_Item_api_Item.b1, lt1, Zbt (show ¬ (i : Int) < (l.length : Int) by omega), Bool.false_eq_true, if_false]
      refine ⟨_, rfl, .inl ⟨rfl, fun x hx => ?_⟩⟩
      obtain ⟨j, hj, rfl⟩ := List.getElem_of_mem hx
      exact h2 j hj (by omega)
theorem Zjl {m : Nat} (h : m < 18446744073709551616) : (UN.ofI (m : Int) : UInt64).toNat = m := by
  show (UInt64.ofNat ((m : Int) % ((2 ^ 64 : Nat) : Int)).toNat).toNat = _
  have : ((m : Int) % ((2 ^ 64 : Nat) : Int)).toNat = m := by omega
  rw [this]
  exact UInt64.toNat_ofNat_of_lt' h
theorem ZmK (k : Nat) (hk : 9 ≤ k) {n : Nat} (h : n ≤ 65535) : wire_Put k (UN.ofI (n : Int) : UInt64) 2 = some (put n 2, 0) := by
  have e : (UN.ofI (n : Int) : UInt64).toNat = n := Zjl (by omega)
  have hr : room (UN.ofI (n : Int) : UInt64) 2 := ⟨by omega, by omega, by rw [e]; exact Nat.lt_of_le_of_lt h (by decide)⟩
  rw [Zei k hk _ 2 (by omega) (by omega), if_pos hr, e]; rfl
theorem ZlA {body : Int → Option (Int ⊕ (Unit ⊕ Bool))} (n : Nat) (P : Nat → Prop) [DecidablePred P] {b : Bool} (hs : ∀ i, i < n → body (i : Int) = some (if P i then .inl ((i + 1 : Nat) : Int) else .inr (.inr b))) (he : body (n : Int) = some (.inr (.inl ()))) {k : Nat} (hk : n < k) :
    Zbi body k (0 : Int) = some (if ∀ i, i < n → P i then .inl () else .inr b) := by
  have h := Zd8 (body := body) (I := fun s => 0 ≤ s ∧ s ≤ n ∧ ∀ i : Nat, (i : Int) < s → P i) (m := fun s => ((n : Int) - s).toNat) (fun t => t = if ∀ i, i < n → P i then .inl () else .inr b) ?_ k (0 : Int) ⟨Int.le_refl _, by omega, fun i h => by omega⟩ (by omega)
  · obtain ⟨t, h1, rfl⟩ := h
    exact h1
  · rintro s ⟨h0, h1, h2⟩
    obtain ⟨i, rfl⟩ : ∃ i : Nat, s = i := ⟨s.toNat, by omega⟩
    by_cases hlt : i < n
    · rw [hs i hlt]
      by_cases hP : P i
      · left
        refine ⟨_, by rw [if_pos hP], ⟨by omega, by omega, fun j hj => ?_⟩, by omega⟩
        by_cases hji : j = i
        · subst hji; exact hP
        · exact h2 j (by omega)
      · right
        exact ⟨_, by rw [if_neg hP], by rw [if_neg (fun h => hP (h i hlt))]⟩
    · have : i = n := by omega
      subst this
      right
      exact ⟨_, he, by rw [if_pos (fun j hj => h2 j (by omega))]⟩
theorem Zds {α : Type} [DecidableEq α] (a b : α) : (a == b) = decide (a = b) := by by_cases h : a = b <;> simp [h]
theorem ZdZ (k : Nat) (d : Zaf) : Zcc k d = some (decide (Zb0 d)) := by
  simp only [Zcc, lt1, Zb0, UInt64.le_iff_toNat_le, show (1 : UInt64).toNat = 1 from rfl, show (4611686018427387904 : UInt64).toNat = 4611686018427387904 from rfl, ge_iff_le]
  by_cases h1 : 1 ≤ d.Region <;> by_cases h2 : d.Region ≤ 16 <;> by_cases h3 : 1 ≤ d.Count.toNat <;> simp [h1, h2, h3]
theorem Zfu (k : Nat) (s : List UInt8) : Zb6 k s = some (decide (Zb4 s)) := by
  simp only [Zb6, lt1, Zb4, Option.bind_some, Option.some.injEq]
  by_cases h1 : 1 ≤ s.length
  · rw [Zbs (show (s.length : Int) > 0 by omega)]
    by_cases h2 : s.length ≤ 32
    · rw [Zbs (show (s.length : Int) ≤ 32 by omega)]; simp [h1, h2]
    · rw [Zbt (show ¬ (s.length : Int) ≤ 32 by omega)]; simp [h1, h2]
  · rw [Zbt (show ¬ (s.length : Int) > 0 by omega)]; simp [h1]
theorem ZiR (k : Nat) (i : Zap) : Zdv k i = some (decide (ZbF i)) := by
  obtain ⟨d, ⟨t, v⟩, g⟩ := i
  simp only [Zdv, ZdZ, Zfu, lt1, Option.bind_some, ZbF]
  by_cases h1 : Zb0 d
  · simp only [decide_eq_true h1, Bool.not_true, Bool.false_eq_true, if_false, h1, true_and]
    cases g
    · by_cases h2 : Zb4 t <;> simp [h2]
    · by_cases h2 : t = [] <;> by_cases h3 : v = [] <;> simp [h2, h3, Zbq.mk.injEq]
  · simp [h1]
theorem Zlv (k : Nat) (x y : Int) : ZcA k x y = some (if x < y then -1 else if x > y then 1 else 0) := by
  simp only [ZcA, Zd0, lt1, Option.bind_some, bne_self_eq_false, Bool.false_eq_true, if_false, decide_eq_true_eq]
  repeat' split
  all_goals simp_all
theorem ZkZ (k : Nat) (x y : UInt64) : ZbV k x y = some (if x < y then -1 else if y < x then 1 else 0) := by
  simp only [ZbV, ZcP, lt1, Option.bind_some, beq_self_eq_true, Bool.not_true, Bool.false_eq_true, if_false, decide_eq_true_eq]
  repeat' split
  all_goals simp_all
theorem Zmb (k : Nat) (hk : 3 ≤ k) (x y : Int) : cmp_Orint k [x, y] = some (if x ≠ 0 then x else y) := by
  obtain ⟨k, rfl⟩ : ∃ j, k = j + 3 := ⟨k - 3, by omega⟩
  have h1 : w64 1 = 1 := ZeJ (by omega) (by omega)
  have h2 : w64 2 = 2 := ZeJ (by omega) (by omega)
  by_cases hx : x = 0 <;> by_cases hy : y = 0 <;> simp [cmp_Orint, Zbi, cmp_Orint.b1, idxL, lt1, hx, hy, h1, h2]
def less (a b : Zaf) : Prop := a.Region < b.Region ∨ (a.Region = b.Region ∧ a.Count.toNat < b.Count.toNat)
instance (a b : Zaf) : Decidable (less a b) := inferInstanceAs (Decidable (_ ∨ _))
theorem Zk1 (k : Nat) (hk : 3 ≤ k) (a b : Zaf) : Zeh k a b = some (decide (less a b)) := by
  simp only [Zeh, Zlv, ZkZ, Zmb k hk, lt1, Option.bind_some, Option.some.injEq, decide_eq_decide, less, UInt64.lt_iff_toNat_lt]
  by_cases h1 : a.Region < b.Region
  · simp [h1]
  · by_cases h2 : a.Region > b.Region
    · rw [if_neg h1, if_pos h2]; simp [h1, show ¬ a.Region = b.Region from by omega]
    · have h3 : a.Region = b.Region := by omega
      rw [if_neg h1, if_neg h2]
      by_cases h4 : a.Count.toNat < b.Count.toNat
      · simp [h3, h4]
      · by_cases h5 : b.Count.toNat < a.Count.toNat
        · simp [h3, h4, h5]
        · simp [h3, h4, h5]
abbrev Vc := Vector UInt64 16
def at_ (v : Vc) (r : Int) : Nat := (v[(r - 1).toNat]?.getD 0).toNat
theorem ZmC {v : Vc} {r : Int} (h : (r - 1).toNat < 16) : at_ v r = v[(r - 1).toNat].toNat := by unfold at_; rw [Vector.getElem?_eq_getElem h]; rfl
theorem Zhu {r : Int} (h : 1 ≤ r) (h2 : r ≤ 16) : w64 (r - 1) = r - 1 := ZeJ (by omega) (by omega)
def Zem (v : Vc) : Prop := ∀ i (h : i < 16), v[i].toNat ≤ 4611686018427387904
instance (v : Vc) : Decidable (Zem v) := inferInstanceAs (Decidable (∀ i (h : i < 16), v[i].toNat ≤ 4611686018427387904))
theorem Znk (k : Nat) (n : UInt64) : Zcm k n = some (decide (4611686018427387904 < n.toNat)) := by
  simp [Zcm, lt1, UInt64.lt_iff_toNat_lt]
theorem Zjq (k : Nat) (hk : 17 ≤ k) (v : Vc) : ∃ b, Zcn k v = some b ∧ (b = true ↔ Zem v) := by
  have hs : subL (Vector.toList v) 0 16 = some v.toList := by rw [Zg5 (by omega) (by omega) (by simp)]; simp only [Option.some.injEq]; exact List.take_of_length_le (by simp)
  have hlp : ∃ t, Zbi (fun s => slices_IndexFuncuint64_uint64.b1 k v.toList s) k (0 : Int) = some t ∧ ((∃ i, t = .inr i ∧ 0 ≤ i ∧ ¬ Zem v) ∨ (t = .inl () ∧ Zem v)) := by
    refine Zd8 (I := fun s => 0 ≤ s ∧ s ≤ 16 ∧ ∀ (i : Nat) (h : i < 16), (i : Int) < s → v[i].toNat ≤ 4611686018427387904) (m := fun s => (16 - s).toNat) _ ?_ k 0 ⟨by omega, by omega, fun i _ h => by omega⟩ (by show (16 - (0 : Int)).toNat < k; omega)
    intro s ⟨h0, h1, h2⟩
    by_cases hlt : s < 16
    · obtain ⟨i, rfl⟩ : ∃ i : Nat, s = i := ⟨s.toNat, by omega⟩
      have hi : i < 16 := by omega
      have hx : idxL v.toList (i : Int) = some v[i] := by rw [Zbz (by simpa using hi)]; simp
      simp only [slices_IndexFuncuint64_uint64.b1, lt1, Vector.length_toList, Zbs (show (i : Int) < ((16 : Nat) : Int) by omega), if_true, hx, Znk, Option.bind_some, Za1 (show i < 9223372036854775807 by omega)]
      by_cases hb : 4611686018427387904 < v[i].toNat
      · right
        simp only [hb, decide_true, if_true]
        exact ⟨_, rfl, .inl ⟨_, rfl, by omega, fun h => by have := h i hi; omega⟩⟩
      · left
        simp only [hb, decide_false, Bool.false_eq_true, if_false]
        refine ⟨_, rfl, ⟨by omega, by omega, fun j hj hlt => ?_⟩, by omega⟩
        by_cases hji : j = i
        · subst hji; omega
        · exact h2 j hj (by omega)
    · right
      simp only [slices_IndexFuncuint64_uint64.b1, lt1, Vector.length_toList, Zbt (show ¬ s < ((16 : Nat) : Int) by omega), Bool.false_eq_true, if_false]
      exact ⟨_, rfl, .inr ⟨rfl, fun i hi => h2 i hi (by omega)⟩⟩
  obtain ⟨t, h1, h2⟩ := hlp
  simp only [Zcn, hs, Zbn, slices_IndexFuncuint64_uint64, lt1, Option.bind_some, h1]
  rcases h2 with ⟨i, rfl, h3, h4⟩ | ⟨rfl, h4⟩
  · refine ⟨_, rfl, ?_⟩
    simp [h4]; omega
  · refine ⟨_, rfl, ?_⟩
    simp [h4]
theorem Zim (k : Nat) (hk : 17 ≤ k) (v : Vc) : Zcn k v = some (decide (Zem v)) := by
  obtain ⟨b, h1, h2⟩ := Zjq k hk v
  rw [h1]
  cases b
  · rw [decide_eq_false (fun h => by simpa using h2.2 h)]
  · rw [decide_eq_true (h2.1 rfl)]
theorem ZmB (k : Nat) (hk : 17 ≤ k) (v : Vc) : (Option.bind (subL (Vector.toList v) (0 : Int) (16 : Int)) fun v_25 => Option.bind (Za4 k v_25) fun v_26 => lt1 ((!v_26)) fun v_27 => some v_27) = some (decide (Zem v)) := by
  rw [← Zim k hk v]; rfl
def core (e : Zar) : Prop := Zb0 e.ID ∧ Zem e.Past ∧ at_ e.Past e.ID.Region = e.ID.Count.toNat - 1 ∧ Zb4 e.Topic ∧ e.Payload.length ≤ 512 ∧ e.To.length ≤ 1024
theorem Zkw {c : UInt64} (h : 1 ≤ c.toNat) : (c - 1).toNat = c.toNat - 1 := by
  rw [UInt64.toNat_sub_of_le _ _ (by rw [UInt64.le_iff_toNat_le]; exact h)]; rfl
theorem ZlY {a b : UInt64} : (a == b) = decide (a.toNat = b.toNat) := by
  rw [Bool.eq_iff_iff, beq_iff_eq, decide_eq_true_eq, UInt64.toNat_inj]
theorem Zeo (k : Nat) (hk : 17 ≤ k) (v : Vc) : ref09_MayVector k v = some (decide (Zem v)) := by
  have hlp : ∃ t, Zbi (fun s => ref09_MayVector.b1 k v s) k (0 : Int) = some t ∧ ((t = .inr false ∧ ¬ Zem v) ∨ (t = .inl () ∧ Zem v)) := by
    refine Zd8 (I := fun s => 0 ≤ s ∧ s ≤ 16 ∧ ∀ (i : Nat) (h : i < 16), (i : Int) < s → v[i].toNat ≤ 4611686018427387904) (m := fun s => (16 - s).toNat) _ ?_ k 0 ⟨by omega, by omega, fun i _ h => by omega⟩ (by show (16 - (0 : Int)).toNat < k; omega)
    intro s ⟨h0, h1, h2⟩
    by_cases hlt : s < 16
    · obtain ⟨i, rfl⟩ : ∃ i : Nat, s = i := ⟨s.toNat, by omega⟩
      have hi : i < 16 := by omega
      have h3 : inV 16 (i : Int) = some ⟨i, hi⟩ := Ziv (by omega) (by simpa using hi)
      simp only [ref09_MayVector.b1, lt1, Zbs (show (i : Int) < 16 by omega), if_true, h3, Option.bind_some, Za1 (show i < 9223372036854775807 by omega)]
      by_cases hb : 4611686018427387904 < v[i].toNat
      · right
        have : decide ((4611686018427387904 : UInt64) < getV v ⟨i, hi⟩) = true := decide_eq_true (by rw [UInt64.lt_iff_toNat_lt]; exact hb)
        simp only [this, if_true]
        exact ⟨_, rfl, .inl ⟨rfl, fun h => by have := h i hi; omega⟩⟩
      · left
        have : decide ((4611686018427387904 : UInt64) < getV v ⟨i, hi⟩) = false := decide_eq_false (by rw [UInt64.lt_iff_toNat_lt]; exact hb)
        simp only [this, Bool.false_eq_true, if_false]
        refine ⟨_, rfl, ⟨by omega, by omega, fun j hj hlt => ?_⟩, by omega⟩
        by_cases hji : j = i
        · subst hji; omega
        · exact h2 j hj (by omega)
    · right
      simp only [ref09_MayVector.b1, lt1, Zbt (show ¬ s < (16 : Int) by omega), Bool.false_eq_true, if_false]
      exact ⟨_, rfl, .inr ⟨rfl, fun i hi => h2 i hi (by omega)⟩⟩
  obtain ⟨t, h1, h2⟩ := hlp
  simp only [ref09_MayVector, h1, Option.bind_some]
  rcases h2 with ⟨rfl, h4⟩ | ⟨rfl, h4⟩ <;> simp [h4]
theorem Zmt (v c : UInt64) (h : 1 ≤ c.toNat) : (v + 1 == c) = decide (v.toNat = c.toNat - 1) := by
  rw [Bool.eq_iff_iff, beq_iff_eq, decide_eq_true_eq, ← UInt64.toNat_inj, UInt64.toNat_add]
  have h1 := v.toNat_lt
  have h2 := c.toNat_lt
  have h3 : (1 : UInt64).toNat = 1 := rfl
  rw [h3]
  omega
theorem Zdu {β : Type} {body : Int → Option (Int ⊕ (Unit ⊕ β))} (n : Nat) (P : Nat → Prop) [DecidablePred P] {b : β} (hs : ∀ i, i < n → body (i : Int) = some (if P i then .inl ((i + 1 : Nat) : Int) else .inr (.inr b))) (he : body (n : Int) = some (.inr (.inl ()))) {k : Nat} (hk : n < k) :
    Zbi body k (0 : Int) = some (if ∀ i, i < n → P i then .inl () else .inr b) := by
  have h := Zd8 (body := body) (I := fun s => 0 ≤ s ∧ s ≤ n ∧ ∀ i : Nat, (i : Int) < s → P i) (m := fun s => ((n : Int) - s).toNat) (fun t => t = if ∀ i, i < n → P i then .inl () else .inr b) ?_ k (0 : Int) ⟨Int.le_refl _, by omega, fun i h => by omega⟩ (by omega)
  · obtain ⟨t, h1, rfl⟩ := h
    exact h1
  · rintro s ⟨h0, h1, h2⟩
    obtain ⟨i, rfl⟩ : ∃ i : Nat, s = i := ⟨s.toNat, by omega⟩
    by_cases hlt : i < n
    · rw [hs i hlt]
      by_cases hP : P i
      · left
        refine ⟨_, by rw [if_pos hP], ⟨by omega, by omega, fun j hj => ?_⟩, by omega⟩
        by_cases hji : j = i
        · subst hji; exact hP
        · exact h2 j (by omega)
      · right
        exact ⟨_, by rw [if_neg hP], by rw [if_neg (fun h => hP (h i hlt))]⟩
    · have : i = n := by omega
      subst this
      right
      exact ⟨_, he, by rw [if_pos (fun j hj => h2 j (by omega))]⟩
def dg (l : List Zaf) (i : Nat) : Zaf := l[i]?.getD ⟨0, 0⟩
theorem idxD {l : List Zaf} {i : Nat} (h : i < l.length) : idxL l (i : Int) = some (dg l i) := by
  rw [Zbz h, dg, List.getElem?_eq_getElem h]; rfl
theorem Zg1 (k : Nat) (hk : 3 ≤ k) (a b : Zaf) : Zfn k a b = some (decide (less a b)) := by
  rw [← Zk1 k hk a b]
  simp only [Zfn, ZgR, Zeh, Zlv, ZkZ, Zmb k hk, lt1, Option.bind_some]
theorem Zf0 (k : Nat) (a b : Zaf) : Zdn k a b = some (decide (less a b)) := by
  simp only [Zdn, lt1, Option.bind_some, less, UInt64.lt_iff_toNat_lt]
  by_cases h1 : a.Region < b.Region <;> by_cases h2 : a.Region = b.Region <;> simp [h1, h2]
theorem ZdQ (i : Nat) (h : i < 9223372036854775807) : w64 (((i + 1 : Nat) : Int) - 1) = (i : Int) := by rw [ZeJ (by omega) (by omega)]; omega
def ZfD (l : List Zaf) (i : Nat) : Prop := Zb0 (dg l i) ∧ (i = 0 ∨ less (dg l (i - 1)) (dg l i))
instance (l : List Zaf) : DecidablePred (ZfD l) := fun i => inferInstanceAs (Decidable (_ ∧ _))
def exP (v : Vc) (l : List Zaf) (i : Nat) : Prop := ZfD l i ∧ at_ v (dg l i).Region + 1 < (dg l i).Count.toNat
instance (v : Vc) (l : List Zaf) : DecidablePred (exP v l) := fun i => inferInstanceAs (Decidable (_ ∧ _))
theorem ZlJ {v : Vc} (hv : Zem v) {r : Int} : at_ v r ≤ 4611686018427387904 := by
  unfold at_
  by_cases h : (r - 1).toNat < 16
  · rw [Vector.getElem?_eq_getElem h]; exact hv _ h
  · rw [Vector.getElem?_eq_none (by omega)]; decide
theorem Zj3 {v : Vc} (hv : Zem v) {d : Zaf} (h : (d.Region - 1).toNat < 16) : decide (d.Count ≤ getV v ⟨(d.Region - 1).toNat, h⟩ + 1) = !decide (at_ v d.Region + 1 < d.Count.toNat) := by
  have h1 := ZlJ hv (r := d.Region)
  have h2 : (getV v ⟨(d.Region - 1).toNat, h⟩).toNat = at_ v d.Region := by rw [ZmC h]; rfl
  have h3 : (getV v ⟨(d.Region - 1).toNat, h⟩ + 1).toNat = at_ v d.Region + 1 := by
    rw [UInt64.toNat_add, h2, show (1 : UInt64).toNat = 1 from rfl]; omega
  rw [← decide_not, decide_eq_decide, UInt64.le_iff_toNat_le, h3]
  omega
theorem ofB2 (k : Nat) (hk : 3 ≤ k) {v : Vc} (hv : Zem v) (l : List Zaf) (i : Nat) (hi : i < l.length) (hl : l.length ≤ 1000000) : ctx_Of.b2 k l v (i : Int) = some (if exP v l i then .inl ((i + 1 : Nat) : Int) else .inr (.inr (.inr 2))) := by
  simp only [ctx_Of.b2, lt1, Zbs (show (i : Int) < (l.length : Int) by omega), if_true, idxD hi, Option.bind_some, ZgB, Za1 (show i < 9223372036854775807 by omega)]
  by_cases hd : Zb0 (dg l i)
  case neg => simp [hd, exP, ZfD]
  have g1 := hd.1
  have g2 := hd.2.1
  have h16 : ((dg l i).Region - 1).toNat < 16 := by omega
  simp only [decide_eq_true hd, Bool.not_true, Bool.not_false, Zhu g1 g2, Ziv (show 0 ≤ (dg l i).Region - 1 by omega) h16, Option.bind_some, Zj3 hv h16, exP, ZfD, hd, true_and]
  by_cases h0 : i = 0
  · subst h0
    by_cases hc : at_ v (dg l 0).Region + 1 < (dg l 0).Count.toNat <;> simp [hc]
  · obtain ⟨j, rfl⟩ : ∃ j, i = j + 1 := ⟨i - 1, by omega⟩
    have e : decide (((j + 1 : Nat) : Int) > 0) = true := decide_eq_true (by omega)
    simp only [e, ZdQ j (by omega), idxD (show j < l.length by omega), Zg1 k hk, Bool.and_true, Option.bind_some, if_true, cond_true, cond_false, Nat.add_sub_cancel, h0, false_or]
    by_cases hL : less (dg l j) (dg l (j + 1)) <;> by_cases hc : at_ v (dg l (j + 1)).Region + 1 < (dg l (j + 1)).Count.toNat <;> simp [hL, hc]
theorem Zm2 (k : Nat) {v : Vc} (hv : Zem v) (l : List Zaf) (i : Nat) (hi : i < l.length) (hl : l.length ≤ 1000000) : ref11_Seen.b1 k l v (i : Int) = some (if exP v l i then .inl ((i + 1 : Nat) : Int) else .inr (.inr false)) := by
  simp only [ref11_Seen.b1, lt1, Zbs (show (i : Int) < (l.length : Int) by omega), if_true, idxD hi, Option.bind_some, ZdZ, Za1 (show i < 9223372036854775807 by omega)]
  by_cases hd : Zb0 (dg l i)
  case neg => simp [hd, exP, ZfD]
  have g1 := hd.1
  have g2 := hd.2.1
  have h16 : ((dg l i).Region - 1).toNat < 16 := by omega
  simp only [decide_eq_true hd, Bool.not_true, Bool.not_false, Zhu g1 g2, Ziv (show 0 ≤ (dg l i).Region - 1 by omega) h16, Option.bind_some, Zj3 hv h16, exP, ZfD, hd, true_and]
  by_cases h0 : i = 0
  · subst h0
    by_cases hc : at_ v (dg l 0).Region + 1 < (dg l 0).Count.toNat <;> simp [hc]
  · obtain ⟨j, rfl⟩ : ∃ j, i = j + 1 := ⟨i - 1, by omega⟩
    have e : decide (((j + 1 : Nat) : Int) > 0) = true := decide_eq_true (by omega)
    simp only [e, ZdQ j (by omega), idxD (show j < l.length by omega), Zf0, Bool.and_true, Option.bind_some, if_true, cond_true, cond_false, Nat.add_sub_cancel, h0, false_or]
    by_cases hL : less (dg l j) (dg l (j + 1)) <;> by_cases hc : at_ v (dg l (j + 1)).Region + 1 < (dg l (j + 1)).Count.toNat <;> simp [hL, hc]
theorem ofB1 (k : Nat) (v : Vc) (i : Nat) (hi : i < 16) : ctx_Of.b1 k v (i : Int) = some (if v[i].toNat ≤ 4611686018427387904 then .inl ((i + 1 : Nat) : Int) else .inr (.inr (.inr 2))) := by
  have h3 : idxV v (i : Int) = some v[i] := by simp [idxV, hi]
  simp only [ctx_Of.b1, lt1, Zbs (show (i : Int) < 16 by omega), if_true, h3, Option.bind_some, Za1 (show i < 9223372036854775807 by omega)]
  by_cases hb : v[i].toNat ≤ 4611686018427387904
  · have : decide ((4611686018427387904 : UInt64) < v[i]) = false := decide_eq_false (by rw [UInt64.lt_iff_toNat_lt]; show ¬ 4611686018427387904 < _; omega)
    simp [this, hb]
  · have : decide ((4611686018427387904 : UInt64) < v[i]) = true := decide_eq_true (by rw [UInt64.lt_iff_toNat_lt]; show 4611686018427387904 < _; omega)
    simp [this, hb]
def Zgs (v : Vc) (l : List Zaf) : Prop := Zem v ∧ l.length ≤ 4096 ∧ ∀ i, i < l.length → exP v l i
instance (v : Vc) (l : List Zaf) : Decidable (Zgs v l) := inferInstanceAs (Decidable (_ ∧ _ ∧ _))
theorem Zhk (k : Nat) (hk : 6000 ≤ k) (f : Zah) (hl : f.Extra.length ≤ 5000) : Zef k f = some (decide (Zgs f.Seen f.Extra)) := by
  have h1 := Zdu (body := fun s => ctx_Of.b1 k f.Seen s) (k := k) 16 (fun i => f.Seen.toList[i]?.all fun x => decide (x.toNat ≤ 4611686018427387904)) (b := (.inr 2 : List Zaf ⊕ Int)) (fun i hi => by
    rw [ofB1 k f.Seen i hi]
    have : f.Seen.toList[i]? = some f.Seen[i] := by simp [hi]
    rw [this]
    simp) (by simp only [ctx_Of.b1, lt1, Zbt (show ¬ ((16 : Nat) : Int) < 16 by omega), Bool.false_eq_true, if_false]) (by omega)
  have hs : (∀ i, i < 16 → (f.Seen.toList[i]?.all fun x => decide (x.toNat ≤ 4611686018427387904)) = true) ↔ Zem f.Seen := by
    constructor
    · intro h i hi
      have := h i hi
      have e : f.Seen.toList[i]? = some f.Seen[i] := by simp [hi]
      rw [e] at this
      simpa using this
    · intro h i hi
      have e : f.Seen.toList[i]? = some f.Seen[i] := by simp [hi]
      rw [e]
      simpa using h i hi
  simp only [Zef, ctx_Of, h1, lt1]
  by_cases hv : Zem f.Seen
  case neg =>
    rw [if_neg (fun h => hv (hs.1 h))]
    simp [Zgs, hv]
  rw [if_pos (hs.2 hv)]
  have h2 := Zdu (body := fun s => ctx_Of.b2 k f.Extra f.Seen s) (k := k) f.Extra.length (exP f.Seen f.Extra) (b := (.inr 2 : List Zaf ⊕ Int)) (fun i hi => ofB2 k (by omega) hv f.Extra i hi (by omega)) (by simp only [ctx_Of.b2, lt1, Zbt (show ¬ (f.Extra.length : Int) < (f.Extra.length : Int) by omega), Bool.false_eq_true, if_false]) (by omega)
  simp only [Option.bind_some, h2]
  by_cases hx : ∀ i, i < f.Extra.length → exP f.Seen f.Extra i
  case neg =>
    rw [if_neg hx]
    simp [Zgs, hx]
  rw [if_pos hx]
  have ha : apL 16 ([] : List Zaf) f.Extra = some f.Extra := by rw [Zhm (by simp; omega)]; rfl
  by_cases h4 : f.Extra.length ≤ 4096
  · simp only [Option.bind_some, Zbt (show ¬ (f.Extra.length : Int) > 4096 by omega), Bool.false_eq_true, if_false, ZbE, ha]
    rw [decide_eq_true (show Zgs f.Seen f.Extra from ⟨hv, h4, hx⟩)]
  · simp only [Option.bind_some, Zbs (show (f.Extra.length : Int) > 4096 by omega), if_true]
    rw [decide_eq_false (show ¬ Zgs f.Seen f.Extra from fun h => h4 h.2.1)]
    rfl
theorem Zir (k : Nat) (hk : 6000 ≤ k) (v : Vc) (l : List Zaf) (hl : l.length ≤ 5000) : ref11_Seen k v l = some (decide (Zgs v l)) := by
  simp only [ref11_Seen, Zeo k (by omega), lt1, Option.bind_some]
  by_cases hv : Zem v
  case neg => simp [hv, Zgs]
  by_cases h4 : l.length ≤ 4096
  case neg =>
    rw [Zbs (show (l.length : Int) > 4096 by omega)]
    simp [Zgs, h4]
  have h2 := Zdu (body := fun s => ref11_Seen.b1 k l v s) (k := k) l.length (exP v l) (b := false) (fun i hi => Zm2 k hv l i hi (by omega)) (by simp only [ref11_Seen.b1, lt1, Zbt (show ¬ (l.length : Int) < (l.length : Int) by omega), Bool.false_eq_true, if_false]) (by omega)
  rw [Zbt (show ¬ (l.length : Int) > 4096 by omega), decide_eq_true hv]
  simp only [Bool.not_true, cond_false, Bool.false_eq_true, if_false, h2, Option.bind_some]
  by_cases hx : ∀ i, i < l.length → exP v l i
  · rw [if_pos hx, decide_eq_true (show Zgs v l from ⟨hv, h4, hx⟩)]; rfl
  · rw [if_neg hx, decide_eq_false (show ¬ Zgs v l from fun h => hx h.2.2)]; rfl
theorem Zk9 {body : Bool × Int → Option (Bool × Int ⊕ Bool)} (n : Nat) (P : Nat → Prop) [DecidablePred P] (hs : ∀ i, i < n → body (true, (i : Int)) = some (if P i then .inl (true, ((i + 1 : Nat) : Int)) else .inr false)) (he : body (true, (n : Int)) = some (.inr true)) {k : Nat} (hk : n < k) :
    Zbi body k (true, (0 : Int)) = some (decide (∀ i, i < n → P i)) := by
  have h := Zd8 (body := body) (I := fun s => s.1 = true ∧ 0 ≤ s.2 ∧ s.2 ≤ n ∧ ∀ i : Nat, (i : Int) < s.2 → P i) (m := fun s => ((n : Int) - s.2).toNat) (fun t => t = decide (∀ i, i < n → P i)) ?_ k (true, (0 : Int)) ⟨rfl, Int.le_refl _, by show (0 : Int) ≤ _; omega, fun i h => by have h : (i : Int) < 0 := h; omega⟩ (by show ((n : Int) - 0).toNat < k; omega)
  · obtain ⟨t, h1, rfl⟩ := h
    exact h1
  · rintro ⟨x, s⟩ ⟨hx, h0, h1, h2⟩
    simp only at hx h0 h1 h2
    subst hx
    obtain ⟨i, rfl⟩ : ∃ i : Nat, s = i := ⟨s.toNat, by omega⟩
    by_cases hlt : i < n
    · rw [hs i hlt]
      by_cases hP : P i
      · left
        refine ⟨_, by rw [if_pos hP], ⟨rfl, by show (0 : Int) ≤ ((i + 1 : Nat) : Int); omega, by show ((i + 1 : Nat) : Int) ≤ _; omega, fun j hj => ?_⟩, by show ((n : Int) - ((i + 1 : Nat) : Int)).toNat < _; omega⟩
        have hj : (j : Int) < ((i + 1 : Nat) : Int) := hj
        by_cases hji : j = i
        · subst hji; exact hP
        · exact h2 j (by omega)
      · right
        exact ⟨_, by rw [if_neg hP], (decide_eq_false (fun h => hP (h i hlt))).symm⟩
    · have : i = n := by omega
      subst this
      right
      exact ⟨_, he, (decide_eq_true (fun j hj => h2 j (by omega))).symm⟩
theorem ZhK (k : Nat) (d : Zaf) : ZdT k d = some (decide (Zb0 d)) := by rw [← ZgB k d]; rfl
def tg (l : List ZaA) (i : Nat) : ZaA := l[i]?.getD ⟨⟨0, 0⟩, []⟩
theorem idxT {l : List ZaA} {i : Nat} (h : i < l.length) : idxL l (i : Int) = some (tg l i) := by
  rw [Zbz h, tg, List.getElem?_eq_getElem h]; rfl
def toP (l : List ZaA) (i : Nat) : Prop := Zb0 (tg l i).Dot ∧ Zb4 (tg l i).Device ∧ (i = 0 ∨ less (tg l (i - 1)).Dot (tg l i).Dot)
instance (l : List ZaA) : DecidablePred (toP l) := fun i => inferInstanceAs (Decidable (_ ∧ _ ∧ _))
def may (e : Zar) : Prop := core e ∧ ∀ i, i < e.To.length → toP e.To i
instance (e : Zar) : Decidable (may e) := by unfold may core; exact inferInstance
theorem Zou (k : Nat) (hk : 3 ≤ k) (e : Zar) (i : Nat) (hi : i < e.To.length) (hl : e.To.length ≤ 1000000) : event_May.b1 k e true (i : Int) = some (if toP e.To i then .inl (true, ((i + 1 : Nat) : Int)) else .inr false) := by
  simp only [event_May.b1, lt1, Zbs (show (i : Int) < (e.To.length : Int) by omega), if_true, idxT hi, Option.bind_some, ZhK, Za1 (show i < 9223372036854775807 by omega)]
  by_cases hd : Zb0 (tg e.To i).Dot
  case neg => simp [hd, toP]
  simp only [decide_eq_true hd, if_true, ZgY, Option.bind_some, cond_true]
  by_cases hn : Zb4 (tg e.To i).Device
  case neg => simp [hn, toP]
  by_cases h0 : i = 0
  · subst h0
    simp [hd, hn, toP]
  · obtain ⟨j, rfl⟩ : ∃ j, i = j + 1 := ⟨i - 1, by omega⟩
    have e0 : ((((j + 1 : Nat) : Int)) == 0) = false := by simp; omega
    simp only [decide_eq_true hn, e0, ZdQ j (by omega), Bool.not_false, Bool.and_true, if_true, idxT (show j < e.To.length by omega), Zk1 k hk, Option.bind_some, cond_true, cond_false]
    by_cases hL : less (tg e.To j).Dot (tg e.To (j + 1)).Dot <;> simp [hL, hd, hn, toP]
theorem ZhL (k : Nat) (hk : 6000 ≤ k) (e : Zar) (hl : e.To.length ≤ 3000) : event_May k e = some (decide (may e)) := by
  have hlp := Zk9 (body := fun s => event_May.b1 k e s.1 s.2) (k := k) e.To.length (toP e.To) (fun i hi => Zou k (by omega) e i hi (by omega)) (by simp only [event_May.b1, lt1, Zbt (show ¬ (e.To.length : Int) < (e.To.length : Int) by omega), Bool.false_eq_true, if_false]) (by omega)
  simp only [event_May, ZhK, lt1, Option.bind_some, may, core]
  by_cases h1 : Zb0 e.ID
  case neg => simp [h1]
  have h1a := h1.1
  have h1b := h1.2.1
  have h1c := h1.2.2.1
  have h16 : (e.ID.Region - 1).toNat < 16 := by omega
  simp only [decide_eq_true h1, Bool.not_true, Bool.not_false, if_true, Zim k (by omega), Option.bind_some, cond_false]
  by_cases h2 : Zem e.Past
  case neg => simp [h2]
  simp only [decide_eq_true h2, Bool.not_true, Bool.false_eq_true, if_false, Zhu h1a h1b, Ziv (show 0 ≤ e.ID.Region - 1 by omega) h16, Option.bind_some, getV, ZlY, Zkw h1c, ← ZmC h16]
  by_cases h3 : at_ e.Past e.ID.Region = e.ID.Count.toNat - 1
  case neg => simp [h3]
  simp only [decide_eq_true h3, Bool.not_true, Bool.false_eq_true, if_false, ZgY, Option.bind_some]
  by_cases h4 : Zb4 e.Topic
  case neg => simp [h4]
  by_cases h5 : e.Payload.length ≤ 512
  case neg => rw [Zbs (show (e.Payload.length : Int) > 512 by omega)]; simp [h5]
  by_cases h6 : e.To.length ≤ 1024
  case neg => rw [Zbs (show (e.To.length : Int) > 1024 by omega)]; simp [h6]
  rw [Zbt (show ¬ (e.Payload.length : Int) > 512 by omega), Zbt (show ¬ (e.To.length : Int) > 1024 by omega)]
  simp only [decide_eq_true h4, Bool.not_true, cond_false, Bool.false_eq_true, if_false, hlp, Option.bind_some]
  simp [h1, h2, h3, h4, h5, h6]
theorem ZlM (k : Nat) (e : Zar) (i : Nat) (hi : i < e.To.length) (hl : e.To.length ≤ 1000000) : ref09_May.b1 k e (i : Int) = some (if toP e.To i then .inl ((i + 1 : Nat) : Int) else .inr (.inr false)) := by
  simp only [ref09_May.b1, lt1, Zbs (show (i : Int) < (e.To.length : Int) by omega), if_true, idxT hi, Option.bind_some, ZdZ, Za1 (show i < 9223372036854775807 by omega)]
  by_cases hd : Zb0 (tg e.To i).Dot
  case neg => simp [hd, toP]
  simp only [decide_eq_true hd, Bool.not_true, Bool.not_false, if_true, Zfu, Option.bind_some, cond_false]
  by_cases hn : Zb4 (tg e.To i).Device
  case neg => simp [hn, toP]
  by_cases h0 : i = 0
  · subst h0
    simp [hd, hn, toP]
  · obtain ⟨j, rfl⟩ : ∃ j, i = j + 1 := ⟨i - 1, by omega⟩
    have e0 : decide (((j + 1 : Nat) : Int) > 0) = true := decide_eq_true (by omega)
    simp only [decide_eq_true hn, e0, ZdQ j (by omega), Bool.not_true, Bool.not_false, Bool.and_true, if_true, idxT (show j < e.To.length by omega), Zf0, Option.bind_some, cond_true, cond_false]
    by_cases hL : less (tg e.To j).Dot (tg e.To (j + 1)).Dot <;> simp [hL, hd, hn, toP]
theorem Zh4 (k : Nat) (hk : 6000 ≤ k) (e : Zar) (hl : e.To.length ≤ 3000) : ref09_May k e = some (decide (may e)) := by
  have hlp := Zdu (body := fun s => ref09_May.b1 k e s) (k := k) e.To.length (toP e.To) (b := false) (fun i hi => ZlM k e i hi (by omega)) (by simp only [ref09_May.b1, lt1, Zbt (show ¬ (e.To.length : Int) < (e.To.length : Int) by omega), Bool.false_eq_true, if_false]) (by omega)
  simp only [ref09_May, ZdZ, lt1, Option.bind_some, may, core]
  by_cases h1 : Zb0 e.ID
  case neg => simp [h1]
  have h1a := h1.1
  have h1b := h1.2.1
  have h1c := h1.2.2.1
  have h16 : (e.ID.Region - 1).toNat < 16 := by omega
  simp only [decide_eq_true h1, Bool.not_true, Bool.not_false, if_true, Zeo k (by omega), Option.bind_some, cond_false]
  by_cases h2 : Zem e.Past
  case neg => simp [h2]
  simp only [decide_eq_true h2, Bool.not_true, Bool.false_eq_true, if_false, Zhu h1a h1b, Ziv (show 0 ≤ e.ID.Region - 1 by omega) h16, Option.bind_some, getV, Zmt _ _ h1c, ← ZmC h16]
  by_cases h3 : at_ e.Past e.ID.Region = e.ID.Count.toNat - 1
  case neg => simp [h3]
  simp only [decide_eq_true h3, Bool.not_true, Bool.not_false, if_true, Zfu, Option.bind_some, cond_false]
  by_cases h4 : Zb4 e.Topic
  case neg => simp [h4]
  by_cases h5 : e.Payload.length ≤ 512
  case neg => rw [Zbs (show (e.Payload.length : Int) > 512 by omega)]; simp [h5]
  by_cases h6 : e.To.length ≤ 1024
  case neg => rw [Zbs (show (e.To.length : Int) > 1024 by omega)]; simp [h6]
  rw [Zbt (show ¬ (e.Payload.length : Int) > 512 by omega), Zbt (show ¬ (e.To.length : Int) > 1024 by omega)]
  simp only [decide_eq_true h4, Bool.not_true, cond_false, Bool.false_eq_true, if_false, hlp, Option.bind_some]
  by_cases hx : ∀ i, i < e.To.length → toP e.To i
  · rw [if_pos hx]; simp [h1, h2, h3, h4, h5, h6]; exact hx
  · rw [if_neg hx]; simp [h1, h2, h3, h4, h5, h6, hx]
theorem ZmJ (k : Nat) (hk : 6000 ≤ k) (l : List Zap) : ∃ b, ref11_Long k l = some b ∧ (b = false → l.length ≤ 5000) := by
  have hlp := Zd8 (body := fun s : Int × Int => ref11_Long.b1 k l s.1 s.2) (I := fun s => 0 ≤ s.2 ∧ s.2 ≤ (l.length : Int) ∧ s.2 ≤ 5001 ∧ 0 ≤ s.1 ∧ s.1 ≤ 200000) (m := fun s => (5002 - s.2).toNat) (fun r => r = .inl () ∨ r = .inr true) ?_ k ((0 : Int), (0 : Int)) ⟨Int.le_refl _, by show (0 : Int) ≤ _; omega, by show (0 : Int) ≤ 5001; omega, Int.le_refl _, by show (0 : Int) ≤ 200000; omega⟩ (by show (5002 - (0 : Int)).toNat < k; omega)
  · obtain ⟨r, h1, h2⟩ := hlp
    rcases h2 with rfl | rfl
    · refine ⟨decide ((l.length : Int) > 5000), by simp only [ref11_Long, h1, Option.bind_some, lt1], fun h => ?_⟩
      have := of_decide_eq_false h
      omega
    · exact ⟨true, by simp only [ref11_Long, h1, Option.bind_some], fun h => by cases h⟩
  · rintro ⟨n, s⟩ ⟨h0, h1, h2, h3, h4⟩
    simp only at h0 h1 h2 h3 h4
    obtain ⟨i, rfl⟩ : ∃ i : Nat, s = i := ⟨s.toNat, by omega⟩
    by_cases hlt : i < l.length
    · by_cases h5 : i ≤ 5000
      · have e1 : ∀ x : Nat, minI (x : Int) 200001 = ((min x 200001 : Nat) : Int) := fun x => by unfold minI; split <;> omega
        simp only [ref11_Long.b1, lt1, Zbs (show (i : Int) < (l.length : Int) by omega), Zbs (show (i : Int) ≤ 5000 by omega), cond_true, Option.bind_some, if_true, Zbz hlt, e1]
        have w1 : w64 (n + ((min l[i].Key.Topic.length 200001 : Nat) : Int)) = n + ((min l[i].Key.Topic.length 200001 : Nat) : Int) := ZeJ (by omega) (by omega)
        rw [w1]
        have w2 : w64 (n + ((min l[i].Key.Topic.length 200001 : Nat) : Int) + ((min l[i].Key.Device.length 200001 : Nat) : Int)) = n + ((min l[i].Key.Topic.length 200001 : Nat) : Int) + ((min l[i].Key.Device.length 200001 : Nat) : Int) := ZeJ (by omega) (by omega)
        rw [w2]
        by_cases h6 : n + ((min l[i].Key.Topic.length 200001 : Nat) : Int) + ((min l[i].Key.Device.length 200001 : Nat) : Int) > 200000
        · right
          rw [Zbs h6]
          exact ⟨_, rfl, .inr rfl⟩
        · left
          rw [Zbt h6]
          simp only [Bool.false_eq_true, if_false, Za1 (show i < 9223372036854775807 by omega)]
          exact ⟨_, rfl, ⟨by show (0 : Int) ≤ ((i + 1 : Nat) : Int); omega, by show ((i + 1 : Nat) : Int) ≤ _; omega, by show ((i + 1 : Nat) : Int) ≤ 5001; omega, by show (0 : Int) ≤ n + _ + _; omega, by show n + _ + _ ≤ (200000 : Int); omega⟩, by show (5002 - ((i + 1 : Nat) : Int)).toNat < (5002 - (i : Int)).toNat; omega⟩
      · right
        simp only [ref11_Long.b1, lt1, Zbs (show (i : Int) < (l.length : Int) by omega), Zbt (show ¬ (i : Int) ≤ 5000 by omega), cond_true, Option.bind_some, Bool.false_eq_true, if_false]
        exact ⟨_, rfl, .inl rfl⟩
    · right
      simp only [ref11_Long.b1, lt1, Zbt (show ¬ (i : Int) < (l.length : Int) by omega), cond_false, Option.bind_some, Bool.false_eq_true, if_false]
      exact ⟨_, rfl, .inl rfl⟩
theorem dEq {α : Type} [DecidableEq α] (f : α → α → Bool) (hf : ∀ x y, f x y = true ↔ x = y) (x y : α) : f x y = decide (x = y) := by
  rw [Bool.eq_iff_iff, hf, decide_eq_true_iff]
theorem Zkq (x y : Zap) : Zes x y = decide (x = y) := dEq _ (fun _ _ => ZhS) x y
theorem dDot (x y : Zaf) : Zc2 x y = decide (x = y) := dEq _ (fun _ _ => ZeP) x y
theorem ZjO (x y : ZaA) : ZdP x y = decide (x = y) := dEq _ (fun _ _ => ZhW) x y
theorem dVec {α : Type} [BEq α] [LawfulBEq α] [DecidableEq α] {n : Nat} (x y : Vector α n) : eqV (fun x y => x == y) x y = decide (x = y) := dEq _ (fun _ _ => ZkX fun _ _ => beq_iff_eq) x y
theorem Zij {α : Type} [DecidableEq α] {n : Nat} (x y : Vector α n) : eqV (fun x y => decide (x = y)) x y = decide (x = y) := dEq _ (fun _ _ => ZkX fun _ _ => decide_eq_true_iff) x y
theorem dBne {α : Type} [DecidableEq α] (x y : α) : (x != y) = !decide (x = y) := by simp only [bne, Zds]
theorem Zgr {α : Type} [DecidableEq α] (a b : List α) {body : Int → Option (Int ⊕ (Unit ⊕ Bool))} (hl : a.length = b.length) (hs : ∀ i (h : i < a.length) (h2 : i < b.length), body (i : Int) = some (if a[i] = b[i] then .inl ((i + 1 : Nat) : Int) else .inr (.inr false))) (he : body (a.length : Int) = some (.inr (.inl ()))) {k : Nat} (hk : a.length < k) : Zbi body k (0 : Int) = some (if a = b then .inl () else .inr false) := by
  rw [ZlA (b := false) a.length (fun i => a[i]? = b[i]?) ?_ he hk]
  · have : (∀ i, i < a.length → a[i]? = b[i]?) ↔ a = b := by
      constructor
      · intro h
        refine List.ext_getElem? fun i => ?_
        by_cases hi : i < a.length
        · exact h i hi
        · rw [List.getElem?_eq_none (by omega), List.getElem?_eq_none (by omega)]
      · rintro rfl i _; rfl
    by_cases h : a = b
    · rw [if_pos (this.2 h), if_pos h]
    · rw [if_neg (fun hh => h (this.1 hh)), if_neg h]
  · intro i hi
    rw [hs i hi (by omega)]
    have : (a[i]? = b[i]?) ↔ a[i] = b[i] := by rw [List.getElem?_eq_getElem hi, List.getElem?_eq_getElem (by omega)]; simp
    by_cases h : a[i] = b[i]'(by omega)
    · rw [if_pos h, if_pos (this.2 h)]
    · rw [if_neg h, if_neg (fun hh => h (this.1 hh))]
theorem ZhX {α β : Type} (a : List α) (b : List β) : ((a.length : Int) != (b.length : Int)) = !decide (a.length = b.length) := by
  rw [dBne]; by_cases h : a.length = b.length
  · simp [h]
  · have : ¬ (a.length : Int) = (b.length : Int) := by omega
    simp [h, this]
theorem sw {b : Prop} [Decidable b] {α : Type} (x y : α) : (if (!decide b) = true then x else y) = if b then y else x := by by_cases h : b <;> simp [h]
theorem eqItems (k : Nat) (a b : List (Zap)) (hk : a.length < k) (hm : a.length ≤ 1000000) : slices_Equalapi_Item_api_Item k a b = some (decide (a = b)) := by
  simp only [slices_Equalapi_Item_api_Item, lt1, ZhX]
  by_cases hl : a.length = b.length
  · have h := Zgr a b (body := fun s => slices_Equalapi_Item_api_Item.b1 k a b s) hl (fun i h1 h2 => by
      simp only [slices_Equalapi_Item_api_Item.b1, lt1, Zbs (show (i : Int) < (a.length : Int) by omega), if_true, Zbz h1, Zbz h2, Option.bind_some, Zkq, dDot, ZjO, dVec, Zij, dBne, Zds, sw, Za1 (show i < 9223372036854775807 by omega)]
      by_cases h : a[i] = b[i] <;> simp [h]) (by simp only [slices_Equalapi_Item_api_Item.b1, lt1, Zbt (show ¬ (a.length : Int) < (a.length : Int) by omega), Bool.false_eq_true, if_false]) hk
    simp only [decide_eq_true hl, Bool.not_true, Bool.false_eq_true, if_false, h, Option.bind_some]
    by_cases hab : a = b <;> simp [hab]
  · have : ¬ a = b := fun h => hl (by rw [h])
    simp [hl, this]
theorem Zmf (k : Nat) (a b : List (Zaf)) (hk : a.length < k) (hm : a.length ≤ 1000000) : slices_Equalapi_Dot_api_Dot k a b = some (decide (a = b)) := by
  simp only [slices_Equalapi_Dot_api_Dot, lt1, ZhX]
  by_cases hl : a.length = b.length
  · have h := Zgr a b (body := fun s => slices_Equalapi_Dot_api_Dot.b1 k a b s) hl (fun i h1 h2 => by
      simp only [slices_Equalapi_Dot_api_Dot.b1, lt1, Zbs (show (i : Int) < (a.length : Int) by omega), if_true, Zbz h1, Zbz h2, Option.bind_some, Zkq, dDot, ZjO, dVec, Zij, dBne, Zds, sw, Za1 (show i < 9223372036854775807 by omega)]
      by_cases h : a[i] = b[i] <;> simp [h]) (by simp only [slices_Equalapi_Dot_api_Dot.b1, lt1, Zbt (show ¬ (a.length : Int) < (a.length : Int) by omega), Bool.false_eq_true, if_false]) hk
    simp only [decide_eq_true hl, Bool.not_true, Bool.false_eq_true, if_false, h, Option.bind_some]
    by_cases hab : a = b <;> simp [hab]
  · have : ¬ a = b := fun h => hl (by rw [h])
    simp [hl, this]
theorem ZlC (k : Nat) (a b : List (Vector UInt8 32)) (hk : a.length < k) (hm : a.length ≤ 1000000) : slices_Equalapi_Hash_api_Hash k a b = some (decide (a = b)) := by
  simp only [slices_Equalapi_Hash_api_Hash, lt1, ZhX]
  by_cases hl : a.length = b.length
  · have h := Zgr a b (body := fun s => slices_Equalapi_Hash_api_Hash.b1 k a b s) hl (fun i h1 h2 => by
      simp only [slices_Equalapi_Hash_api_Hash.b1, lt1, Zbs (show (i : Int) < (a.length : Int) by omega), if_true, Zbz h1, Zbz h2, Option.bind_some, Zkq, dDot, ZjO, dVec, Zij, dBne, Zds, sw, Za1 (show i < 9223372036854775807 by omega)]
      by_cases h : a[i] = b[i] <;> simp [h]) (by simp only [slices_Equalapi_Hash_api_Hash.b1, lt1, Zbt (show ¬ (a.length : Int) < (a.length : Int) by omega), Bool.false_eq_true, if_false]) hk
    simp only [decide_eq_true hl, Bool.not_true, Bool.false_eq_true, if_false, h, Option.bind_some]
    by_cases hab : a = b <;> simp [hab]
  · have : ¬ a = b := fun h => hl (by rw [h])
    simp [hl, this]
theorem Znl (k : Nat) (a b : List (Int)) (hk : a.length < k) (hm : a.length ≤ 1000000) : slices_Equalint_int k a b = some (decide (a = b)) := by
  simp only [slices_Equalint_int, lt1, ZhX]
  by_cases hl : a.length = b.length
  · have h := Zgr a b (body := fun s => slices_Equalint_int.b1 k a b s) hl (fun i h1 h2 => by
      simp only [slices_Equalint_int.b1, lt1, Zbs (show (i : Int) < (a.length : Int) by omega), if_true, Zbz h1, Zbz h2, Option.bind_some, Zkq, dDot, ZjO, dVec, Zij, dBne, Zds, sw, Za1 (show i < 9223372036854775807 by omega)]
      by_cases h : a[i] = b[i] <;> simp [h]) (by simp only [slices_Equalint_int.b1, lt1, Zbt (show ¬ (a.length : Int) < (a.length : Int) by omega), Bool.false_eq_true, if_false]) hk
    simp only [decide_eq_true hl, Bool.not_true, Bool.false_eq_true, if_false, h, Option.bind_some]
    by_cases hab : a = b <;> simp [hab]
  · have : ¬ a = b := fun h => hl (by rw [h])
    simp [hl, this]
theorem Zk0 (k : Nat) (a b : List (UInt8)) (hk : a.length < k) (hm : a.length ≤ 1000000) : slices_Equalbyte_byte k a b = some (decide (a = b)) := by
  simp only [slices_Equalbyte_byte, lt1, ZhX]
  by_cases hl : a.length = b.length
  · have h := Zgr a b (body := fun s => slices_Equalbyte_byte.b1 k a b s) hl (fun i h1 h2 => by
      simp only [slices_Equalbyte_byte.b1, lt1, Zbs (show (i : Int) < (a.length : Int) by omega), if_true, Zbz h1, Zbz h2, Option.bind_some, Zkq, dDot, ZjO, dVec, Zij, dBne, Zds, sw, Za1 (show i < 9223372036854775807 by omega)]
      by_cases h : a[i] = b[i] <;> simp [h]) (by simp only [slices_Equalbyte_byte.b1, lt1, Zbt (show ¬ (a.length : Int) < (a.length : Int) by omega), Bool.false_eq_true, if_false]) hk
    simp only [decide_eq_true hl, Bool.not_true, Bool.false_eq_true, if_false, h, Option.bind_some]
    by_cases hab : a = b <;> simp [hab]
  · have : ¬ a = b := fun h => hl (by rw [h])
    simp [hl, this]
theorem ZmG (k : Nat) (a b : List (ZaA)) (hk : a.length < k) (hm : a.length ≤ 1000000) : slices_Equalapi_Dest_api_Dest k a b = some (decide (a = b)) := by
  simp only [slices_Equalapi_Dest_api_Dest, lt1, ZhX]
  by_cases hl : a.length = b.length
  · have h := Zgr a b (body := fun s => slices_Equalapi_Dest_api_Dest.b1 k a b s) hl (fun i h1 h2 => by
      simp only [slices_Equalapi_Dest_api_Dest.b1, lt1, Zbs (show (i : Int) < (a.length : Int) by omega), if_true, Zbz h1, Zbz h2, Option.bind_some, Zkq, dDot, ZjO, dVec, Zij, dBne, Zds, sw, Za1 (show i < 9223372036854775807 by omega)]
      by_cases h : a[i] = b[i] <;> simp [h]) (by simp only [slices_Equalapi_Dest_api_Dest.b1, lt1, Zbt (show ¬ (a.length : Int) < (a.length : Int) by omega), Bool.false_eq_true, if_false]) hk
    simp only [decide_eq_true hl, Bool.not_true, Bool.false_eq_true, if_false, h, Option.bind_some]
    by_cases hab : a = b <;> simp [hab]
  · have : ¬ a = b := fun h => hl (by rw [h])
    simp [hl, this]
theorem Zjw (k : Nat) (a b : Zar) (h1 : a.Payload.length < k) (h2 : a.To.length < k) (h3 : a.Payload.length ≤ 1000000) (h4 : a.To.length ≤ 1000000) : Zfe k a b = some (decide (a = b)) := by
  simp only [Zfe, lt1, dDot, dVec, Zij, Zds, Zk0 k _ _ h1 h3, ZmG k _ _ h2 h4, Option.bind_some]
  obtain ⟨a1, a2, a3, a4, a5⟩ := a
  obtain ⟨b1, b2, b3, b4, b5⟩ := b
  simp only [Zar.mk.injEq]
  by_cases e1 : a1 = b1 <;> by_cases e2 : a2 = b2 <;> by_cases e3 : a3 = b3 <;> by_cases e4 : a4 = b4 <;> simp [e1, e2, e3, e4]
theorem ZhD (k : Nat) (a b : Zar) (h2 : a.To.length < k) (h4 : a.To.length ≤ 1000000) : ref09_Same k a b = some (decide (a = b)) := by
  simp only [ref09_Same, lt1, dDot, dVec, Zij, dBne, ZhX, Option.bind_some]
  obtain ⟨a1, a2, a3, a4, a5⟩ := a
  obtain ⟨b1, b2, b3, b4, b5⟩ := b
  simp only [Zar.mk.injEq]
  by_cases e1 : a1 = b1 <;> by_cases e2 : a2 = b2 <;> by_cases e3 : a3 = b3 <;> by_cases e4 : a4 = b4 <;> try (simp [e1, e2, e3, e4]; done)
  by_cases hl : a5.length = b5.length
  · have h := Zgr a5 b5 (body := fun s => ref09_Same.b1 k ⟨a1, a2, a3, a4, a5⟩ ⟨b1, b2, b3, b4, b5⟩ s) hl (fun i h1 h2 => by
      simp only [ref09_Same.b1, lt1, Zbs (show (i : Int) < (a5.length : Int) by omega), if_true, Zbz h1, Zbz h2, Option.bind_some, ZjO, sw, Za1 (show i < 9223372036854775807 by simp only at h4; omega)]
      by_cases h : a5[i] = b5[i] <;> simp [h]) (by simp only [ref09_Same.b1, lt1, Zbt (show ¬ (a5.length : Int) < (a5.length : Int) by omega), Bool.false_eq_true, if_false]) h2
    simp only [e1, e2, e3, e4, hl, decide_true, Bool.not_true, Bool.false_eq_true, if_false, true_and, Option.bind_some]
    subst e1 e2 e3 e4
    simp only [h, Option.bind_some]
    by_cases hab : a5 = b5 <;> simp [hab]
  · have : ¬ a5 = b5 := fun h => hl (by rw [h])
    have hl' : ¬ (a5.length : Int) = (b5.length : Int) := by omega
    simp [e1, e2, e3, e4, hl, hl', this]
def Zlh (k : Nat) (f : Zah) : Prop := (f.Items.length < k ∧ f.Items.length ≤ 1000000) ∧ (f.Extra.length < k ∧ f.Extra.length ≤ 1000000) ∧ (f.Live.length < k ∧ f.Live.length ≤ 1000000) ∧ (f.Leaves.length < k ∧ f.Leaves.length ≤ 1000000) ∧ (f.Buckets.length < k ∧ f.Buckets.length ≤ 1000000) ∧ (f.Event.Payload.length < k ∧ f.Event.Payload.length ≤ 1000000) ∧ (f.Event.To.length < k ∧ f.Event.To.length ≤ 1000000)
theorem ZlR (p q : Prop) [Decidable p] [Decidable q] : (if decide p = true then some (decide q) else some false) = some (decide (p ∧ q)) := by by_cases h : p <;> simp [h]
theorem ZmV (p q : Prop) [Decidable p] [Decidable q] : (if decide p = true then some (decide q) else some default) = some (decide (p ∧ q)) := by by_cases h : p <;> simp [h]
theorem ZkE (p q : Prop) [Decidable p] [Decidable q] : (bif decide p then decide q else false) = decide (p ∧ q) := by by_cases h : p <;> simp [h]
theorem Zho (k : Nat) (a b : Zah) (h : Zlh k a) : Zee k a b = some (decide (a = b)) := by
  obtain ⟨h1, h2, h3, h4, h5, h6, h7⟩ := h
  simp only [Zee, lt1, dVec, Zij, Zds, eqItems k _ _ h1.1 h1.2, Zmf k _ _ h2.1 h2.2, Zmf k _ _ h3.1 h3.2, ZlC k _ _ h4.1 h4.2, Znl k _ _ h5.1 h5.2, Zjw k _ _ h6.1 h7.1 h6.2 h7.2, Option.bind_some]
  clear h1 h2 h3 h4 h5 h6 h7
  obtain ⟨a1, a2, a3, a4, a5, a6, a7, a8, a9, a10, a11, a12, a13⟩ := a
  obtain ⟨b1, b2, b3, b4, b5, b6, b7, b8, b9, b10, b11, b12, b13⟩ := b
  simp only [ZlR, ZmV, ZkE, Option.bind_some, Zah.mk.injEq]
  exact congrArg some (decide_eq_decide.2 (by grind))
theorem Zja {β : Type} {body : Int → Option (Int ⊕ (Unit ⊕ β))} (m n : Nat) (P : Nat → Prop) [DecidablePred P] {b : β} (hm : ∀ i, i < m → P i) (hs : ∀ i, m ≤ i → i < n → body (i : Int) = some (if P i then .inl ((i + 1 : Nat) : Int) else .inr (.inr b))) (he : ∀ i, n ≤ i → i ≤ m + n → body (i : Int) = some (.inr (.inl ()))) {k : Nat} (hk : n + 1 < k) :
    Zbi body k (m : Int) = some (if ∀ i, i < n → P i then .inl () else .inr b) := by
  have h := Zd8 (body := body) (I := fun s => (m : Int) ≤ s ∧ s ≤ (m + n : Nat) ∧ ∀ i : Nat, (i : Int) < s → P i) (m := fun s => ((n : Int) + 1 - s).toNat) (fun t => t = if ∀ i, i < n → P i then .inl () else .inr b) ?_ k (m : Int) ⟨Int.le_refl _, by omega, fun i h => hm i (by omega)⟩ (by omega)
  · obtain ⟨t, h1, rfl⟩ := h
    exact h1
  · rintro s ⟨h0, h1, h2⟩
    obtain ⟨i, rfl⟩ : ∃ i : Nat, s = i := ⟨s.toNat, by omega⟩
    by_cases hlt : i < n
    · rw [hs i (by omega) hlt]
      by_cases hP : P i
      · left
        refine ⟨_, by rw [if_pos hP], ⟨by omega, by omega, fun j hj => ?_⟩, by omega⟩
        by_cases hji : j = i
        · subst hji; exact hP
        · exact h2 j (by omega)
      · right
        exact ⟨_, by rw [if_neg hP], by rw [if_neg (fun h => hP (h i hlt))]⟩
    · right
      exact ⟨_, he i (by omega) (by omega), by rw [if_pos (fun j hj => h2 j (by omega))]⟩
def itg (l : List Zap) (i : Nat) : Zap := l[i]?.getD ⟨⟨0, 0⟩, ⟨[], []⟩, false⟩
theorem idxI {l : List Zap} {i : Nat} (h : i < l.length) : idxL l (i : Int) = some (itg l i) := by
  rw [Zbz h, itg, List.getElem?_eq_getElem h]; rfl
theorem ZkS {l : List Zap} : (∀ i, i < l.length → ZbF (itg l i)) ↔ ∀ x ∈ l, ZbF x := by
  constructor
  · intro h x hx
    obtain ⟨i, hi, rfl⟩ := List.getElem_of_mem hx
    have := h i hi
    rw [itg, List.getElem?_eq_getElem hi] at this
    exact this
  · intro h i hi
    rw [itg, List.getElem?_eq_getElem hi]
    exact h _ (List.getElem_mem hi)
def bg (l : List Int) (i : Nat) : Int := l[i]?.getD 0
theorem idxG {l : List Int} {i : Nat} (h : i < l.length) : idxL l (i : Int) = some (bg l i) := by
  rw [Zbz h, bg, List.getElem?_eq_getElem h]; rfl
def ZcO (l : List Zap) : Prop := l.length ≤ 4096 ∧ ∀ x ∈ l, ZbF x
instance (l : List Zap) : Decidable (ZcO l) := inferInstanceAs (Decidable (_ ∧ _))
def Zev (l : List Zap) (i : Nat) : Prop := i = 0 ∨ less (itg l (i - 1)).Dot (itg l i).Dot
instance (l : List Zap) : DecidablePred (Zev l) := fun i => inferInstanceAs (Decidable (_ ∨ _))
def Zde (l : List Int) (i : Nat) : Prop := (0 ≤ bg l i ∧ bg l i < 64) ∧ (i = 0 ∨ bg l (i - 1) < bg l i)
instance (l : List Int) : DecidablePred (Zde l) := fun i => inferInstanceAs (Decidable (_ ∧ _))
theorem Zgx (k : Nat) (f : Zah) (hk : 6000 ≤ k) (hl : f.Items.length ≤ 5000) : ZdL k f = some (decide (ZcO f.Items)) := by
  simp only [ZdL, lt1]
  by_cases h : f.Items.length ≤ 4096
  · rw [Zbs (show (f.Items.length : Int) ≤ 4096 by omega)]
    simp only [if_true, ZjA k f.Items (by omega) (by omega), Option.bind_some, Bool.not_not, cond_true]
    rw [show decide (ZcO f.Items) = decide (∀ x ∈ f.Items, ZbF x) from decide_eq_decide.2 ⟨fun h => h.2, fun hh => ⟨h, hh⟩⟩]
  · rw [Zbt (show ¬ (f.Items.length : Int) ≤ 4096 by omega), decide_eq_false (show ¬ ZcO f.Items from fun hh => h hh.1)]
    simp
theorem Zgd (k : Nat) (l : List Zap) (hk : 6000 ≤ k) (hl : l.length ≤ 5000) : ref11_mayItems k l = some (decide (ZcO l)) := by
  have hlp := Zja (body := fun s => ref11_mayItems.b1 k l s) (k := k) 0 (min l.length 4097) (fun i => ZbF (itg l i)) (b := false) (fun i hi => by omega) (fun i _ hi => by
      have e1 : decide ((i : Int) < (l.length : Int)) = true := decide_eq_true (by omega)
      have e2 : decide ((i : Int) ≤ 4096) = true := decide_eq_true (by omega)
      simp only [ref11_mayItems.b1, lt1, e1, e2, cond_true, Option.bind_some, if_true, idxI (show i < l.length by omega), ZiR, Za1 (show i < 9223372036854775807 by omega)]
      by_cases h : ZbF (itg l i) <;> simp [h]) (fun i hi _ => by
      have e : (bif decide ((i : Int) < (l.length : Int)) then decide ((i : Int) ≤ 4096) else false) = false := by
        by_cases h1 : (i : Int) < (l.length : Int)
        · rw [Zbs h1, Zbt (show ¬ (i : Int) ≤ 4096 by omega)]; rfl
        · rw [Zbt h1]; rfl
      simp only [ref11_mayItems.b1, lt1, e, Option.bind_some, Bool.false_eq_true, if_false]) (by omega)
  have hlp' : Zbi (fun s => ref11_mayItems.b1 k l s) k (0 : Int) = _ := hlp
  simp only [ref11_mayItems, hlp', Option.bind_some, lt1]
  by_cases hx : ∀ i, i < min l.length 4097 → ZbF (itg l i)
  · rw [if_pos hx]
    simp only [Option.bind_some, Option.some.injEq, decide_eq_decide]
    constructor
    · intro h
      exact ⟨by omega, ZkS.1 fun i hi => hx i (by omega)⟩
    · intro h; have := h.1; omega
  · rw [if_neg hx, decide_eq_false (show ¬ ZcO l from fun h => hx fun i hi => ZkS.2 h.2 i (by omega))]
    rfl
def Zi1 : Zar := ⟨⟨0, 0⟩, [], [], Vector.replicate 16 0, []⟩
def Zg7 (f : Zah) : Prop := (f.Items = [] ∨ f.Kind = 1 ∨ f.Kind = 7) ∧ (f.Past = Vector.replicate 16 0 ∨ f.Kind = 3) ∧ (f.Hash = Vector.replicate 32 0 ∨ f.Kind = 5) ∧ (f.Leaves = [] ∨ f.Kind = 6) ∧ (f.Buckets = [] ∨ f.Kind = 7) ∧ (f.Reply = false ∨ f.Kind = 7) ∧ (f.Live = [] ∨ f.Kind = 4) ∧ ((f.Seen = Vector.replicate 16 0 ∧ f.Extra = []) ∨ f.Kind = 4 ∨ f.Kind = 7) ∧ (f.Event = Zi1 ∨ f.Kind = 2)
instance (f : Zah) : Decidable (Zg7 f) := by unfold Zg7; exact inferInstance
theorem ZmN (k : Nat) (f : Zah) : ∃ b, Ze5 k f = some b ∧ (f = b ↔ Zg7 f) := by
  obtain ⟨a1, a2, a3, a4, a5, a6, a7, a8, a9, a10, a11, a12, a13⟩ := f
  simp only [Ze5, lt1, Zg7, Zi1]
  by_cases k1 : a1 = 1
  · subst k1; exact ⟨_, rfl, by simp only [Zah.mk.injEq]; simp; try grind⟩
  by_cases k2 : a1 = 2
  · subst k2; exact ⟨_, rfl, by simp only [Zah.mk.injEq]; simp; try grind⟩
  by_cases k3 : a1 = 3
  · subst k3; exact ⟨_, rfl, by simp only [Zah.mk.injEq]; simp; try grind⟩
  by_cases k4 : a1 = 4
  · subst k4; exact ⟨_, rfl, by simp only [Zah.mk.injEq]; simp; try grind⟩
  by_cases k5 : a1 = 5
  · subst k5; exact ⟨_, rfl, by simp only [Zah.mk.injEq]; simp; try grind⟩
  by_cases k6 : a1 = 6
  · subst k6; exact ⟨_, rfl, by simp only [Zah.mk.injEq]; simp; try grind⟩
  by_cases k7 : a1 = 7
  · subst k7; exact ⟨_, rfl, by simp only [Zah.mk.injEq]; simp; try grind⟩
  have e1 : (a1 == 1) = false := by simp [k1]
  have e2 : (a1 == 2) = false := by simp [k2]
  have e3 : (a1 == 3) = false := by simp [k3]
  have e4 : (a1 == 4) = false := by simp [k4]
  have e5 : (a1 == 5) = false := by simp [k5]
  have e6 : (a1 == 6) = false := by simp [k6]
  have e7 : (a1 == 7) = false := by simp [k7]
  simp only [e1, e2, e3, e4, e5, e6, e7, Bool.false_eq_true, if_false, Option.bind_some]
  exact ⟨_, rfl, by simp only [Zah.mk.injEq]; simp [k1, k2, k3, k4, k5, k6, k7]; try grind⟩
theorem ZhR {α : Type} (l : List α) : decide ((l.length : Int) > 0) = !decide (l = []) := by
  cases l with
  | nil => rfl
  | cons a l => rw [Zbs (show ((a :: l).length : Int) > 0 by simp)]; rfl
theorem not_or (p q : Bool) : (bif p then q else false) = (p && q) := by cases p <;> rfl
theorem Zmh (p q : Prop) [Decidable p] [Decidable q] : (bif decide p then true else decide q) = decide (p ∨ q) := by by_cases h : p <;> simp [h]
theorem ZmQ (p q : Prop) [Decidable p] [Decidable q] : (Option.bind (if (!decide p) = true then some (decide q) else some default) fun v => some (bif decide p then true else v)) = some (decide (p ∨ q)) := by by_cases h : p <;> simp [h]
theorem ZmY (k : Nat) (hk : 6000 ≤ k) (f : Zah) (hs : f.Event.To.length ≤ 3000) : Zfg k f = some (decide (Zg7 f)) := by
  have hE := ZhD k f.Event Zi1 (by omega) (by omega)
  have hE' : ref09_Same k f.Event (Zar.mk (Zaf.mk (0 : Int) (0 : UInt64)) ([] : (List UInt8)) ([] : (List UInt8)) (Vector.replicate 16 (0 : UInt64)) ([] : (List ZaA))) = some (decide (f.Event = Zi1)) := hE
  have hR : f.Reply = decide (f.Reply = true) := by simp
  have hR2 : (bif f.Reply then (!decide (f.Kind = 7)) else false) = decide (f.Reply = true ∧ ¬ f.Kind = 7) := by cases f.Reply <;> simp
  simp only [Zfg, lt1, Option.bind_some, ZhR, dVec, Zij, Zds, dBne, hR2, hE', ZmQ]
  simp only [← decide_not, ZkE, Zmh]
  split
  · rename_i h
    have h := of_decide_eq_true h
    exact congrArg some (decide_eq_false (by unfold Zg7; grind)).symm
  · rename_i h
    have h := of_decide_eq_false (Bool.not_eq_true _ ▸ h)
    split
    · rename_i h2
      have h2 := of_decide_eq_true h2
      exact congrArg some (decide_eq_false (by unfold Zg7; grind)).symm
    · rename_i h2
      have h2 := of_decide_eq_false (Bool.not_eq_true _ ▸ h2)
      exact congrArg some (decide_eq_decide.2 (by unfold Zg7; grind))
def Zhq (f : Zah) : Prop :=
  if f.Kind = 1 then f.Items ≠ [] ∧ ZcO f.Items
  else if f.Kind = 2 then may f.Event
  else if f.Kind = 3 then Zem f.Past
  else if f.Kind = 4 then (∀ i, i < f.Live.length → ZfD f.Live i) ∧ f.Live.length ≤ 1024 ∧ Zgs f.Seen f.Extra
  else if f.Kind = 5 then True
  else if f.Kind = 6 then f.Leaves.length = 64
  else if f.Kind = 7 then (∀ i, i < f.Buckets.length → Zde f.Buckets i) ∧ (∀ i, i < f.Items.length → Zev f.Items i) ∧ f.Buckets ≠ [] ∧ ZcO f.Items ∧ Zgs f.Seen f.Extra
  else False
instance (f : Zah) : Decidable (Zhq f) := by unfold Zhq; exact inferInstance
def Zjc (f : Zah) : Prop := (1 ≤ f.From ∧ f.From ≤ 16 ∧ 1 ≤ f.To ∧ f.To ≤ 16) ∧ f.From ≠ f.To
instance (f : Zah) : Decidable (Zjc f) := inferInstanceAs (Decidable (_ ∧ _))
def mayF (f : Zah) : Prop := Zjc f ∧ Zg7 f ∧ Zhq f
instance (f : Zah) : Decidable (mayF f) := inferInstanceAs (Decidable (_ ∧ _ ∧ _))
theorem Znx (f : Zah) : (bif bif bif bif decide (f.From < 1) then true else decide (f.From > 16) then true else decide (f.To < 1) then true else decide (f.To > 16) then true else (f.From == f.To)) = !decide (Zjc f) := by
  rw [Zds]
  simp only [Zmh, ← decide_not]
  exact decide_eq_decide.2 (by unfold Zjc; omega)
theorem Zny (k : Nat) (hk : 3 ≤ k) (f : Zah) (i : Nat) (hi : i < f.Live.length) (hl : f.Live.length ≤ 1000000) : frame_May.b1 k f (i : Int) = some (if ZfD f.Live i then .inl ((i + 1 : Nat) : Int) else .inr (.inr false)) := by
  simp only [frame_May.b1, lt1, Zbs (show (i : Int) < (f.Live.length : Int) by omega), if_true, idxD hi, Option.bind_some, ZgB, Za1 (show i < 9223372036854775807 by omega), ZcM]
  by_cases hd : Zb0 (dg f.Live i)
  case neg => simp [hd, ZfD]
  simp only [decide_eq_true hd, Bool.not_true, Bool.not_false, if_true, Option.bind_some, cond_false, ZfD, hd, true_and]
  by_cases h0 : i = 0
  · subst h0
    simp
  · obtain ⟨j, rfl⟩ : ∃ j, i = j + 1 := ⟨i - 1, by omega⟩
    have e : decide (((j + 1 : Nat) : Int) > 0) = true := decide_eq_true (by omega)
    have e0 : ((((j + 1 : Nat) : Int)) == 0) = false := by simp; omega
    simp only [e, e0, ZdQ j (by omega), idxD (show j < f.Live.length by omega), Zg1 k hk, Bool.and_true, Bool.true_and, Option.bind_some, if_true, cond_true, cond_false, Nat.add_sub_cancel, h0, false_or]
    by_cases hL : less (dg f.Live j) (dg f.Live (j + 1)) <;> simp [hL]
theorem ZkY (k : Nat) (f : Zah) (i : Nat) (hi : i < f.Live.length) (hl : f.Live.length ≤ 1000000) : ref11_May.b1 k f (i : Int) = some (if ZfD f.Live i then .inl ((i + 1 : Nat) : Int) else .inr (.inr false)) := by
  simp only [ref11_May.b1, lt1, Zbs (show (i : Int) < (f.Live.length : Int) by omega), if_true, idxD hi, Option.bind_some, ZdZ, Za1 (show i < 9223372036854775807 by omega)]
  by_cases hd : Zb0 (dg f.Live i)
  case neg => simp [hd, ZfD]
  simp only [decide_eq_true hd, Bool.not_true, Bool.not_false, if_true, Option.bind_some, cond_false, ZfD, hd, true_and]
  by_cases h0 : i = 0
  · subst h0
    simp
  · obtain ⟨j, rfl⟩ : ∃ j, i = j + 1 := ⟨i - 1, by omega⟩
    have e : decide (((j + 1 : Nat) : Int) > 0) = true := decide_eq_true (by omega)
    simp only [e, ZdQ j (by omega), idxD (show j < f.Live.length by omega), Zf0, Bool.and_true, Bool.true_and, Option.bind_some, if_true, cond_true, cond_false, Nat.add_sub_cancel, h0, false_or]
    by_cases hL : less (dg f.Live j) (dg f.Live (j + 1)) <;> simp [hL]
theorem Zm0 (k : Nat) (f : Zah) (i : Nat) (hi : i < f.Buckets.length) (hl : f.Buckets.length ≤ 1000000) : frame_May.b2 k f (i : Int) = some (if Zde f.Buckets i then .inl ((i + 1 : Nat) : Int) else .inr (.inr false)) := by
  simp only [frame_May.b2, lt1, Zbs (show (i : Int) < (f.Buckets.length : Int) by omega), if_true, idxG hi, Option.bind_some, Za1 (show i < 9223372036854775807 by omega), ZcM]
  by_cases c1 : bg f.Buckets i < 0
  case pos => simp [c1, Zde, show ¬ 0 ≤ bg f.Buckets i by omega]
  by_cases c2 : bg f.Buckets i ≥ 64
  case pos => simp [c1, c2, Zde, show ¬ bg f.Buckets i < 64 by omega]
  have c3 : 0 ≤ bg f.Buckets i ∧ bg f.Buckets i < 64 := by omega
  simp only [Zbt c1, Zbt c2, Bool.not_true, Bool.not_false, if_true, Option.bind_some, cond_false, Zde, c3, true_and]
  by_cases h0 : i = 0
  · subst h0
    simp
  · obtain ⟨j, rfl⟩ : ∃ j, i = j + 1 := ⟨i - 1, by omega⟩
    have e : decide (((j + 1 : Nat) : Int) > 0) = true := decide_eq_true (by omega)
    have e0 : ((((j + 1 : Nat) : Int)) == 0) = false := by simp; omega
    simp only [e, e0, ZdQ j (by omega), idxG (show j < f.Buckets.length by omega), Bool.and_true, Bool.true_and, Option.bind_some, if_true, cond_true, cond_false, Nat.add_sub_cancel, h0, false_or]
    by_cases hL : bg f.Buckets j < bg f.Buckets (j + 1) <;> simp [hL]
theorem ZkR (k : Nat) (f : Zah) (i : Nat) (hi : i < f.Buckets.length) (hl : f.Buckets.length ≤ 1000000) : ref11_mayBuckets.b1 k f (i : Int) = some (if Zde f.Buckets i then .inl ((i + 1 : Nat) : Int) else .inr (.inr false)) := by
  simp only [ref11_mayBuckets.b1, lt1, Zbs (show (i : Int) < (f.Buckets.length : Int) by omega), if_true, idxG hi, Option.bind_some, Za1 (show i < 9223372036854775807 by omega)]
  by_cases c1 : bg f.Buckets i < 0
  case pos => simp [c1, Zde, show ¬ 0 ≤ bg f.Buckets i by omega]
  by_cases c2 : bg f.Buckets i ≥ 64
  case pos => simp [c1, c2, Zde, show ¬ bg f.Buckets i < 64 by omega]
  have c3 : 0 ≤ bg f.Buckets i ∧ bg f.Buckets i < 64 := by omega
  simp only [Zbt c1, Zbt c2, Bool.not_true, Bool.not_false, if_true, Option.bind_some, cond_false, Zde, c3, true_and]
  by_cases h0 : i = 0
  · subst h0
    simp
  · obtain ⟨j, rfl⟩ : ∃ j, i = j + 1 := ⟨i - 1, by omega⟩
    have e : decide (((j + 1 : Nat) : Int) > 0) = true := decide_eq_true (by omega)
    simp only [e, ZdQ j (by omega), idxG (show j < f.Buckets.length by omega), Bool.and_true, Bool.true_and, Option.bind_some, if_true, cond_true, cond_false, Nat.add_sub_cancel, h0, false_or, c2, decide_false, Bool.not_false]
    by_cases hL : bg f.Buckets j < bg f.Buckets (j + 1)
    · simp [hL, show ¬ bg f.Buckets (j + 1) ≤ bg f.Buckets j by omega]
    · simp [hL, show bg f.Buckets (j + 1) ≤ bg f.Buckets j by omega]
theorem Znw (k : Nat) (hk : 3 ≤ k) (f : Zah) (i : Nat) (hi : i < f.Items.length) (hl : f.Items.length ≤ 1000000) : frame_May.b3 k f (i : Int) = some (if Zev f.Items i then .inl ((i + 1 : Nat) : Int) else .inr (.inr false)) := by
  simp only [frame_May.b3, lt1, Zbs (show (i : Int) < (f.Items.length : Int) by omega), if_true, idxI hi, Option.bind_some, Za1 (show i < 9223372036854775807 by omega), ZcM, Zev]
  by_cases h0 : i = 0
  · subst h0
    simp
  · obtain ⟨j, rfl⟩ : ∃ j, i = j + 1 := ⟨i - 1, by omega⟩
    have e : decide (((j + 1 : Nat) : Int) > 0) = true := decide_eq_true (by omega)
    have e0 : ((((j + 1 : Nat) : Int)) == 0) = false := by simp; omega
    simp only [e, e0, ZdQ j (by omega), idxI (show j < f.Items.length by omega), Zg1 k hk, Bool.and_true, Bool.true_and, Option.bind_some, if_true, cond_true, cond_false, Nat.add_sub_cancel, h0, false_or]
    by_cases hL : less (itg f.Items j).Dot (itg f.Items (j + 1)).Dot <;> simp [hL]
theorem ZkM (k : Nat) (f : Zah) (i : Nat) (h1 : 1 ≤ i) (hi : i < f.Items.length) (hl : f.Items.length ≤ 1000000) : ref11_mayBuckets.b2 k f (i : Int) = some (if Zev f.Items i then .inl ((i + 1 : Nat) : Int) else .inr (.inr false)) := by
  obtain ⟨j, rfl⟩ : ∃ j, i = j + 1 := ⟨i - 1, by omega⟩
  simp only [ref11_mayBuckets.b2, lt1, Zbs (show ((j + 1 : Nat) : Int) < (f.Items.length : Int) by omega), if_true, idxI hi, idxI (show j < f.Items.length by omega), ZdQ j (by omega), Option.bind_some, Zf0, Za1 (show j + 1 < 9223372036854775807 by omega), Zev, Nat.add_sub_cancel, Nat.add_one_ne_zero, false_or]
  by_cases hL : less (itg f.Items j).Dot (itg f.Items (j + 1)).Dot <;> simp [hL]
theorem Zk3 (k : Nat) (hk : 6000 ≤ k) (e : Zar) : ∃ b, ref09_Much k e = some b ∧ (b = false → e.Topic.length ≤ 300 ∧ e.Payload.length ≤ 3000 ∧ e.To.length ≤ 3000) := by
  simp only [ref09_Much, lt1]
  by_cases h1 : e.Topic.length ≤ 300
  case neg => exact ⟨true, by rw [Zbs (show (e.Topic.length : Int) > 300 by omega)]; rfl, fun h => by cases h⟩
  by_cases h2 : e.Payload.length ≤ 3000
  case neg => exact ⟨true, by rw [Zbs (show (e.Payload.length : Int) > 3000 by omega)]; simp, fun h => by cases h⟩
  by_cases h3 : e.To.length ≤ 3000
  case neg => exact ⟨true, by rw [Zbs (show (e.To.length : Int) > 3000 by omega)]; simp, fun h => by cases h⟩
  have hlp := Zd8 (body := fun s : Int × Int => ref09_Much.b1 k e s.1 s.2) (I := fun s => 0 ≤ s.2 ∧ s.2 ≤ (e.To.length : Int) ∧ 0 ≤ s.1 ∧ s.1 ≤ 200000) (m := fun s => ((e.To.length : Int) - s.2).toNat) (fun r => r = .inl () ∨ r = .inr true) ?_ k ((0 : Int), (0 : Int)) ⟨Int.le_refl _, by show (0 : Int) ≤ _; omega, Int.le_refl _, by show (0 : Int) ≤ 200000; omega⟩ (by show ((e.To.length : Int) - (0 : Int)).toNat < k; omega)
  · simp only [Zbt (show ¬ (e.Topic.length : Int) > 300 by omega), Zbt (show ¬ (e.Payload.length : Int) > 3000 by omega), Zbt (show ¬ (e.To.length : Int) > 3000 by omega), Bool.false_eq_true, if_false, Option.bind_some]
    obtain ⟨r, g1, g2⟩ := hlp
    rcases g2 with rfl | rfl
    · exact ⟨false, by simp only [cond_false, Bool.false_eq_true, if_false, g1, Option.bind_some], fun _ => ⟨h1, h2, h3⟩⟩
    · exact ⟨true, by simp only [cond_false, Bool.false_eq_true, if_false, g1, Option.bind_some], fun h => by cases h⟩
  · rintro ⟨n, s⟩ ⟨h0, h4, h5, h6⟩
    simp only at h0 h4 h5 h6
    obtain ⟨i, rfl⟩ : ∃ i : Nat, s = i := ⟨s.toNat, by omega⟩
    by_cases hlt : i < e.To.length
    · have e1 : ∀ x : Nat, minI (x : Int) 200001 = ((min x 200001 : Nat) : Int) := fun x => by unfold minI; split <;> omega
      simp only [ref09_Much.b1, lt1, Zbs (show (i : Int) < (e.To.length : Int) by omega), if_true, Zbz hlt, Option.bind_some, e1]
      have w1 : w64 (n + ((min e.To[i].Device.length 200001 : Nat) : Int)) = n + ((min e.To[i].Device.length 200001 : Nat) : Int) := ZeJ (by omega) (by omega)
      rw [w1]
      by_cases h7 : n + ((min e.To[i].Device.length 200001 : Nat) : Int) > 200000
      · right
        rw [Zbs h7]
        exact ⟨_, rfl, .inr rfl⟩
      · left
        rw [Zbt h7]
        simp only [Bool.false_eq_true, if_false, Za1 (show i < 9223372036854775807 by omega)]
        exact ⟨_, rfl, ⟨by show (0 : Int) ≤ ((i + 1 : Nat) : Int); omega, by show ((i + 1 : Nat) : Int) ≤ _; omega, by show (0 : Int) ≤ n + _; omega, by show n + _ ≤ (200000 : Int); omega⟩, by show ((e.To.length : Int) - ((i + 1 : Nat) : Int)).toNat < ((e.To.length : Int) - (i : Int)).toNat; omega⟩
    · right
      simp only [ref09_Much.b1, lt1, Zbt (show ¬ (i : Int) < (e.To.length : Int) by omega), Bool.false_eq_true, if_false]
      exact ⟨_, rfl, .inl rfl⟩
def ZgU (f : Zah) : Prop := f.Items.length ≤ 5000 ∧ f.Event.Topic.length ≤ 300 ∧ f.Event.Payload.length ≤ 3000 ∧ f.Event.To.length ≤ 3000 ∧ f.Extra.length ≤ 5000 ∧ f.Live.length ≤ 5000 ∧ f.Leaves.length ≤ 300 ∧ f.Buckets.length ≤ 300
theorem ZhB {k : Nat} (hk : 6000 ≤ k) {f : Zah} (h : ZgU f) : Zlh k f := by
  obtain ⟨h1, h2, h3, h4, h5, h6, h7, h8⟩ := h
  exact ⟨⟨by omega, by omega⟩, ⟨by omega, by omega⟩, ⟨by omega, by omega⟩, ⟨by omega, by omega⟩, ⟨by omega, by omega⟩, ⟨by omega, by omega⟩, ⟨by omega, by omega⟩⟩
theorem Zmu (k : Nat) (hk : 6000 ≤ k) (f : Zah) : ∃ b, ZeY k f = some b ∧ (b = false → ZgU f) := by
  obtain ⟨l, h1, h1'⟩ := ZmJ k hk f.Items
  obtain ⟨m, h2, h2'⟩ := Zk3 k hk f.Event
  simp only [ZeY, lt1, h1, h2, Option.bind_some]
  cases l
  case true => exact ⟨true, rfl, fun h => by cases h⟩
  cases m
  case true => exact ⟨true, by simp, fun h => by cases h⟩
  have h1 := h1' rfl
  have h2 := h2' rfl
  by_cases h3 : f.Extra.length ≤ 5000
  case neg => exact ⟨true, by rw [Zbs (show (f.Extra.length : Int) > 5000 by omega)]; simp, fun h => by cases h⟩
  by_cases h4 : f.Live.length ≤ 5000
  case neg => exact ⟨true, by rw [Zbs (show (f.Live.length : Int) > 5000 by omega)]; simp, fun h => by cases h⟩
  by_cases h5 : f.Leaves.length ≤ 300
  case neg => exact ⟨true, by rw [Zbs (show (f.Leaves.length : Int) > 300 by omega)]; simp, fun h => by cases h⟩
  by_cases h6 : f.Buckets.length ≤ 300
  case neg => exact ⟨true, by rw [Zbs (show (f.Buckets.length : Int) > 300 by omega)]; simp, fun h => by cases h⟩
  exact ⟨false, by rw [Zbt (show ¬ (f.Extra.length : Int) > 5000 by omega), Zbt (show ¬ (f.Live.length : Int) > 5000 by omega), Zbt (show ¬ (f.Leaves.length : Int) > 300 by omega), Zbt (show ¬ (f.Buckets.length : Int) > 300 by omega)]; simp, fun _ => ⟨h1, h2.1, h2.2.1, h2.2.2, h3, h4, h5, h6⟩⟩
theorem endB {f : Nat} : decide ((f : Int) < (f : Int)) = false := Zbt (by omega)
theorem Zgl (k : Nat) (hk : 6000 ≤ k) (f : Zah) (hs : ZgU f) : frame_May k f = some (decide (mayF f)) := by
  have hsh := ZhB hk hs
  obtain ⟨s1, s2, s3, s4, s5, s6, s7, s8⟩ := hs
  obtain ⟨b, hb, hbz⟩ := ZmN k f
  simp only [frame_May, lt1, Znx]
  by_cases hh : Zjc f
  case neg => simp [hh, mayF]
  simp only [decide_eq_true hh, Bool.not_true, Bool.not_false, if_true, hb, Zho k f b hsh, Option.bind_some, cond_false]
  by_cases hz : Zg7 f
  case neg =>
    rw [decide_eq_false (fun h => hz (hbz.1 h))]
    simp [hz, mayF]
  rw [decide_eq_true (hbz.2 hz)]
  have hmay : decide (mayF f) = decide (Zhq f) := decide_eq_decide.2 ⟨fun h => h.2.2, fun h => ⟨hh, hz, h⟩⟩
  rw [hmay]
  simp only [Bool.not_true, Bool.false_eq_true, if_false, Zhq]
  clear hb hbz hmay hsh
  by_cases k1 : f.Kind = 1
  · simp only [k1, beq_self_eq_true, if_true, ZhR, Zgx k f hk s1]
    by_cases c : f.Items = [] <;> simp [c]
  have e1 : (f.Kind == 1) = false := by simp [k1]
  simp only [e1, k1, Bool.false_eq_true, if_false]
  by_cases k2 : f.Kind = 2
  · simp only [k2, beq_self_eq_true, if_true, ZhL k hk f.Event s4, Option.bind_some]
  have e2 : (f.Kind == 2) = false := by simp [k2]
  simp only [e2, k2, Bool.false_eq_true, if_false]
  by_cases k3 : f.Kind = 3
  · simp only [k3, beq_self_eq_true, if_true]
    have hp := ZmB k (by omega) f.Past
    simp only [lt1] at hp
    cases hx : subL (Vector.toList f.Past) 0 16 with
    | none => rw [hx] at hp; cases hp
    | some x =>
      rw [hx] at hp
      simp only [Option.bind_some] at hp ⊢
      cases hy : Za4 k x with
      | none => rw [hy] at hp; cases hp
      | some y =>
        rw [hy] at hp
        simp only [Option.bind_some] at hp ⊢
        exact hp
  have e3 : (f.Kind == 3) = false := by simp [k3]
  simp only [e3, k3, Bool.false_eq_true, if_false]
  by_cases k4 : f.Kind = 4
  · have hlp := Zdu (body := fun s => frame_May.b1 k f s) (k := k) f.Live.length (ZfD f.Live) (b := false) (fun i hi => Zny k (by omega) f i hi (by omega)) (by simp only [frame_May.b1, lt1, endB, Bool.false_eq_true, if_false]) (by omega)
    simp only [k4, beq_self_eq_true, if_true, hlp, Option.bind_some]
    by_cases hx : ∀ i, i < f.Live.length → ZfD f.Live i
    · rw [if_pos hx]
      by_cases h4 : f.Live.length ≤ 1024
      · rw [Zbs (show (f.Live.length : Int) ≤ 1024 by omega)]
        simp only [if_true, Zhk k hk f s5, Option.bind_some, cond_true]
        exact congrArg some (decide_eq_decide.2 ⟨fun h => ⟨hx, h4, h⟩, fun h => h.2.2⟩)
      · rw [Zbt (show ¬ (f.Live.length : Int) ≤ 1024 by omega)]
        exact congrArg some (decide_eq_false fun h => h4 h.2.1).symm
    · rw [if_neg hx]
      exact congrArg some (decide_eq_false fun h => hx h.1).symm
  have e4 : (f.Kind == 4) = false := by simp [k4]
  simp only [e4, k4, Bool.false_eq_true, if_false]
  by_cases k5 : f.Kind = 5
  · simp only [k5, beq_self_eq_true, if_true]
    rfl
  have e5 : (f.Kind == 5) = false := by simp [k5]
  simp only [e5, k5, Bool.false_eq_true, if_false]
  by_cases k6 : f.Kind = 6
  · simp only [k6, beq_self_eq_true, if_true, Option.bind_some, Zds]
    exact congrArg some (decide_eq_decide.2 (by omega))
  have e6 : (f.Kind == 6) = false := by simp [k6]
  simp only [e6, k6, Bool.false_eq_true, if_false]
  by_cases k7 : f.Kind = 7
  · have h2 := Zdu (body := fun s => frame_May.b2 k f s) (k := k) f.Buckets.length (Zde f.Buckets) (b := false) (fun i hi => Zm0 k f i hi (by omega)) (by simp only [frame_May.b2, lt1, endB, Bool.false_eq_true, if_false]) (by omega)
    have h3 := Zdu (body := fun s => frame_May.b3 k f s) (k := k) f.Items.length (Zev f.Items) (b := false) (fun i hi => Znw k (by omega) f i hi (by omega)) (by simp only [frame_May.b3, lt1, endB, Bool.false_eq_true, if_false]) (by omega)
    simp only [k7, beq_self_eq_true, if_true, h2, Option.bind_some]
    by_cases hx : ∀ i, i < f.Buckets.length → Zde f.Buckets i
    case neg =>
      rw [if_neg hx]
      exact congrArg some (decide_eq_false fun h => hx h.1).symm
    rw [if_pos hx]
    simp only [Option.bind_some, h3]
    by_cases hy : ∀ i, i < f.Items.length → Zev f.Items i
    case neg =>
      rw [if_neg hy]
      exact congrArg some (decide_eq_false fun h => hy h.2.1).symm
    rw [if_pos hy]
    simp only [ZhR, Zgx k f hk s1, Zhk k hk f s5, Option.bind_some]
    by_cases c1 : f.Buckets = []
    case pos =>
      rw [decide_eq_true c1]
      exact congrArg some (decide_eq_false fun h => h.2.2.1 c1).symm
    rw [decide_eq_false c1]
    by_cases c2 : ZcO f.Items
    case neg =>
      rw [decide_eq_false c2]
      exact congrArg some (decide_eq_false fun h => c2 h.2.2.2.1).symm
    rw [decide_eq_true c2]
    exact congrArg some (decide_eq_decide.2 ⟨fun h => ⟨hx, hy, c1, c2, h⟩, fun h => h.2.2.2.2⟩)
  have e7 : (f.Kind == 7) = false := by simp [k7]
  simp only [e7, k7, Bool.false_eq_true, if_false]
  rfl
theorem Zhr (k : Nat) (hk : 6000 ≤ k) (f : Zah) (hs : ZgU f) : ref11_mayBuckets k f = some (decide ((∀ i, i < f.Buckets.length → Zde f.Buckets i) ∧ (∀ i, i < f.Items.length → Zev f.Items i) ∧ f.Buckets ≠ [] ∧ ZcO f.Items ∧ Zgs f.Seen f.Extra)) := by
  obtain ⟨s1, s2, s3, s4, s5, s6, s7, s8⟩ := hs
  have h2 := Zdu (body := fun s => ref11_mayBuckets.b1 k f s) (k := k) f.Buckets.length (Zde f.Buckets) (b := false) (fun i hi => ZkR k f i hi (by omega)) (by simp only [ref11_mayBuckets.b1, lt1, endB, Bool.false_eq_true, if_false]) (by omega)
  have h3 := Zja (body := fun s => ref11_mayBuckets.b2 k f s) (k := k) 1 f.Items.length (Zev f.Items) (b := false) (fun i hi => .inl (by omega)) (fun i h1 hi => ZkM k f i h1 hi (by omega)) (fun i hi _ => by simp only [ref11_mayBuckets.b2, lt1, Zbt (show ¬ (i : Int) < (f.Items.length : Int) by omega), Bool.false_eq_true, if_false]) (by omega)
  have h3' : Zbi (fun s => ref11_mayBuckets.b2 k f s) k (1 : Int) = _ := h3
  simp only [ref11_mayBuckets, lt1, h2, Option.bind_some]
  by_cases hx : ∀ i, i < f.Buckets.length → Zde f.Buckets i
  case neg =>
    rw [if_neg hx]
    exact congrArg some (decide_eq_false fun h => hx h.1).symm
  rw [if_pos hx]
  simp only [Option.bind_some, h3']
  by_cases hy : ∀ i, i < f.Items.length → Zev f.Items i
  case neg =>
    rw [if_neg hy]
    exact congrArg some (decide_eq_false fun h => hy h.2.1).symm
  rw [if_pos hy]
  have e : decide ((f.Buckets.length : Int) ≥ 1) = !decide (f.Buckets = []) := by rw [← ZhR]; exact decide_eq_decide.2 (by omega)
  simp only [e, Zgd k f.Items hk s1, Zir k hk f.Seen f.Extra s5, Option.bind_some]
  by_cases c1 : f.Buckets = []
  case pos =>
    rw [decide_eq_true c1]
    exact congrArg some (decide_eq_false fun h => h.2.2.1 c1).symm
  rw [decide_eq_false c1]
  by_cases c2 : ZcO f.Items
  case neg =>
    rw [decide_eq_false c2]
    exact congrArg some (decide_eq_false fun h => c2 h.2.2.2.1).symm
  rw [decide_eq_true c2]
  exact congrArg some (decide_eq_decide.2 ⟨fun h => ⟨hx, hy, c1, c2, h⟩, fun h => h.2.2.2.2⟩)
theorem Zi6 (k : Nat) (hk : 6000 ≤ k) (f : Zah) (hs : ZgU f) : ref11_May k f = some (decide (mayF f)) := by
  have hbk := Zhr k hk f hs
  obtain ⟨s1, s2, s3, s4, s5, s6, s7, s8⟩ := hs
  simp only [ref11_May, lt1, Znx]
  by_cases hh : Zjc f
  case neg => simp [hh, mayF]
  simp only [decide_eq_true hh, Bool.not_true, Bool.not_false, if_true, ZmY k hk f s4, Option.bind_some, cond_false]
  by_cases hz : Zg7 f
  case neg => simp [hz, mayF]
  have hmay : decide (mayF f) = decide (Zhq f) := decide_eq_decide.2 ⟨fun h => h.2.2, fun h => ⟨hh, hz, h⟩⟩
  rw [hmay, decide_eq_true hz]
  simp only [Bool.not_true, Bool.false_eq_true, if_false, Zhq]
  clear hmay
  by_cases k1 : f.Kind = 1
  · have e : decide ((f.Items.length : Int) ≥ 1) = !decide (f.Items = []) := by rw [← ZhR]; exact decide_eq_decide.2 (by omega)
    simp only [k1, beq_self_eq_true, if_true, e, Zgd k f.Items hk s1]
    by_cases c : f.Items = [] <;> simp [c]
  have e1 : (f.Kind == 1) = false := by simp [k1]
  simp only [e1, k1, Bool.false_eq_true, if_false]
  by_cases k2 : f.Kind = 2
  · simp only [k2, beq_self_eq_true, if_true, Zh4 k hk f.Event s4, Option.bind_some]
  have e2 : (f.Kind == 2) = false := by simp [k2]
  simp only [e2, k2, Bool.false_eq_true, if_false]
  by_cases k3 : f.Kind = 3
  · simp only [k3, beq_self_eq_true, if_true, Zeo k (by omega), Option.bind_some]
  have e3 : (f.Kind == 3) = false := by simp [k3]
  simp only [e3, k3, Bool.false_eq_true, if_false]
  by_cases k4 : f.Kind = 4
  · have hlp := Zdu (body := fun s => ref11_May.b1 k f s) (k := k) f.Live.length (ZfD f.Live) (b := false) (fun i hi => ZkY k f i hi (by omega)) (by simp only [ref11_May.b1, lt1, endB, Bool.false_eq_true, if_false]) (by omega)
    simp only [k4, beq_self_eq_true, if_true, hlp, Option.bind_some]
    by_cases hx : ∀ i, i < f.Live.length → ZfD f.Live i
    · rw [if_pos hx]
      by_cases h4 : f.Live.length ≤ 1024
      · rw [Zbs (show (f.Live.length : Int) ≤ 1024 by omega)]
        simp only [if_true, Zir k hk f.Seen f.Extra s5, Option.bind_some, cond_true]
        exact congrArg some (decide_eq_decide.2 ⟨fun h => ⟨hx, h4, h⟩, fun h => h.2.2⟩)
      · rw [Zbt (show ¬ (f.Live.length : Int) ≤ 1024 by omega)]
        exact congrArg some (decide_eq_false fun h => h4 h.2.1).symm
    · rw [if_neg hx]
      exact congrArg some (decide_eq_false fun h => hx h.1).symm
  have e4 : (f.Kind == 4) = false := by simp [k4]
  simp only [e4, k4, Bool.false_eq_true, if_false]
  by_cases k5 : f.Kind = 5
  · simp only [k5, beq_self_eq_true, if_true]
    rfl
  have e5 : (f.Kind == 5) = false := by simp [k5]
  simp only [e5, k5, Bool.false_eq_true, if_false]
  by_cases k6 : f.Kind = 6
  · simp only [k6, beq_self_eq_true, if_true, Option.bind_some, Zds]
    exact congrArg some (decide_eq_decide.2 (by omega))
  have e6 : (f.Kind == 6) = false := by simp [k6]
  simp only [e6, k6, Bool.false_eq_true, if_false]
  by_cases k7 : f.Kind = 7
  · simp only [k7, beq_self_eq_true, if_true, hbk, Option.bind_some]
  have e7 : (f.Kind == 7) = false := by simp [k7]
  simp only [e7, k7, Bool.false_eq_true, if_false]
  rfl
def vecB (v : Vector UInt64 16) (i : Nat) : List UInt8 := (v.toList.take i).flatMap fun n => put n.toNat 8
theorem Zjt (v : Vector UInt64 16) (i : Nat) (h : i < 16) : vecB v (i + 1) = vecB v i ++ put v[i].toNat 8 := by
  have : i < v.toList.length := by simpa using h
  rw [vecB, List.take_succ_eq_append_getElem this, List.flatMap_append]
  simp [vecB]
theorem Zdc (v : Vector UInt64 16) : ∀ i, i ≤ 16 → (vecB v i).length = 8 * i := by
  intro i
  induction i with
  | zero => intro _; simp [vecB]
  | succ i ih =>
    intro h
    rw [Zjt v i (by omega), List.length_append, ih (by omega), ZaK]
    omega
theorem Zoc (n : UInt64) : room n 8 := ⟨by omega, by omega, by have := n.toNat_lt; simpa using this⟩
theorem put8 (k : Nat) (hk : 9 ≤ k) (n : UInt64) : wire_Put k n 8 = some (put n.toNat 8, 0) := by
  rw [Zei k hk n 8 (by omega) (by omega), if_pos (Zoc n)]
  rfl
theorem ZgZ (k : Nat) (hk : 17 ≤ k) (v : Vector UInt64 16) : wire_Vector k v = some (vecB v 16) := by
  have hl : Zbi (fun s => wire_Vector.b1 k v s.1 s.2) k (([] : List UInt8), (0 : Int)) = some (vecB v 16) := by
    refine Zgg (n := 16) (fun i => (vecB v i, ((i : Nat) : Int))) _ (by simp [vecB]) ?_ ?_ (by omega)
    · intro i hi
      have h3 : idxV v (i : Int) = some v[i] := by simp [idxV, hi]
      have h4 := Zdc v i (by omega)
      simp only [wire_Vector.b1, lt1, Zbs (show (i : Int) < 16 by omega), if_true, h3, put8 k (by omega), Option.bind_some, Zhm (show ((vecB v i).length + (put v[i].toNat 8).length) * 1 ≤ 140737488355328 by rw [ZaK]; omega), Zjt v i hi, Za1 (show i < 9223372036854775807 by omega)]
    · simp only [wire_Vector.b1, lt1, Zbt (show ¬ ((16 : Nat) : Int) < 16 by omega), Bool.false_eq_true, if_false]
  simp only [wire_Vector, hl, Option.bind_some]
end Go.Proofs.YtklnihlchhhhlaaGreat
namespace Go.Proofs.YtklnihlchhhhlaaGreat.Crc
set_option linter.unusedVariables false
def T : BitVec 32 := 2197175160#32
def L (x : BitVec 32) : BitVec 32 := (x >>> 1) ^^^ (bif x.getLsbD 0 then T else 0#32)
theorem Zn2 (x y : BitVec 32) : L (x ^^^ y) = L x ^^^ L y := by
  unfold L
  rw [BitVec.ushiftRight_xor_distrib, BitVec.getLsbD_xor]
  cases x.getLsbD 0 <;> cases y.getLsbD 0 <;> simp only [Bool.xor_false, Bool.xor_true, Bool.not_false, Bool.not_true, cond_true, cond_false, BitVec.xor_zero]
  · ac_rfl
  · ac_rfl
  · have h : ∀ a b t : BitVec 32, (a ^^^ t) ^^^ (b ^^^ t) = (a ^^^ b) ^^^ (t ^^^ t) := fun a b t => by ac_rfl
    rw [h, BitVec.xor_self, BitVec.xor_zero]
theorem ZnM (y : BitVec 32) (h : y.getLsbD 0 = false) : L y = y >>> 1 := by unfold L; rw [h]; simp
def bt (b : Bool) : BitVec 32 := bif b then 1#32 else 0#32
def stp (x : BitVec 32) (b : Bool) : BitVec 32 := L (x ^^^ bt b)
def run (x : BitVec 32) (l : List Bool) : BitVec 32 := l.foldl stp x
theorem Ziy (x : BitVec 32) (l m : List Bool) : run x (l ++ m) = run (run x l) m := List.foldl_append
def bits (n : Nat) (w : BitVec 32) : List Bool := (List.range n).map fun i => w.getLsbD i
theorem Zk7 (n : Nat) (w : BitVec 32) : bits (n + 1) w = bits n w ++ [w.getLsbD n] := by simp [bits, List.range_succ]
def Ln : Nat → BitVec 32 → BitVec 32
  | 0, x => x
  | n + 1, x => L (Ln n x)
theorem key (s y : BitVec 32) : L (s ^^^ y) = L (s ^^^ bt (y.getLsbD 0)) ^^^ (y >>> 1) := by
  have hy : y = bt (y.getLsbD 0) ^^^ (y ^^^ bt (y.getLsbD 0)) := by
    rw [BitVec.xor_comm, BitVec.xor_assoc]; simp
  have he : (y ^^^ bt (y.getLsbD 0)).getLsbD 0 = false := by
    rw [BitVec.getLsbD_xor]
    cases y.getLsbD 0 <;> decide
  have hs : (y ^^^ bt (y.getLsbD 0)) >>> 1 = y >>> 1 := by
    rw [BitVec.ushiftRight_xor_distrib]
    have : bt (y.getLsbD 0) >>> 1 = 0#32 := by cases y.getLsbD 0 <;> decide
    rw [this]; simp
  conv => lhs; rw [hy]
  rw [← BitVec.xor_assoc, Zn2, ZnM _ he, hs]
theorem Zhw (x w : BitVec 32) : ∀ n, run x (bits n w) ^^^ (w >>> n) = Ln n (x ^^^ w)
  | 0 => by simp [bits, run, Ln]
  | n + 1 => by
    rw [Zk7, Ziy]
    show stp (run x (bits n w)) (w.getLsbD n) ^^^ (w >>> (n + 1)) = L (Ln n (x ^^^ w))
    rw [← Zhw x w n, key]
    have h1 : (w >>> n).getLsbD 0 = w.getLsbD n := by rw [BitVec.getLsbD_ushiftRight]; simp
    have h2 : (w >>> n) >>> 1 = w >>> (n + 1) := by rw [BitVec.shiftRight_add]
    rw [h1, h2]
    rfl
theorem ZmH (x w : BitVec 32) (n : Nat) (h : w >>> n = 0#32) : run x (bits n w) = Ln n (x ^^^ w) := by
  rw [← Zhw x w n, h]; simp
theorem L4 (x : BitVec 32) : Ln 4 x = Ln 4 (x &&& 15#32) ^^^ (x >>> 4) := by
  have h1 := Zhw 0#32 x 4
  have h2 := Zhw 0#32 (x &&& 15#32) 4
  have hb : bits 4 (x &&& 15#32) = bits 4 x := by
    unfold bits
    apply List.map_congr_left
    intro i hi
    have hi4 : i < 4 := List.mem_range.1 hi
    rw [BitVec.getLsbD_and]
    have : ∀ i, i < 4 → (15#32).getLsbD i = true := by decide
    rw [this i hi4]; simp
  have hz : (x &&& 15#32) >>> 4 = 0#32 := by
    apply BitVec.eq_of_getLsbD_eq
    intro i hi
    rw [BitVec.getLsbD_ushiftRight, BitVec.getLsbD_and]
    have : ∀ i, i < 32 → (15#32).getLsbD (4 + i) = false := by decide
    rw [this i hi]; simp
  rw [hb, hz] at h2
  simp only [BitVec.zero_xor, BitVec.xor_zero] at h1 h2
  rw [← h1, h2]
end Go.Proofs.YtklnihlchhhhlaaGreat.Crc
namespace Go.Proofs.YtklnihlchhhhlaaGreat.Crc
open Fw
set_option linter.unusedVariables false
set_option linter.unusedSimpArgs false
theorem t32 (n : Nat) : (UInt32.ofNat n).toNat = n % 2 ^ 32 := by simp
def u32 (x : BitVec 32) : UInt32 := ⟨x⟩
theorem Znj (x : UInt32) (n : Nat) (h : n ≤ 32) : UN.shr x n = u32 (x.toBitVec >>> n) := by
  unfold UN.shr u32
  apply UInt32.toNat_inj.1
  show (UInt32.ofNat (x.toNat / 2 ^ min n 32)).toNat = (x.toBitVec >>> n).toNat
  rw [Nat.min_eq_left h, BitVec.toNat_ushiftRight, Nat.shiftRight_eq_div_pow]
  have hx : x.toNat / 2 ^ n < 2 ^ 32 := Nat.lt_of_le_of_lt (Nat.div_le_self _ _) x.toNat_lt
  rw [t32]
  exact Nat.mod_eq_of_lt hx
theorem bit0 (x : UInt32) : ((x &&& 1) == 1) = x.toBitVec.getLsbD 0 := by
  have h : (x &&& 1).toNat = x.toNat % 2 := by
    rw [UInt32.toNat_and]; exact Nat.and_one_is_mod _
  have h2 : x.toBitVec.getLsbD 0 = decide (x.toNat % 2 = 1) := by
    rw [BitVec.getLsbD]; exact Nat.testBit_zero _
  rw [h2]
  by_cases hx : x.toNat % 2 = 1
  · have : x &&& 1 = 1 := UInt32.toNat_inj.1 (by rw [h, hx]; rfl)
    rw [this]; simp [hx]
  · have : x &&& 1 ≠ 1 := fun e => hx (by rw [← h, e]; rfl)
    simp [this, hx]
theorem Zku (k : Nat) (x : UInt32) (i : Nat) (h : i < 4) : crc_fours.b2 k x (i : Int) = some (.inl (u32 (L x.toBitVec), ((i + 1 : Nat) : Int))) := by
  unfold crc_fours.b2
  simp only [lt1, Zbs (show (i : Int) < 4 by omega), if_true, bit0]
  rw [Za1 (by omega)]
  have e1 : UN.toN (1 : UInt64) = 1 := rfl
  rw [e1, Znj x 1 (by decide)]
  unfold L
  cases hb : x.toBitVec.getLsbD 0
  · simp
  · simp; rfl
theorem ZlE (k : Nat) (x : UInt32) (hk : 4 < k) : Zbi (fun s => crc_fours.b2 k s.1 s.2) k (x, (0 : Int)) = some (u32 (Ln 4 x.toBitVec)) := by
  refine Zgg (body := fun s : UInt32 × Int => crc_fours.b2 k s.1 s.2) (fun i => (u32 (Ln i x.toBitVec), (i : Int))) 4 (u32 (Ln 4 x.toBitVec)) rfl (fun i hi => by
    show crc_fours.b2 k (u32 (Ln i x.toBitVec)) (i : Int) = _
    rw [Zku k _ i hi]; rfl) (by
    show crc_fours.b2 k _ ((4 : Nat) : Int) = _
    unfold crc_fours.b2
    simp [lt1]) hk
def FT : Vector UInt32 16 := Vector.ofFn fun i => u32 (Ln 4 (BitVec.ofNat 32 i.1))
theorem ZlZ (k : Nat) (hk : 16 < k) : crc_fours k = some FT := by
  have := Zgg (body := fun s : Vector UInt32 16 × UInt32 => crc_fours.b1 k s.1 s.2) (fun i => (Vector.ofFn fun j => if j.1 < i then u32 (Ln 4 (BitVec.ofNat 32 j.1)) else 0, UInt32.ofNat i)) 16 FT (s0 := (Vector.replicate 16 0, 0)) (by
    simp only [Nat.not_lt_zero, if_false]
    congr 1) (fun i hi => by
    show crc_fours.b1 k _ (UInt32.ofNat i) = _
    unfold crc_fours.b1
    have h1 : UInt32.ofNat i < 16 := by
      rw [UInt32.lt_iff_toNat_lt, t32]
      show i % 2 ^ 32 < 16
      omega
    have h2 : UN.toN (UInt32.ofNat i) = i := by
      show (UInt32.ofNat i).toNat = i
      rw [t32]; exact Nat.mod_eq_of_lt (by omega)
    simp only [lt1, Zbs h1, if_true, ZlE k _ (by omega), Option.bind_some, h2, ZkU hi]
    congr 3
    · apply Vector.ext
      intro j hj
      simp only [putV, Vector.getElem_set, Vector.getElem_ofFn]
      by_cases e : i = j
      · subst e
        rw [if_pos rfl, if_pos (by omega)]
        rfl
      · rw [if_neg e]
        by_cases e2 : j < i
        · rw [if_pos e2, if_pos (by omega)]
        · rw [if_neg e2, if_neg (by omega)]
    · apply UInt32.toNat_inj.1
      simp) (by
    show crc_fours.b1 k _ (UInt32.ofNat 16) = _
    unfold crc_fours.b1
    have h1 : ¬ UInt32.ofNat 16 < 16 := by decide
    simp only [lt1, Zbt h1, Bool.false_eq_true, if_false]
    congr 2) hk
  unfold crc_fours
  rw [this]
  rfl
theorem Zl8 (x : UInt32) : ∃ h : UN.toN (x &&& 15) < 16, getV FT ⟨UN.toN (x &&& 15), h⟩ ^^^ UN.shr x (UN.toN (4 : UInt64)) = u32 (Ln 4 x.toBitVec) := by
  have h : UN.toN (x &&& 15) < 16 := by
    show (x &&& 15).toNat < 16
    rw [UInt32.toNat_and]
    exact Nat.lt_of_le_of_lt Nat.and_le_right (by decide)
  refine ⟨h, ?_⟩
  have e1 : UN.toN (4 : UInt64) = 4 := rfl
  rw [e1, Znj x 4 (by decide), L4 x.toBitVec]
  have e2 : getV FT ⟨UN.toN (x &&& 15), h⟩ = u32 (Ln 4 (x.toBitVec &&& 15#32)) := by
    unfold getV FT
    rw [Vector.getElem_ofFn]
    congr 2
    apply BitVec.eq_of_toNat_eq
    rw [BitVec.toNat_ofNat]
    show (x &&& 15).toNat % 2 ^ 32 = _
    rw [Nat.mod_eq_of_lt (UInt32.toNat_lt _)]
    rfl
  rw [e2]; rfl
def byte (c : UInt8) : List Bool := bits 8 (c.toBitVec.setWidth 32)
def ZmA (l : List UInt8) : List Bool := l.flatMap byte
def upd (x : BitVec 32) (l : List UInt8) : BitVec 32 := run x (ZmA l)
theorem Zio (x : BitVec 32) (l m : List UInt8) : upd x (l ++ m) = upd (upd x l) m := by unfold upd ZmA; rw [List.flatMap_append, Ziy]
theorem ZmW (x : BitVec 32) (c : UInt8) : upd x [c] = Ln 8 (x ^^^ c.toBitVec.setWidth 32) := by
  unfold upd ZmA
  rw [List.flatMap_cons, List.flatMap_nil, List.append_nil]
  refine ZmH x _ 8 ?_
  apply BitVec.eq_of_getLsbD_eq
  intro i hi
  rw [BitVec.getLsbD_ushiftRight, BitVec.getLsbD_setWidth]
  simp
theorem Ln8 (x : BitVec 32) : Ln 8 x = Ln 4 (Ln 4 x) := rfl
def ones : BitVec 32 := BitVec.allOnes 32
def csum (l : List UInt8) : UInt32 := u32 (~~~ upd ones l)
theorem Zn4 (x : UInt32) : UN.not x = u32 (~~~ x.toBitVec) := by
  unfold UN.not u32
  apply UInt32.toNat_inj.1
  show (UInt32.ofNat (2 ^ 32 - 1 - x.toNat)).toNat = (~~~ x.toBitVec).toNat
  rw [t32, BitVec.toNat_not]
  exact Nat.mod_eq_of_lt (by omega)
theorem Znd (c : UInt8) : (UN.to c : UInt32) = u32 (c.toBitVec.setWidth 32) := by
  unfold UN.to u32
  apply UInt32.toNat_inj.1
  show (UInt32.ofNat c.toNat).toNat = (c.toBitVec.setWidth 32).toNat
  rw [t32, BitVec.toNat_setWidth]
  rfl
theorem Ziz {T : Type} {l : List T} {i : Nat} (h : i < l.length) : l.take (i + 1) = l.take i ++ [l[i]] := by rw [List.take_add_one, List.getElem?_eq_getElem h]; rfl
theorem Zm4 (k : Nat) (was : UInt32) (b : List UInt8) (hb : b.length < 9223372036854775807) (hk : 16 < k) (hk2 : b.length < k) : crc_sum k was b = some (u32 (~~~ upd (~~~ was.toBitVec) b)) := by
  have := Zgg (body := fun s : UInt32 × Int => crc_sum.b1 k b FT s.1 s.2) (fun i => (u32 (upd (~~~ was.toBitVec) (b.take i)), (i : Int))) b.length (u32 (upd (~~~ was.toBitVec) b)) (s0 := (u32 (~~~ was.toBitVec), (0 : Int))) rfl (fun i hi => by
    show crc_sum.b1 k b FT (u32 _) (i : Int) = _
    unfold crc_sum.b1
    have h1 : (i : Int) < (b.length : Int) := by omega
    simp only [lt1, Zbs h1, if_true, Zbz hi, Option.bind_some, Znd]
    generalize hy : (u32 (upd (~~~ was.toBitVec) (b.take i)) ^^^ u32 (b[i].toBitVec.setWidth 32)) = y
    obtain ⟨g1, g2⟩ := Zl8 y
    obtain ⟨g3, g4⟩ := Zl8 (u32 (Ln 4 y.toBitVec))
    simp only [ZkU g1, Option.bind_some, g2, ZkU g3, g4]
    rw [Za1 (by omega), Ziz hi, Zio, ZmW, Ln8]
    subst hy
    rfl) (by
    show crc_sum.b1 k b FT _ ((b.length : Nat) : Int) = _
    unfold crc_sum.b1
    simp [lt1, List.take_length]) hk2
  unfold crc_sum
  rw [ZlZ k hk]
  simp only [Option.bind_some, lt1, Zn4]
  rw [this]
  rfl
theorem Sum_eq (k : Nat) (l : List (List UInt8)) (hl : l.length < 9223372036854775807) (hb : ∀ b ∈ l, b.length < 9223372036854775807) (hk : 16 < k) (hk2 : l.length < k) (hk3 : ∀ b ∈ l, b.length < k) : crc_Sum k l = some (csum l.flatten) := by
  have := Zgg (body := fun s : UInt32 × Int => crc_Sum.b1 k l s.1 s.2) (fun i => (csum (l.take i).flatten, (i : Int))) l.length (csum l.flatten) (s0 := (0, (0 : Int))) (by
    show (csum [], (0 : Int)) = (0, 0)
    congr 1) (fun i hi => by
    show crc_Sum.b1 k l (csum _) (i : Int) = _
    unfold crc_Sum.b1
    have h1 : (i : Int) < (l.length : Int) := by omega
    simp only [lt1, Zbs h1, if_true, Zbz hi, Option.bind_some]
    rw [Zm4 k _ _ (hb _ (List.getElem_mem hi)) hk (hk3 _ (List.getElem_mem hi))]
    simp only [Option.bind_some]
    rw [Za1 (by omega), Ziz hi, List.flatten_append, List.flatten_singleton]
    unfold csum
    rw [Zio]
    simp [u32]) (by
    show crc_Sum.b1 k l _ ((l.length : Nat) : Int) = _
    unfold crc_Sum.b1
    simp [lt1, List.take_length]) hk2
  unfold crc_Sum
  rw [this]
  rfl
end Go.Proofs.YtklnihlchhhhlaaGreat.Crc
namespace Go.Proofs.YtklnihlchhhhlaaGreat
open Go Fw
set_option linter.unusedVariables false
set_option linter.unusedSimpArgs false
theorem ZlS {α : Type} (g : α → List UInt8) (l : List α) (i : Nat) (h : i < l.length) : ((l.take i).flatMap g).length + (g l[i]).length ≤ (l.flatMap g).length := by
  have e : l.flatMap g = (l.take i).flatMap g ++ ((l.drop i).flatMap g) := by rw [← List.flatMap_append, List.take_append_drop]
  rw [e, List.drop_eq_getElem_cons h, List.flatMap_cons, List.length_append, List.length_append]
  omega
theorem Zgv {α : Type} (l : List α) (g : α → List UInt8) {body : List UInt8 × Int → Option (List UInt8 × Int ⊕ List UInt8)} (x : List UInt8) (hs : ∀ i (h : i < l.length) (y : List UInt8), y.length + (g l[i]).length ≤ x.length + (l.flatMap g).length → body (y, (i : Int)) = some (.inl (y ++ g l[i], ((i + 1 : Nat) : Int)))) (he : ∀ y, body (y, (l.length : Int)) = some (.inr y)) {k : Nat} (hk : l.length < k) : Zbi body k (x, (0 : Int)) = some (x ++ l.flatMap g) := by
  refine Zgg (f := fun i => (x ++ (l.take i).flatMap g, ((i : Nat) : Int))) l.length _ (by simp) ?_ ?_ hk
  · intro i hi
    have h1 := ZlS g l i hi
    show body (x ++ (l.take i).flatMap g, (i : Int)) = _
    rw [hs i hi _ (by rw [List.length_append]; omega), List.take_succ_eq_append_getElem hi, List.flatMap_append]
    simp
  · show body (x ++ (l.take l.length).flatMap g, (l.length : Int)) = _
    rw [he, List.take_length]
def Zha (l : List Zaf) : List UInt8 := put l.length 2 ++ l.flatMap dotB
def Zib (d : ZaA) : List UInt8 := dotB d.Dot ++ Zed d.Device
def Zfv (e : Zar) : List UInt8 := dotB e.ID ++ (Zed e.Topic ++ (Zed e.Payload ++ (vecB e.Past 16 ++ (put e.To.length 2 ++ e.To.flatMap Zib))))
def Zd5 (n : Int) : UInt8 := UN.ofI n
def ZjN (l : List (Vector UInt8 32)) : List UInt8 := l.flatMap fun h => h.toList
def ZiJ (l : List Int) : List UInt8 := Zd5 (l.length : Int) :: l.flatMap fun n => [Zd5 n]
def Zf6 (f : Zah) : List UInt8 :=
  if f.Kind = 1 then Zh2 f.Items
  else if f.Kind = 2 then put (Zfv f.Event).length 4 ++ Zfv f.Event
  else if f.Kind = 3 then vecB f.Past 16
  else if f.Kind = 4 then vecB f.Seen 16 ++ (Zha f.Extra ++ Zha f.Live)
  else if f.Kind = 5 then f.Hash.toList
  else if f.Kind = 6 then ZjN f.Leaves
  else if f.Kind = 7 then ZiJ f.Buckets ++ (Zh2 f.Items ++ (vecB f.Seen 16 ++ (Zha f.Extra ++ Zh8 f.Reply)))
  else []
def ZdE (f : Zah) : List UInt8 := [Zd5 f.Kind, Zd5 f.From, Zd5 f.To] ++ Zf6 f
def Zgc (f : Zah) : List UInt8 := ZdE f ++ put (Crc.csum (ZdE f)).toNat 4
theorem Zex {α : Type} (g : α → List UInt8) (m : Nat) (l : List α) (h : ∀ x ∈ l, (g x).length ≤ m) : (l.flatMap g).length ≤ m * l.length := by
  induction l with
  | nil => simp
  | cons a l ih =>
    have h1 := h a (List.mem_cons_self ..)
    have h2 := ih fun x hx => h x (List.mem_cons_of_mem _ hx)
    rw [List.flatMap_cons, List.length_append, List.length_cons, Nat.mul_add]; omega
theorem ZgG (l : List Zaf) : (Zha l).length ≤ 2 + 9 * l.length := by
  have := Zex dotB 9 l fun d _ => by rw [ZcX]; exact Nat.le_refl _
  unfold Zha
  rw [List.length_append, ZaK]; omega
theorem Zg0 (l : List Zap) (h : ∀ i ∈ l, ZbF i) : (Zh2 l).length ≤ 2 + 78 * l.length := by
  have := Zjo l h
  unfold Zh2
  rw [List.length_append, ZaK]; omega
theorem Znv (k : Nat) (l : List Zaf) (hk : l.length + 10 < k) (hl : l.length ≤ 5000) (hm : ∀ d ∈ l, Zb0 d) (x : List UInt8) (hx : x.length ≤ 1000000) : frame_writer_dots k l x = some (x ++ Zha l) := by
  have hp := ZmK k (by omega) (show l.length ≤ 65535 by omega)
  have hb := Zex dotB 9 l fun d _ => by rw [ZcX]; exact Nat.le_refl _
  have hlp := Zgv l dotB (body := fun s => frame_writer_dots.b1 k l s.1 s.2) (k := k) (x ++ put l.length 2) (fun i hi y hy => by
    have hd := wDot k (by omega) (hm _ (List.getElem_mem hi))
    rw [List.length_append, ZaK] at hy
    simp only [frame_writer_dots.b1, lt1, Zbs (show (i : Int) < (l.length : Int) by omega), if_true, Zbz hi, Option.bind_some, hd, ZaO, ap1 (show y.length + (dotB l[i]).length ≤ 100000000 by omega), Za1 (show i < 9223372036854775807 by omega)]) (fun y => by simp only [frame_writer_dots.b1, lt1, endB, Bool.false_eq_true, if_false]) (by omega)
  simp only [frame_writer_dots, lt1, hp, Option.bind_some, ZaO, ap1 (show x.length + (put l.length 2).length ≤ 100000000 by rw [ZaK]; omega), hlp, Zha, List.append_assoc]
theorem Zme (k : Nat) (l : List Zap) (hk : l.length + 10 < k) (hl : l.length ≤ 5000) (hm : ∀ d ∈ l, ZbF d) (x : List UInt8) (hx : x.length ≤ 1000000) : frame_writer_items'3 k l x = some (x ++ Zh2 l) := by
  have hp := ZmK k (by omega) (show l.length ≤ 65535 by omega)
  have hb := Zjo l hm
  have hlp := Zgv l Zjj (body := fun s => frame_writer_items'3.b1 k l s.1 s.2) (k := k) (x ++ put l.length 2) (fun i hi y hy => by
    rw [List.length_append, ZaK] at hy
    exact Zky k (by omega) l i hi (hm _ (List.getElem_mem hi)) (by omega) y (by omega)) (fun y => by simp only [frame_writer_items'3.b1, lt1, endB, Bool.false_eq_true, if_false]) (by omega)
  simp only [frame_writer_items'3, lt1, hp, Option.bind_some, ZaO, ap1 (show x.length + (put l.length 2).length ≤ 100000000 by rw [ZaK]; omega), hlp, Zh2, List.append_assoc]
theorem Zm1 (k : Nat) (f : Zah) (hk : 6000 ≤ k) (hl : f.Extra.length ≤ 5000) (hm : ∀ d ∈ f.Extra, Zb0 d) (x : List UInt8) (hx : x.length ≤ 900000) : ZbW k f x = some (x ++ (vecB f.Seen 16 ++ Zha f.Extra)) := by
  have hv := Zdc f.Seen 16 (by omega)
  simp only [ZbW, ZgZ k (by omega), Option.bind_some, ZaO, ap1 (show x.length + (vecB f.Seen 16).length ≤ 100000000 by omega), Znv k f.Extra (by omega) hl hm (x ++ vecB f.Seen 16) (by rw [List.length_append]; omega), List.append_assoc]
theorem ZnK (h : Vector UInt8 32) : subL (Vector.toList h) 0 32 = some h.toList := by
  rw [Zg5 (by omega) (by omega) (by simp)]
  simp only [Option.some.injEq]
  exact List.take_of_length_le (by simp)
theorem ZmZ (k : Nat) (f : Zah) (hk : 6000 ≤ k) (hl : f.Leaves.length ≤ 300) (x : List UInt8) (hx : x.length ≤ 900000) : frame_writer_leaves k f x = some (x ++ ZjN f.Leaves) := by
  have hb := Zex (fun h : Vector UInt8 32 => h.toList) 32 f.Leaves fun d _ => by simp
  exact Zgv f.Leaves (fun h => h.toList) (body := fun s => frame_writer_leaves.b1 k f s.1 s.2) (k := k) x (fun i hi y hy => by
    have h32 : (f.Leaves[i].toList).length = 32 := by simp
    simp only [frame_writer_leaves.b1, lt1, Zbs (show (i : Int) < (f.Leaves.length : Int) by omega), if_true, Zbz hi, Option.bind_some, ZnK, ap1 (show y.length + (f.Leaves[i].toList).length ≤ 100000000 by omega), Za1 (show i < 9223372036854775807 by omega)]) (fun y => by simp only [frame_writer_leaves.b1, lt1, endB, Bool.false_eq_true, if_false]) (by omega)
theorem ZlD (k : Nat) (f : Zah) (hk : 6000 ≤ k) (hl : f.Buckets.length ≤ 300) (x : List UInt8) (hx : x.length ≤ 900000) : Zbi (fun s => frame_writer_buckets.b1 k f s.1 s.2) k (x, (0 : Int)) = some (x ++ f.Buckets.flatMap fun n => [Zd5 n]) := by
  have hb := Zex (fun n : Int => [Zd5 n]) 1 f.Buckets fun d _ => by simp
  exact Zgv f.Buckets (fun n => [Zd5 n]) (body := fun s => frame_writer_buckets.b1 k f s.1 s.2) (k := k) x (fun i hi y hy => by
    have hy : y.length + 1 ≤ x.length + (f.Buckets.flatMap fun n => [Zd5 n]).length := hy
    have e := ap1 (x := y) (y := [Zd5 f.Buckets[i]]) (by show y.length + 1 ≤ _; omega)
    have e' : apL 1 y [(UN.ofI f.Buckets[i] : UInt8)] = some (y ++ [Zd5 f.Buckets[i]]) := e
    simp only [frame_writer_buckets.b1, lt1, Zbs (show (i : Int) < (f.Buckets.length : Int) by omega), if_true, Zbz hi, Option.bind_some, e', Za1 (show i < 9223372036854775807 by omega)]) (fun y => by simp only [frame_writer_buckets.b1, lt1, endB, Bool.false_eq_true, if_false]) (by omega)
theorem Zi4 {d : ZaA} (h : Zb4 d.Device) : (Zib d).length ≤ 43 := by
  have := h.2
  unfold Zib Zed
  rw [List.length_append, List.length_append, ZcX, ZaK]; omega
theorem Zlf {l : List ZaA} (h : ∀ i, i < l.length → toP l i) : ∀ d ∈ l, Zb0 d.Dot ∧ Zb4 d.Device := by
  intro d hd
  obtain ⟨i, hi, rfl⟩ := List.getElem_of_mem hd
  have := h i hi
  have e : tg l i = l[i] := by rw [tg, List.getElem?_eq_getElem hi]; rfl
  unfold toP at this
  rw [e] at this
  exact ⟨this.1, this.2.1⟩
theorem Zmg {l : List Zaf} (h : ∀ i, i < l.length → Zb0 (dg l i)) : ∀ d ∈ l, Zb0 d := by
  intro d hd
  obtain ⟨i, hi, rfl⟩ := List.getElem_of_mem hd
  have := h i hi
  have e : dg l i = l[i] := by rw [dg, List.getElem?_eq_getElem hi]; rfl
  rwa [e] at this
theorem ZiA {e : Zar} (h : may e) : (Zfv e).length ≤ 50000 := by
  obtain ⟨⟨_, _, _, h4, h5, h6⟩, h7⟩ := h
  have h4 := h4.2
  have hb := Zex Zib 43 e.To fun d hd => Zi4 (Zlf h7 d hd).2
  have hv := Zdc e.Past 16 (by omega)
  unfold Zfv Zed
  simp only [List.length_append, ZcX, ZaK, hv]
  omega
theorem Zia (k : Nat) (hk : 6000 ≤ k) (e : Zar) (h : may e) : event_bytes k e = some (Zfv e) := by
  obtain ⟨⟨h1, _, _, h4, h5, h6⟩, h7⟩ := h
  have h4' := h4.2
  have hb := Zex Zib 43 e.To fun d hd => Zi4 (Zlf h7 d hd).2
  have hv := Zdc e.Past 16 (by omega)
  have l1 : (Zed e.Topic).length = 2 + e.Topic.length := by simp [Zed, ZaK]
  have l2 : (Zed e.Payload).length = 2 + e.Payload.length := by simp [Zed, ZaK]
  have l0 := ZcX e.ID
  have a0 : apL 1 ([] : List UInt8) (dotB e.ID) = some (dotB e.ID) := by rw [ap1 (by simp; omega)]; rfl
  obtain ⟨y1, hy1⟩ : ∃ y, dotB e.ID ++ Zed e.Topic = y := ⟨_, rfl⟩
  have a1 : apL 1 (dotB e.ID) (Zed e.Topic) = some y1 := by rw [ap1 (by omega), hy1]
  have n1 : y1.length ≤ 60 := by rw [← hy1, List.length_append]; omega
  obtain ⟨y2, hy2⟩ : ∃ y, y1 ++ Zed e.Payload = y := ⟨_, rfl⟩
  have a2 : apL 1 y1 (Zed e.Payload) = some y2 := by rw [ap1 (by omega), hy2]
  have n2 : y2.length ≤ 600 := by rw [← hy2, List.length_append]; omega
  obtain ⟨y3, hy3⟩ : ∃ y, y2 ++ vecB e.Past 16 = y := ⟨_, rfl⟩
  have a3 : apL 1 y2 (vecB e.Past 16) = some y3 := by rw [ap1 (by omega), hy3]
  have n3 : y3.length ≤ 800 := by rw [← hy3, List.length_append]; omega
  obtain ⟨y4, hy4⟩ : ∃ y, y3 ++ put e.To.length 2 = y := ⟨_, rfl⟩
  have a4 : apL 1 y3 (put e.To.length 2) = some y4 := by rw [ap1 (by rw [ZaK]; omega), hy4]
  have n4 : y4.length ≤ 900 := by rw [← hy4, List.length_append, ZaK]; omega
  have hlp := Zgv e.To Zib (body := fun s => event_bytes.b1 k e s.1 s.2) (k := k) y4 (fun i hi y hy => by
    have hm := Zlf h7 _ (List.getElem_mem hi)
    have hn := hm.2.2
    have lb : (Zed e.To[i].Device).length = 2 + e.To[i].Device.length := by simp [Zed, ZaK]
    have ld := ZcX e.To[i].Dot
    have hy' : y.length + (9 + (2 + e.To[i].Device.length)) ≤ y4.length + (e.To.flatMap Zib).length := by
      have : (Zib e.To[i]).length = 9 + (2 + e.To[i].Device.length) := by unfold Zib; rw [List.length_append, lb, ld]
      rw [← this]; exact hy
    simp only [event_bytes.b1, lt1, Zbs (show (i : Int) < (e.To.length : Int) by omega), if_true, Zbz hi, Option.bind_some, wDot k (by omega) hm.1, Zly k (by omega) (show e.To[i].Device.length ≤ 65535 by omega), Zbu, ap1 (show y.length + (dotB e.To[i].Dot).length ≤ 100000000 by omega), ap1 (show (y ++ dotB e.To[i].Dot).length + (Zed e.To[i].Device).length ≤ 100000000 by rw [List.length_append]; omega), Za1 (show i < 9223372036854775807 by omega), Zib, List.append_assoc]) (fun y => by simp only [event_bytes.b1, lt1, endB, Bool.false_eq_true, if_false]) (by omega)
  simp only [event_bytes, lt1, wDot k (by omega) h1, Zeb, Zbu, a0, Zly k (by omega) (show e.Topic.length ≤ 65535 by omega), a1, Zly k (by omega) (show e.Payload.length ≤ 65535 by omega), a2, ZgZ k (by omega), a3, ZmK k (by omega) (show e.To.length ≤ 65535 by omega), a4, hlp, Option.bind_some]
  rw [← hy4, ← hy3, ← hy2, ← hy1]
  simp only [Zfv, List.append_assoc]
theorem Zn0 (k : Nat) (hk : 9 ≤ k) {n : Nat} (h : n ≤ 1000000) : wire_Put k (UN.ofI (n : Int) : UInt64) 4 = some (put n 4, 0) := by
  have e : (UN.ofI (n : Int) : UInt64).toNat = n := Zjl (by omega)
  have hr : room (UN.ofI (n : Int) : UInt64) 4 := ⟨by omega, by omega, by rw [e]; exact Nat.lt_of_le_of_lt h (by decide)⟩
  rw [Zei k hk _ 4 (by omega) (by omega), if_pos hr, e]; rfl
theorem ZnL (k : Nat) (hk : 6000 ≤ k) (f : Zah) (h : may f.Event) (x : List UInt8) (hx : x.length ≤ 900000) : Zcd k f x = some (x ++ (put (Zfv f.Event).length 4 ++ Zfv f.Event)) := by
  have hl := ZiA h
  have hT := h.1.2.2.2.2.2
  simp only [Zcd, Zfp, ZhL k hk f.Event (by omega), decide_eq_true h, lt1, Option.bind_some, Bool.not_true, Bool.false_eq_true, if_false, Zia k hk f.Event h, Zn0 k (by omega) (show (Zfv f.Event).length ≤ 1000000 by omega), ZaO, ap1 (show x.length + (put (Zfv f.Event).length 4).length ≤ 100000000 by rw [ZaK]; omega), ap1 (show (x ++ put (Zfv f.Event).length 4).length + (Zfv f.Event).length ≤ 100000000 by rw [List.length_append, ZaK]; omega), List.append_assoc]
theorem ZnR (k : Nat) (g : Bool) (x : List UInt8) (hx : x.length ≤ 10000000) : ZbB k g x = some (x ++ Zh8 g) := by
  cases g
  · simp only [ZbB, Bool.false_eq_true, if_false, Option.bind_some, ap1 (show x.length + ([0] : List UInt8).length ≤ 100000000 by simp; omega), Zh8]
  · simp only [ZbB, if_true, Option.bind_some, ap1 (show x.length + ([1] : List UInt8).length ≤ 100000000 by simp; omega), Zh8]
theorem ZhA {f : Zah} (h : Zhq f) (hs : ZgU f) : (Zf6 f).length ≤ 500000 := by
  obtain ⟨s1, s2, s3, s4, s5, s6, s7, s8⟩ := hs
  have v1 := Zdc f.Seen 16 (by omega)
  have v2 := Zdc f.Past 16 (by omega)
  have d1 := ZgG f.Extra
  have d2 := ZgG f.Live
  unfold Zhq at h
  unfold Zf6
  by_cases k1 : f.Kind = 1
  · rw [if_pos k1] at h ⊢
    have := Zg0 f.Items h.2.2
    have := h.2.1
    omega
  rw [if_neg k1] at h ⊢
  by_cases k2 : f.Kind = 2
  · rw [if_pos k2] at h ⊢
    have := ZiA h
    rw [List.length_append, ZaK]; omega
  rw [if_neg k2] at h ⊢
  by_cases k3 : f.Kind = 3
  · rw [if_pos k3]; omega
  rw [if_neg k3] at h ⊢
  by_cases k4 : f.Kind = 4
  · rw [if_pos k4, List.length_append, List.length_append]; omega
  rw [if_neg k4] at h ⊢
  by_cases k5 : f.Kind = 5
  · rw [if_pos k5]; simp
  rw [if_neg k5] at h ⊢
  by_cases k6 : f.Kind = 6
  · rw [if_pos k6]
    have := Zex (fun h : Vector UInt8 32 => h.toList) 32 f.Leaves fun d _ => by simp
    unfold ZjN; omega
  rw [if_neg k6] at h ⊢
  by_cases k7 : f.Kind = 7
  · rw [if_pos k7] at h ⊢
    have h1 := Zg0 f.Items h.2.2.2.1.2
    have h2 := Zex (fun n : Int => [Zd5 n]) 1 f.Buckets fun d _ => by simp
    have h3 : (Zh8 f.Reply).length = 1 := rfl
    have h4 : (ZiJ f.Buckets).length = (f.Buckets.flatMap fun n => [Zd5 n]).length + 1 := rfl
    rw [List.length_append, List.length_append, List.length_append, List.length_append]; omega
  · rw [if_neg k7]; simp
theorem ZgO (k : Nat) : Zey k = some ([((1 : Int), (Zal.mk (some 92 : Option Nat) (some 93 : Option Nat))), ((2 : Int), (Zal.mk (some 94 : Option Nat) (some 95 : Option Nat))), ((3 : Int), (Zal.mk (some 96 : Option Nat) (some 97 : Option Nat))), ((4 : Int), (Zal.mk (some 98 : Option Nat) (some 99 : Option Nat))), ((5 : Int), (Zal.mk (some 100 : Option Nat) (some 101 : Option Nat))), ((6 : Int), (Zal.mk (some 102 : Option Nat) (some 103 : Option Nat))), ((7 : Int), (Zal.mk (some 104 : Option Nat) (some 105 : Option Nat)))] : (List (Int × Zal))) := rfl
theorem ZlW {f : Zah} (h : ∀ i, i < f.Live.length → ZfD f.Live i) : ∀ d ∈ f.Live, Zb0 d := Zmg fun i hi => (h i hi).1
theorem Zkc {v : Vc} {l : List Zaf} (h : Zgs v l) : ∀ d ∈ l, Zb0 d := Zmg fun i hi => (h.2.2 i hi).1.1
theorem to64 (s : UInt32) : (UN.to s : UInt64).toNat = s.toNat := UInt64.toNat_ofNat_of_lt' (Nat.lt_of_lt_of_le s.toNat_lt (by decide))
theorem sumW (k : Nat) (hk : 17 < k) (b : List UInt8) (hb : b.length < k) (hl : b.length ≤ 1000000) : crc_Sum k [b] = some (Crc.csum b) := by
  have h := Crc.Sum_eq k [b] (by simp) (fun x hx => by rw [List.mem_singleton.1 hx]; omega) (by omega) (by simp; omega) (fun x hx => by rw [List.mem_singleton.1 hx]; exact hb)
  rw [h]; simp
theorem Zfl (k : Nat) (hk : 600000 ≤ k) (f : Zah) (h : mayF f) (hs : ZgU f) : Zct k f = some (Zgc f) := by
  have hK := ZhA h.2.2 hs
  have hp := h.2.2
  obtain ⟨s1, s2, s3, s4, s5, s6, s7, s8⟩ := hs
  obtain ⟨hh, hh'⟩ : ∃ hh, [Zd5 f.Kind, Zd5 f.From, Zd5 f.To] = hh := ⟨_, rfl⟩
  have hh3 : hh.length = 3 := by rw [← hh']; rfl
  have hbody : ZdE f = hh ++ Zf6 f := by rw [← hh']; rfl
  have hbl : (ZdE f).length ≤ 500003 := by rw [hbody, List.length_append]; omega
  have tail : (Option.bind (some (ZdE f)) fun b_14 => Option.bind (crc_Sum k ([b_14] : (List (List UInt8)))) fun v_17 => Option.bind (wire_Put k (UN.to v_17 : UInt64) (4 : Int)) fun p => Option.bind (ZbC k p.1 p.2 b_14) fun x_23 => some x_23) = some (Zgc f) := by
    have hr : room (UN.to (Crc.csum (ZdE f)) : UInt64) 4 := ⟨by omega, by omega, by rw [to64]; exact Nat.lt_of_lt_of_le (Crc.csum (ZdE f)).toNat_lt (by decide)⟩
    have hp : wire_Put k (UN.to (Crc.csum (ZdE f)) : UInt64) 4 = some (put (Crc.csum (ZdE f)).toNat 4, 0) := by
      rw [Zei k (by omega) _ 4 (by omega) (by omega), if_pos hr, to64]; rfl
    simp only [Option.bind_some, sumW k (by omega) (ZdE f) (by omega) (by omega), hp, ZbC, ap1 (show (ZdE f).length + (put (Crc.csum (ZdE f)).toNat 4).length ≤ 100000000 by rw [ZaK]; omega), Zgc]
  rw [← tail]
  have hx : ([(UN.ofI f.Kind : UInt8), (UN.ofI f.From : UInt8), (UN.ofI f.To : UInt8)] : List UInt8) = hh := hh'
  unfold Zct
  simp only [lt1, ZgO, Option.bind_some, hx]
  have key : ∀ (w : Option (List UInt8)), w = some (ZdE f) → (Option.bind (Option.bind w fun x_11 => some x_11) fun b_14 => Option.bind (crc_Sum k ([b_14] : (List (List UInt8)))) fun v_17 => Option.bind (wire_Put k (UN.to v_17 : UInt64) (4 : Int)) fun p => Option.bind (ZbC k p.1 p.2 b_14) fun x_23 => some x_23) = Option.bind (crc_Sum k ([ZdE f] : (List (List UInt8)))) fun v_17 => Option.bind (wire_Put k (UN.to v_17 : UInt64) (4 : Int)) fun p => Option.bind (ZbC k p.1 p.2 (ZdE f)) fun x_23 => some x_23 := fun w hw => by rw [hw]; rfl
  refine key _ ?_
  rw [hbody]
  clear tail key hbody hbl hx hh' hK
  unfold Zhq at hp
  unfold Zf6
  by_cases k1 : f.Kind = 1
  · rw [if_pos k1] at hp ⊢
    rw [show Option.getD (ZeB (some ([((1 : Int), (Zal.mk (some 92 : Option Nat) (some 93 : Option Nat))), ((2 : Int), (Zal.mk (some 94 : Option Nat) (some 95 : Option Nat))), ((3 : Int), (Zal.mk (some 96 : Option Nat) (some 97 : Option Nat))), ((4 : Int), (Zal.mk (some 98 : Option Nat) (some 99 : Option Nat))), ((5 : Int), (Zal.mk (some 100 : Option Nat) (some 101 : Option Nat))), ((6 : Int), (Zal.mk (some 102 : Option Nat) (some 103 : Option Nat))), ((7 : Int), (Zal.mk (some 104 : Option Nat) (some 105 : Option Nat)))] : (List (Int × Zal)))) f.Kind) (Zal.mk (none : Option Nat) (none : Option Nat)) = Zal.mk (some 92 : Option Nat) (some 93 : Option Nat) by rw [k1]; rfl]
    have := hp.2.1
    simp only [Option.some.injEq, Nat.reduceEqDiff, if_true, if_false, Zci, Zme k f.Items (by omega) (by omega) hp.2.2 hh (by omega), Option.bind_some]
  rw [if_neg k1] at hp ⊢
  by_cases k2 : f.Kind = 2
  · rw [if_pos k2] at hp ⊢
    rw [show Option.getD (ZeB (some ([((1 : Int), (Zal.mk (some 92 : Option Nat) (some 93 : Option Nat))), ((2 : Int), (Zal.mk (some 94 : Option Nat) (some 95 : Option Nat))), ((3 : Int), (Zal.mk (some 96 : Option Nat) (some 97 : Option Nat))), ((4 : Int), (Zal.mk (some 98 : Option Nat) (some 99 : Option Nat))), ((5 : Int), (Zal.mk (some 100 : Option Nat) (some 101 : Option Nat))), ((6 : Int), (Zal.mk (some 102 : Option Nat) (some 103 : Option Nat))), ((7 : Int), (Zal.mk (some 104 : Option Nat) (some 105 : Option Nat)))] : (List (Int × Zal)))) f.Kind) (Zal.mk (none : Option Nat) (none : Option Nat)) = Zal.mk (some 94 : Option Nat) (some 95 : Option Nat) by rw [k2]; rfl]
    simp only [Option.some.injEq, Nat.reduceEqDiff, if_true, if_false, ZnL k (by omega) f hp hh (by omega)]
  rw [if_neg k2] at hp ⊢
  by_cases k3 : f.Kind = 3
  · rw [if_pos k3]
    rw [show Option.getD (ZeB (some ([((1 : Int), (Zal.mk (some 92 : Option Nat) (some 93 : Option Nat))), ((2 : Int), (Zal.mk (some 94 : Option Nat) (some 95 : Option Nat))), ((3 : Int), (Zal.mk (some 96 : Option Nat) (some 97 : Option Nat))), ((4 : Int), (Zal.mk (some 98 : Option Nat) (some 99 : Option Nat))), ((5 : Int), (Zal.mk (some 100 : Option Nat) (some 101 : Option Nat))), ((6 : Int), (Zal.mk (some 102 : Option Nat) (some 103 : Option Nat))), ((7 : Int), (Zal.mk (some 104 : Option Nat) (some 105 : Option Nat)))] : (List (Int × Zal)))) f.Kind) (Zal.mk (none : Option Nat) (none : Option Nat)) = Zal.mk (some 96 : Option Nat) (some 97 : Option Nat) by rw [k3]; rfl]
    have hv := Zdc f.Past 16 (by omega)
    simp only [Option.some.injEq, Nat.reduceEqDiff, if_true, if_false, ZcY, ZgZ k (by omega), ZaO, ap1 (show hh.length + (vecB f.Past 16).length ≤ 100000000 by omega), Option.bind_some]
  rw [if_neg k3] at hp ⊢
  by_cases k4 : f.Kind = 4
  · rw [if_pos k4] at hp ⊢
    rw [show Option.getD (ZeB (some ([((1 : Int), (Zal.mk (some 92 : Option Nat) (some 93 : Option Nat))), ((2 : Int), (Zal.mk (some 94 : Option Nat) (some 95 : Option Nat))), ((3 : Int), (Zal.mk (some 96 : Option Nat) (some 97 : Option Nat))), ((4 : Int), (Zal.mk (some 98 : Option Nat) (some 99 : Option Nat))), ((5 : Int), (Zal.mk (some 100 : Option Nat) (some 101 : Option Nat))), ((6 : Int), (Zal.mk (some 102 : Option Nat) (some 103 : Option Nat))), ((7 : Int), (Zal.mk (some 104 : Option Nat) (some 105 : Option Nat)))] : (List (Int × Zal)))) f.Kind) (Zal.mk (none : Option Nat) (none : Option Nat)) = Zal.mk (some 98 : Option Nat) (some 99 : Option Nat) by rw [k4]; rfl]
    have hv := Zdc f.Seen 16 (by omega)
    have hd := ZgG f.Extra
    simp only [Option.some.injEq, Nat.reduceEqDiff, if_true, if_false, ZcH, Zm1 k f (by omega) s5 (Zkc hp.2.2) hh (by omega), Option.bind_some, Znv k f.Live (by omega) s6 (ZlW hp.1) (hh ++ (vecB f.Seen 16 ++ Zha f.Extra)) (by rw [List.length_append, List.length_append]; omega), List.append_assoc]
  rw [if_neg k4] at hp ⊢
  by_cases k5 : f.Kind = 5
  · rw [if_pos k5]
    rw [show Option.getD (ZeB (some ([((1 : Int), (Zal.mk (some 92 : Option Nat) (some 93 : Option Nat))), ((2 : Int), (Zal.mk (some 94 : Option Nat) (some 95 : Option Nat))), ((3 : Int), (Zal.mk (some 96 : Option Nat) (some 97 : Option Nat))), ((4 : Int), (Zal.mk (some 98 : Option Nat) (some 99 : Option Nat))), ((5 : Int), (Zal.mk (some 100 : Option Nat) (some 101 : Option Nat))), ((6 : Int), (Zal.mk (some 102 : Option Nat) (some 103 : Option Nat))), ((7 : Int), (Zal.mk (some 104 : Option Nat) (some 105 : Option Nat)))] : (List (Int × Zal)))) f.Kind) (Zal.mk (none : Option Nat) (none : Option Nat)) = Zal.mk (some 100 : Option Nat) (some 101 : Option Nat) by rw [k5]; rfl]
    simp only [Option.some.injEq, Nat.reduceEqDiff, if_true, if_false, ZcW, ZnK, Option.bind_some, ap1 (show hh.length + (f.Hash.toList).length ≤ 100000000 by simp; omega)]
  rw [if_neg k5] at hp ⊢
  by_cases k6 : f.Kind = 6
  · rw [if_pos k6]
    rw [show Option.getD (ZeB (some ([((1 : Int), (Zal.mk (some 92 : Option Nat) (some 93 : Option Nat))), ((2 : Int), (Zal.mk (some 94 : Option Nat) (some 95 : Option Nat))), ((3 : Int), (Zal.mk (some 96 : Option Nat) (some 97 : Option Nat))), ((4 : Int), (Zal.mk (some 98 : Option Nat) (some 99 : Option Nat))), ((5 : Int), (Zal.mk (some 100 : Option Nat) (some 101 : Option Nat))), ((6 : Int), (Zal.mk (some 102 : Option Nat) (some 103 : Option Nat))), ((7 : Int), (Zal.mk (some 104 : Option Nat) (some 105 : Option Nat)))] : (List (Int × Zal)))) f.Kind) (Zal.mk (none : Option Nat) (none : Option Nat)) = Zal.mk (some 102 : Option Nat) (some 103 : Option Nat) by rw [k6]; rfl]
    simp only [Option.some.injEq, Nat.reduceEqDiff, if_true, if_false, ZmZ k f (by omega) s7 hh (by omega)]
  rw [if_neg k6] at hp ⊢
  by_cases k7 : f.Kind = 7
  · rw [if_pos k7] at hp ⊢
    rw [show Option.getD (ZeB (some ([((1 : Int), (Zal.mk (some 92 : Option Nat) (some 93 : Option Nat))), ((2 : Int), (Zal.mk (some 94 : Option Nat) (some 95 : Option Nat))), ((3 : Int), (Zal.mk (some 96 : Option Nat) (some 97 : Option Nat))), ((4 : Int), (Zal.mk (some 98 : Option Nat) (some 99 : Option Nat))), ((5 : Int), (Zal.mk (some 100 : Option Nat) (some 101 : Option Nat))), ((6 : Int), (Zal.mk (some 102 : Option Nat) (some 103 : Option Nat))), ((7 : Int), (Zal.mk (some 104 : Option Nat) (some 105 : Option Nat)))] : (List (Int × Zal)))) f.Kind) (Zal.mk (none : Option Nat) (none : Option Nat)) = Zal.mk (some 104 : Option Nat) (some 105 : Option Nat) by rw [k7]; rfl]
    have hv := Zdc f.Seen 16 (by omega)
    have hd := ZgG f.Extra
    have hi := Zg0 f.Items hp.2.2.2.1.2
    have hi4 := hp.2.2.2.1.1
    have hb := Zex (fun n : Int => [Zd5 n]) 1 f.Buckets fun d _ => by simp
    have e1 : apL 1 hh [(UN.ofI (f.Buckets.length : Int) : UInt8)] = some (hh ++ [Zd5 (f.Buckets.length : Int)]) := ap1 (by show hh.length + 1 ≤ _; omega)
    obtain ⟨y1, hy1⟩ : ∃ y, hh ++ [Zd5 (f.Buckets.length : Int)] = y := ⟨_, rfl⟩
    have n1 : y1.length = 4 := by rw [← hy1, List.length_append, hh3]; rfl
    obtain ⟨y2, hy2⟩ : ∃ y, y1 ++ (f.Buckets.flatMap fun n => [Zd5 n]) = y := ⟨_, rfl⟩
    have n2 : y2.length ≤ 400 := by rw [← hy2, List.length_append]; omega
    obtain ⟨y3, hy3⟩ : ∃ y, y2 ++ Zh2 f.Items = y := ⟨_, rfl⟩
    have n3 : y3.length ≤ 400000 := by rw [← hy3, List.length_append]; omega
    obtain ⟨y4, hy4⟩ : ∃ y, y3 ++ (vecB f.Seen 16 ++ Zha f.Extra) = y := ⟨_, rfl⟩
    have n4 : y4.length ≤ 500000 := by rw [← hy4, List.length_append, List.length_append]; omega
    rw [hy1] at e1
    simp only [Option.some.injEq, Nat.reduceEqDiff, if_true, if_false, frame_writer_buckets, lt1, e1, Option.bind_some, ZlD k f (by omega) s8 y1 (by omega), hy2, Zme k f.Items (by omega) (by omega) hp.2.2.2.1.2 y2 (by omega), hy3, Zm1 k f (by omega) s5 (Zkc hp.2.2.2.2) y3 (by omega), hy4, ZnR k f.Reply y4 (by omega)]
    rw [← hy4, ← hy3, ← hy2, ← hy1]
    simp [ZiJ]
  rw [if_neg k7] at hp
  exact hp.elim
theorem Zot (b : List UInt8) : ∀ a : Nat, b.foldl (fun a x => a * 256 + x.toNat) a < (a + 1) * 256 ^ b.length := by
  induction b with
  | nil => intro a; simp
  | cons x b ih =>
    intro a
    have h1 := ih (a * 256 + x.toNat)
    have hx := x.toNat_lt
    have h2 : (a * 256 + x.toNat + 1) * 256 ^ b.length ≤ ((a + 1) * 256) * 256 ^ b.length := Nat.mul_le_mul_right _ (by omega)
    rw [List.foldl_cons, List.length_cons, Nat.pow_succ, Nat.mul_comm (256 ^ b.length) 256, ← Nat.mul_assoc]
    omega
theorem Zlr (b : List UInt8) : getB b < 256 ^ b.length := by
  have := Zot b 0
  simpa [getB] using this
theorem Zlk (b : List UInt8) (i : Nat) (h : i < b.length) : getB (b.take (i + 1)) = getB (b.take i) * 256 + b[i].toNat := by rw [List.take_succ_eq_append_getElem h, Zj4]
def getU (b : List UInt8) : UInt64 := UInt64.ofNat (getB b)
theorem Zjv (b : List UInt8) (i : Nat) (h : i < 8) : getB (b.take i) * 256 < 18446744073709551616 ∧ getB (b.take i) < 18446744073709551616 := by
  have h1 := Zlr (b.take i)
  have h2 : (b.take i).length ≤ 7 := by simp; omega
  have h3 : 256 ^ (b.take i).length ≤ 256 ^ 7 := Nat.pow_le_pow_right (by decide) h2
  have h4 : (256 : Nat) ^ 7 = 72057594037927936 := by decide
  omega
theorem Zkm (k : Nat) (hk : 9 ≤ k) (b : List UInt8) (hb : b.length ≤ 1000000) : wire_Get k b = some (if 1 ≤ b.length ∧ b.length ≤ 8 then (getU b, 0) else (0, 2)) := by
  simp only [wire_Get, lt1]
  by_cases h1 : (b.length : Int) < 1
  · have : ¬ (1 ≤ b.length ∧ b.length ≤ 8) := by omega
    simp only [h1, this, decide_true, cond_true, if_true, if_false, Option.bind_some]
  by_cases h2 : (b.length : Int) > 8
  · have : ¬ (1 ≤ b.length ∧ b.length ≤ 8) := by omega
    simp only [h1, h2, this, decide_true, decide_false, cond_false, if_true, if_false, Option.bind_some]
  have h3 : 1 ≤ b.length ∧ b.length ≤ 8 := by omega
  have hl : Zbi (fun x => wire_Get.b1 k b x.1 x.2) k ((0 : UInt64), (0 : Int)) = some (getU b) := by
    refine Zgg (n := b.length) (fun i => (UInt64.ofNat (getB (b.take i)), ((i : Nat) : Int))) _ (by simp [getB]) ?_ ?_ (by omega)
    · intro i hi
      obtain ⟨g1, g2⟩ := Zjv b i (by omega)
      have e1 : UN.shl (UInt64.ofNat (getB (b.take i))) (UN.toN (8 : UInt64)) = UInt64.ofNat (getB (b.take i) * 256) := by
        show UInt64.ofNat ((UInt64.ofNat (getB (b.take i))).toNat * 2 ^ (min ((8 : UInt64).toNat) 64)) = _
        rw [UInt64.toNat_ofNat_of_lt' g2]
        rfl
      have e2 : (UInt64.ofNat (getB (b.take i) * 256) ||| (UN.to b[i] : UInt64)) = UInt64.ofNat (getB (b.take (i + 1))) := by
        apply UInt64.toNat_inj.1
        have hx := b[i].toNat_lt
        have e3 : (UN.to b[i] : UInt64).toNat = b[i].toNat := UInt64.toNat_ofNat_of_lt' (Nat.lt_of_lt_of_le hx (by decide))
        have g3 := Zlr (b.take (i + 1))
        have g4 : (b.take (i + 1)).length ≤ 8 := by simp; omega
        rw [UInt64.toNat_or, UInt64.toNat_ofNat_of_lt' g1, e3, UInt64.toNat_ofNat_of_lt' (Nat.lt_of_lt_of_le g3 (Zlu g4)), Zlk b i hi]
        have := Nat.shiftLeft_add_eq_or_of_lt (i := 8) (b := b[i].toNat) hx (getB (b.take i))
        rw [Nat.shiftLeft_eq] at this
        exact this.symm
      simp only [wire_Get.b1, lt1, Zbs (show (i : Int) < (b.length : Int) by omega), if_true, Zbz hi, Option.bind_some, e1, e2, Za1 (show i < 9223372036854775807 by omega)]
    · simp only [wire_Get.b1, lt1, Zbt (show ¬ (b.length : Int) < (b.length : Int) by omega), Bool.false_eq_true, if_false, List.take_length, getU]
  simp only [Zbt h1, Zbt h2, cond_false, Bool.false_eq_true, if_false, Option.bind_some, hl, if_pos h3]
abbrev R (b : List UInt8) : Zag := Zag.mk b true true
theorem ZgQ (k : Nat) (a c : List UInt8) (n : Int) (hn : n = (a.length : Int)) (hl : a.length + c.length ≤ 100000000) : Zba k n (R (a ++ c)) = some (a, true, R c) := by
  subst hn
  have h1 : decide ((a.length : Int) < 0) = false := Zbt (by omega)
  have h2 : decide ((a.length : Int) > ((a ++ c).length : Int)) = false := Zbt (by rw [List.length_append]; omega)
  have e1 : subL (a ++ c) (0) (a.length : Int) = some a := by
    rw [Zg5 (by omega) (by omega) (by rw [List.length_append]; omega)]; simp
  have e2 : subL (a ++ c) (a.length : Int) ((a ++ c).length : Int) = some c := by
    rw [Zg5 (by omega) (by rw [List.length_append]; omega) (by omega)]; simp
    exact List.take_of_length_le (by omega)
  simp only [Zba, ZaU, lt1, Option.bind_some, Bool.not_true, Bool.false_eq_true, if_false, h1, h2, cond_false, e1, e2]
theorem Zk5 (k : Nat) (a c : List UInt8) (n : Int) (hn : n = (a.length : Int)) (hl : a.length + c.length ≤ 100000000) : ZbG k n true true (a ++ c) = some (a, true, c, true, true) := by
  subst hn
  have h1 : decide ((a.length : Int) < 0) = false := Zbt (by omega)
  have h2 : decide ((a.length : Int) > ((a ++ c).length : Int)) = false := Zbt (by rw [List.length_append]; omega)
  have e1 : subL (a ++ c) (0) (a.length : Int) = some a := by
    rw [Zg5 (by omega) (by omega) (by rw [List.length_append]; omega)]; simp
  have e2 : subL (a ++ c) (a.length : Int) ((a ++ c).length : Int) = some c := by
    rw [Zg5 (by omega) (by rw [List.length_append]; omega) (by omega)]; simp
    exact List.take_of_length_le (by omega)
  simp only [ZbG, Zce, lt1, Option.bind_some, Bool.not_true, Bool.false_eq_true, if_false, h1, h2, cond_false, e1, e2]
theorem Zlo (k : Nat) (hk : 9 ≤ k) (n s : Nat) (h1 : 1 ≤ s) (h8 : s ≤ 8) (hn : n < 256 ^ s) : wire_Get k (put n s) = some (UInt64.ofNat n, 0) := by
  rw [Zkm k hk _ (by rw [ZaK]; omega), ZaK, if_pos ⟨h1, h8⟩]
  have : getU (put n s) = UInt64.ofNat n := by rw [getU, ZlQ, Nat.mod_eq_of_lt hn]
  rw [this]
theorem numR (k : Nat) (hk : 9 ≤ k) (n s : Nat) (h1 : 1 ≤ s) (h8 : s ≤ 8) (hn : n < 256 ^ s) (c : List UInt8) (hc : c.length ≤ 10000000) (z : Int) (hz : z = (s : Int)) : ZaB k z (R (put n s ++ c)) = some (UInt64.ofNat n, R c) := by
  subst hz
  have e1 : decide ((s : Int) < 1) = false := Zbt (by omega)
  have e2 : decide ((s : Int) > 8) = false := Zbt (by omega)
  have ht := ZgQ k (put n s) c (s : Int) (by rw [ZaK]) (by rw [ZaK]; omega)
  simp only [ZaB, lt1, e1, e2, cond_false, Bool.false_eq_true, if_false, Option.bind_some, ht, Zlo k hk n s h1 h8 hn]
theorem numP (k : Nat) (hk : 9 ≤ k) (n s : Nat) (h1 : 1 ≤ s) (h8 : s ≤ 8) (hn : n < 256 ^ s) (c : List UInt8) (hc : c.length ≤ 10000000) (z : Int) (hz : z = (s : Int)) : Zbb k z true true (put n s ++ c) = some (UInt64.ofNat n, R c) := by
  subst hz
  have e1 : decide ((s : Int) < 1) = false := Zbt (by omega)
  have e2 : decide ((s : Int) > 8) = false := Zbt (by omega)
  have ht := Zk5 k (put n s) c (s : Int) (by rw [ZaK]) (by rw [ZaK]; omega)
  simp only [Zbb, lt1, e1, e2, cond_false, Bool.false_eq_true, if_false, Option.bind_some, ht, Zlo k hk n s h1 h8 hn]
theorem Zk2 (k : Nat) (b : List UInt8) (h : b.length ≤ 10000000) : Zcw k b = some b := by
  have : apL 1 ([] : List UInt8) b = some b := by rw [ap1 (by simp; omega)]; rfl
  simp only [Zcw, ZbN, this, Option.bind_some]
theorem toI {n : Nat} (h : n < 9223372036854775807) : w64 (UN.toN (UInt64.ofNat n) : Int) = (n : Int) := by
  have : UN.toN (UInt64.ofNat n) = n := UInt64.toNat_ofNat_of_lt' (by show n < 2 ^ 64; omega)
  rw [this]; exact ZeJ (by omega) (by omega)
theorem dotR (k : Nat) (hk : 9 ≤ k) {d : Zaf} (h : Zb0 d) (c : List UInt8) (hc : c.length ≤ 10000000) : ZbM k (R (dotB d ++ c)) = some (d, R c) := by
  have g1 := h.1
  have g2 := h.2.1
  have e : dotB d = put d.Region.toNat 1 ++ put d.Count.toNat 8 := by rw [show put d.Region.toNat 1 = [UInt8.ofNat d.Region.toNat] by simp [put]]; rfl
  have ht := ZgQ k (dotB d) c (9 : Int) (by rw [ZcX]; rfl) (by rw [ZcX]; omega)
  have h1 := numP k hk d.Region.toNat 1 (by omega) (by omega) (by omega) (put d.Count.toNat 8) (by rw [ZaK]; omega) (1 : Int) rfl
  have h2 := numR k hk d.Count.toNat 8 (by omega) (by omega) (by exact Nat.lt_of_lt_of_le d.Count.toNat_lt (by decide)) [] (by simp) (8 : Int) rfl
  rw [List.append_nil] at h2
  have hr : ((d.Region.toNat : Nat) : Int) = d.Region := by omega
  have hcnt : UInt64.ofNat d.Count.toNat = d.Count := UInt64.toNat_inj.1 (UInt64.toNat_ofNat_of_lt' d.Count.toNat_lt)
  simp only [ZbM, ht, Option.bind_some, Zk2 k (dotB d) (by rw [ZcX]; omega)]
  rw [e]
  simp only [h1, h2, Option.bind_some, lt1, toI (show d.Region.toNat < 9223372036854775807 by omega), hr, hcnt]
theorem Zl4 (v : Vector UInt64 16) : ∀ i, i ≤ 16 → vecB v 16 = vecB v i ++ (v.toList.drop i).flatMap fun n => put n.toNat 8 := by
  intro i hi
  unfold vecB
  rw [← List.flatMap_append]
  congr 1
  rw [show v.toList.take 16 = v.toList from List.take_of_length_le (by simp), List.take_append_drop]
theorem vecR (k : Nat) (hk : 17 ≤ k) (v : Vector UInt64 16) (c : List UInt8) (hc : c.length ≤ 10000000) : wire_Reader_Vector k (R (vecB v 16 ++ c)) = some (v, R c) := by
  have hvl := Zdc v 16 (by omega)
  have ht := ZgQ k (vecB v 16) c (128 : Int) (by rw [hvl]; rfl) (by omega)
  have hl : Zbi (fun s => wire_Reader_Vector.b1 k s.1 s.2.1 s.2.2) k ((Vector.replicate 16 (0 : UInt64)), (Zag.mk (vecB v 16) true true), (0 : Int)) = some v := by
    refine Zgg (n := 16) (fun i => ((Vector.ofFn fun j => if j.1 < i then v[j] else 0 : Vector UInt64 16), R ((v.toList.drop i).flatMap fun n => put n.toNat 8), ((i : Nat) : Int))) _ ?_ ?_ ?_ (by omega)
    · refine Prod.ext (Vector.ext fun j hj => by simp) (Prod.ext ?_ rfl)
      show R _ = R _
      rw [Zl4 v 0 (by omega)]; simp [vecB]
    · intro i hi
      have hi' : i < v.toList.length := by simpa using hi
      have hd : ((v.toList.drop i).flatMap fun n => put n.toNat 8) = put v[i].toNat 8 ++ (v.toList.drop (i + 1)).flatMap fun n => put n.toNat 8 := by
        rw [List.drop_eq_getElem_cons hi', List.flatMap_cons]; simp
      have hb := Zex (fun n : UInt64 => put n.toNat 8) 8 (v.toList.drop (i + 1)) fun x _ => by rw [ZaK]; exact Nat.le_refl _
      have hdl : (v.toList.drop (i + 1)).length ≤ 16 := by simp; omega
      have hn := numR k (by omega) v[i].toNat 8 (by omega) (by omega) (by exact Nat.lt_of_lt_of_le v[i].toNat_lt (by decide)) ((v.toList.drop (i + 1)).flatMap fun n => put n.toNat 8) (by omega) (8 : Int) rfl
      rw [← hd] at hn
      have hcnt : UInt64.ofNat v[i].toNat = v[i] := UInt64.toNat_inj.1 (UInt64.toNat_ofNat_of_lt' v[i].toNat_lt)
      have h3 : inV 16 (i : Int) = some ⟨i, hi⟩ := Ziv (by omega) (by simpa using hi)
      simp only [wire_Reader_Vector.b1, lt1, Zbs (show (i : Int) < 16 by omega), if_true, Zb1, hn, h3, Option.bind_some, hcnt, Za1 (show i < 9223372036854775807 by omega)]
      refine congrArg (fun z => some (Sum.inl (z, _))) (Vector.ext fun j hj => ?_)
      simp only [putV, Vector.getElem_set, Vector.getElem_ofFn]
      by_cases e : i = j
      · subst e; simp
      · rw [if_neg e]
        by_cases e2 : j < i
        · rw [if_pos e2, if_pos (by omega)]
        · rw [if_neg e2, if_neg (by omega)]
    · simp only [wire_Reader_Vector.b1, lt1, Zbt (show ¬ ((16 : Nat) : Int) < 16 by omega), Bool.false_eq_true, if_false]
      refine congrArg (fun z => some (Sum.inr z)) (Vector.ext fun j hj => ?_)
      rw [Vector.getElem_ofFn, if_pos hj]; rfl
  simp only [wire_Reader_Vector, ht, Option.bind_some, Zk2 k (vecB v 16) (by omega), hl]
theorem ZnE (k : Nat) (a c : List UInt8) (n : Int) (hn : n = (a.length : Int)) (hl : a.length + c.length ≤ 100000000) : ZbJ k n (R (a ++ c)) = some (a, R c) := by
  simp only [ZbJ, ZgQ k a c n hn hl, Option.bind_some]
theorem ZnO (k : Nat) (a1 a2 a3 : Int) (a4 : Zaf) (a5 : List UInt8) (a6 a7 a8 : Vector UInt64 16) (a9 : Vector UInt8 32) (a10 : Bool) (h : Vector UInt8 32) (c : List UInt8) (hc : c.length ≤ 10000000) : ZbU k a1 a2 a3 a4 a5 a6 a7 a8 a9 a10 (R (h.toList ++ c)) = some (h, R c) := by
  have hl : h.toList.length = 32 := by simp
  have e : cpV (Vector.replicate 32 (0 : UInt8)) 0 (32 - 0) h.toList = h := by
    refine Vector.ext fun i hi => ?_
    simp [cpV, hi]
  simp only [ZbU, ZnE k h.toList c (32 : Int) (by rw [hl]; rfl) (by omega), Option.bind_some, lt1, e]
theorem Zm8 (k : Nat) (hk : 9 ≤ k) (a1 a2 a3 : Int) (a4 : Zaf) (a5 : List UInt8) (a6 a7 a8 : Vector UInt64 16) (a9 : Vector UInt8 32) (a10 : Bool) (n : Nat) (hn : n ≤ 65535) (c : List UInt8) (hc : c.length ≤ 10000000) : ZbP k a1 a2 a3 a4 a5 a6 a7 a8 a9 a10 (R (put n 2 ++ c)) = some ((n : Int), R c) := by
  simp only [ZbP, numR k hk n 2 (by omega) (by omega) (by omega) c hc (2 : Int) rfl, Option.bind_some, lt1, toI (show n < 9223372036854775807 by omega)]
theorem Zmy (k : Nat) (hk : 9 ≤ k) (a1 a2 a3 : Int) (a4 : Zaf) (a5 : List UInt8) (a6 a7 a8 : Vector UInt64 16) (a9 : Vector UInt8 32) (a10 : Bool) (l : List Zaf) (n : Nat) (hn : n ≤ 65535) (c : List UInt8) (hc : c.length ≤ 10000000) : ZbS k a1 a2 a3 a4 a5 a6 a7 a8 a9 a10 (R (put n 2 ++ c)) l = some ((n : Int), R c) := by
  simp only [ZbS, numR k hk n 2 (by omega) (by omega) (by omega) c hc (2 : Int) rfl, Option.bind_some, lt1, toI (show n < 9223372036854775807 by omega)]
theorem ZjY (k : Nat) (l : List Zaf) (hk : l.length + 10 < k) (hl : l.length ≤ 70000) (hm : ∀ d ∈ l, Zb0 d) (c : List UInt8) (hc : c.length ≤ 1000000) : frame_listapi_Dot k (l.length : Int) (R (l.flatMap dotB ++ c)) = some (l, R c) := by
  have hlp : Zbi (fun s => frame_listapi_Dot.b1 k (l.length : Int) s.1 s.2.1 s.2.2) k (R (l.flatMap dotB ++ c), ([] : (List Zaf)), (0 : Int)) = some (.inl (l, R c)) := by
    refine Zgg (n := l.length) (fun i => (R ((l.drop i).flatMap dotB ++ c), l.take i, ((i : Nat) : Int))) _ (by simp) ?_ ?_ (by omega)
    · intro i hi
      have hb := Zex dotB 9 (l.drop (i + 1)) fun d _ => by rw [ZcX]; exact Nat.le_refl _
      rw [List.length_drop] at hb
      have hd : (l.drop i).flatMap dotB ++ c = dotB l[i] ++ ((l.drop (i + 1)).flatMap dotB ++ c) := by
        rw [List.drop_eq_getElem_cons hi, List.flatMap_cons, List.append_assoc]
      have h1 := dotR k (by omega) (hm _ (List.getElem_mem hi)) ((l.drop (i + 1)).flatMap dotB ++ c) (by rw [List.length_append]; omega)
      rw [← hd] at h1
      have ha : apL 16 (l.take i) [l[i]] = some (l.take (i + 1)) := by
        rw [Zhm (by rw [List.length_take]; show (min i l.length + 1) * 16 ≤ _; omega), List.take_succ_eq_append_getElem hi]
      simp only [frame_listapi_Dot.b1, lt1, Zbs (show (i : Int) < (l.length : Int) by omega), if_true, ZaU, Bool.not_true, Bool.false_eq_true, if_false, Option.bind_some, h1, ha, Za1 (show i < 9223372036854775807 by omega)]
    · simp only [frame_listapi_Dot.b1, lt1, endB, Bool.false_eq_true, if_false]
      simp
  simp only [frame_listapi_Dot, hlp, Option.bind_some]
def zf (n a b : Int) : Zah := Zah.mk n a b ([] : (List Zap)) (Zar.mk (Zaf.mk (0 : Int) (0 : UInt64)) ([] : (List UInt8)) ([] : (List UInt8)) (Vector.replicate 16 (0 : UInt64)) ([] : (List ZaA))) (Vector.replicate 16 (0 : UInt64)) (Vector.replicate 16 (0 : UInt64)) ([] : (List Zaf)) ([] : (List Zaf)) (Vector.replicate 32 (0 : UInt8)) ([] : (List (Vector UInt8 32))) ([] : (List Int)) false
theorem Znb (k : Nat) : ZdS k ([] : List UInt8) = some (zf 0 0 0, 4) := by
  have h1 : apL 1 ([] : List UInt8) ([] : List UInt8) = some [] := Zhm (by decide)
  have r : Zcw k ([] : List UInt8) = some [] := by simp only [Zcw, ZbN, h1, Option.bind_some]
  have h2 : (decide ((1 : Int) < 1)) = false := by decide
  have h3 : (decide ((1 : Int) > 8)) = false := by decide
  have t1 : ZbG k 1 true true ([] : List UInt8) = some ([], false, [], false, true) := by simp [ZbG, Zce, lt1]
  have n1 : Zbb k (1 : Int) true true ([] : (List UInt8)) = some ((0 : UInt64), (Zag.mk ([] : (List UInt8)) false true)) := by
    simp only [Zbb, lt1, h2, h3, cond_false, Option.bind_some, Bool.false_eq_true, if_false, t1, get0]
  have t2 : Zba k 1 (Zag.mk ([] : (List UInt8)) false true) = some ([], false, Zag.mk ([] : (List UInt8)) false true) := by simp [Zba, ZaU, lt1]
  have n2 : ZaB k (1 : Int) (Zag.mk ([] : (List UInt8)) false true) = some ((0 : UInt64), (Zag.mk ([] : (List UInt8)) false true)) := by
    simp only [ZaB, lt1, h2, h3, cond_false, Option.bind_some, Bool.false_eq_true, if_false, t2, get0]
  have hw : w64 (UN.toN (0 : UInt64) : Int) = 0 := ZeJ (by decide) (by decide)
  have hM : frame_May k (zf 0 0 0) = some false := by simp [frame_May, lt1, zf]
  have hM' := hM
  unfold zf at hM'
  have hg : ZjQ (some ([((1 : Int), (Zal.mk (some 92 : Option Nat) (some 93 : Option Nat))), ((2 : Int), (Zal.mk (some 94 : Option Nat) (some 95 : Option Nat))), ((3 : Int), (Zal.mk (some 96 : Option Nat) (some 97 : Option Nat))), ((4 : Int), (Zal.mk (some 98 : Option Nat) (some 99 : Option Nat))), ((5 : Int), (Zal.mk (some 100 : Option Nat) (some 101 : Option Nat))), ((6 : Int), (Zal.mk (some 102 : Option Nat) (some 103 : Option Nat))), ((7 : Int), (Zal.mk (some 104 : Option Nat) (some 105 : Option Nat)))] : (List (Int × Zal)))) (0 : Int) (Zal.mk (none : Option Nat) (none : Option Nat)) = some ((Zal.mk (none : Option Nat) (none : Option Nat)), false) := rfl
  simp only [ZdS, r, n1, n2, hw, lt1, Option.bind_some, ZgO, hg, Bool.false_eq_true, if_false, hM', Bool.not_false, if_true]
  rfl
def F3 : Zah := Zah.mk (3 : Int) (1 : Int) (2 : Int) ([] : (List Zap)) (Zar.mk (Zaf.mk (0 : Int) (0 : UInt64)) ([] : (List UInt8)) ([] : (List UInt8)) (Vector.replicate 16 (0 : UInt64)) ([] : (List ZaA))) (Vector.replicate 16 (0 : UInt64)) (Vector.replicate 16 (0 : UInt64)) ([] : (List Zaf)) ([] : (List Zaf)) (Vector.replicate 32 (0 : UInt8)) ([] : (List (Vector UInt8 32))) ([] : (List Int)) false
theorem Zmd : ZgU F3 := by unfold ZgU F3; simp
theorem may3 : mayF F3 := by
  refine ⟨by decide, by unfold Zg7 F3; simp [Zi1], ?_⟩
  show Zem (Vector.replicate 16 0)
  intro i hi
  simp
theorem ZlT (k : Nat) (hk : 600000 ≤ k) : Zcv k = some true := by
  have hv : (vecB (Vector.replicate 16 (0 : UInt64)) 16).length = 128 := Zdc _ 16 (by omega)
  obtain ⟨t, ht, hl⟩ : ∃ t, Zgc F3 = [3, 1, 2] ++ t ∧ t.length = 132 := ⟨vecB (Vector.replicate 16 (0 : UInt64)) 16 ++ put (Crc.csum (ZdE F3)).toNat 4, by
    show ([Zd5 3, Zd5 1, Zd5 2] ++ vecB (Vector.replicate 16 (0 : UInt64)) 16) ++ put (Crc.csum (ZdE F3)).toNat 4 = _
    rw [List.append_assoc]; rfl, by rw [List.length_append, ZaK, hv]⟩
  have hM : frame_May k F3 = some true := by rw [Zgl k (by omega) F3 Zmd, decide_eq_true may3]
  have hB : Zcr k F3 = some ([3, 1, 2] ++ t, 0) := by
    simp only [Zcr, hM, lt1, Option.bind_some, Bool.not_true, Bool.false_eq_true, if_false, Zfl k hk F3 may3 Zmd, ht]
  have hB' := hB
  unfold F3 at hB'
  have hnum : ∀ v, Zdy k v = some () := fun _ => rfl
  have hlen : (((([3, 1, 2] : List UInt8) ++ t).length : Int) == 135) = true := by rw [beq_iff_eq, List.length_append, hl]; rfl
  have i0 : inO (([3, 1, 2] : List UInt8) ++ t) (0 : Int) = some 0 := Zle (by omega) (by rw [List.length_append]; simp; omega)
  have i1 : inO (([3, 1, 2] : List UInt8) ++ t) (1 : Int) = some 1 := Zle (by omega) (by rw [List.length_append]; simp; omega)
  have i2 : inO (([3, 1, 2] : List UInt8) ++ t) (2 : Int) = some 2 := Zle (by omega) (by rw [List.length_append]; simp; omega)
  have g0 : (([3, 1, 2] : List UInt8) ++ t)[0]? = some 3 := rfl
  have g1 : (([3, 1, 2] : List UInt8) ++ t)[1]? = some 1 := rfl
  have g2 : (([3, 1, 2] : List UInt8) ++ t)[2]? = some 2 := rfl
  have hsame : ∀ (a : Int) (i : List Zap) (e : Zar) (p s : Vector UInt64 16) (x l : List Zaf) (h : Vector UInt8 32) (v : List (Vector UInt8 32)) (bu : List Int) (rp : Bool), frame_May k (Zah.mk a (1 : Int) (1 : Int) i e p s x l h v bu rp) = some false := fun a i e p s x l h v bu rp => by simp [frame_May, lt1]
  simp only [Zcv, hB', Option.bind_some, Znb, hnum, lt1, beq_self_eq_true, if_true, hlen, i0, i1, i2, g0, g1, g2, hsame, Bool.not_false, cond_true, show Zf1 k 7 = some ([105, 116, 101, 109, 115] : List UInt8) from rfl]
theorem Zi0 {n : Int} (h0 : 0 ≤ n) (h : n < 256) : [Zd5 n] = put n.toNat 1 := by
  have : Zd5 n = UInt8.ofNat n.toNat := by
    show UInt8.ofNat (n % ((2 ^ 8 : Nat) : Int)).toNat = _
    congr 1
    omega
  rw [this]; simp [put]
theorem ZmL (k : Nat) (hk : 600000 ≤ k) (b : List UInt8) (hb : b.length ≤ 1000000) (f : Zah) (hm : mayF f) (hs : ZgU f) (he : Zgc f = b) {z : Zah × Int} : (Option.bind (Option.bind (frame_May k f) fun v_58 => if (!v_58) = true then some true else Option.bind (Zct k f) fun v_60 => Option.bind (slices_Equalbyte_byte k v_60 b) fun v_63 => some (!v_63)) fun x_65 => if x_65 = true then some z else some (f, (0 : Int))) = some (f, 0) := by
  have hl : (Zgc f).length ≤ 500007 := by
    have := ZhA hm.2.2 hs
    unfold Zgc ZdE
    rw [List.length_append, List.length_append, ZaK]; show 3 + _ + 4 ≤ _; omega
  simp only [Zgl k (by omega) f hs, decide_eq_true hm, Option.bind_some, Bool.not_true, Bool.false_eq_true, if_false, Zfl k hk f hm hs, Zk0 k (Zgc f) b (by omega) (by omega), decide_eq_true he]
theorem Zj2 {f : Zah} (hK : 0 ≤ f.Kind ∧ f.Kind < 256) (h : Zjc f) (c : List UInt8) : ZdE f ++ c = put f.Kind.toNat 1 ++ (put f.From.toNat 1 ++ (put f.To.toNat 1 ++ (Zf6 f ++ c))) := by
  obtain ⟨⟨h1, h2, h3, h4⟩, _⟩ := h
  rw [← Zi0 hK.1 hK.2, ← Zi0 (by omega) (by omega), ← Zi0 (by omega) (by omega)]
  simp [ZdE]
theorem Zmp (k : Nat) (hk : 600000 ≤ k) (f : Zah) (hK : 0 ≤ f.Kind ∧ f.Kind < 256) (h : Zjc f) (c : List UInt8) (hc : (Zf6 f ++ c).length ≤ 600000) : Zcw k (ZdE f ++ c) = some (ZdE f ++ c) ∧ Zbb k (1 : Int) true true (ZdE f ++ c) = some (UInt64.ofNat f.Kind.toNat, R (put f.From.toNat 1 ++ (put f.To.toNat 1 ++ (Zf6 f ++ c)))) ∧ ZaB k (1 : Int) (R (put f.From.toNat 1 ++ (put f.To.toNat 1 ++ (Zf6 f ++ c)))) = some (UInt64.ofNat f.From.toNat, R (put f.To.toNat 1 ++ (Zf6 f ++ c))) ∧ ZaB k (1 : Int) (R (put f.To.toNat 1 ++ (Zf6 f ++ c))) = some (UInt64.ofNat f.To.toNat, R (Zf6 f ++ c)) := by
  have hh := h
  obtain ⟨⟨h1, h2, h3, h4⟩, _⟩ := h
  refine ⟨?_, ?_, ?_, ?_⟩
  · refine Zk2 k _ ?_
    rw [Zj2 hK hh]
    simp only [List.length_append, ZaK] at hc ⊢; omega
  · rw [Zj2 hK hh]
    exact numP k (by omega) _ 1 (by omega) (by omega) (by omega) _ (by simp only [List.length_append, ZaK] at hc ⊢; omega) 1 rfl
  · exact numR k (by omega) _ 1 (by omega) (by omega) (by omega) _ (by simp only [List.length_append, ZaK] at hc ⊢; omega) 1 rfl
  · exact numR k (by omega) _ 1 (by omega) (by omega) (by omega) _ (by omega) 1 rfl
theorem toI' {n : Int} (h0 : 0 ≤ n) (h : n < 256) : w64 (UN.toN (UInt64.ofNat n.toNat) : Int) = n := by
  rw [toI (by omega)]; omega
theorem Zmq (k : Nat) (hk : 600000 ≤ k) (n a b : Int) (hn : n = 3 ∨ n = 4 ∨ n = 5) (hm : mayF (zf n a b)) : ZdS k (Zgc (zf n a b)) = some (zf n a b, 0) := by
  have hs : ZgU (zf n a b) := by unfold ZgU zf; simp
  have hz16 : (vecB (Vector.replicate 16 (0 : UInt64)) 16).length = 128 := Zdc _ 16 (by omega)
  have hKl := ZhA hm.2.2 hs
  obtain ⟨s, hs4, hsl⟩ : ∃ s, put (Crc.csum (ZdE (zf n a b))).toNat 4 = s ∧ s.length = 4 := ⟨_, rfl, ZaK _ _⟩
  have hF : Zgc (zf n a b) = ZdE (zf n a b) ++ s := by rw [← hs4]; rfl
  have hK : 0 ≤ (zf n a b).Kind ∧ (zf n a b).Kind < 256 := by show 0 ≤ n ∧ n < 256; omega
  obtain ⟨r0, r1, r2, r3⟩ := Zmp k hk (zf n a b) hK hm.1 s (by rw [List.length_append]; omega)
  obtain ⟨⟨h1, h2, h3, h4⟩, _⟩ := hm.1
  have w1 : w64 (UN.toN (UInt64.ofNat (zf n a b).Kind.toNat) : Int) = n := toI' hK.1 hK.2
  have w2 : w64 (UN.toN (UInt64.ofNat (zf n a b).From.toNat) : Int) = a := toI' (by omega) (by omega)
  have w3 : w64 (UN.toN (UInt64.ofNat (zf n a b).To.toNat) : Int) = b := toI' (by omega) (by omega)
  have tail := fun z => ZmL k hk (ZdE (zf n a b) ++ s) (by
    have : (ZdE (zf n a b)).length = 3 + (Zf6 (zf n a b)).length := by unfold ZdE; rw [List.length_append]; rfl
    rw [List.length_append]; omega) (zf n a b) hm hs hF (z := z)
  rw [hF]
  rcases hn with rfl | rfl | rfl
  · have hg : ZjQ (some ([((1 : Int), (Zal.mk (some 92 : Option Nat) (some 93 : Option Nat))), ((2 : Int), (Zal.mk (some 94 : Option Nat) (some 95 : Option Nat))), ((3 : Int), (Zal.mk (some 96 : Option Nat) (some 97 : Option Nat))), ((4 : Int), (Zal.mk (some 98 : Option Nat) (some 99 : Option Nat))), ((5 : Int), (Zal.mk (some 100 : Option Nat) (some 101 : Option Nat))), ((6 : Int), (Zal.mk (some 102 : Option Nat) (some 103 : Option Nat))), ((7 : Int), (Zal.mk (some 104 : Option Nat) (some 105 : Option Nat)))] : (List (Int × Zal)))) (3 : Int) (Zal.mk (none : Option Nat) (none : Option Nat)) = some ((Zal.mk (some 96 : Option Nat) (some 97 : Option Nat)), true) := rfl
    have hv := vecR k (by omega) (Vector.replicate 16 (0 : UInt64)) s (by omega)
    have hkb : Zf6 (zf 3 a b) = vecB (Vector.replicate 16 (0 : UInt64)) 16 := rfl
    rw [hkb] at r1 r2 r3
    simp only [ZdS, r0, r1, r2, r3, w1, w2, w3, lt1, Option.bind_some, ZgO, hg, if_true, Option.some.injEq, Nat.reduceEqDiff, if_false, ZcT, hv]
    exact tail _
  · have hg : ZjQ (some ([((1 : Int), (Zal.mk (some 92 : Option Nat) (some 93 : Option Nat))), ((2 : Int), (Zal.mk (some 94 : Option Nat) (some 95 : Option Nat))), ((3 : Int), (Zal.mk (some 96 : Option Nat) (some 97 : Option Nat))), ((4 : Int), (Zal.mk (some 98 : Option Nat) (some 99 : Option Nat))), ((5 : Int), (Zal.mk (some 100 : Option Nat) (some 101 : Option Nat))), ((6 : Int), (Zal.mk (some 102 : Option Nat) (some 103 : Option Nat))), ((7 : Int), (Zal.mk (some 104 : Option Nat) (some 105 : Option Nat)))] : (List (Int × Zal)))) (4 : Int) (Zal.mk (none : Option Nat) (none : Option Nat)) = some ((Zal.mk (some 98 : Option Nat) (some 99 : Option Nat)), true) := rfl
    have hkb : Zf6 (zf 4 a b) ++ s = vecB (Vector.replicate 16 (0 : UInt64)) 16 ++ (put 0 2 ++ (put 0 2 ++ s)) := by
      show (vecB (Vector.replicate 16 (0 : UInt64)) 16 ++ (Zha [] ++ Zha [])) ++ s = _
      simp [Zha]
    have hv := vecR k (by omega) (Vector.replicate 16 (0 : UInt64)) (put 0 2 ++ (put 0 2 ++ s)) (by simp only [List.length_append, ZaK]; omega)
    have hc1 := Zm8 k (by omega) 4 a b (Zaf.mk (0 : Int) (0 : UInt64)) [] (Vector.replicate 16 (0 : UInt64)) (Vector.replicate 16 (0 : UInt64)) (Vector.replicate 16 (0 : UInt64)) (Vector.replicate 32 (0 : UInt8)) false 0 (by omega) (put 0 2 ++ s) (by simp only [List.length_append, ZaK]; omega)
    have hc2 := Zmy k (by omega) 4 a b (Zaf.mk (0 : Int) (0 : UInt64)) [] (Vector.replicate 16 (0 : UInt64)) (Vector.replicate 16 (0 : UInt64)) (Vector.replicate 16 (0 : UInt64)) (Vector.replicate 32 (0 : UInt8)) false [] 0 (by omega) s (by omega)
    have hl1 := ZjY k [] (by simp; omega) (by simp) (by simp) (put 0 2 ++ s) (by simp only [List.length_append, ZaK]; omega)
    have hl2 := ZjY k [] (by simp; omega) (by simp) (by simp) s (by omega)
    simp only [List.length_nil, List.flatMap_nil, List.nil_append] at hl1 hl2
    rw [hkb] at r1 r2 r3
    simp only [ZdS, r0, r1, r2, r3, w1, w2, w3, lt1, Option.bind_some, ZgO, hg, if_true, Option.some.injEq, Nat.reduceEqDiff, if_false, ZcF, ZcZ, hv, hc1, hl1, hc2, hl2]
    exact tail _
  · have hg : ZjQ (some ([((1 : Int), (Zal.mk (some 92 : Option Nat) (some 93 : Option Nat))), ((2 : Int), (Zal.mk (some 94 : Option Nat) (some 95 : Option Nat))), ((3 : Int), (Zal.mk (some 96 : Option Nat) (some 97 : Option Nat))), ((4 : Int), (Zal.mk (some 98 : Option Nat) (some 99 : Option Nat))), ((5 : Int), (Zal.mk (some 100 : Option Nat) (some 101 : Option Nat))), ((6 : Int), (Zal.mk (some 102 : Option Nat) (some 103 : Option Nat))), ((7 : Int), (Zal.mk (some 104 : Option Nat) (some 105 : Option Nat)))] : (List (Int × Zal)))) (5 : Int) (Zal.mk (none : Option Nat) (none : Option Nat)) = some ((Zal.mk (some 100 : Option Nat) (some 101 : Option Nat)), true) := rfl
    have hh := ZnO k 5 a b (Zaf.mk (0 : Int) (0 : UInt64)) [] (Vector.replicate 16 (0 : UInt64)) (Vector.replicate 16 (0 : UInt64)) (Vector.replicate 16 (0 : UInt64)) (Vector.replicate 32 (0 : UInt8)) false (Vector.replicate 32 (0 : UInt8)) s (by omega)
    have hkb : Zf6 (zf 5 a b) = (Vector.replicate 32 (0 : UInt8)).toList := rfl
    rw [hkb] at r1 r2 r3
    simp only [ZdS, r0, r1, r2, r3, w1, w2, w3, lt1, Option.bind_some, ZgO, hg, if_true, Option.some.injEq, Nat.reduceEqDiff, if_false, ZcV, hh]
    exact tail _
theorem ZiC {f : Zah} (h : Zhq f) : (f.Kind = 1 → f.Items ≠ []) ∧ (f.Kind = 2 → f.Event ≠ Zi1) ∧ (f.Kind = 6 → f.Leaves ≠ []) ∧ (f.Kind = 7 → f.Buckets ≠ []) ∧ (f.Kind = 1 ∨ f.Kind = 2 ∨ f.Kind = 3 ∨ f.Kind = 4 ∨ f.Kind = 5 ∨ f.Kind = 6 ∨ f.Kind = 7) := by
  have hE : ¬ may Zi1 := fun hm => by have := hm.1.1.1; simp [Zi1] at this
  unfold Zhq at h
  by_cases k1 : f.Kind = 1
  · rw [if_pos k1] at h
    exact ⟨fun _ => h.1, fun e => by omega, fun e => by omega, fun e => by omega, .inl k1⟩
  rw [if_neg k1] at h
  by_cases k2 : f.Kind = 2
  · rw [if_pos k2] at h
    exact ⟨fun e => by omega, fun _ e => hE (e ▸ h), fun e => by omega, fun e => by omega, by omega⟩
  rw [if_neg k2] at h
  by_cases k3 : f.Kind = 3
  · exact ⟨fun e => by omega, fun e => by omega, fun e => by omega, fun e => by omega, by omega⟩
  rw [if_neg k3] at h
  by_cases k4 : f.Kind = 4
  · exact ⟨fun e => by omega, fun e => by omega, fun e => by omega, fun e => by omega, by omega⟩
  rw [if_neg k4] at h
  by_cases k5 : f.Kind = 5
  · exact ⟨fun e => by omega, fun e => by omega, fun e => by omega, fun e => by omega, by omega⟩
  rw [if_neg k5] at h
  by_cases k6 : f.Kind = 6
  · rw [if_pos k6] at h
    exact ⟨fun e => by omega, fun e => by omega, fun _ e => by rw [e] at h; simp at h, fun e => by omega, by omega⟩
  rw [if_neg k6] at h
  by_cases k7 : f.Kind = 7
  · rw [if_pos k7] at h
    exact ⟨fun e => by omega, fun e => by omega, fun e => by omega, fun _ => h.2.2.1, by omega⟩
  rw [if_neg k7] at h
  exact h.elim
theorem Zki {f : Zah} {n : Int} (h1 : mayF f) (h2 : mayF { f with Kind := n }) (hn : n ≠ f.Kind) : (n = 3 ∨ n = 4 ∨ n = 5) ∧ { f with Kind := n } = zf n f.From f.To := by
  have q1 := ZiC h1.2.2
  have q2 := ZiC h2.2.2
  have z1 := h1.2.1
  have z2 := h2.2.1
  clear h1 h2
  obtain ⟨a1, a2, a3, a4, a5, a6, a7, a8, a9, a10, a11, a12, a13⟩ := f
  unfold Zg7 at z1 z2
  unfold zf
  simp only [Zah.mk.injEq, true_and] at hn z1 z2 q1 q2 ⊢
  have hz : Zi1 = (Zar.mk (Zaf.mk (0 : Int) (0 : UInt64)) ([] : (List UInt8)) ([] : (List UInt8)) (Vector.replicate 16 (0 : UInt64)) ([] : (List ZaA))) := rfl
  rw [← hz]
  clear hz
  obtain ⟨q11, q12, q13, q14, q15⟩ := q1
  obtain ⟨q21, q22, q23, q24, q25⟩ := q2
  rcases q15 with rfl | rfl | rfl | rfl | rfl | rfl | rfl <;> rcases q25 with rfl | rfl | rfl | rfl | rfl | rfl | rfl <;> simp_all
theorem Zkp (k : Nat) (hk : 600000 ≤ k) (f : Zah) (n : Int) : Zb8 k f n = some true := by
  have hkn := ZlT k hk
  obtain ⟨m, h1, h1'⟩ := Zmu k (by omega) f
  simp only [Zb8, h1, Option.bind_some, lt1]
  cases m
  case true => simp [hkn]
  have hs := h1' rfl
  have hs2 : ZgU { f with Kind := n } := hs
  simp only [Bool.not_false, if_true, Zi6 k (by omega) f hs, Option.bind_some, cond_false]
  by_cases h : mayF f
  case neg => simp [h, hkn]
  have hnum : ∀ v, Zdy k v = some () := fun _ => rfl
  simp only [decide_eq_true h, Bool.not_true, Bool.false_eq_true, if_false, Zcr, Zgl k (by omega) { f with Kind := n } hs2, Zi6 k (by omega) { f with Kind := n } hs2, lt1, Option.bind_some, bne_self_eq_false, Bool.not_false, if_true, hnum, cond_false]
  by_cases h2 : mayF { f with Kind := n }
  case neg => simp [h2, hkn, hnum]
  simp only [decide_eq_true h2, Bool.not_true, Bool.false_eq_true, if_false, Zfl k hk _ h2 hs2, Option.bind_some, beq_self_eq_true, bne_self_eq_false, cond_false, Zds]
  by_cases hn : n = f.Kind
  · simp [hn, hkn]
  obtain ⟨h3, h4⟩ := Zki h h2 hn
  have h5 : mayF (zf n f.From f.To) := h4 ▸ h2
  have hsz : Zlh k (zf n f.From f.To) := ZhB (by omega) (h4 ▸ hs2)
  have h6 : ¬ zf n f.From f.To = f := fun e => hn (by have := congrArg Zah.Kind e; exact this)
  simp only [decide_eq_false hn, Bool.false_eq_true, if_false, h4, Zmq k hk n f.From f.To h3 h5, Option.bind_some, Zho k _ f hsz, decide_eq_false h6, hkn]
  simp [zf]
theorem ZhQ (y0 : Zah) (y1 : Int) (f0 : ((IntKind.min .i64 ≤ y0.Kind ∧ y0.Kind ≤ IntKind.max .i64) ∧ ((IntKind.min .i64 ≤ y0.From ∧ y0.From ≤ IntKind.max .i64) ∧ ((IntKind.min .i64 ≤ y0.To ∧ y0.To ≤ IntKind.max .i64) ∧ ((List.length y0.Items * 56 ≤ 140737488351232 ∧ ∀ z0 ∈ y0.Items, (((IntKind.min .i64 ≤ z0.Dot.Region ∧ z0.Dot.Region ≤ IntKind.max .i64) ∧ (True ∧ True)) ∧ (((List.length z0.Key.Topic ≤ 140737488351232) ∧ ((List.length z0.Key.Device ≤ 140737488351232) ∧ True)) ∧ (True ∧ True)))) ∧ ((((IntKind.min .i64 ≤ y0.Event.ID.Region ∧ y0.Event.ID.Region ≤ IntKind.max .i64) ∧ (True ∧ True)) ∧ ((List.length y0.Event.Topic ≤ 140737488351232) ∧ ((List.length y0.Event.Payload * 1 ≤ 140737488351232 ∧ ∀ z0 ∈ y0.Event.Payload, True) ∧ ((∀ (i : Nat) (h : i < 16), True) ∧ ((List.length y0.Event.To * 32 ≤ 140737488351232 ∧ ∀ z0 ∈ y0.Event.To, (((IntKind.min .i64 ≤ z0.Dot.Region ∧ z0.Dot.Region ≤ IntKind.max .i64) ∧ (True ∧ True)) ∧ ((List.length z0.Device ≤ 140737488351232) ∧ True))) ∧ True))))) ∧ ((∀ (i : Nat) (h : i < 16), True) ∧ ((∀ (i : Nat) (h : i < 16), True) ∧ ((List.length y0.Extra * 16 ≤ 140737488351232 ∧ ∀ z0 ∈ y0.Extra, ((IntKind.min .i64 ≤ z0.Region ∧ z0.Region ≤ IntKind.max .i64) ∧ (True ∧ True))) ∧ ((List.length y0.Live * 16 ≤ 140737488351232 ∧ ∀ z0 ∈ y0.Live, ((IntKind.min .i64 ≤ z0.Region ∧ z0.Region ≤ IntKind.max .i64) ∧ (True ∧ True))) ∧ ((∀ (i : Nat) (h : i < 32), True) ∧ ((List.length y0.Leaves * 32 ≤ 140737488351232 ∧ ∀ z0 ∈ y0.Leaves, (∀ (i : Nat) (h : i < 32), True)) ∧ ((List.length y0.Buckets * 8 ≤ 140737488351232 ∧ ∀ z0 ∈ y0.Buckets, (IntKind.min .i64 ≤ z0 ∧ z0 ≤ IntKind.max .i64)) ∧ (True ∧ True)))))))))))))) (f1 : (IntKind.min .i64 ≤ y1 ∧ y1 ≤ IntKind.max .i64)) : ∃ k, Zb8 k y0 y1 = some true := by
  exact ⟨600000, Zkp 600000 (Nat.le_refl _) y0 y1⟩
end Go.Proofs.YtklnihlchhhhlaaGreat
