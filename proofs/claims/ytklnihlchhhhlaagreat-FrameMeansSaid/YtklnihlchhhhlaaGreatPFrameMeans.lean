/- The plain law FrameMeans: what the functions compute, and that it is as the statement says. -/
import Derived.Test.YtklnihlchhhhlaaGreatFa
import Derived.Test.YtklnihlchhhhlaaGreatFq
import Derived.Test.YtklnihlchhhhlaaGreatS
import Derived.Test.YtklnihlchhhhlaaGreatH
namespace Go.Proofs.YtklnihlchhhhlaaGreat
open Go Fw
set_option linter.unusedVariables false
set_option linter.unusedSimpArgs false
def put (n s : Nat) : List UInt8 := (List.range s).map fun i => UInt8.ofNat (n / 256 ^ (s - 1 - i))
theorem Zax (n s : Nat) : (put n s).length = s := by simp [put]
theorem Znw (n s i : Nat) (h : i < s) : (put n s)[i]? = some (UInt8.ofNat (n / 256 ^ (s - 1 - i))) := by simp [put, h]
theorem ZnT (m : Nat) : 2 ^ (8 * m) = 256 ^ m := by rw [Nat.pow_mul]
theorem Zjk {m : Nat} (h : m ≤ 8) : 256 ^ m ≤ 18446744073709551616 := by
  have := Nat.pow_le_pow_right (n := 256) (by decide) h
  exact Nat.le_trans this (by decide)
theorem Zj7 (n : UInt64) (m : Nat) (h : m ≤ 8) : shrU n ((8 * m : Nat) : Int) = some (UInt64.ofNat (n.toNat / 256 ^ m)) := by
  simp only [shrU, UN.shr]
  rw [if_neg (by omega)]
  have e : min (((8 * m : Nat) : Int)).toNat (UN.bits UInt64) = 8 * m := by
    show min _ 64 = _
    omega
  rw [e, ZnT]
  rfl
theorem Zi6 (n : UInt64) (m : Nat) : (UInt64.ofNat (n.toNat / 256 ^ m)).toNat = n.toNat / 256 ^ m := UInt64.toNat_ofNat_of_lt' (Nat.lt_of_le_of_lt (Nat.div_le_self _ _) n.toNat_lt)
def room (n : UInt64) (size : Int) : Prop := 1 ≤ size ∧ size ≤ 8 ∧ n.toNat < 256 ^ size.toNat
instance (n : UInt64) (size : Int) : Decidable (room n size) := inferInstanceAs (Decidable (_ ∧ _))
theorem Zi4 (k s : Nat) (hk : 9 ≤ k) (hs : s ≤ 8) (n : UInt64) : Zbc (fun x => wire_Put.b1 k (s : Int) n x.1 x.2) k (([] : List UInt8), (0 : Int)) = some (put n.toNat s) := by
  refine Zek (n := s) (fun i => ((put n.toNat s).take i, ((i : Nat) : Int))) _ (by simp) ?_ ?_ (by omega)
  · intro i hi
    have e1 : w64 ((s : Int) - 1) = ((s - 1 : Nat) : Int) := by rw [ZdI (by omega) (by omega)]; omega
    have e2 : w64 (((s - 1 : Nat) : Int) - (i : Int)) = ((s - 1 - i : Nat) : Int) := by rw [ZdI (by omega) (by omega)]; omega
    have e3 : w64 (8 * ((s - 1 - i : Nat) : Int)) = ((8 * (s - 1 - i) : Nat) : Int) := by rw [ZdI (by omega) (by omega)]; omega
    have e4 : apL 1 ((put n.toNat s).take i) [UN.to (UInt64.ofNat (n.toNat / 256 ^ (s - 1 - i)))] = some ((put n.toNat s).take (i + 1)) := by
      rw [ZdF (by simp [Zax]; omega)]
      congr 1
      have h1 : (UN.to (UInt64.ofNat (n.toNat / 256 ^ (s - 1 - i))) : UInt8) = UInt8.ofNat (n.toNat / 256 ^ (s - 1 - i)) := by
        show UInt8.ofNat (UInt64.toNat _) = _
        rw [Zi6]
      rw [h1]
      have h2 : i < (put n.toNat s).length := by rw [Zax]; exact hi
      rw [List.take_succ_eq_append_getElem h2]
      congr 2
      have h3 := Znw n.toNat s i hi
      rw [List.getElem?_eq_getElem h2] at h3
      exact (Option.some.inj h3).symm
    simp only [wire_Put.b1, lt1, Zbb (show (i : Int) < (s : Int) by omega), if_true, e1, e2, e3, Zj7 n _ (show s - 1 - i ≤ 8 by omega), Option.bind_some, e4, ZaP (show i < 9223372036854775807 by omega)]
  · simp only [wire_Put.b1, lt1, ZbB (show ¬ (s : Int) < (s : Int) by omega), Bool.false_eq_true, if_false]
    rw [List.take_of_length_le (by rw [Zax]; exact Nat.le_refl _)]
theorem Zej (k : Nat) (hk : 9 ≤ k) (n : UInt64) (size : Int) (hs0 : -9223372036854775808 ≤ size) (hs1 : size ≤ 9223372036854775807) : wire_Put k n size = some (if room n size then (put n.toNat size.toNat, 0) else ([], 2)) := by
  simp only [wire_Put, lt1]
  by_cases h1 : size < 1
  · have : ¬ room n size := fun h => by have := h.1; omega
    simp [h1, this]
  by_cases h2 : size > 8
  · have : ¬ room n size := fun h => by have := h.2.1; omega
    simp [h1, h2, this]
  obtain ⟨s, rfl⟩ : ∃ s : Nat, size = s := ⟨size.toNat, by omega⟩
  have hs : s ≤ 8 := by omega
  have e1 : w64 (8 * (s : Int)) = ((8 * s : Nat) : Int) := by rw [ZdI (by omega) (by omega)]; omega
  simp only [ZbB h1, ZbB h2, cond_false, e1, Zj7 n s hs, Bool.not_false, Bool.true_and, Zi4 k s hk hs n]
  by_cases h3 : (s : Int) < 8
  · simp only [Zbb h3, if_true, Option.bind_some, cond_true]
    by_cases h4 : n.toNat < 256 ^ s
    · have hr : room n s := ⟨by omega, by omega, by simpa using h4⟩
      have : UInt64.ofNat (n.toNat / 256 ^ s) = 0 := by rw [Nat.div_eq_of_lt h4]; rfl
      simp [this, hr]
    · have hr : ¬ room n s := fun h => h4 (by simpa using h.2.2)
      have : ¬ UInt64.ofNat (n.toNat / 256 ^ s) = 0 := fun h => by
        have h5 := congrArg UInt64.toNat h
        rw [Zi6] at h5
        have h6 : 0 < n.toNat / 256 ^ s := Nat.div_pos (by omega) (Nat.pow_pos (by decide))
        have h7 : (0 : UInt64).toNat = 0 := rfl
        omega
      simp [this, hr]
  · have h8 : s = 8 := by omega
    subst h8
    have hr : room n ((8 : Nat) : Int) := ⟨by omega, by omega, by have := n.toNat_lt; simpa using this⟩
    simp only [ZbB h3, Bool.false_eq_true, if_false, Option.bind_some, cond_false, if_pos hr, Int.toNat_natCast]
def getB (b : List UInt8) : Nat := b.foldl (fun a x => a * 256 + x.toNat) 0
theorem Zkm (b : List UInt8) (x : UInt8) : getB (b ++ [x]) = getB b * 256 + x.toNat := by simp [getB]
theorem ZjI (k : Nat) (hk : 9 ≤ k) (b : List UInt8) (hb : b.length ≤ 140000000000000) : Zdn k b = some (if b.length ≤ 65535 then (put b.length 2 ++ b, 0) else ([], 3)) := by
  simp only [Zdn, lt1]
  by_cases h : b.length ≤ 65535
  · have h1 : ¬ (b.length : Int) > 65535 := by omega
    have h2 : (UN.ofI (b.length : Int) : UInt64).toNat = b.length := by
      show (UInt64.ofNat ((b.length : Int) % ((2 ^ 64 : Nat) : Int)).toNat).toNat = _
      have : ((b.length : Int) % ((2 ^ 64 : Nat) : Int)).toNat = b.length := by omega
      rw [this]
      exact UInt64.toNat_ofNat_of_lt' (by show _ < 2 ^ 64; omega)
    have hr : room (UN.ofI (b.length : Int) : UInt64) 2 := ⟨by decide, by decide, by rw [h2]; show b.length < 65536; omega⟩
    simp only [h1, decide_false, Bool.false_eq_true, if_false, Zej k hk _ 2 (by omega) (by omega), if_pos hr, Option.bind_some, h2, ZdF (show ((put b.length (2 : Int).toNat).length + b.length) * 1 ≤ 140737488355328 by rw [Zax]; omega), if_pos h]
    rfl
  · have h1 : (b.length : Int) > 65535 := by omega
    simp only [h1, decide_true, if_true, if_neg h]
theorem ZkR (k : Nat) (hk : 9 ≤ k) (d : Zah) : Zec k d = some (if 0 ≤ d.Region ∧ d.Region ≤ 255 then (UInt8.ofNat d.Region.toNat :: put d.Count.toNat 8, 0) else ([], 2)) := by
  simp only [Zec, lt1]
  by_cases h1 : d.Region < 0
  · have : ¬ (0 ≤ d.Region ∧ d.Region ≤ 255) := by omega
    simp [h1, this]
  · by_cases h2 : d.Region > 255
    · have : ¬ (0 ≤ d.Region ∧ d.Region ≤ 255) := by omega
      simp [h1, h2, this]
    · have h3 : 0 ≤ d.Region ∧ d.Region ≤ 255 := by omega
      have hr : room d.Count 8 := ⟨by omega, by omega, by have := d.Count.toNat_lt; simpa using this⟩
      have h4 : (UN.ofI d.Region : UInt8) = UInt8.ofNat d.Region.toNat := by
        show UInt8.ofNat (d.Region % ((2 ^ 8 : Nat) : Int)).toNat = _
        congr 1
        omega
      simp only [h1, h2, decide_false, Bool.false_eq_true, if_false, Option.bind_some, Zej k hk _ 8 (by omega) (by omega), if_pos hr, if_pos h3, h4, ZdF (show (([UInt8.ofNat d.Region.toNat] : List UInt8).length + (put d.Count.toNat (8 : Int).toNat).length) * 1 ≤ 140737488355328 by rw [Zax]; show (1 + 8) * 1 ≤ _; omega)]
      rfl
theorem Zl5 (n s : Nat) : put n (s + 1) = put (n / 256) s ++ [UInt8.ofNat n] := by
  unfold put
  rw [List.range_succ, List.map_append]
  congr 1
  · apply List.map_congr_left
    intro i hi
    have hi : i < s := by simpa using hi
    rw [show s + 1 - 1 - i = (s - 1 - i) + 1 by omega, Nat.pow_succ, Nat.mul_comm, Nat.div_div_eq_div_mul]
  · simp
theorem Zmh (s : Nat) : ∀ n, getB (put n s) = n % 256 ^ s := by
  induction s with
  | zero => intro n; simp [put, getB, Nat.mod_one]
  | succ s ih =>
    intro n
    rw [Zl5, Zkm, ih]
    have h1 : (UInt8.ofNat n).toNat = n % 256 := by simp
    rw [h1, Nat.pow_succ, Nat.mul_comm (256 ^ s) 256, Nat.mod_mul]
    omega
def dotB (d : Zah) : List UInt8 := UInt8.ofNat d.Region.toNat :: put d.Count.toNat 8
theorem ZbY (d : Zah) : (dotB d).length = 9 := by simp [dotB, Zax]
def Zbj (b : List UInt8) : List UInt8 := put b.length 2 ++ b
def ZgQ (g : Bool) : List UInt8 := [if g then 1 else 0]
def ZcL (i : Zal) : List UInt8 := dotB i.Dot ++ (ZgQ i.Gone ++ if i.Gone then [] else Zbj i.Key.Topic ++ Zbj i.Key.Device)
def ZfU (l : List Zal) : List UInt8 := put l.length 2 ++ l.flatMap ZcL
def ZcB (d : Zah) : Prop := 1 ≤ d.Region ∧ d.Region ≤ 16 ∧ 1 ≤ d.Count.toNat ∧ d.Count.toNat ≤ 4611686018427387904
instance (d : Zah) : Decidable (ZcB d) := inferInstanceAs (Decidable (_ ∧ _))
def Zch (s : List UInt8) : Prop := 1 ≤ s.length ∧ s.length ≤ 32
instance (s : List UInt8) : Decidable (Zch s) := inferInstanceAs (Decidable (_ ∧ _))
def ZbV (i : Zal) : Prop := ZcB i.Dot ∧ (if i.Gone then i.Key = ⟨[], []⟩ else Zch i.Key.Topic ∧ Zch i.Key.Device)
instance (i : Zal) : Decidable (ZbV i) := by unfold ZbV; exact inferInstance
theorem ZgM {i : Zal} (h : ZbV i) : (ZcL i).length ≤ 78 := by
  unfold ZcL
  obtain ⟨_, h⟩ := h
  cases hg : i.Gone
  · rw [hg] at h
    have h : Zch i.Key.Topic ∧ Zch i.Key.Device := h
    have h1 := h.1.2
    have h2 := h.2.2
    simp [Zbj, ZgQ, ZbY, Zax]; omega
  · simp [ZgQ, ZbY]
theorem ZgS (l : List Zal) (h : ∀ i ∈ l, ZbV i) : (l.flatMap ZcL).length ≤ 78 * l.length := by
  induction l with
  | nil => simp
  | cons i l ih =>
    have h1 := ZgM (h i (List.mem_cons_self ..))
    have h2 := ih fun j hj => h j (List.mem_cons_of_mem _ hj)
    rw [List.flatMap_cons, List.length_append, List.length_cons]; omega
theorem ap1 {x y : List UInt8} (h : x.length + y.length ≤ 100000000) : apL 1 x y = some (x ++ y) := ZdF (by omega)
theorem wDot (k : Nat) (hk : 9 ≤ k) {d : Zah} (h : ZcB d) : Zec k d = some (dotB d, 0) := by
  rw [ZkR k hk, if_pos (by have := h.1; have := h.2.1; omega)]; rfl
theorem ZlI (k : Nat) (hk : 9 ≤ k) {b : List UInt8} (h : b.length ≤ 65535) : Zdn k b = some (Zbj b, 0) := by rw [ZjI k hk b (by omega), if_pos h]; rfl
theorem ZkS (k : Nat) (hk : 9 ≤ k) (l : List Zal) (i : Nat) (hi : i < l.length) (hm : ZbV l[i]) (hl : l.length ≤ 65535) (x : List UInt8) (hx : x.length ≤ 10000000) :
    frame_writer_items'3.b1 k l x (i : Int) = some (.inl (x ++ ZcL l[i], ((i + 1 : Nat) : Int))) := by
  obtain ⟨it, hit⟩ : ∃ it, l[i] = it := ⟨_, rfl⟩
  have hd := wDot k hk hm.1
  have hlen := ZgM hm
  rw [hit] at hm hd hlen
  have hdl := ZbY it.Dot
  simp only [frame_writer_items'3.b1, lt1, Zbb (show (i : Int) < (l.length : Int) by omega), if_true, Za9 hi, hit, Option.bind_some, hd, ZaK, ap1 (show x.length + (dotB it.Dot).length ≤ 100000000 by omega), ZbI, ZaP (show i < 9223372036854775807 by omega)]
  obtain ⟨_, hm2⟩ := hm
  cases hg : it.Gone
  · rw [hg] at hm2
    have hm2 : Zch it.Key.Topic ∧ Zch it.Key.Device := hm2
    have h1 := hm2.1.2
    have h2 := hm2.2.2
    have hb1 := ZlI k hk (b := it.Key.Topic) (by omega)
    have hb2 := ZlI k hk (b := it.Key.Device) (by omega)
    have e1 : (Zbj it.Key.Topic).length ≤ 34 := by simp [Zbj, Zax]; omega
    have e2 : (Zbj it.Key.Device).length ≤ 34 := by simp [Zbj, Zax]; omega
    simp only [Bool.false_eq_true, if_false, Option.bind_some, Bool.not_false, if_true, hb1, hb2]
    rw [ap1 (by simp; omega), Option.bind_some, Option.bind_some, ap1 (by simp; omega), Option.bind_some, Option.bind_some, ap1 (by simp; omega), Option.bind_some, Option.bind_some, Option.bind_some]
    simp [ZcL, hg, ZgQ]
  · simp only [if_true, Option.bind_some, Bool.not_true, Bool.false_eq_true, if_false]
    rw [ap1 (by simp; omega), Option.bind_some, Option.bind_some, Option.bind_some]
    simp [ZcL, hg, ZgQ]
theorem ZgV (k : Nat) (d : Zah) : ZfH k d = some (decide (ZcB d)) := by
  simp only [ZfH, lt1, ZcB, UInt64.le_iff_toNat_le, show (1 : UInt64).toNat = 1 from rfl, show (4611686018427387904 : UInt64).toNat = 4611686018427387904 from rfl, ge_iff_le]
  by_cases h1 : 1 ≤ d.Region <;> by_cases h2 : d.Region ≤ 16 <;> by_cases h3 : 1 ≤ d.Count.toNat <;> simp [h1, h2, h3]
theorem Zg6 (k : Nat) (s : List UInt8) : Zct k s = some (decide (Zch s)) := by
  simp only [Zct, lt1, Zch, Option.bind_some, Option.some.injEq]
  by_cases h1 : 1 ≤ s.length
  · by_cases h2 : s.length ≤ 32
    · rw [Zbb (show (s.length : Int) ≥ 1 by omega), Zbb (show (s.length : Int) ≤ 32 by omega)]; simp [h1, h2]
    · rw [Zbb (show (s.length : Int) ≥ 1 by omega), ZbB (show ¬ (s.length : Int) ≤ 32 by omega)]; simp [h1, h2]
  · rw [ZbB (show ¬ (s.length : Int) ≥ 1 by omega)]; simp [h1]
theorem Ziy (k : Nat) (i : Zal) : Zdy k i = some (decide (ZbV i)) := by
  simp only [Zdy, ZgV, Zg6, lt1, Option.bind_some]
  by_cases hg : i.Gone = true
  · by_cases h1 : ZcB i.Dot
    · by_cases h2 : i.Key = ⟨[], []⟩
      · have e := (ZeL (x := i.Key) (y := ⟨[], []⟩)).2 h2
        have hm : ZbV i := ⟨h1, by rw [if_pos hg]; exact h2⟩
        rw [if_pos hg, e, decide_eq_true hm, decide_eq_true h1]; rfl
      · have e : Zef i.Key ⟨[], []⟩ = false := by
          rw [← Bool.not_eq_true, ZeL]; exact h2
        have hm : ¬ ZbV i := fun h => by have := h.2; rw [if_pos hg] at this; exact h2 this
        rw [if_pos hg, e, decide_eq_false hm, decide_eq_true h1]; rfl
    · have hm : ¬ ZbV i := fun h => h1 h.1
      rw [if_pos hg, decide_eq_false hm, decide_eq_false h1]; rfl
  · rw [if_neg hg]
    by_cases h1 : ZcB i.Dot
    · by_cases h2 : Zch i.Key.Topic
      · by_cases h3 : Zch i.Key.Device
        · have hm : ZbV i := ⟨h1, by rw [if_neg hg]; exact ⟨h2, h3⟩⟩
          rw [decide_eq_true hm, decide_eq_true h1, decide_eq_true h2, decide_eq_true h3]; rfl
        · have hm : ¬ ZbV i := fun h => by have := h.2; rw [if_neg hg] at this; exact h3 this.2
          rw [decide_eq_false hm, decide_eq_true h1, decide_eq_true h2, decide_eq_false h3]; rfl
      · have hm : ¬ ZbV i := fun h => by have := h.2; rw [if_neg hg] at this; exact h2 this.1
        rw [decide_eq_false hm, decide_eq_true h1, decide_eq_false h2]; rfl
    · have hm : ¬ ZbV i := fun h => h1 h.1
      rw [decide_eq_false hm, decide_eq_false h1]; rfl
theorem ZjZ (k : Nat) (l : List Zal) (hk : l.length < k) (hl : l.length ≤ 1000000) : ZaQ k l = some (!decide (∀ i ∈ l, ZbV i)) := by
  have hlp := Zc0 (body := fun s : Int => slices_IndexFuncapi_Item_api_Item.b1 k l s) (I := fun s => 0 ≤ s ∧ s ≤ (l.length : Int) ∧ ∀ j (h : j < l.length), (j : Int) < s → ZbV l[j]) (m := fun s => ((l.length : Int) - s).toNat)
    (fun r => (r = .inl () ∧ ∀ i ∈ l, ZbV i) ∨ ∃ n : Nat, r = .inr (n : Int) ∧ ¬ ∀ i ∈ l, ZbV i) ?_ k (0 : Int) ⟨Int.le_refl _, by omega, fun j h h0 => by omega⟩ (by omega)
  · obtain ⟨r, h1, h2⟩ := hlp
    rcases h2 with ⟨rfl, h2⟩ | ⟨n, rfl, h2⟩
    · simp only [ZaQ, slices_IndexFuncapi_Item_api_Item, h1, Option.bind_some, lt1, decide_eq_true h2]; rfl
    · simp only [ZaQ, slices_IndexFuncapi_Item_api_Item, h1, Option.bind_some, lt1, decide_eq_false h2, Zbb (show (n : Int) ≥ 0 by omega)]; rfl
  · rintro s ⟨h0, h1, h2⟩
    obtain ⟨i, rfl⟩ : ∃ i : Nat, s = i := ⟨s.toNat, by omega⟩
    by_cases hlt : i < l.length
    · by_cases hm : ZbV l[i]
      · left
        simp only [slices_IndexFuncapi_Item_api_Item.b1, Zdv, Ziy, lt1, Zbb (show (i : Int) < (l.length : Int) by omega), if_true, Za9 hlt, Option.bind_some, decide_eq_true hm, Bool.not_true, Bool.false_eq_true, if_false, ZaP (show i < 9223372036854775807 by omega)]
        refine ⟨_, rfl, ⟨by omega, by omega, fun j hj hji => ?_⟩, by omega⟩
        by_cases hji' : j = i
        · subst hji'; exact hm
        · exact h2 j hj (by omega)
      · right
        simp only [slices_IndexFuncapi_Item_api_Item.b1, Zdv, Ziy, lt1, Zbb (show (i : Int) < (l.length : Int) by omega), if_true, Za9 hlt, Option.bind_some, decide_eq_false hm, Bool.not_false]
        exact ⟨_, rfl, .inr ⟨i, rfl, fun h => hm (h _ (List.getElem_mem hlt))⟩⟩
    · right
      simp only [slices_IndexFuncapi_Item_api_Item.b1, lt1, ZbB (show ¬ (i : Int) < (l.length : Int) by omega), Bool.false_eq_true, if_false]
      refine ⟨_, rfl, .inl ⟨rfl, fun x hx => ?_⟩⟩
      obtain ⟨j, hj, rfl⟩ := List.getElem_of_mem hx
      exact h2 j hj (by omega)
theorem Zjw {m : Nat} (h : m < 18446744073709551616) : (UN.ofI (m : Int) : UInt64).toNat = m := by
  show (UInt64.ofNat ((m : Int) % ((2 ^ 64 : Nat) : Int)).toNat).toNat = _
  have : ((m : Int) % ((2 ^ 64 : Nat) : Int)).toNat = m := by omega
  rw [this]
  exact UInt64.toNat_ofNat_of_lt' h
theorem ZnB (k : Nat) (hk : 9 ≤ k) {n : Nat} (h : n ≤ 65535) : wire_Put k (UN.ofI (n : Int) : UInt64) 2 = some (put n 2, 0) := by
  have e : (UN.ofI (n : Int) : UInt64).toNat = n := Zjw (by omega)
  have hr : room (UN.ofI (n : Int) : UInt64) 2 := ⟨by omega, by omega, by rw [e]; exact Nat.lt_of_le_of_lt h (by decide)⟩
  rw [Zej k hk _ 2 (by omega) (by omega), if_pos hr, e]; rfl
theorem ZmB {body : Int → Option (Int ⊕ (Unit ⊕ Bool))} (n : Nat) (P : Nat → Prop) [DecidablePred P] {b : Bool} (hs : ∀ i, i < n → body (i : Int) = some (if P i then .inl ((i + 1 : Nat) : Int) else .inr (.inr b))) (he : body (n : Int) = some (.inr (.inl ()))) {k : Nat} (hk : n < k) :
    Zbc body k (0 : Int) = some (if ∀ i, i < n → P i then .inl () else .inr b) := by
  have h := Zc0 (body := body) (I := fun s => 0 ≤ s ∧ s ≤ n ∧ ∀ i : Nat, (i : Int) < s → P i) (m := fun s => ((n : Int) - s).toNat) (fun t => t = if ∀ i, i < n → P i then .inl () else .inr b) ?_ k (0 : Int) ⟨Int.le_refl _, by omega, fun i h => by omega⟩ (by omega)
  · obtain ⟨t, h1, rfl⟩ := h
    exact h1
  · rintro s ⟨h0, h1, h2⟩
    obtain ⟨i, rfl⟩ : ∃ i : Nat, s = i := ⟨s.toNat, by omega⟩
    by_cases hlt : i < n
    · rw [hs i hlt]
      by_cases hP : P i
      · left
        refine ⟨_, by rw [if_pos hP], ⟨by omega, by omega, fun j hj => ?_⟩, by omega⟩
        by_cases hji : j = i
        · subst hji; exact hP
        · exact h2 j (by omega)
      · right
        exact ⟨_, by rw [if_neg hP], by rw [if_neg (fun h => hP (h i hlt))]⟩
    · have : i = n := by omega
      subst this
      right
      exact ⟨_, he, by rw [if_pos (fun j hj => h2 j (by omega))]⟩
theorem Zdh {α : Type} [DecidableEq α] (a b : α) : (a == b) = decide (a = b) := by by_cases h : a = b <;> simp [h]
theorem ZlS (k : Nat) (x y : Int) : ZcT k x y = some (if x < y then -1 else if x > y then 1 else 0) := by
  simp only [ZcT, Zd0, lt1, Option.bind_some, bne_self_eq_false, Bool.false_eq_true, if_false, decide_eq_true_eq]
  repeat' split
  all_goals simp_all
theorem ZlM (k : Nat) (x y : UInt64) : Zb8 k x y = some (if x < y then -1 else if y < x then 1 else 0) := by
  simp only [Zb8, Zc6, lt1, Option.bind_some, beq_self_eq_true, Bool.not_true, Bool.false_eq_true, if_false, decide_eq_true_eq]
  repeat' split
  all_goals simp_all
theorem ZmT (k : Nat) (hk : 3 ≤ k) (x y : Int) : cmp_Orint k [x, y] = some (if x ≠ 0 then x else y) := by
  obtain ⟨k, rfl⟩ : ∃ j, k = j + 3 := ⟨k - 3, by omega⟩
  have h1 : w64 1 = 1 := ZdI (by omega) (by omega)
  have h2 : w64 2 = 2 := ZdI (by omega) (by omega)
  by_cases hx : x = 0 <;> by_cases hy : y = 0 <;> simp [cmp_Orint, Zbc, cmp_Orint.b1, idxL, lt1, hx, hy, h1, h2]
def less (a b : Zah) : Prop := a.Region < b.Region ∨ (a.Region = b.Region ∧ a.Count.toNat < b.Count.toNat)
instance (a b : Zah) : Decidable (less a b) := inferInstanceAs (Decidable (_ ∨ _))
theorem ZlD (k : Nat) (hk : 3 ≤ k) (a b : Zah) : Zei k a b = some (decide (less a b)) := by
  simp only [Zei, ZlS, ZlM, ZmT k hk, lt1, Option.bind_some, Option.some.injEq, decide_eq_decide, less, UInt64.lt_iff_toNat_lt]
  by_cases h1 : a.Region < b.Region
  · simp [h1]
  · by_cases h2 : a.Region > b.Region
    · rw [if_neg h1, if_pos h2]; simp [h1, show ¬ a.Region = b.Region from by omega]
    · have h3 : a.Region = b.Region := by omega
      rw [if_neg h1, if_neg h2]
      by_cases h4 : a.Count.toNat < b.Count.toNat
      · simp [h3, h4]
      · by_cases h5 : b.Count.toNat < a.Count.toNat
        · simp [h3, h4, h5]
        · simp [h3, h4, h5]
abbrev Vc := Vector UInt64 16
def at_ (v : Vc) (r : Int) : Nat := (v[(r - 1).toNat]?.getD 0).toNat
theorem Zoh {v : Vc} {r : Int} (h : (r - 1).toNat < 16) : at_ v r = v[(r - 1).toNat].toNat := by unfold at_; rw [Vector.getElem?_eq_getElem h]; rfl
theorem Zj2 {r : Int} (h : 1 ≤ r) (h2 : r ≤ 16) : w64 (r - 1) = r - 1 := ZdI (by omega) (by omega)
def Zf2 (v : Vc) : Prop := ∀ i (h : i < 16), v[i].toNat ≤ 4611686018427387904
instance (v : Vc) : Decidable (Zf2 v) := inferInstanceAs (Decidable (∀ i (h : i < 16), v[i].toNat ≤ 4611686018427387904))
theorem Zoz (k : Nat) (n : UInt64) : ZcI k n = some (decide (4611686018427387904 < n.toNat)) := by
  simp [ZcI, lt1, UInt64.lt_iff_toNat_lt]
theorem Zi7 (k : Nat) (hk : 17 ≤ k) (v : Vc) : ∃ b, ZcH k v = some b ∧ (b = true ↔ Zf2 v) := by
  have hs : subL (Vector.toList v) 0 16 = some v.toList := by rw [Zfk (by omega) (by omega) (by simp)]; simp only [Option.some.injEq]; exact List.take_of_length_le (by simp)
  have hlp : ∃ t, Zbc (fun s => slices_IndexFuncuint64_uint64.b1 k v.toList s) k (0 : Int) = some t ∧ ((∃ i, t = .inr i ∧ 0 ≤ i ∧ ¬ Zf2 v) ∨ (t = .inl () ∧ Zf2 v)) := by
    refine Zc0 (I := fun s => 0 ≤ s ∧ s ≤ 16 ∧ ∀ (i : Nat) (h : i < 16), (i : Int) < s → v[i].toNat ≤ 4611686018427387904) (m := fun s => (16 - s).toNat) _ ?_ k 0 ⟨by omega, by omega, fun i _ h => by omega⟩ (by show (16 - (0 : Int)).toNat < k; omega)
    intro s ⟨h0, h1, h2⟩
    by_cases hlt : s < 16
    · obtain ⟨i, rfl⟩ : ∃ i : Nat, s = i := ⟨s.toNat, by omega⟩
      have hi : i < 16 := by omega
      have hx : idxL v.toList (i : Int) = some v[i] := by rw [Za9 (by simpa using hi)]; simp
      simp only [slices_IndexFuncuint64_uint64.b1, lt1, Vector.length_toList, Zbb (show (i : Int) < ((16 : Nat) : Int) by omega), if_true, hx, Zoz, Option.bind_some, ZaP (show i < 9223372036854775807 by omega)]
      by_cases hb : 4611686018427387904 < v[i].toNat
      · right
        simp only [hb, decide_true, if_true]
        exact ⟨_, rfl, .inl ⟨_, rfl, by omega, fun h => by have := h i hi; omega⟩⟩
      · left
        simp only [hb, decide_false, Bool.false_eq_true, if_false]
        refine ⟨_, rfl, ⟨by omega, by omega, fun j hj hlt => ?_⟩, by omega⟩
        by_cases hji : j = i
        · subst hji; omega
        · exact h2 j hj (by omega)
    · right
      simp only [slices_IndexFuncuint64_uint64.b1, lt1, Vector.length_toList, ZbB (show ¬ s < ((16 : Nat) : Int) by omega), Bool.false_eq_true, if_false]
      exact ⟨_, rfl, .inr ⟨rfl, fun i hi => h2 i hi (by omega)⟩⟩
  obtain ⟨t, h1, h2⟩ := hlp
  simp only [ZcH, hs, Zbk, slices_IndexFuncuint64_uint64, lt1, Option.bind_some, h1]
  rcases h2 with ⟨i, rfl, h3, h4⟩ | ⟨rfl, h4⟩
  · refine ⟨_, rfl, ?_⟩
    simp [h4]; omega
  · refine ⟨_, rfl, ?_⟩
    simp [h4]
theorem Ziu (k : Nat) (hk : 17 ≤ k) (v : Vc) : ZcH k v = some (decide (Zf2 v)) := by
  obtain ⟨b, h1, h2⟩ := Zi7 k hk v
  rw [h1]
  cases b
  · rw [decide_eq_false (fun h => by simpa using h2.2 h)]
  · rw [decide_eq_true (h2.1 rfl)]
theorem Znt (k : Nat) (hk : 17 ≤ k) (v : Vc) : (Option.bind (subL (Vector.toList v) (0 : Int) (16 : Int)) fun v_25 => Option.bind (Za2 k v_25) fun v_26 => lt1 ((!v_26)) fun v_27 => some v_27) = some (decide (Zf2 v)) := by
  rw [← Ziu k hk v]; rfl
def core (e : Zaq) : Prop := ZcB e.ID ∧ Zf2 e.Past ∧ at_ e.Past e.ID.Region = e.ID.Count.toNat - 1 ∧ Zch e.Topic ∧ e.Payload.length ≤ 512 ∧ e.To.length ≤ 1024
theorem ZkT {c : UInt64} (h : 1 ≤ c.toNat) : (c - 1).toNat = c.toNat - 1 := by
  rw [UInt64.toNat_sub_of_le _ _ (by rw [UInt64.le_iff_toNat_le]; exact h)]; rfl
theorem Zme {a b : UInt64} : (a == b) = decide (a.toNat = b.toNat) := by
  rw [Bool.eq_iff_iff, beq_iff_eq, decide_eq_true_eq, UInt64.toNat_inj]
theorem ZfT {β : Type} {body : Int → Option (Int ⊕ (Unit ⊕ β))} (n : Nat) (P : Nat → Prop) [DecidablePred P] {b : β} (hs : ∀ i, i < n → body (i : Int) = some (if P i then .inl ((i + 1 : Nat) : Int) else .inr (.inr b))) (he : body (n : Int) = some (.inr (.inl ()))) {k : Nat} (hk : n < k) :
    Zbc body k (0 : Int) = some (if ∀ i, i < n → P i then .inl () else .inr b) := by
  have h := Zc0 (body := body) (I := fun s => 0 ≤ s ∧ s ≤ n ∧ ∀ i : Nat, (i : Int) < s → P i) (m := fun s => ((n : Int) - s).toNat) (fun t => t = if ∀ i, i < n → P i then .inl () else .inr b) ?_ k (0 : Int) ⟨Int.le_refl _, by omega, fun i h => by omega⟩ (by omega)
  · obtain ⟨t, h1, rfl⟩ := h
    exact h1
  · rintro s ⟨h0, h1, h2⟩
    obtain ⟨i, rfl⟩ : ∃ i : Nat, s = i := ⟨s.toNat, by omega⟩
    by_cases hlt : i < n
    · rw [hs i hlt]
      by_cases hP : P i
      · left
        refine ⟨_, by rw [if_pos hP], ⟨by omega, by omega, fun j hj => ?_⟩, by omega⟩
        by_cases hji : j = i
        · subst hji; exact hP
        · exact h2 j (by omega)
      · right
        exact ⟨_, by rw [if_neg hP], by rw [if_neg (fun h => hP (h i hlt))]⟩
    · have : i = n := by omega
      subst this
      right
      exact ⟨_, he, by rw [if_pos (fun j hj => h2 j (by omega))]⟩
def dg (l : List Zah) (i : Nat) : Zah := l[i]?.getD ⟨0, 0⟩
theorem idxD {l : List Zah} {i : Nat} (h : i < l.length) : idxL l (i : Int) = some (dg l i) := by
  rw [Za9 h, dg, List.getElem?_eq_getElem h]; rfl
theorem Zhl (k : Nat) (hk : 3 ≤ k) (a b : Zah) : Zfm k a b = some (decide (less a b)) := by
  rw [← ZlD k hk a b]
  simp only [Zfm, ZgN, Zei, ZlS, ZlM, ZmT k hk, lt1, Option.bind_some]
theorem Zgx (i : Nat) (h : i < 9223372036854775807) : w64 (((i + 1 : Nat) : Int) - 1) = (i : Int) := by rw [ZdI (by omega) (by omega)]; omega
def ZhT (l : List Zah) (i : Nat) : Prop := ZcB (dg l i) ∧ (i = 0 ∨ less (dg l (i - 1)) (dg l i))
instance (l : List Zah) : DecidablePred (ZhT l) := fun i => inferInstanceAs (Decidable (_ ∧ _))
def exP (v : Vc) (l : List Zah) (i : Nat) : Prop := ZhT l i ∧ at_ v (dg l i).Region + 1 < (dg l i).Count.toNat
instance (v : Vc) (l : List Zah) : DecidablePred (exP v l) := fun i => inferInstanceAs (Decidable (_ ∧ _))
theorem Zmt {v : Vc} (hv : Zf2 v) {r : Int} : at_ v r ≤ 4611686018427387904 := by
  unfold at_
  by_cases h : (r - 1).toNat < 16
  · rw [Vector.getElem?_eq_getElem h]; exact hv _ h
  · rw [Vector.getElem?_eq_none (by omega)]; decide
theorem Zmb {v : Vc} (hv : Zf2 v) {d : Zah} (h : (d.Region - 1).toNat < 16) : decide (d.Count ≤ getV v ⟨(d.Region - 1).toNat, h⟩ + 1) = !decide (at_ v d.Region + 1 < d.Count.toNat) := by
  have h1 := Zmt hv (r := d.Region)
  have h2 : (getV v ⟨(d.Region - 1).toNat, h⟩).toNat = at_ v d.Region := by rw [Zoh h]; rfl
  have h3 : (getV v ⟨(d.Region - 1).toNat, h⟩ + 1).toNat = at_ v d.Region + 1 := by
    rw [UInt64.toNat_add, h2, show (1 : UInt64).toNat = 1 from rfl]; omega
  rw [← decide_not, decide_eq_decide, UInt64.le_iff_toNat_le, h3]
  omega
theorem ofB2 (k : Nat) (hk : 3 ≤ k) {v : Vc} (hv : Zf2 v) (l : List Zah) (i : Nat) (hi : i < l.length) (hl : l.length ≤ 1000000) : ctx_Of.b2 k l v (i : Int) = some (if exP v l i then .inl ((i + 1 : Nat) : Int) else .inr (.inr (.inr 2))) := by
  simp only [ctx_Of.b2, lt1, Zbb (show (i : Int) < (l.length : Int) by omega), if_true, idxD hi, Option.bind_some, ZgV, ZaP (show i < 9223372036854775807 by omega)]
  by_cases hd : ZcB (dg l i)
  case neg => simp [hd, exP, ZhT]
  have g1 := hd.1
  have g2 := hd.2.1
  have h16 : ((dg l i).Region - 1).toNat < 16 := by omega
  simp only [decide_eq_true hd, Bool.not_true, Bool.not_false, Zj2 g1 g2, Zjs (show 0 ≤ (dg l i).Region - 1 by omega) h16, Option.bind_some, Zmb hv h16, exP, ZhT, hd, true_and]
  by_cases h0 : i = 0
  · subst h0
    by_cases hc : at_ v (dg l 0).Region + 1 < (dg l 0).Count.toNat <;> simp [hc]
  · obtain ⟨j, rfl⟩ : ∃ j, i = j + 1 := ⟨i - 1, by omega⟩
    have e : decide (((j + 1 : Nat) : Int) > 0) = true := decide_eq_true (by omega)
    simp only [e, Zgx j (by omega), idxD (show j < l.length by omega), Zhl k hk, Bool.and_true, Option.bind_some, if_true, cond_true, cond_false, Nat.add_sub_cancel, h0, false_or]
    by_cases hL : less (dg l j) (dg l (j + 1)) <;> by_cases hc : at_ v (dg l (j + 1)).Region + 1 < (dg l (j + 1)).Count.toNat <;> simp [hL, hc]
theorem ofB1 (k : Nat) (v : Vc) (i : Nat) (hi : i < 16) : ctx_Of.b1 k v (i : Int) = some (if v[i].toNat ≤ 4611686018427387904 then .inl ((i + 1 : Nat) : Int) else .inr (.inr (.inr 2))) := by
  have h3 : idxV v (i : Int) = some v[i] := by simp [idxV, hi]
  simp only [ctx_Of.b1, lt1, Zbb (show (i : Int) < 16 by omega), if_true, h3, Option.bind_some, ZaP (show i < 9223372036854775807 by omega)]
  by_cases hb : v[i].toNat ≤ 4611686018427387904
  · have : decide ((4611686018427387904 : UInt64) < v[i]) = false := decide_eq_false (by rw [UInt64.lt_iff_toNat_lt]; show ¬ 4611686018427387904 < _; omega)
    simp [this, hb]
  · have : decide ((4611686018427387904 : UInt64) < v[i]) = true := decide_eq_true (by rw [UInt64.lt_iff_toNat_lt]; show 4611686018427387904 < _; omega)
    simp [this, hb]
def ZiZ (v : Vc) (l : List Zah) : Prop := Zf2 v ∧ l.length ≤ 4096 ∧ ∀ i, i < l.length → exP v l i
instance (v : Vc) (l : List Zah) : Decidable (ZiZ v l) := inferInstanceAs (Decidable (_ ∧ _ ∧ _))
theorem Zhu (k : Nat) (hk : 100000 ≤ k) (f : Zai) (hl : f.Extra.length ≤ 70000) : Zeg k f = some (decide (ZiZ f.Seen f.Extra)) := by
  have h1 := ZfT (body := fun s => ctx_Of.b1 k f.Seen s) (k := k) 16 (fun i => f.Seen.toList[i]?.all fun x => decide (x.toNat ≤ 4611686018427387904)) (b := (.inr 2 : List Zah ⊕ Int)) (fun i hi => by
    rw [ofB1 k f.Seen i hi]
    have : f.Seen.toList[i]? = some f.Seen[i] := by simp [hi]
    rw [this]
    simp) (by simp only [ctx_Of.b1, lt1, ZbB (show ¬ ((16 : Nat) : Int) < 16 by omega), Bool.false_eq_true, if_false]) (by omega)
  have hs : (∀ i, i < 16 → (f.Seen.toList[i]?.all fun x => decide (x.toNat ≤ 4611686018427387904)) = true) ↔ Zf2 f.Seen := by
    constructor
    · intro h i hi
      have := h i hi
      have e : f.Seen.toList[i]? = some f.Seen[i] := by simp [hi]
      rw [e] at this
      simpa using this
    · intro h i hi
      have e : f.Seen.toList[i]? = some f.Seen[i] := by simp [hi]
      rw [e]
      simpa using h i hi
  simp only [Zeg, ctx_Of, h1, lt1]
  by_cases hv : Zf2 f.Seen
  case neg =>
    rw [if_neg (fun h => hv (hs.1 h))]
    simp [ZiZ, hv]
  rw [if_pos (hs.2 hv)]
  have h2 := ZfT (body := fun s => ctx_Of.b2 k f.Extra f.Seen s) (k := k) f.Extra.length (exP f.Seen f.Extra) (b := (.inr 2 : List Zah ⊕ Int)) (fun i hi => ofB2 k (by omega) hv f.Extra i hi (by omega)) (by simp only [ctx_Of.b2, lt1, ZbB (show ¬ (f.Extra.length : Int) < (f.Extra.length : Int) by omega), Bool.false_eq_true, if_false]) (by omega)
  simp only [Option.bind_some, h2]
  by_cases hx : ∀ i, i < f.Extra.length → exP f.Seen f.Extra i
  case neg =>
    rw [if_neg hx]
    simp [ZiZ, hx]
  rw [if_pos hx]
  have ha : apL 16 ([] : List Zah) f.Extra = some f.Extra := by rw [ZdF (by simp; omega)]; rfl
  by_cases h4 : f.Extra.length ≤ 4096
  · simp only [Option.bind_some, ZbB (show ¬ (f.Extra.length : Int) > 4096 by omega), Bool.false_eq_true, if_false, ZbM, ha]
    rw [decide_eq_true (show ZiZ f.Seen f.Extra from ⟨hv, h4, hx⟩)]
  · simp only [Option.bind_some, Zbb (show (f.Extra.length : Int) > 4096 by omega), if_true]
    rw [decide_eq_false (show ¬ ZiZ f.Seen f.Extra from fun h => h4 h.2.1)]
    rfl
theorem ZlZ {body : Bool × Int → Option (Bool × Int ⊕ Bool)} (n : Nat) (P : Nat → Prop) [DecidablePred P] (hs : ∀ i, i < n → body (true, (i : Int)) = some (if P i then .inl (true, ((i + 1 : Nat) : Int)) else .inr false)) (he : body (true, (n : Int)) = some (.inr true)) {k : Nat} (hk : n < k) :
    Zbc body k (true, (0 : Int)) = some (decide (∀ i, i < n → P i)) := by
  have h := Zc0 (body := body) (I := fun s => s.1 = true ∧ 0 ≤ s.2 ∧ s.2 ≤ n ∧ ∀ i : Nat, (i : Int) < s.2 → P i) (m := fun s => ((n : Int) - s.2).toNat) (fun t => t = decide (∀ i, i < n → P i)) ?_ k (true, (0 : Int)) ⟨rfl, Int.le_refl _, by show (0 : Int) ≤ _; omega, fun i h => by have h : (i : Int) < 0 := h; omega⟩ (by show ((n : Int) - 0).toNat < k; omega)
  · obtain ⟨t, h1, rfl⟩ := h
    exact h1
  · rintro ⟨x, s⟩ ⟨hx, h0, h1, h2⟩
    simp only at hx h0 h1 h2
    subst hx
    obtain ⟨i, rfl⟩ : ∃ i : Nat, s = i := ⟨s.toNat, by omega⟩
    by_cases hlt : i < n
    · rw [hs i hlt]
      by_cases hP : P i
      · left
        refine ⟨_, by rw [if_pos hP], ⟨rfl, by show (0 : Int) ≤ ((i + 1 : Nat) : Int); omega, by show ((i + 1 : Nat) : Int) ≤ _; omega, fun j hj => ?_⟩, by show ((n : Int) - ((i + 1 : Nat) : Int)).toNat < _; omega⟩
        have hj : (j : Int) < ((i + 1 : Nat) : Int) := hj
        by_cases hji : j = i
        · subst hji; exact hP
        · exact h2 j (by omega)
      · right
        exact ⟨_, by rw [if_neg hP], (decide_eq_false (fun h => hP (h i hlt))).symm⟩
    · have : i = n := by omega
      subst this
      right
      exact ⟨_, he, (decide_eq_true (fun j hj => h2 j (by omega))).symm⟩
theorem ZhQ (k : Nat) (d : Zah) : ZdX k d = some (decide (ZcB d)) := by rw [← ZgV k d]; rfl
def tg (l : List ZaA) (i : Nat) : ZaA := l[i]?.getD ⟨⟨0, 0⟩, []⟩
theorem idxT {l : List ZaA} {i : Nat} (h : i < l.length) : idxL l (i : Int) = some (tg l i) := by
  rw [Za9 h, tg, List.getElem?_eq_getElem h]; rfl
def toP (l : List ZaA) (i : Nat) : Prop := ZcB (tg l i).Dot ∧ Zch (tg l i).Device ∧ (i = 0 ∨ less (tg l (i - 1)).Dot (tg l i).Dot)
instance (l : List ZaA) : DecidablePred (toP l) := fun i => inferInstanceAs (Decidable (_ ∧ _ ∧ _))
def may (e : Zaq) : Prop := core e ∧ ∀ i, i < e.To.length → toP e.To i
instance (e : Zaq) : Decidable (may e) := by unfold may core; exact inferInstance
theorem Zpq (k : Nat) (hk : 3 ≤ k) (e : Zaq) (i : Nat) (hi : i < e.To.length) (hl : e.To.length ≤ 1000000) : event_May.b1 k e true (i : Int) = some (if toP e.To i then .inl (true, ((i + 1 : Nat) : Int)) else .inr false) := by
  simp only [event_May.b1, lt1, Zbb (show (i : Int) < (e.To.length : Int) by omega), if_true, idxT hi, Option.bind_some, ZhQ, ZaP (show i < 9223372036854775807 by omega)]
  by_cases hd : ZcB (tg e.To i).Dot
  case neg => simp [hd, toP]
  simp only [decide_eq_true hd, if_true, Zg6, Option.bind_some, cond_true]
  by_cases hn : Zch (tg e.To i).Device
  case neg => simp [hn, toP]
  by_cases h0 : i = 0
  · subst h0
    simp [hd, hn, toP]
  · obtain ⟨j, rfl⟩ : ∃ j, i = j + 1 := ⟨i - 1, by omega⟩
    have e0 : ((((j + 1 : Nat) : Int)) == 0) = false := by simp; omega
    simp only [decide_eq_true hn, e0, Zgx j (by omega), Bool.not_false, Bool.and_true, if_true, idxT (show j < e.To.length by omega), ZlD k hk, Option.bind_some, cond_true, cond_false]
    by_cases hL : less (tg e.To j).Dot (tg e.To (j + 1)).Dot <;> simp [hL, hd, hn, toP]
theorem Zfe (k : Nat) (hk : 100000 ≤ k) (e : Zaq) (hl : e.To.length ≤ 70000) : event_May k e = some (decide (may e)) := by
  have hlp := ZlZ (body := fun s => event_May.b1 k e s.1 s.2) (k := k) e.To.length (toP e.To) (fun i hi => Zpq k (by omega) e i hi (by omega)) (by simp only [event_May.b1, lt1, ZbB (show ¬ (e.To.length : Int) < (e.To.length : Int) by omega), Bool.false_eq_true, if_false]) (by omega)
  simp only [event_May, ZhQ, lt1, Option.bind_some, may, core]
  by_cases h1 : ZcB e.ID
  case neg => simp [h1]
  have h1a := h1.1
  have h1b := h1.2.1
  have h1c := h1.2.2.1
  have h16 : (e.ID.Region - 1).toNat < 16 := by omega
  simp only [decide_eq_true h1, Bool.not_true, Bool.not_false, if_true, Ziu k (by omega), Option.bind_some, cond_false]
  by_cases h2 : Zf2 e.Past
  case neg => simp [h2]
  simp only [decide_eq_true h2, Bool.not_true, Bool.false_eq_true, if_false, Zj2 h1a h1b, Zjs (show 0 ≤ e.ID.Region - 1 by omega) h16, Option.bind_some, getV, Zme, ZkT h1c, ← Zoh h16]
  by_cases h3 : at_ e.Past e.ID.Region = e.ID.Count.toNat - 1
  case neg => simp [h3]
  simp only [decide_eq_true h3, Bool.not_true, Bool.false_eq_true, if_false, Zg6, Option.bind_some]
  by_cases h4 : Zch e.Topic
  case neg => simp [h4]
  by_cases h5 : e.Payload.length ≤ 512
  case neg => rw [Zbb (show (e.Payload.length : Int) > 512 by omega)]; simp [h5]
  by_cases h6 : e.To.length ≤ 1024
  case neg => rw [Zbb (show (e.To.length : Int) > 1024 by omega)]; simp [h6]
  rw [ZbB (show ¬ (e.Payload.length : Int) > 512 by omega), ZbB (show ¬ (e.To.length : Int) > 1024 by omega)]
  simp only [decide_eq_true h4, Bool.not_true, cond_false, Bool.false_eq_true, if_false, hlp, Option.bind_some]
  simp [h1, h2, h3, h4, h5, h6]
theorem Zng (k : Nat) (hk : 6000 ≤ k) (l : List Zal) : ∃ b, ref11_Long k l = some b ∧ (b = false → l.length ≤ 5000) := by
  have hlp := Zc0 (body := fun s : Int × Int => ref11_Long.b1 k l s.1 s.2) (I := fun s => 0 ≤ s.2 ∧ s.2 ≤ (l.length : Int) ∧ s.2 ≤ 5001 ∧ 0 ≤ s.1 ∧ s.1 ≤ 200000) (m := fun s => (5002 - s.2).toNat) (fun r => r = .inl () ∨ r = .inr true) ?_ k ((0 : Int), (0 : Int)) ⟨Int.le_refl _, by show (0 : Int) ≤ _; omega, by show (0 : Int) ≤ 5001; omega, Int.le_refl _, by show (0 : Int) ≤ 200000; omega⟩ (by show (5002 - (0 : Int)).toNat < k; omega)
  · obtain ⟨r, h1, h2⟩ := hlp
    rcases h2 with rfl | rfl
    · refine ⟨decide ((l.length : Int) > 5000), by simp only [ref11_Long, h1, Option.bind_some, lt1], fun h => ?_⟩
      have := of_decide_eq_false h
      omega
    · exact ⟨true, by simp only [ref11_Long, h1, Option.bind_some], fun h => by cases h⟩
  · rintro ⟨n, s⟩ ⟨h0, h1, h2, h3, h4⟩
    simp only at h0 h1 h2 h3 h4
    obtain ⟨i, rfl⟩ : ∃ i : Nat, s = i := ⟨s.toNat, by omega⟩
    by_cases hlt : i < l.length
    · by_cases h5 : i ≤ 5000
      · have e1 : ∀ x : Nat, minI (x : Int) 200001 = ((min x 200001 : Nat) : Int) := fun x => by unfold minI; split <;> omega
        simp only [ref11_Long.b1, lt1, Zbb (show (i : Int) < (l.length : Int) by omega), Zbb (show (i : Int) ≤ 5000 by omega), cond_true, Option.bind_some, if_true, Za9 hlt, e1]
        have w1 : w64 (n + ((min l[i].Key.Topic.length 200001 : Nat) : Int)) = n + ((min l[i].Key.Topic.length 200001 : Nat) : Int) := ZdI (by omega) (by omega)
        rw [w1]
        have w2 : w64 (n + ((min l[i].Key.Topic.length 200001 : Nat) : Int) + ((min l[i].Key.Device.length 200001 : Nat) : Int)) = n + ((min l[i].Key.Topic.length 200001 : Nat) : Int) + ((min l[i].Key.Device.length 200001 : Nat) : Int) := ZdI (by omega) (by omega)
        rw [w2]
        by_cases h6 : n + ((min l[i].Key.Topic.length 200001 : Nat) : Int) + ((min l[i].Key.Device.length 200001 : Nat) : Int) > 200000
        · right
          rw [Zbb h6]
          exact ⟨_, rfl, .inr rfl⟩
        · left
          rw [ZbB h6]
          simp only [Bool.false_eq_true, if_false, ZaP (show i < 9223372036854775807 by omega)]
          exact ⟨_, rfl, ⟨by show (0 : Int) ≤ ((i + 1 : Nat) : Int); omega, by show ((i + 1 : Nat) : Int) ≤ _; omega, by show ((i + 1 : Nat) : Int) ≤ 5001; omega, by show (0 : Int) ≤ n + _ + _; omega, by show n + _ + _ ≤ (200000 : Int); omega⟩, by show (5002 - ((i + 1 : Nat) : Int)).toNat < (5002 - (i : Int)).toNat; omega⟩
      · right
        simp only [ref11_Long.b1, lt1, Zbb (show (i : Int) < (l.length : Int) by omega), ZbB (show ¬ (i : Int) ≤ 5000 by omega), cond_true, Option.bind_some, Bool.false_eq_true, if_false]
        exact ⟨_, rfl, .inl rfl⟩
    · right
      simp only [ref11_Long.b1, lt1, ZbB (show ¬ (i : Int) < (l.length : Int) by omega), cond_false, Option.bind_some, Bool.false_eq_true, if_false]
      exact ⟨_, rfl, .inl rfl⟩
theorem dEq {α : Type} [DecidableEq α] (f : α → α → Bool) (hf : ∀ x y, f x y = true ↔ x = y) (x y : α) : f x y = decide (x = y) := by
  rw [Bool.eq_iff_iff, hf, decide_eq_true_iff]
theorem Zjb (x y : Zal) : ZdQ x y = decide (x = y) := dEq _ (fun _ _ => Zh7) x y
theorem dDot (x y : Zah) : ZcS x y = decide (x = y) := dEq _ (fun _ _ => ZeM) x y
theorem ZiL (x y : ZaA) : ZdP x y = decide (x = y) := dEq _ (fun _ _ => ZhD) x y
theorem dVec {α : Type} [BEq α] [LawfulBEq α] [DecidableEq α] {n : Nat} (x y : Vector α n) : eqV (fun x y => x == y) x y = decide (x = y) := dEq _ (fun _ _ => Zld fun _ _ => beq_iff_eq) x y
theorem Zha {α : Type} [DecidableEq α] {n : Nat} (x y : Vector α n) : eqV (fun x y => decide (x = y)) x y = decide (x = y) := dEq _ (fun _ _ => Zld fun _ _ => decide_eq_true_iff) x y
theorem dBne {α : Type} [DecidableEq α] (x y : α) : (x != y) = !decide (x = y) := by simp only [bne, Zdh]
theorem Zeu {α : Type} [DecidableEq α] (a b : List α) {body : Int → Option (Int ⊕ (Unit ⊕ Bool))} (hl : a.length = b.length) (hs : ∀ i (h : i < a.length) (h2 : i < b.length), body (i : Int) = some (if a[i] = b[i] then .inl ((i + 1 : Nat) : Int) else .inr (.inr false))) (he : body (a.length : Int) = some (.inr (.inl ()))) {k : Nat} (hk : a.length < k) : Zbc body k (0 : Int) = some (if a = b then .inl () else .inr false) := by
  rw [ZmB (b := false) a.length (fun i => a[i]? = b[i]?) ?_ he hk]
  · have : (∀ i, i < a.length → a[i]? = b[i]?) ↔ a = b := by
      constructor
      · intro h
        refine List.ext_getElem? fun i => ?_
        by_cases hi : i < a.length
        · exact h i hi
        · rw [List.getElem?_eq_none (by omega), List.getElem?_eq_none (by omega)]
      · rintro rfl i _; rfl
    by_cases h : a = b
    · rw [if_pos (this.2 h), if_pos h]
    · rw [if_neg (fun hh => h (this.1 hh)), if_neg h]
  · intro i hi
    rw [hs i hi (by omega)]
    have : (a[i]? = b[i]?) ↔ a[i] = b[i] := by rw [List.getElem?_eq_getElem hi, List.getElem?_eq_getElem (by omega)]; simp
    by_cases h : a[i] = b[i]'(by omega)
    · rw [if_pos h, if_pos (this.2 h)]
    · rw [if_neg h, if_neg (fun hh => h (this.1 hh))]
theorem Zgf {α β : Type} (a : List α) (b : List β) : ((a.length : Int) != (b.length : Int)) = !decide (a.length = b.length) := by
  rw [dBne]; by_cases h : a.length = b.length
  · simp [h]
  · have : ¬ (a.length : Int) = (b.length : Int) := by omega
    simp [h, this]
theorem sw {b : Prop} [Decidable b] {α : Type} (x y : α) : (if (!decide b) = true then x else y) = if b then y else x := by by_cases h : b <;> simp [h]
theorem eqItems (k : Nat) (a b : List (Zal)) (hk : a.length < k) (hm : a.length ≤ 1000000) : slices_Equalapi_Item_api_Item k a b = some (decide (a = b)) := by
  simp only [slices_Equalapi_Item_api_Item, lt1, Zgf]
  by_cases hl : a.length = b.length
  · have h := Zeu a b (body := fun s => slices_Equalapi_Item_api_Item.b1 k a b s) hl (fun i h1 h2 => by
      simp only [slices_Equalapi_Item_api_Item.b1, lt1, Zbb (show (i : Int) < (a.length : Int) by omega), if_true, Za9 h1, Za9 h2, Option.bind_some, Zjb, dDot, ZiL, dVec, Zha, dBne, Zdh, sw, ZaP (show i < 9223372036854775807 by omega)]
      by_cases h : a[i] = b[i] <;> simp [h]) (by simp only [slices_Equalapi_Item_api_Item.b1, lt1, ZbB (show ¬ (a.length : Int) < (a.length : Int) by omega), Bool.false_eq_true, if_false]) hk
    simp only [decide_eq_true hl, Bool.not_true, Bool.false_eq_true, if_false, h, Option.bind_some]
    by_cases hab : a = b <;> simp [hab]
  · have : ¬ a = b := fun h => hl (by rw [h])
    simp [hl, this]
theorem ZmS (k : Nat) (a b : List (Zah)) (hk : a.length < k) (hm : a.length ≤ 1000000) : slices_Equalapi_Dot_api_Dot k a b = some (decide (a = b)) := by
  simp only [slices_Equalapi_Dot_api_Dot, lt1, Zgf]
  by_cases hl : a.length = b.length
  · have h := Zeu a b (body := fun s => slices_Equalapi_Dot_api_Dot.b1 k a b s) hl (fun i h1 h2 => by
      simp only [slices_Equalapi_Dot_api_Dot.b1, lt1, Zbb (show (i : Int) < (a.length : Int) by omega), if_true, Za9 h1, Za9 h2, Option.bind_some, Zjb, dDot, ZiL, dVec, Zha, dBne, Zdh, sw, ZaP (show i < 9223372036854775807 by omega)]
      by_cases h : a[i] = b[i] <;> simp [h]) (by simp only [slices_Equalapi_Dot_api_Dot.b1, lt1, ZbB (show ¬ (a.length : Int) < (a.length : Int) by omega), Bool.false_eq_true, if_false]) hk
    simp only [decide_eq_true hl, Bool.not_true, Bool.false_eq_true, if_false, h, Option.bind_some]
    by_cases hab : a = b <;> simp [hab]
  · have : ¬ a = b := fun h => hl (by rw [h])
    simp [hl, this]
theorem Zmm (k : Nat) (a b : List (Vector UInt8 32)) (hk : a.length < k) (hm : a.length ≤ 1000000) : slices_Equalapi_Hash_api_Hash k a b = some (decide (a = b)) := by
  simp only [slices_Equalapi_Hash_api_Hash, lt1, Zgf]
  by_cases hl : a.length = b.length
  · have h := Zeu a b (body := fun s => slices_Equalapi_Hash_api_Hash.b1 k a b s) hl (fun i h1 h2 => by
      simp only [slices_Equalapi_Hash_api_Hash.b1, lt1, Zbb (show (i : Int) < (a.length : Int) by omega), if_true, Za9 h1, Za9 h2, Option.bind_some, Zjb, dDot, ZiL, dVec, Zha, dBne, Zdh, sw, ZaP (show i < 9223372036854775807 by omega)]
      by_cases h : a[i] = b[i] <;> simp [h]) (by simp only [slices_Equalapi_Hash_api_Hash.b1, lt1, ZbB (show ¬ (a.length : Int) < (a.length : Int) by omega), Bool.false_eq_true, if_false]) hk
    simp only [decide_eq_true hl, Bool.not_true, Bool.false_eq_true, if_false, h, Option.bind_some]
    by_cases hab : a = b <;> simp [hab]
  · have : ¬ a = b := fun h => hl (by rw [h])
    simp [hl, this]
theorem Zn4 (k : Nat) (a b : List (Int)) (hk : a.length < k) (hm : a.length ≤ 1000000) : slices_Equalint_int k a b = some (decide (a = b)) := by
  simp only [slices_Equalint_int, lt1, Zgf]
  by_cases hl : a.length = b.length
  · have h := Zeu a b (body := fun s => slices_Equalint_int.b1 k a b s) hl (fun i h1 h2 => by
      simp only [slices_Equalint_int.b1, lt1, Zbb (show (i : Int) < (a.length : Int) by omega), if_true, Za9 h1, Za9 h2, Option.bind_some, Zjb, dDot, ZiL, dVec, Zha, dBne, Zdh, sw, ZaP (show i < 9223372036854775807 by omega)]
      by_cases h : a[i] = b[i] <;> simp [h]) (by simp only [slices_Equalint_int.b1, lt1, ZbB (show ¬ (a.length : Int) < (a.length : Int) by omega), Bool.false_eq_true, if_false]) hk
    simp only [decide_eq_true hl, Bool.not_true, Bool.false_eq_true, if_false, h, Option.bind_some]
    by_cases hab : a = b <;> simp [hab]
  · have : ¬ a = b := fun h => hl (by rw [h])
    simp [hl, this]
theorem Zh6 (k : Nat) (a b : List (UInt8)) (hk : a.length < k) (hm : a.length ≤ 1000000) : slices_Equalbyte_byte k a b = some (decide (a = b)) := by
  simp only [slices_Equalbyte_byte, lt1, Zgf]
  by_cases hl : a.length = b.length
  · have h := Zeu a b (body := fun s => slices_Equalbyte_byte.b1 k a b s) hl (fun i h1 h2 => by
      simp only [slices_Equalbyte_byte.b1, lt1, Zbb (show (i : Int) < (a.length : Int) by omega), if_true, Za9 h1, Za9 h2, Option.bind_some, Zjb, dDot, ZiL, dVec, Zha, dBne, Zdh, sw, ZaP (show i < 9223372036854775807 by omega)]
      by_cases h : a[i] = b[i] <;> simp [h]) (by simp only [slices_Equalbyte_byte.b1, lt1, ZbB (show ¬ (a.length : Int) < (a.length : Int) by omega), Bool.false_eq_true, if_false]) hk
    simp only [decide_eq_true hl, Bool.not_true, Bool.false_eq_true, if_false, h, Option.bind_some]
    by_cases hab : a = b <;> simp [hab]
  · have : ¬ a = b := fun h => hl (by rw [h])
    simp [hl, this]
theorem Znk (k : Nat) (a b : List (ZaA)) (hk : a.length < k) (hm : a.length ≤ 1000000) : slices_Equalapi_Dest_api_Dest k a b = some (decide (a = b)) := by
  simp only [slices_Equalapi_Dest_api_Dest, lt1, Zgf]
  by_cases hl : a.length = b.length
  · have h := Zeu a b (body := fun s => slices_Equalapi_Dest_api_Dest.b1 k a b s) hl (fun i h1 h2 => by
      simp only [slices_Equalapi_Dest_api_Dest.b1, lt1, Zbb (show (i : Int) < (a.length : Int) by omega), if_true, Za9 h1, Za9 h2, Option.bind_some, Zjb, dDot, ZiL, dVec, Zha, dBne, Zdh, sw, ZaP (show i < 9223372036854775807 by omega)]
      by_cases h : a[i] = b[i] <;> simp [h]) (by simp only [slices_Equalapi_Dest_api_Dest.b1, lt1, ZbB (show ¬ (a.length : Int) < (a.length : Int) by omega), Bool.false_eq_true, if_false]) hk
    simp only [decide_eq_true hl, Bool.not_true, Bool.false_eq_true, if_false, h, Option.bind_some]
    by_cases hab : a = b <;> simp [hab]
  · have : ¬ a = b := fun h => hl (by rw [h])
    simp [hl, this]
theorem Zjf (k : Nat) (a b : Zaq) (h1 : a.Payload.length < k) (h2 : a.To.length < k) (h3 : a.Payload.length ≤ 1000000) (h4 : a.To.length ≤ 1000000) : Ze2 k a b = some (decide (a = b)) := by
  simp only [Ze2, lt1, dDot, dVec, Zha, Zdh, Zh6 k _ _ h1 h3, Znk k _ _ h2 h4, Option.bind_some]
  obtain ⟨a1, a2, a3, a4, a5⟩ := a
  obtain ⟨b1, b2, b3, b4, b5⟩ := b
  simp only [Zaq.mk.injEq]
  by_cases e1 : a1 = b1 <;> by_cases e2 : a2 = b2 <;> by_cases e3 : a3 = b3 <;> by_cases e4 : a4 = b4 <;> simp [e1, e2, e3, e4]
theorem ZhP (k : Nat) (a b : Zaq) (h2 : a.To.length < k) (h4 : a.To.length ≤ 1000000) : ref09_Same k a b = some (decide (a = b)) := by
  simp only [ref09_Same, lt1, dDot, dVec, Zha, dBne, Zgf, Option.bind_some]
  obtain ⟨a1, a2, a3, a4, a5⟩ := a
  obtain ⟨b1, b2, b3, b4, b5⟩ := b
  simp only [Zaq.mk.injEq]
  by_cases e1 : a1 = b1 <;> by_cases e2 : a2 = b2 <;> by_cases e3 : a3 = b3 <;> by_cases e4 : a4 = b4 <;> try (simp [e1, e2, e3, e4]; done)
  by_cases hl : a5.length = b5.length
  · have h := Zeu a5 b5 (body := fun s => ref09_Same.b1 k ⟨a1, a2, a3, a4, a5⟩ ⟨b1, b2, b3, b4, b5⟩ s) hl (fun i h1 h2 => by
      simp only [ref09_Same.b1, lt1, Zbb (show (i : Int) < (a5.length : Int) by omega), if_true, Za9 h1, Za9 h2, Option.bind_some, ZiL, sw, ZaP (show i < 9223372036854775807 by simp only at h4; omega)]
      by_cases h : a5[i] = b5[i] <;> simp [h]) (by simp only [ref09_Same.b1, lt1, ZbB (show ¬ (a5.length : Int) < (a5.length : Int) by omega), Bool.false_eq_true, if_false]) h2
    simp only [e1, e2, e3, e4, hl, decide_true, Bool.not_true, Bool.false_eq_true, if_false, true_and, Option.bind_some]
    subst e1 e2 e3 e4
    simp only [h, Option.bind_some]
    by_cases hab : a5 = b5 <;> simp [hab]
  · have : ¬ a5 = b5 := fun h => hl (by rw [h])
    have hl' : ¬ (a5.length : Int) = (b5.length : Int) := by omega
    simp [e1, e2, e3, e4, hl, hl', this]
def ZlG (k : Nat) (f : Zai) : Prop := (f.Items.length < k ∧ f.Items.length ≤ 1000000) ∧ (f.Extra.length < k ∧ f.Extra.length ≤ 1000000) ∧ (f.Live.length < k ∧ f.Live.length ≤ 1000000) ∧ (f.Leaves.length < k ∧ f.Leaves.length ≤ 1000000) ∧ (f.Buckets.length < k ∧ f.Buckets.length ≤ 1000000) ∧ (f.Event.Payload.length < k ∧ f.Event.Payload.length ≤ 1000000) ∧ (f.Event.To.length < k ∧ f.Event.To.length ≤ 1000000)
theorem Zkp (p q : Prop) [Decidable p] [Decidable q] : (if decide p = true then some (decide q) else some false) = some (decide (p ∧ q)) := by by_cases h : p <;> simp [h]
theorem Zle (p q : Prop) [Decidable p] [Decidable q] : (if decide p = true then some (decide q) else some default) = some (decide (p ∧ q)) := by by_cases h : p <;> simp [h]
theorem ZlT (p q : Prop) [Decidable p] [Decidable q] : (bif decide p then decide q else false) = decide (p ∧ q) := by by_cases h : p <;> simp [h]
theorem Zhv (k : Nat) (a b : Zai) (h : ZlG k a) : Zed k a b = some (decide (a = b)) := by
  obtain ⟨h1, h2, h3, h4, h5, h6, h7⟩ := h
  simp only [Zed, lt1, dVec, Zha, Zdh, eqItems k _ _ h1.1 h1.2, ZmS k _ _ h2.1 h2.2, ZmS k _ _ h3.1 h3.2, Zmm k _ _ h4.1 h4.2, Zn4 k _ _ h5.1 h5.2, Zjf k _ _ h6.1 h7.1 h6.2 h7.2, Option.bind_some]
  clear h1 h2 h3 h4 h5 h6 h7
  obtain ⟨a1, a2, a3, a4, a5, a6, a7, a8, a9, a10, a11, a12, a13⟩ := a
  obtain ⟨b1, b2, b3, b4, b5, b6, b7, b8, b9, b10, b11, b12, b13⟩ := b
  simp only [Zkp, Zle, ZlT, Option.bind_some, Zai.mk.injEq]
  exact congrArg some (decide_eq_decide.2 (by grind))
def itg (l : List Zal) (i : Nat) : Zal := l[i]?.getD ⟨⟨0, 0⟩, ⟨[], []⟩, false⟩
theorem idxI {l : List Zal} {i : Nat} (h : i < l.length) : idxL l (i : Int) = some (itg l i) := by
  rw [Za9 h, itg, List.getElem?_eq_getElem h]; rfl
def bg (l : List Int) (i : Nat) : Int := l[i]?.getD 0
theorem idxG {l : List Int} {i : Nat} (h : i < l.length) : idxL l (i : Int) = some (bg l i) := by
  rw [Za9 h, bg, List.getElem?_eq_getElem h]; rfl
def Zer (l : List Zal) : Prop := l.length ≤ 4096 ∧ ∀ x ∈ l, ZbV x
instance (l : List Zal) : Decidable (Zer l) := inferInstanceAs (Decidable (_ ∧ _))
def Zhf (l : List Zal) (i : Nat) : Prop := i = 0 ∨ less (itg l (i - 1)).Dot (itg l i).Dot
instance (l : List Zal) : DecidablePred (Zhf l) := fun i => inferInstanceAs (Decidable (_ ∨ _))
def ZfI (l : List Int) (i : Nat) : Prop := (0 ≤ bg l i ∧ bg l i < 64) ∧ (i = 0 ∨ bg l (i - 1) < bg l i)
instance (l : List Int) : DecidablePred (ZfI l) := fun i => inferInstanceAs (Decidable (_ ∧ _))
theorem ZgD (k : Nat) (f : Zai) (hk : 100000 ≤ k) (hl : f.Items.length ≤ 70000) : ZdO k f = some (decide (Zer f.Items)) := by
  simp only [ZdO, lt1]
  by_cases h : f.Items.length ≤ 4096
  · rw [Zbb (show (f.Items.length : Int) ≤ 4096 by omega)]
    simp only [if_true, ZjZ k f.Items (by omega) (by omega), Option.bind_some, Bool.not_not, cond_true]
    rw [show decide (Zer f.Items) = decide (∀ x ∈ f.Items, ZbV x) from decide_eq_decide.2 ⟨fun h => h.2, fun hh => ⟨h, hh⟩⟩]
  · rw [ZbB (show ¬ (f.Items.length : Int) ≤ 4096 by omega), decide_eq_false (show ¬ Zer f.Items from fun hh => h hh.1)]
    simp
def Zij : Zaq := ⟨⟨0, 0⟩, [], [], Vector.replicate 16 0, []⟩
def Zjj (f : Zai) : Prop := (f.Items = [] ∨ f.Kind = 1 ∨ f.Kind = 7) ∧ (f.Past = Vector.replicate 16 0 ∨ f.Kind = 3) ∧ (f.Hash = Vector.replicate 32 0 ∨ f.Kind = 5) ∧ (f.Leaves = [] ∨ f.Kind = 6) ∧ (f.Buckets = [] ∨ f.Kind = 7) ∧ (f.Reply = false ∨ f.Kind = 7) ∧ (f.Live = [] ∨ f.Kind = 4) ∧ ((f.Seen = Vector.replicate 16 0 ∧ f.Extra = []) ∨ f.Kind = 4 ∨ f.Kind = 7) ∧ (f.Event = Zij ∨ f.Kind = 2)
instance (f : Zai) : Decidable (Zjj f) := by unfold Zjj; exact inferInstance
theorem Zno (k : Nat) (f : Zai) : ∃ b, Ze5 k f = some b ∧ (f = b ↔ Zjj f) := by
  obtain ⟨a1, a2, a3, a4, a5, a6, a7, a8, a9, a10, a11, a12, a13⟩ := f
  simp only [Ze5, lt1, Zjj, Zij]
  by_cases k1 : a1 = 1
  · subst k1; exact ⟨_, rfl, by simp only [Zai.mk.injEq]; simp; try grind⟩
  by_cases k2 : a1 = 2
  · subst k2; exact ⟨_, rfl, by simp only [Zai.mk.injEq]; simp; try grind⟩
  by_cases k3 : a1 = 3
  · subst k3; exact ⟨_, rfl, by simp only [Zai.mk.injEq]; simp; try grind⟩
  by_cases k4 : a1 = 4
  · subst k4; exact ⟨_, rfl, by simp only [Zai.mk.injEq]; simp; try grind⟩
  by_cases k5 : a1 = 5
  · subst k5; exact ⟨_, rfl, by simp only [Zai.mk.injEq]; simp; try grind⟩
  by_cases k6 : a1 = 6
  · subst k6; exact ⟨_, rfl, by simp only [Zai.mk.injEq]; simp; try grind⟩
  by_cases k7 : a1 = 7
  · subst k7; exact ⟨_, rfl, by simp only [Zai.mk.injEq]; simp; try grind⟩
  have e1 : (a1 == 1) = false := by simp [k1]
  have e2 : (a1 == 2) = false := by simp [k2]
  have e3 : (a1 == 3) = false := by simp [k3]
  have e4 : (a1 == 4) = false := by simp [k4]
  have e5 : (a1 == 5) = false := by simp [k5]
  have e6 : (a1 == 6) = false := by simp [k6]
  have e7 : (a1 == 7) = false := by simp [k7]
  simp only [e1, e2, e3, e4, e5, e6, e7, Bool.false_eq_true, if_false, Option.bind_some]
  exact ⟨_, rfl, by simp only [Zai.mk.injEq]; simp [k1, k2, k3, k4, k5, k6, k7]; try grind⟩
theorem Zk1 {α : Type} (l : List α) : decide ((l.length : Int) > 0) = !decide (l = []) := by
  cases l with
  | nil => rfl
  | cons a l => rw [Zbb (show ((a :: l).length : Int) > 0 by simp)]; rfl
theorem Zoo (p q : Prop) [Decidable p] [Decidable q] : (bif decide p then true else decide q) = decide (p ∨ q) := by by_cases h : p <;> simp [h]
def ZhW (f : Zai) : Prop :=
  if f.Kind = 1 then f.Items ≠ [] ∧ Zer f.Items
  else if f.Kind = 2 then may f.Event
  else if f.Kind = 3 then Zf2 f.Past
  else if f.Kind = 4 then (∀ i, i < f.Live.length → ZhT f.Live i) ∧ f.Live.length ≤ 1024 ∧ ZiZ f.Seen f.Extra
  else if f.Kind = 5 then True
  else if f.Kind = 6 then f.Leaves.length = 64
  else if f.Kind = 7 then (∀ i, i < f.Buckets.length → ZfI f.Buckets i) ∧ (∀ i, i < f.Items.length → Zhf f.Items i) ∧ f.Buckets ≠ [] ∧ Zer f.Items ∧ ZiZ f.Seen f.Extra
  else False
instance (f : Zai) : Decidable (ZhW f) := by unfold ZhW; exact inferInstance
def ZjH (f : Zai) : Prop := (1 ≤ f.From ∧ f.From ≤ 16 ∧ 1 ≤ f.To ∧ f.To ≤ 16) ∧ f.From ≠ f.To
instance (f : Zai) : Decidable (ZjH f) := inferInstanceAs (Decidable (_ ∧ _))
def mayF (f : Zai) : Prop := ZjH f ∧ Zjj f ∧ ZhW f
instance (f : Zai) : Decidable (mayF f) := inferInstanceAs (Decidable (_ ∧ _ ∧ _))
theorem Zpn (f : Zai) : (bif bif bif bif decide (f.From < 1) then true else decide (f.From > 16) then true else decide (f.To < 1) then true else decide (f.To > 16) then true else (f.From == f.To)) = !decide (ZjH f) := by
  rw [Zdh]
  simp only [Zoo, ← decide_not]
  exact decide_eq_decide.2 (by unfold ZjH; omega)
theorem ZnP (k : Nat) (hk : 3 ≤ k) (f : Zai) (i : Nat) (hi : i < f.Live.length) (hl : f.Live.length ≤ 1000000) : frame_May.b1 k f (i : Int) = some (if ZhT f.Live i then .inl ((i + 1 : Nat) : Int) else .inr (.inr false)) := by
  simp only [frame_May.b1, lt1, Zbb (show (i : Int) < (f.Live.length : Int) by omega), if_true, idxD hi, Option.bind_some, ZgV, ZaP (show i < 9223372036854775807 by omega), Zc7]
  by_cases hd : ZcB (dg f.Live i)
  case neg => simp [hd, ZhT]
  simp only [decide_eq_true hd, Bool.not_true, Bool.not_false, if_true, Option.bind_some, cond_false, ZhT, hd, true_and]
  by_cases h0 : i = 0
  · subst h0
    simp
  · obtain ⟨j, rfl⟩ : ∃ j, i = j + 1 := ⟨i - 1, by omega⟩
    have e : decide (((j + 1 : Nat) : Int) > 0) = true := decide_eq_true (by omega)
    have e0 : ((((j + 1 : Nat) : Int)) == 0) = false := by simp; omega
    simp only [e, e0, Zgx j (by omega), idxD (show j < f.Live.length by omega), Zhl k hk, Bool.and_true, Bool.true_and, Option.bind_some, if_true, cond_true, cond_false, Nat.add_sub_cancel, h0, false_or]
    by_cases hL : less (dg f.Live j) (dg f.Live (j + 1)) <;> simp [hL]
theorem ZnO (k : Nat) (f : Zai) (i : Nat) (hi : i < f.Buckets.length) (hl : f.Buckets.length ≤ 1000000) : frame_May.b2 k f (i : Int) = some (if ZfI f.Buckets i then .inl ((i + 1 : Nat) : Int) else .inr (.inr false)) := by
  simp only [frame_May.b2, lt1, Zbb (show (i : Int) < (f.Buckets.length : Int) by omega), if_true, idxG hi, Option.bind_some, ZaP (show i < 9223372036854775807 by omega), Zc7]
  by_cases c1 : bg f.Buckets i < 0
  case pos => simp [c1, ZfI, show ¬ 0 ≤ bg f.Buckets i by omega]
  by_cases c2 : bg f.Buckets i ≥ 64
  case pos => simp [c1, c2, ZfI, show ¬ bg f.Buckets i < 64 by omega]
  have c3 : 0 ≤ bg f.Buckets i ∧ bg f.Buckets i < 64 := by omega
  simp only [ZbB c1, ZbB c2, Bool.not_true, Bool.not_false, if_true, Option.bind_some, cond_false, ZfI, c3, true_and]
  by_cases h0 : i = 0
  · subst h0
    simp
  · obtain ⟨j, rfl⟩ : ∃ j, i = j + 1 := ⟨i - 1, by omega⟩
    have e : decide (((j + 1 : Nat) : Int) > 0) = true := decide_eq_true (by omega)
    have e0 : ((((j + 1 : Nat) : Int)) == 0) = false := by simp; omega
    simp only [e, e0, Zgx j (by omega), idxG (show j < f.Buckets.length by omega), Bool.and_true, Bool.true_and, Option.bind_some, if_true, cond_true, cond_false, Nat.add_sub_cancel, h0, false_or]
    by_cases hL : bg f.Buckets j < bg f.Buckets (j + 1) <;> simp [hL]
theorem ZoB (k : Nat) (hk : 3 ≤ k) (f : Zai) (i : Nat) (hi : i < f.Items.length) (hl : f.Items.length ≤ 1000000) : frame_May.b3 k f (i : Int) = some (if Zhf f.Items i then .inl ((i + 1 : Nat) : Int) else .inr (.inr false)) := by
  simp only [frame_May.b3, lt1, Zbb (show (i : Int) < (f.Items.length : Int) by omega), if_true, idxI hi, Option.bind_some, ZaP (show i < 9223372036854775807 by omega), Zc7, Zhf]
  by_cases h0 : i = 0
  · subst h0
    simp
  · obtain ⟨j, rfl⟩ : ∃ j, i = j + 1 := ⟨i - 1, by omega⟩
    have e : decide (((j + 1 : Nat) : Int) > 0) = true := decide_eq_true (by omega)
    have e0 : ((((j + 1 : Nat) : Int)) == 0) = false := by simp; omega
    simp only [e, e0, Zgx j (by omega), idxI (show j < f.Items.length by omega), Zhl k hk, Bool.and_true, Bool.true_and, Option.bind_some, if_true, cond_true, cond_false, Nat.add_sub_cancel, h0, false_or]
    by_cases hL : less (itg f.Items j).Dot (itg f.Items (j + 1)).Dot <;> simp [hL]
theorem Zlp (k : Nat) (hk : 100000 ≤ k) (e : Zaq) : ∃ b, ref09_Much k e = some b ∧ (b = false → e.Topic.length ≤ 300 ∧ e.Payload.length ≤ 3000 ∧ e.To.length ≤ 3000) := by
  simp only [ref09_Much, lt1]
  by_cases h1 : e.Topic.length ≤ 300
  case neg => exact ⟨true, by rw [Zbb (show (e.Topic.length : Int) > 300 by omega)]; rfl, fun h => by cases h⟩
  by_cases h2 : e.Payload.length ≤ 3000
  case neg => exact ⟨true, by rw [Zbb (show (e.Payload.length : Int) > 3000 by omega)]; simp, fun h => by cases h⟩
  by_cases h3 : e.To.length ≤ 3000
  case neg => exact ⟨true, by rw [Zbb (show (e.To.length : Int) > 3000 by omega)]; simp, fun h => by cases h⟩
  have hlp := Zc0 (body := fun s : Int × Int => ref09_Much.b1 k e s.1 s.2) (I := fun s => 0 ≤ s.2 ∧ s.2 ≤ (e.To.length : Int) ∧ 0 ≤ s.1 ∧ s.1 ≤ 200000) (m := fun s => ((e.To.length : Int) - s.2).toNat) (fun r => r = .inl () ∨ r = .inr true) ?_ k ((0 : Int), (0 : Int)) ⟨Int.le_refl _, by show (0 : Int) ≤ _; omega, Int.le_refl _, by show (0 : Int) ≤ 200000; omega⟩ (by show ((e.To.length : Int) - (0 : Int)).toNat < k; omega)
  · simp only [ZbB (show ¬ (e.Topic.length : Int) > 300 by omega), ZbB (show ¬ (e.Payload.length : Int) > 3000 by omega), ZbB (show ¬ (e.To.length : Int) > 3000 by omega), Bool.false_eq_true, if_false, Option.bind_some]
    obtain ⟨r, g1, g2⟩ := hlp
    rcases g2 with rfl | rfl
    · exact ⟨false, by simp only [cond_false, Bool.false_eq_true, if_false, g1, Option.bind_some], fun _ => ⟨h1, h2, h3⟩⟩
    · exact ⟨true, by simp only [cond_false, Bool.false_eq_true, if_false, g1, Option.bind_some], fun h => by cases h⟩
  · rintro ⟨n, s⟩ ⟨h0, h4, h5, h6⟩
    simp only at h0 h4 h5 h6
    obtain ⟨i, rfl⟩ : ∃ i : Nat, s = i := ⟨s.toNat, by omega⟩
    by_cases hlt : i < e.To.length
    · have e1 : ∀ x : Nat, minI (x : Int) 200001 = ((min x 200001 : Nat) : Int) := fun x => by unfold minI; split <;> omega
      simp only [ref09_Much.b1, lt1, Zbb (show (i : Int) < (e.To.length : Int) by omega), if_true, Za9 hlt, Option.bind_some, e1]
      have w1 : w64 (n + ((min e.To[i].Device.length 200001 : Nat) : Int)) = n + ((min e.To[i].Device.length 200001 : Nat) : Int) := ZdI (by omega) (by omega)
      rw [w1]
      by_cases h7 : n + ((min e.To[i].Device.length 200001 : Nat) : Int) > 200000
      · right
        rw [Zbb h7]
        exact ⟨_, rfl, .inr rfl⟩
      · left
        rw [ZbB h7]
        simp only [Bool.false_eq_true, if_false, ZaP (show i < 9223372036854775807 by omega)]
        exact ⟨_, rfl, ⟨by show (0 : Int) ≤ ((i + 1 : Nat) : Int); omega, by show ((i + 1 : Nat) : Int) ≤ _; omega, by show (0 : Int) ≤ n + _; omega, by show n + _ ≤ (200000 : Int); omega⟩, by show ((e.To.length : Int) - ((i + 1 : Nat) : Int)).toNat < ((e.To.length : Int) - (i : Int)).toNat; omega⟩
    · right
      simp only [ref09_Much.b1, lt1, ZbB (show ¬ (i : Int) < (e.To.length : Int) by omega), Bool.false_eq_true, if_false]
      exact ⟨_, rfl, .inl rfl⟩
def Zem (f : Zai) : Prop := f.Items.length ≤ 70000 ∧ f.Event.Topic.length ≤ 300 ∧ f.Event.Payload.length ≤ 3000 ∧ f.Event.To.length ≤ 3000 ∧ f.Extra.length ≤ 70000 ∧ f.Live.length ≤ 70000 ∧ f.Leaves.length ≤ 300 ∧ f.Buckets.length ≤ 300
theorem ZhK {k : Nat} (hk : 100000 ≤ k) {f : Zai} (h : Zem f) : ZlG k f := by
  obtain ⟨h1, h2, h3, h4, h5, h6, h7, h8⟩ := h
  exact ⟨⟨by omega, by omega⟩, ⟨by omega, by omega⟩, ⟨by omega, by omega⟩, ⟨by omega, by omega⟩, ⟨by omega, by omega⟩, ⟨by omega, by omega⟩, ⟨by omega, by omega⟩⟩
theorem Zm6 (k : Nat) (hk : 100000 ≤ k) (f : Zai) : ∃ b, ZeY k f = some b ∧ (b = false → Zem f) := by
  obtain ⟨l, h1, h1'⟩ := Zng k (by omega) f.Items
  obtain ⟨m, h2, h2'⟩ := Zlp k hk f.Event
  simp only [ZeY, lt1, h1, h2, Option.bind_some]
  cases l
  case true => exact ⟨true, rfl, fun h => by cases h⟩
  cases m
  case true => exact ⟨true, by simp, fun h => by cases h⟩
  have h1 := h1' rfl
  have h2 := h2' rfl
  by_cases h3 : f.Extra.length ≤ 5000
  case neg => exact ⟨true, by rw [Zbb (show (f.Extra.length : Int) > 5000 by omega)]; simp, fun h => by cases h⟩
  by_cases h4 : f.Live.length ≤ 5000
  case neg => exact ⟨true, by rw [Zbb (show (f.Live.length : Int) > 5000 by omega)]; simp, fun h => by cases h⟩
  by_cases h5 : f.Leaves.length ≤ 300
  case neg => exact ⟨true, by rw [Zbb (show (f.Leaves.length : Int) > 300 by omega)]; simp, fun h => by cases h⟩
  by_cases h6 : f.Buckets.length ≤ 300
  case neg => exact ⟨true, by rw [Zbb (show (f.Buckets.length : Int) > 300 by omega)]; simp, fun h => by cases h⟩
  exact ⟨false, by rw [ZbB (show ¬ (f.Extra.length : Int) > 5000 by omega), ZbB (show ¬ (f.Live.length : Int) > 5000 by omega), ZbB (show ¬ (f.Leaves.length : Int) > 300 by omega), ZbB (show ¬ (f.Buckets.length : Int) > 300 by omega)]; simp, fun _ => ⟨by omega, h2.1, h2.2.1, h2.2.2, by omega, by omega, h5, h6⟩⟩
theorem endB {f : Nat} : decide ((f : Int) < (f : Int)) = false := ZbB (by omega)
theorem Zfp (k : Nat) (hk : 100000 ≤ k) (f : Zai) (hs : Zem f) : frame_May k f = some (decide (mayF f)) := by
  have hsh := ZhK hk hs
  obtain ⟨s1, s2, s3, s4, s5, s6, s7, s8⟩ := hs
  obtain ⟨b, hb, hbz⟩ := Zno k f
  simp only [frame_May, lt1, Zpn]
  by_cases hh : ZjH f
  case neg => simp [hh, mayF]
  simp only [decide_eq_true hh, Bool.not_true, Bool.not_false, if_true, hb, Zhv k f b hsh, Option.bind_some, cond_false]
  by_cases hz : Zjj f
  case neg =>
    rw [decide_eq_false (fun h => hz (hbz.1 h))]
    simp [hz, mayF]
  rw [decide_eq_true (hbz.2 hz)]
  have hmay : decide (mayF f) = decide (ZhW f) := decide_eq_decide.2 ⟨fun h => h.2.2, fun h => ⟨hh, hz, h⟩⟩
  rw [hmay]
  simp only [Bool.not_true, Bool.false_eq_true, if_false, ZhW]
  clear hb hbz hmay hsh
  by_cases k1 : f.Kind = 1
  · simp only [k1, beq_self_eq_true, if_true, Zk1, ZgD k f hk s1]
    by_cases c : f.Items = [] <;> simp [c]
  have e1 : (f.Kind == 1) = false := by simp [k1]
  simp only [e1, k1, Bool.false_eq_true, if_false]
  by_cases k2 : f.Kind = 2
  · simp only [k2, beq_self_eq_true, if_true, Zfe k hk f.Event (by omega), Option.bind_some]
  have e2 : (f.Kind == 2) = false := by simp [k2]
  simp only [e2, k2, Bool.false_eq_true, if_false]
  by_cases k3 : f.Kind = 3
  · simp only [k3, beq_self_eq_true, if_true]
    have hp := Znt k (by omega) f.Past
    simp only [lt1] at hp
    cases hx : subL (Vector.toList f.Past) 0 16 with
    | none => rw [hx] at hp; cases hp
    | some x =>
      rw [hx] at hp
      simp only [Option.bind_some] at hp ⊢
      cases hy : Za2 k x with
      | none => rw [hy] at hp; cases hp
      | some y =>
        rw [hy] at hp
        simp only [Option.bind_some] at hp ⊢
        exact hp
  have e3 : (f.Kind == 3) = false := by simp [k3]
  simp only [e3, k3, Bool.false_eq_true, if_false]
  by_cases k4 : f.Kind = 4
  · have hlp := ZfT (body := fun s => frame_May.b1 k f s) (k := k) f.Live.length (ZhT f.Live) (b := false) (fun i hi => ZnP k (by omega) f i hi (by omega)) (by simp only [frame_May.b1, lt1, endB, Bool.false_eq_true, if_false]) (by omega)
    simp only [k4, beq_self_eq_true, if_true, hlp, Option.bind_some]
    by_cases hx : ∀ i, i < f.Live.length → ZhT f.Live i
    · rw [if_pos hx]
      by_cases h4 : f.Live.length ≤ 1024
      · rw [Zbb (show (f.Live.length : Int) ≤ 1024 by omega)]
        simp only [if_true, Zhu k hk f s5, Option.bind_some, cond_true]
        exact congrArg some (decide_eq_decide.2 ⟨fun h => ⟨hx, h4, h⟩, fun h => h.2.2⟩)
      · rw [ZbB (show ¬ (f.Live.length : Int) ≤ 1024 by omega)]
        exact congrArg some (decide_eq_false fun h => h4 h.2.1).symm
    · rw [if_neg hx]
      exact congrArg some (decide_eq_false fun h => hx h.1).symm
  have e4 : (f.Kind == 4) = false := by simp [k4]
  simp only [e4, k4, Bool.false_eq_true, if_false]
  by_cases k5 : f.Kind = 5
  · simp only [k5, beq_self_eq_true, if_true]
    rfl
  have e5 : (f.Kind == 5) = false := by simp [k5]
  simp only [e5, k5, Bool.false_eq_true, if_false]
  by_cases k6 : f.Kind = 6
  · simp only [k6, beq_self_eq_true, if_true, Option.bind_some, Zdh]
    exact congrArg some (decide_eq_decide.2 (by omega))
  have e6 : (f.Kind == 6) = false := by simp [k6]
  simp only [e6, k6, Bool.false_eq_true, if_false]
  by_cases k7 : f.Kind = 7
  · have h2 := ZfT (body := fun s => frame_May.b2 k f s) (k := k) f.Buckets.length (ZfI f.Buckets) (b := false) (fun i hi => ZnO k f i hi (by omega)) (by simp only [frame_May.b2, lt1, endB, Bool.false_eq_true, if_false]) (by omega)
    have h3 := ZfT (body := fun s => frame_May.b3 k f s) (k := k) f.Items.length (Zhf f.Items) (b := false) (fun i hi => ZoB k (by omega) f i hi (by omega)) (by simp only [frame_May.b3, lt1, endB, Bool.false_eq_true, if_false]) (by omega)
    simp only [k7, beq_self_eq_true, if_true, h2, Option.bind_some]
    by_cases hx : ∀ i, i < f.Buckets.length → ZfI f.Buckets i
    case neg =>
      rw [if_neg hx]
      exact congrArg some (decide_eq_false fun h => hx h.1).symm
    rw [if_pos hx]
    simp only [Option.bind_some, h3]
    by_cases hy : ∀ i, i < f.Items.length → Zhf f.Items i
    case neg =>
      rw [if_neg hy]
      exact congrArg some (decide_eq_false fun h => hy h.2.1).symm
    rw [if_pos hy]
    simp only [Zk1, ZgD k f hk s1, Zhu k hk f s5, Option.bind_some]
    by_cases c1 : f.Buckets = []
    case pos =>
      rw [decide_eq_true c1]
      exact congrArg some (decide_eq_false fun h => h.2.2.1 c1).symm
    rw [decide_eq_false c1]
    by_cases c2 : Zer f.Items
    case neg =>
      rw [decide_eq_false c2]
      exact congrArg some (decide_eq_false fun h => c2 h.2.2.2.1).symm
    rw [decide_eq_true c2]
    exact congrArg some (decide_eq_decide.2 ⟨fun h => ⟨hx, hy, c1, c2, h⟩, fun h => h.2.2.2.2⟩)
  have e7 : (f.Kind == 7) = false := by simp [k7]
  simp only [e7, k7, Bool.false_eq_true, if_false]
  rfl
def vecB (v : Vector UInt64 16) (i : Nat) : List UInt8 := (v.toList.take i).flatMap fun n => put n.toNat 8
theorem Zi8 (v : Vector UInt64 16) (i : Nat) (h : i < 16) : vecB v (i + 1) = vecB v i ++ put v[i].toNat 8 := by
  have : i < v.toList.length := by simpa using h
  rw [vecB, List.take_succ_eq_append_getElem this, List.flatMap_append]
  simp [vecB]
theorem Zde (v : Vector UInt64 16) : ∀ i, i ≤ 16 → (vecB v i).length = 8 * i := by
  intro i
  induction i with
  | zero => intro _; simp [vecB]
  | succ i ih =>
    intro h
    rw [Zi8 v i (by omega), List.length_append, ih (by omega), Zax]
    omega
theorem Zpu (n : UInt64) : room n 8 := ⟨by omega, by omega, by have := n.toNat_lt; simpa using this⟩
theorem put8 (k : Nat) (hk : 9 ≤ k) (n : UInt64) : wire_Put k n 8 = some (put n.toNat 8, 0) := by
  rw [Zej k hk n 8 (by omega) (by omega), if_pos (Zpu n)]
  rfl
theorem Zhb (k : Nat) (hk : 17 ≤ k) (v : Vector UInt64 16) : wire_Vector k v = some (vecB v 16) := by
  have hl : Zbc (fun s => wire_Vector.b1 k v s.1 s.2) k (([] : List UInt8), (0 : Int)) = some (vecB v 16) := by
    refine Zek (n := 16) (fun i => (vecB v i, ((i : Nat) : Int))) _ (by simp [vecB]) ?_ ?_ (by omega)
    · intro i hi
      have h3 : idxV v (i : Int) = some v[i] := by simp [idxV, hi]
      have h4 := Zde v i (by omega)
      simp only [wire_Vector.b1, lt1, Zbb (show (i : Int) < 16 by omega), if_true, h3, put8 k (by omega), Option.bind_some, ZdF (show ((vecB v i).length + (put v[i].toNat 8).length) * 1 ≤ 140737488355328 by rw [Zax]; omega), Zi8 v i hi, ZaP (show i < 9223372036854775807 by omega)]
    · simp only [wire_Vector.b1, lt1, ZbB (show ¬ ((16 : Nat) : Int) < 16 by omega), Bool.false_eq_true, if_false]
  simp only [wire_Vector, hl, Option.bind_some]
end Go.Proofs.YtklnihlchhhhlaaGreat
namespace Go.Proofs.YtklnihlchhhhlaaGreat.Crc
set_option linter.unusedVariables false
def T : BitVec 32 := 2197175160#32
def L (x : BitVec 32) : BitVec 32 := (x >>> 1) ^^^ (bif x.getLsbD 0 then T else 0#32)
theorem Zmp (x y : BitVec 32) : L (x ^^^ y) = L x ^^^ L y := by
  unfold L
  rw [BitVec.ushiftRight_xor_distrib, BitVec.getLsbD_xor]
  cases x.getLsbD 0 <;> cases y.getLsbD 0 <;> simp only [Bool.xor_false, Bool.xor_true, Bool.not_false, Bool.not_true, cond_true, cond_false, BitVec.xor_zero]
  · ac_rfl
  · ac_rfl
  · have h : ∀ a b t : BitVec 32, (a ^^^ t) ^^^ (b ^^^ t) = (a ^^^ b) ^^^ (t ^^^ t) := fun a b t => by ac_rfl
    rw [h, BitVec.xor_self, BitVec.xor_zero]
theorem ZmM (y : BitVec 32) (h : y.getLsbD 0 = false) : L y = y >>> 1 := by unfold L; rw [h]; simp
theorem Zo2 : T.getLsbD 31 = true := by decide
theorem Zon (x : BitVec 32) (h : L x = 0#32) : x = 0#32 := by
  have hb : x.getLsbD 0 = false := by
    cases hx : x.getLsbD 0 with
    | false => rfl
    | true =>
      have : (L x).getLsbD 31 = true := by
        unfold L
        rw [hx, BitVec.getLsbD_xor, BitVec.getLsbD_ushiftRight]
        simp [Zo2]
      rw [h] at this
      simp at this
  rw [ZmM x hb] at h
  apply BitVec.eq_of_getLsbD_eq
  intro i hi
  cases i with
  | zero => rw [hb]; simp
  | succ i =>
    have h2 : (x >>> 1).getLsbD i = false := by rw [h]; simp
    rw [BitVec.getLsbD_ushiftRight, Nat.add_comm] at h2
    rw [h2]; simp
theorem ZoI (x y : BitVec 32) (h : L x = L y) : x = y := by
  have h2 : L (x ^^^ y) = 0#32 := by rw [Zmp, h, BitVec.xor_self]
  have h3 := Zon _ h2
  calc x = x ^^^ (y ^^^ y) := by simp
    _ = (x ^^^ y) ^^^ y := by rw [BitVec.xor_assoc]
    _ = y := by rw [h3]; simp
def bt (b : Bool) : BitVec 32 := bif b then 1#32 else 0#32
def stp (x : BitVec 32) (b : Bool) : BitVec 32 := L (x ^^^ bt b)
def run (x : BitVec 32) (l : List Bool) : BitVec 32 := l.foldl stp x
theorem Zkl (x : BitVec 32) (b : Bool) (l : List Bool) : run x (b :: l) = run (stp x b) l := rfl
theorem ZiD (x : BitVec 32) (l m : List Bool) : run x (l ++ m) = run (run x l) m := List.foldl_append
def bits (n : Nat) (w : BitVec 32) : List Bool := (List.range n).map fun i => w.getLsbD i
theorem Zk7 (n : Nat) (w : BitVec 32) : bits (n + 1) w = bits n w ++ [w.getLsbD n] := by simp [bits, List.range_succ]
theorem ZjC (n : Nat) (w : BitVec 32) : (bits n w).length = n := by simp [bits]
def Ln : Nat → BitVec 32 → BitVec 32
  | 0, x => x
  | n + 1, x => L (Ln n x)
theorem ZmU : ∀ n x y, Ln n (x ^^^ y) = Ln n x ^^^ Ln n y
  | 0, _, _ => rfl
  | n + 1, x, y => by show L (Ln n _) = _; rw [ZmU n, Zmp]; rfl
theorem ZmZ : ∀ n x y, Ln n x = Ln n y → x = y
  | 0, _, _, h => h
  | n + 1, x, y, h => ZmZ n x y (ZoI _ _ h)
theorem key (s y : BitVec 32) : L (s ^^^ y) = L (s ^^^ bt (y.getLsbD 0)) ^^^ (y >>> 1) := by
  have hy : y = bt (y.getLsbD 0) ^^^ (y ^^^ bt (y.getLsbD 0)) := by
    rw [BitVec.xor_comm, BitVec.xor_assoc]; simp
  have he : (y ^^^ bt (y.getLsbD 0)).getLsbD 0 = false := by
    rw [BitVec.getLsbD_xor]
    cases y.getLsbD 0 <;> decide
  have hs : (y ^^^ bt (y.getLsbD 0)) >>> 1 = y >>> 1 := by
    rw [BitVec.ushiftRight_xor_distrib]
    have : bt (y.getLsbD 0) >>> 1 = 0#32 := by cases y.getLsbD 0 <;> decide
    rw [this]; simp
  conv => lhs; rw [hy]
  rw [← BitVec.xor_assoc, Zmp, ZmM _ he, hs]
theorem Zhw (x w : BitVec 32) : ∀ n, run x (bits n w) ^^^ (w >>> n) = Ln n (x ^^^ w)
  | 0 => by simp [bits, run, Ln]
  | n + 1 => by
    rw [Zk7, ZiD]
    show stp (run x (bits n w)) (w.getLsbD n) ^^^ (w >>> (n + 1)) = L (Ln n (x ^^^ w))
    rw [← Zhw x w n, key]
    have h1 : (w >>> n).getLsbD 0 = w.getLsbD n := by rw [BitVec.getLsbD_ushiftRight]; simp
    have h2 : (w >>> n) >>> 1 = w >>> (n + 1) := by rw [BitVec.shiftRight_add]
    rw [h1, h2]
    rfl
theorem ZnJ (x w : BitVec 32) (n : Nat) (h : w >>> n = 0#32) : run x (bits n w) = Ln n (x ^^^ w) := by
  rw [← Zhw x w n, h]; simp
theorem L4 (x : BitVec 32) : Ln 4 x = Ln 4 (x &&& 15#32) ^^^ (x >>> 4) := by
  have h1 := Zhw 0#32 x 4
  have h2 := Zhw 0#32 (x &&& 15#32) 4
  have hb : bits 4 (x &&& 15#32) = bits 4 x := by
    unfold bits
    apply List.map_congr_left
    intro i hi
    have hi4 : i < 4 := List.mem_range.1 hi
    rw [BitVec.getLsbD_and]
    have : ∀ i, i < 4 → (15#32).getLsbD i = true := by decide
    rw [this i hi4]; simp
  have hz : (x &&& 15#32) >>> 4 = 0#32 := by
    apply BitVec.eq_of_getLsbD_eq
    intro i hi
    rw [BitVec.getLsbD_ushiftRight, BitVec.getLsbD_and]
    have : ∀ i, i < 32 → (15#32).getLsbD (4 + i) = false := by decide
    rw [this i hi]; simp
  rw [hb, hz] at h2
  simp only [BitVec.zero_xor, BitVec.xor_zero] at h1 h2
  rw [← h1, h2]
end Go.Proofs.YtklnihlchhhhlaaGreat.Crc
namespace Go.Proofs.YtklnihlchhhhlaaGreat.Crc
open Fw
set_option linter.unusedVariables false
set_option linter.unusedSimpArgs false
theorem t32 (n : Nat) : (UInt32.ofNat n).toNat = n % 2 ^ 32 := by simp
def u32 (x : BitVec 32) : UInt32 := ⟨x⟩
theorem Zob (x : UInt32) (n : Nat) (h : n ≤ 32) : UN.shr x n = u32 (x.toBitVec >>> n) := by
  unfold UN.shr u32
  apply UInt32.toNat_inj.1
  show (UInt32.ofNat (x.toNat / 2 ^ min n 32)).toNat = (x.toBitVec >>> n).toNat
  rw [Nat.min_eq_left h, BitVec.toNat_ushiftRight, Nat.shiftRight_eq_div_pow]
  have hx : x.toNat / 2 ^ n < 2 ^ 32 := Nat.lt_of_le_of_lt (Nat.div_le_self _ _) x.toNat_lt
  rw [t32]
  exact Nat.mod_eq_of_lt hx
theorem bit0 (x : UInt32) : ((x &&& 1) == 1) = x.toBitVec.getLsbD 0 := by
  have h : (x &&& 1).toNat = x.toNat % 2 := by
    rw [UInt32.toNat_and]; exact Nat.and_one_is_mod _
  have h2 : x.toBitVec.getLsbD 0 = decide (x.toNat % 2 = 1) := by
    rw [BitVec.getLsbD]; exact Nat.testBit_zero _
  rw [h2]
  by_cases hx : x.toNat % 2 = 1
  · have : x &&& 1 = 1 := UInt32.toNat_inj.1 (by rw [h, hx]; rfl)
    rw [this]; simp [hx]
  · have : x &&& 1 ≠ 1 := fun e => hx (by rw [← h, e]; rfl)
    simp [this, hx]
theorem ZkA (k : Nat) (x : UInt32) (i : Nat) (h : i < 4) : crc_fours.b2 k x (i : Int) = some (.inl (u32 (L x.toBitVec), ((i + 1 : Nat) : Int))) := by
  unfold crc_fours.b2
  simp only [lt1, Zbb (show (i : Int) < 4 by omega), if_true, bit0]
  rw [ZaP (by omega)]
  have e1 : UN.toN (1 : UInt64) = 1 := rfl
  rw [e1, Zob x 1 (by decide)]
  unfold L
  cases hb : x.toBitVec.getLsbD 0
  · simp
  · simp; rfl
theorem ZmE (k : Nat) (x : UInt32) (hk : 4 < k) : Zbc (fun s => crc_fours.b2 k s.1 s.2) k (x, (0 : Int)) = some (u32 (Ln 4 x.toBitVec)) := by
  refine Zek (body := fun s : UInt32 × Int => crc_fours.b2 k s.1 s.2) (fun i => (u32 (Ln i x.toBitVec), (i : Int))) 4 (u32 (Ln 4 x.toBitVec)) rfl (fun i hi => by
    show crc_fours.b2 k (u32 (Ln i x.toBitVec)) (i : Int) = _
    rw [ZkA k _ i hi]; rfl) (by
    show crc_fours.b2 k _ ((4 : Nat) : Int) = _
    unfold crc_fours.b2
    simp [lt1]) hk
def FT : Vector UInt32 16 := Vector.ofFn fun i => u32 (Ln 4 (BitVec.ofNat 32 i.1))
theorem Zmq (k : Nat) (hk : 16 < k) : crc_fours k = some FT := by
  have := Zek (body := fun s : Vector UInt32 16 × UInt32 => crc_fours.b1 k s.1 s.2) (fun i => (Vector.ofFn fun j => if j.1 < i then u32 (Ln 4 (BitVec.ofNat 32 j.1)) else 0, UInt32.ofNat i)) 16 FT (s0 := (Vector.replicate 16 0, 0)) (by
    simp only [Nat.not_lt_zero, if_false]
    congr 1) (fun i hi => by
    show crc_fours.b1 k _ (UInt32.ofNat i) = _
    unfold crc_fours.b1
    have h1 : UInt32.ofNat i < 16 := by
      rw [UInt32.lt_iff_toNat_lt, t32]
      show i % 2 ^ 32 < 16
      omega
    have h2 : UN.toN (UInt32.ofNat i) = i := by
      show (UInt32.ofNat i).toNat = i
      rw [t32]; exact Nat.mod_eq_of_lt (by omega)
    simp only [lt1, Zbb h1, if_true, ZmE k _ (by omega), Option.bind_some, h2, ZkZ hi]
    congr 3
    · apply Vector.ext
      intro j hj
      simp only [putV, Vector.getElem_set, Vector.getElem_ofFn]
      by_cases e : i = j
      · subst e
        rw [if_pos rfl, if_pos (by omega)]
        rfl
      · rw [if_neg e]
        by_cases e2 : j < i
        · rw [if_pos e2, if_pos (by omega)]
        · rw [if_neg e2, if_neg (by omega)]
    · apply UInt32.toNat_inj.1
      simp) (by
    show crc_fours.b1 k _ (UInt32.ofNat 16) = _
    unfold crc_fours.b1
    have h1 : ¬ UInt32.ofNat 16 < 16 := by decide
    simp only [lt1, ZbB h1, Bool.false_eq_true, if_false]
    congr 2) hk
  unfold crc_fours
  rw [this]
  rfl
theorem ZmW (x : UInt32) : ∃ h : UN.toN (x &&& 15) < 16, getV FT ⟨UN.toN (x &&& 15), h⟩ ^^^ UN.shr x (UN.toN (4 : UInt64)) = u32 (Ln 4 x.toBitVec) := by
  have h : UN.toN (x &&& 15) < 16 := by
    show (x &&& 15).toNat < 16
    rw [UInt32.toNat_and]
    exact Nat.lt_of_le_of_lt Nat.and_le_right (by decide)
  refine ⟨h, ?_⟩
  have e1 : UN.toN (4 : UInt64) = 4 := rfl
  rw [e1, Zob x 4 (by decide), L4 x.toBitVec]
  have e2 : getV FT ⟨UN.toN (x &&& 15), h⟩ = u32 (Ln 4 (x.toBitVec &&& 15#32)) := by
    unfold getV FT
    rw [Vector.getElem_ofFn]
    congr 2
    apply BitVec.eq_of_toNat_eq
    rw [BitVec.toNat_ofNat]
    show (x &&& 15).toNat % 2 ^ 32 = _
    rw [Nat.mod_eq_of_lt (UInt32.toNat_lt _)]
    rfl
  rw [e2]; rfl
def byte (c : UInt8) : List Bool := bits 8 (c.toBitVec.setWidth 32)
def Zlo (l : List UInt8) : List Bool := l.flatMap byte
def upd (x : BitVec 32) (l : List UInt8) : BitVec 32 := run x (Zlo l)
theorem Zee (x : BitVec 32) (l m : List UInt8) : upd x (l ++ m) = upd (upd x l) m := by unfold upd Zlo; rw [List.flatMap_append, ZiD]
theorem ZjM (x : BitVec 32) (c : UInt8) : upd x [c] = Ln 8 (x ^^^ c.toBitVec.setWidth 32) := by
  unfold upd Zlo
  rw [List.flatMap_cons, List.flatMap_nil, List.append_nil]
  refine ZnJ x _ 8 ?_
  apply BitVec.eq_of_getLsbD_eq
  intro i hi
  rw [BitVec.getLsbD_ushiftRight, BitVec.getLsbD_setWidth]
  simp
theorem Ln8 (x : BitVec 32) : Ln 8 x = Ln 4 (Ln 4 x) := rfl
def ones : BitVec 32 := BitVec.allOnes 32
def csum (l : List UInt8) : UInt32 := u32 (~~~ upd ones l)
theorem ZoP (x : UInt32) : UN.not x = u32 (~~~ x.toBitVec) := by
  unfold UN.not u32
  apply UInt32.toNat_inj.1
  show (UInt32.ofNat (2 ^ 32 - 1 - x.toNat)).toNat = (~~~ x.toBitVec).toNat
  rw [t32, BitVec.toNat_not]
  exact Nat.mod_eq_of_lt (by omega)
theorem Zoa (c : UInt8) : (UN.to c : UInt32) = u32 (c.toBitVec.setWidth 32) := by
  unfold UN.to u32
  apply UInt32.toNat_inj.1
  show (UInt32.ofNat c.toNat).toNat = (c.toBitVec.setWidth 32).toNat
  rw [t32, BitVec.toNat_setWidth]
  rfl
theorem Ziv {T : Type} {l : List T} {i : Nat} (h : i < l.length) : l.take (i + 1) = l.take i ++ [l[i]] := by rw [List.take_add_one, List.getElem?_eq_getElem h]; rfl
theorem ZoD (k : Nat) (was : UInt32) (b : List UInt8) (hb : b.length < 9223372036854775807) (hk : 16 < k) (hk2 : b.length < k) : crc_sum k was b = some (u32 (~~~ upd (~~~ was.toBitVec) b)) := by
  have := Zek (body := fun s : UInt32 × Int => crc_sum.b1 k b FT s.1 s.2) (fun i => (u32 (upd (~~~ was.toBitVec) (b.take i)), (i : Int))) b.length (u32 (upd (~~~ was.toBitVec) b)) (s0 := (u32 (~~~ was.toBitVec), (0 : Int))) rfl (fun i hi => by
    show crc_sum.b1 k b FT (u32 _) (i : Int) = _
    unfold crc_sum.b1
    have h1 : (i : Int) < (b.length : Int) := by omega
    simp only [lt1, Zbb h1, if_true, Za9 hi, Option.bind_some, Zoa]
    generalize hy : (u32 (upd (~~~ was.toBitVec) (b.take i)) ^^^ u32 (b[i].toBitVec.setWidth 32)) = y
    obtain ⟨g1, g2⟩ := ZmW y
    obtain ⟨g3, g4⟩ := ZmW (u32 (Ln 4 y.toBitVec))
    simp only [ZkZ g1, Option.bind_some, g2, ZkZ g3, g4]
    rw [ZaP (by omega), Ziv hi, Zee, ZjM, Ln8]
    subst hy
    rfl) (by
    show crc_sum.b1 k b FT _ ((b.length : Nat) : Int) = _
    unfold crc_sum.b1
    simp [lt1, List.take_length]) hk2
  unfold crc_sum
  rw [Zmq k hk]
  simp only [Option.bind_some, lt1, ZoP]
  rw [this]
  rfl
theorem Sum_eq (k : Nat) (l : List (List UInt8)) (hl : l.length < 9223372036854775807) (hb : ∀ b ∈ l, b.length < 9223372036854775807) (hk : 16 < k) (hk2 : l.length < k) (hk3 : ∀ b ∈ l, b.length < k) : crc_Sum k l = some (csum l.flatten) := by
  have := Zek (body := fun s : UInt32 × Int => crc_Sum.b1 k l s.1 s.2) (fun i => (csum (l.take i).flatten, (i : Int))) l.length (csum l.flatten) (s0 := (0, (0 : Int))) (by
    show (csum [], (0 : Int)) = (0, 0)
    congr 1) (fun i hi => by
    show crc_Sum.b1 k l (csum _) (i : Int) = _
    unfold crc_Sum.b1
    have h1 : (i : Int) < (l.length : Int) := by omega
    simp only [lt1, Zbb h1, if_true, Za9 hi, Option.bind_some]
    rw [ZoD k _ _ (hb _ (List.getElem_mem hi)) hk (hk3 _ (List.getElem_mem hi))]
    simp only [Option.bind_some]
    rw [ZaP (by omega), Ziv hi, List.flatten_append, List.flatten_singleton]
    unfold csum
    rw [Zee]
    simp [u32]) (by
    show crc_Sum.b1 k l _ ((l.length : Nat) : Int) = _
    unfold crc_Sum.b1
    simp [lt1, List.take_length]) hk2
  unfold crc_Sum
  rw [this]
  rfl
end Go.Proofs.YtklnihlchhhhlaaGreat.Crc
namespace Go.Proofs.YtklnihlchhhhlaaGreat
open Go Fw
set_option linter.unusedVariables false
set_option linter.unusedSimpArgs false
theorem Zms {α : Type} (g : α → List UInt8) (l : List α) (i : Nat) (h : i < l.length) : ((l.take i).flatMap g).length + (g l[i]).length ≤ (l.flatMap g).length := by
  have e : l.flatMap g = (l.take i).flatMap g ++ ((l.drop i).flatMap g) := by rw [← List.flatMap_append, List.take_append_drop]
  rw [e, List.drop_eq_getElem_cons h, List.flatMap_cons, List.length_append, List.length_append]
  omega
theorem ZgU {α : Type} (l : List α) (g : α → List UInt8) {body : List UInt8 × Int → Option (List UInt8 × Int ⊕ List UInt8)} (x : List UInt8) (hs : ∀ i (h : i < l.length) (y : List UInt8), y.length + (g l[i]).length ≤ x.length + (l.flatMap g).length → body (y, (i : Int)) = some (.inl (y ++ g l[i], ((i + 1 : Nat) : Int)))) (he : ∀ y, body (y, (l.length : Int)) = some (.inr y)) {k : Nat} (hk : l.length < k) : Zbc body k (x, (0 : Int)) = some (x ++ l.flatMap g) := by
  refine Zek (f := fun i => (x ++ (l.take i).flatMap g, ((i : Nat) : Int))) l.length _ (by simp) ?_ ?_ hk
  · intro i hi
    have h1 := Zms g l i hi
    show body (x ++ (l.take i).flatMap g, (i : Int)) = _
    rw [hs i hi _ (by rw [List.length_append]; omega), List.take_succ_eq_append_getElem hi, List.flatMap_append]
    simp
  · show body (x ++ (l.take l.length).flatMap g, (l.length : Int)) = _
    rw [he, List.take_length]
def Zgm (l : List Zah) : List UInt8 := put l.length 2 ++ l.flatMap dotB
def Zc2 (d : ZaA) : List UInt8 := dotB d.Dot ++ Zbj d.Device
def Zcy (e : Zaq) : List UInt8 := dotB e.ID ++ (Zbj e.Topic ++ (Zbj e.Payload ++ (vecB e.Past 16 ++ (put e.To.length 2 ++ e.To.flatMap Zc2))))
def ZcQ (n : Int) : UInt8 := UN.ofI n
def ZjB (l : List (Vector UInt8 32)) : List UInt8 := l.flatMap fun h => h.toList
def Zg4 (l : List Int) : List UInt8 := ZcQ (l.length : Int) :: l.flatMap fun n => [ZcQ n]
def Ze6 (f : Zai) : List UInt8 :=
  if f.Kind = 1 then ZfU f.Items
  else if f.Kind = 2 then put (Zcy f.Event).length 4 ++ Zcy f.Event
  else if f.Kind = 3 then vecB f.Past 16
  else if f.Kind = 4 then vecB f.Seen 16 ++ (Zgm f.Extra ++ Zgm f.Live)
  else if f.Kind = 5 then f.Hash.toList
  else if f.Kind = 6 then ZjB f.Leaves
  else if f.Kind = 7 then Zg4 f.Buckets ++ (ZfU f.Items ++ (vecB f.Seen 16 ++ (Zgm f.Extra ++ ZgQ f.Reply)))
  else []
def Zcs (f : Zai) : List UInt8 := [ZcQ f.Kind, ZcQ f.From, ZcQ f.To] ++ Ze6 f
def Zb1 (f : Zai) : List UInt8 := Zcs f ++ put (Crc.csum (Zcs f)).toNat 4
theorem Zcx {α : Type} (g : α → List UInt8) (m : Nat) (l : List α) (h : ∀ x ∈ l, (g x).length ≤ m) : (l.flatMap g).length ≤ m * l.length := by
  induction l with
  | nil => simp
  | cons a l ih =>
    have h1 := h a (List.mem_cons_self ..)
    have h2 := ih fun x hx => h x (List.mem_cons_of_mem _ hx)
    rw [List.flatMap_cons, List.length_append, List.length_cons, Nat.mul_add]; omega
theorem Zgw (l : List Zah) : (Zgm l).length ≤ 2 + 9 * l.length := by
  have := Zcx dotB 9 l fun d _ => by rw [ZbY]; exact Nat.le_refl _
  unfold Zgm
  rw [List.length_append, Zax]; omega
theorem Zf3 (l : List Zal) (h : ∀ i ∈ l, ZbV i) : (ZfU l).length ≤ 2 + 78 * l.length := by
  have := ZgS l h
  unfold ZfU
  rw [List.length_append, Zax]; omega
theorem Zog (k : Nat) (l : List Zah) (hk : l.length + 10 < k) (hl : l.length ≤ 5000) (hm : ∀ d ∈ l, ZcB d) (x : List UInt8) (hx : x.length ≤ 1000000) : frame_writer_dots k l x = some (x ++ Zgm l) := by
  have hp := ZnB k (by omega) (show l.length ≤ 65535 by omega)
  have hb := Zcx dotB 9 l fun d _ => by rw [ZbY]; exact Nat.le_refl _
  have hlp := ZgU l dotB (body := fun s => frame_writer_dots.b1 k l s.1 s.2) (k := k) (x ++ put l.length 2) (fun i hi y hy => by
    have hd := wDot k (by omega) (hm _ (List.getElem_mem hi))
    rw [List.length_append, Zax] at hy
    simp only [frame_writer_dots.b1, lt1, Zbb (show (i : Int) < (l.length : Int) by omega), if_true, Za9 hi, Option.bind_some, hd, ZaK, ap1 (show y.length + (dotB l[i]).length ≤ 100000000 by omega), ZaP (show i < 9223372036854775807 by omega)]) (fun y => by simp only [frame_writer_dots.b1, lt1, endB, Bool.false_eq_true, if_false]) (by omega)
  simp only [frame_writer_dots, lt1, hp, Option.bind_some, ZaK, ap1 (show x.length + (put l.length 2).length ≤ 100000000 by rw [Zax]; omega), hlp, Zgm, List.append_assoc]
theorem ZmI (k : Nat) (l : List Zal) (hk : l.length + 10 < k) (hl : l.length ≤ 5000) (hm : ∀ d ∈ l, ZbV d) (x : List UInt8) (hx : x.length ≤ 1000000) : frame_writer_items'3 k l x = some (x ++ ZfU l) := by
  have hp := ZnB k (by omega) (show l.length ≤ 65535 by omega)
  have hb := ZgS l hm
  have hlp := ZgU l ZcL (body := fun s => frame_writer_items'3.b1 k l s.1 s.2) (k := k) (x ++ put l.length 2) (fun i hi y hy => by
    rw [List.length_append, Zax] at hy
    exact ZkS k (by omega) l i hi (hm _ (List.getElem_mem hi)) (by omega) y (by omega)) (fun y => by simp only [frame_writer_items'3.b1, lt1, endB, Bool.false_eq_true, if_false]) (by omega)
  simp only [frame_writer_items'3, lt1, hp, Option.bind_some, ZaK, ap1 (show x.length + (put l.length 2).length ≤ 100000000 by rw [Zax]; omega), hlp, ZfU, List.append_assoc]
theorem Zn3 (k : Nat) (f : Zai) (hk : 100000 ≤ k) (hl : f.Extra.length ≤ 5000) (hm : ∀ d ∈ f.Extra, ZcB d) (x : List UInt8) (hx : x.length ≤ 900000) : Zb7 k f x = some (x ++ (vecB f.Seen 16 ++ Zgm f.Extra)) := by
  have hv := Zde f.Seen 16 (by omega)
  simp only [Zb7, Zhb k (by omega), Option.bind_some, ZaK, ap1 (show x.length + (vecB f.Seen 16).length ≤ 100000000 by omega), Zog k f.Extra (by omega) hl hm (x ++ vecB f.Seen 16) (by rw [List.length_append]; omega), List.append_assoc]
theorem Zop (h : Vector UInt8 32) : subL (Vector.toList h) 0 32 = some h.toList := by
  rw [Zfk (by omega) (by omega) (by simp)]
  simp only [Option.some.injEq]
  exact List.take_of_length_le (by simp)
theorem ZnE (k : Nat) (f : Zai) (hk : 100000 ≤ k) (hl : f.Leaves.length ≤ 300) (x : List UInt8) (hx : x.length ≤ 900000) : frame_writer_leaves k f x = some (x ++ ZjB f.Leaves) := by
  have hb := Zcx (fun h : Vector UInt8 32 => h.toList) 32 f.Leaves fun d _ => by simp
  exact ZgU f.Leaves (fun h => h.toList) (body := fun s => frame_writer_leaves.b1 k f s.1 s.2) (k := k) x (fun i hi y hy => by
    have h32 : (f.Leaves[i].toList).length = 32 := by simp
    simp only [frame_writer_leaves.b1, lt1, Zbb (show (i : Int) < (f.Leaves.length : Int) by omega), if_true, Za9 hi, Option.bind_some, Zop, ap1 (show y.length + (f.Leaves[i].toList).length ≤ 100000000 by omega), ZaP (show i < 9223372036854775807 by omega)]) (fun y => by simp only [frame_writer_leaves.b1, lt1, endB, Bool.false_eq_true, if_false]) (by omega)
theorem Zmc (k : Nat) (f : Zai) (hk : 100000 ≤ k) (hl : f.Buckets.length ≤ 300) (x : List UInt8) (hx : x.length ≤ 900000) : Zbc (fun s => frame_writer_buckets.b1 k f s.1 s.2) k (x, (0 : Int)) = some (x ++ f.Buckets.flatMap fun n => [ZcQ n]) := by
  have hb := Zcx (fun n : Int => [ZcQ n]) 1 f.Buckets fun d _ => by simp
  exact ZgU f.Buckets (fun n => [ZcQ n]) (body := fun s => frame_writer_buckets.b1 k f s.1 s.2) (k := k) x (fun i hi y hy => by
    have hy : y.length + 1 ≤ x.length + (f.Buckets.flatMap fun n => [ZcQ n]).length := hy
    have e := ap1 (x := y) (y := [ZcQ f.Buckets[i]]) (by show y.length + 1 ≤ _; omega)
    have e' : apL 1 y [(UN.ofI f.Buckets[i] : UInt8)] = some (y ++ [ZcQ f.Buckets[i]]) := e
    simp only [frame_writer_buckets.b1, lt1, Zbb (show (i : Int) < (f.Buckets.length : Int) by omega), if_true, Za9 hi, Option.bind_some, e', ZaP (show i < 9223372036854775807 by omega)]) (fun y => by simp only [frame_writer_buckets.b1, lt1, endB, Bool.false_eq_true, if_false]) (by omega)
theorem ZgB {d : ZaA} (h : Zch d.Device) : (Zc2 d).length ≤ 43 := by
  have := h.2
  unfold Zc2 Zbj
  rw [List.length_append, List.length_append, ZbY, Zax]; omega
theorem Zja {l : List ZaA} (h : ∀ i, i < l.length → toP l i) : ∀ d ∈ l, ZcB d.Dot ∧ Zch d.Device := by
  intro d hd
  obtain ⟨i, hi, rfl⟩ := List.getElem_of_mem hd
  have := h i hi
  have e : tg l i = l[i] := by rw [tg, List.getElem?_eq_getElem hi]; rfl
  unfold toP at this
  rw [e] at this
  exact ⟨this.1, this.2.1⟩
theorem ZlV {l : List Zah} (h : ∀ i, i < l.length → ZcB (dg l i)) : ∀ d ∈ l, ZcB d := by
  intro d hd
  obtain ⟨i, hi, rfl⟩ := List.getElem_of_mem hd
  have := h i hi
  have e : dg l i = l[i] := by rw [dg, List.getElem?_eq_getElem hi]; rfl
  rwa [e] at this
theorem ZeU {e : Zaq} (h : may e) : (Zcy e).length ≤ 50000 := by
  obtain ⟨⟨_, _, _, h4, h5, h6⟩, h7⟩ := h
  have h4 := h4.2
  have hb := Zcx Zc2 43 e.To fun d hd => ZgB (Zja h7 d hd).2
  have hv := Zde e.Past 16 (by omega)
  unfold Zcy Zbj
  simp only [List.length_append, ZbY, Zax, hv]
  omega
theorem ZeG (k : Nat) (hk : 100000 ≤ k) (e : Zaq) (h : may e) : event_bytes k e = some (Zcy e) := by
  obtain ⟨⟨h1, _, _, h4, h5, h6⟩, h7⟩ := h
  have h4' := h4.2
  have hb := Zcx Zc2 43 e.To fun d hd => ZgB (Zja h7 d hd).2
  have hv := Zde e.Past 16 (by omega)
  have l1 : (Zbj e.Topic).length = 2 + e.Topic.length := by simp [Zbj, Zax]
  have l2 : (Zbj e.Payload).length = 2 + e.Payload.length := by simp [Zbj, Zax]
  have l0 := ZbY e.ID
  have a0 : apL 1 ([] : List UInt8) (dotB e.ID) = some (dotB e.ID) := by rw [ap1 (by simp; omega)]; rfl
  obtain ⟨y1, hy1⟩ : ∃ y, dotB e.ID ++ Zbj e.Topic = y := ⟨_, rfl⟩
  have a1 : apL 1 (dotB e.ID) (Zbj e.Topic) = some y1 := by rw [ap1 (by omega), hy1]
  have n1 : y1.length ≤ 60 := by rw [← hy1, List.length_append]; omega
  obtain ⟨y2, hy2⟩ : ∃ y, y1 ++ Zbj e.Payload = y := ⟨_, rfl⟩
  have a2 : apL 1 y1 (Zbj e.Payload) = some y2 := by rw [ap1 (by omega), hy2]
  have n2 : y2.length ≤ 600 := by rw [← hy2, List.length_append]; omega
  obtain ⟨y3, hy3⟩ : ∃ y, y2 ++ vecB e.Past 16 = y := ⟨_, rfl⟩
  have a3 : apL 1 y2 (vecB e.Past 16) = some y3 := by rw [ap1 (by omega), hy3]
  have n3 : y3.length ≤ 800 := by rw [← hy3, List.length_append]; omega
  obtain ⟨y4, hy4⟩ : ∃ y, y3 ++ put e.To.length 2 = y := ⟨_, rfl⟩
  have a4 : apL 1 y3 (put e.To.length 2) = some y4 := by rw [ap1 (by rw [Zax]; omega), hy4]
  have n4 : y4.length ≤ 900 := by rw [← hy4, List.length_append, Zax]; omega
  have hlp := ZgU e.To Zc2 (body := fun s => event_bytes.b1 k e s.1 s.2) (k := k) y4 (fun i hi y hy => by
    have hm := Zja h7 _ (List.getElem_mem hi)
    have hn := hm.2.2
    have lb : (Zbj e.To[i].Device).length = 2 + e.To[i].Device.length := by simp [Zbj, Zax]
    have ld := ZbY e.To[i].Dot
    have hy' : y.length + (9 + (2 + e.To[i].Device.length)) ≤ y4.length + (e.To.flatMap Zc2).length := by
      have : (Zc2 e.To[i]).length = 9 + (2 + e.To[i].Device.length) := by unfold Zc2; rw [List.length_append, lb, ld]
      rw [← this]; exact hy
    simp only [event_bytes.b1, lt1, Zbb (show (i : Int) < (e.To.length : Int) by omega), if_true, Za9 hi, Option.bind_some, wDot k (by omega) hm.1, ZlI k (by omega) (show e.To[i].Device.length ≤ 65535 by omega), ZbC, ap1 (show y.length + (dotB e.To[i].Dot).length ≤ 100000000 by omega), ap1 (show (y ++ dotB e.To[i].Dot).length + (Zbj e.To[i].Device).length ≤ 100000000 by rw [List.length_append]; omega), ZaP (show i < 9223372036854775807 by omega), Zc2, List.append_assoc]) (fun y => by simp only [event_bytes.b1, lt1, endB, Bool.false_eq_true, if_false]) (by omega)
  simp only [event_bytes, lt1, wDot k (by omega) h1, Zea, ZbC, a0, ZlI k (by omega) (show e.Topic.length ≤ 65535 by omega), a1, ZlI k (by omega) (show e.Payload.length ≤ 65535 by omega), a2, Zhb k (by omega), a3, ZnB k (by omega) (show e.To.length ≤ 65535 by omega), a4, hlp, Option.bind_some]
  rw [← hy4, ← hy3, ← hy2, ← hy1]
  simp only [Zcy, List.append_assoc]
theorem Zpg (k : Nat) (hk : 9 ≤ k) {n : Nat} (h : n ≤ 1000000) : wire_Put k (UN.ofI (n : Int) : UInt64) 4 = some (put n 4, 0) := by
  have e : (UN.ofI (n : Int) : UInt64).toNat = n := Zjw (by omega)
  have hr : room (UN.ofI (n : Int) : UInt64) 4 := ⟨by omega, by omega, by rw [e]; exact Nat.lt_of_le_of_lt h (by decide)⟩
  rw [Zej k hk _ 4 (by omega) (by omega), if_pos hr, e]; rfl
theorem ZnR (k : Nat) (hk : 100000 ≤ k) (f : Zai) (h : may f.Event) (x : List UInt8) (hx : x.length ≤ 900000) : Zcu k f x = some (x ++ (put (Zcy f.Event).length 4 ++ Zcy f.Event)) := by
  have hl := ZeU h
  have hT := h.1.2.2.2.2.2
  simp only [Zcu, Zfq, Zfe k hk f.Event (by omega), decide_eq_true h, lt1, Option.bind_some, Bool.not_true, Bool.false_eq_true, if_false, ZeG k hk f.Event h, Zpg k (by omega) (show (Zcy f.Event).length ≤ 1000000 by omega), ZaK, ap1 (show x.length + (put (Zcy f.Event).length 4).length ≤ 100000000 by rw [Zax]; omega), ap1 (show (x ++ put (Zcy f.Event).length 4).length + (Zcy f.Event).length ≤ 100000000 by rw [List.length_append, Zax]; omega), List.append_assoc]
theorem Zpl (k : Nat) (g : Bool) (x : List UInt8) (hx : x.length ≤ 10000000) : ZbI k g x = some (x ++ ZgQ g) := by
  cases g
  · simp only [ZbI, Bool.false_eq_true, if_false, Option.bind_some, ap1 (show x.length + ([0] : List UInt8).length ≤ 100000000 by simp; omega), ZgQ]
  · simp only [ZbI, if_true, Option.bind_some, ap1 (show x.length + ([1] : List UInt8).length ≤ 100000000 by simp; omega), ZgQ]
theorem Zf1 {f : Zai} (h : ZhW f) (hs : Zem f) : (Ze6 f).length ≤ 500000 := by
  obtain ⟨s1, s2, s3, s4, s5, s6, s7, s8⟩ := hs
  have v1 := Zde f.Seen 16 (by omega)
  have v2 := Zde f.Past 16 (by omega)
  have d1 := Zgw f.Extra
  have d2 := Zgw f.Live
  unfold ZhW at h
  unfold Ze6
  by_cases k1 : f.Kind = 1
  · rw [if_pos k1] at h ⊢
    have := Zf3 f.Items h.2.2
    have := h.2.1
    omega
  rw [if_neg k1] at h ⊢
  by_cases k2 : f.Kind = 2
  · rw [if_pos k2] at h ⊢
    have := ZeU h
    rw [List.length_append, Zax]; omega
  rw [if_neg k2] at h ⊢
  by_cases k3 : f.Kind = 3
  · rw [if_pos k3]; omega
  rw [if_neg k3] at h ⊢
  by_cases k4 : f.Kind = 4
  · rw [if_pos k4] at h ⊢
    have h1 := h.2.1
    have h2 := h.2.2.2.1
    rw [List.length_append, List.length_append]; omega
  rw [if_neg k4] at h ⊢
  by_cases k5 : f.Kind = 5
  · rw [if_pos k5]; simp
  rw [if_neg k5] at h ⊢
  by_cases k6 : f.Kind = 6
  · rw [if_pos k6]
    have := Zcx (fun h : Vector UInt8 32 => h.toList) 32 f.Leaves fun d _ => by simp
    unfold ZjB; omega
  rw [if_neg k6] at h ⊢
  by_cases k7 : f.Kind = 7
  · rw [if_pos k7] at h ⊢
    have h1 := Zf3 f.Items h.2.2.2.1.2
    have h2 := Zcx (fun n : Int => [ZcQ n]) 1 f.Buckets fun d _ => by simp
    have h3 : (ZgQ f.Reply).length = 1 := rfl
    have h5 := h.2.2.2.2.2.1
    have h6 := h.2.2.2.1.1
    have h4 : (Zg4 f.Buckets).length = (f.Buckets.flatMap fun n => [ZcQ n]).length + 1 := rfl
    rw [List.length_append, List.length_append, List.length_append, List.length_append]; omega
  · rw [if_neg k7]; simp
theorem Zcl (k : Nat) : Zet k = some ([((1 : Int), (Zaf.mk (some 92 : Option Nat) (some 93 : Option Nat))), ((2 : Int), (Zaf.mk (some 94 : Option Nat) (some 95 : Option Nat))), ((3 : Int), (Zaf.mk (some 96 : Option Nat) (some 97 : Option Nat))), ((4 : Int), (Zaf.mk (some 98 : Option Nat) (some 99 : Option Nat))), ((5 : Int), (Zaf.mk (some 100 : Option Nat) (some 101 : Option Nat))), ((6 : Int), (Zaf.mk (some 102 : Option Nat) (some 103 : Option Nat))), ((7 : Int), (Zaf.mk (some 104 : Option Nat) (some 105 : Option Nat)))] : (List (Int × Zaf))) := rfl
theorem ZmF {f : Zai} (h : ∀ i, i < f.Live.length → ZhT f.Live i) : ∀ d ∈ f.Live, ZcB d := ZlV fun i hi => (h i hi).1
theorem Zhx {v : Vc} {l : List Zah} (h : ZiZ v l) : ∀ d ∈ l, ZcB d := ZlV fun i hi => (h.2.2 i hi).1.1
theorem to64 (s : UInt32) : (UN.to s : UInt64).toNat = s.toNat := UInt64.toNat_ofNat_of_lt' (Nat.lt_of_lt_of_le s.toNat_lt (by decide))
theorem sumW (k : Nat) (hk : 17 < k) (b : List UInt8) (hb : b.length < k) (hl : b.length ≤ 1000000) : crc_Sum k [b] = some (Crc.csum b) := by
  have h := Crc.Sum_eq k [b] (by simp) (fun x hx => by rw [List.mem_singleton.1 hx]; omega) (by omega) (by simp; omega) (fun x hx => by rw [List.mem_singleton.1 hx]; exact hb)
  rw [h]; simp
theorem Zd9 (k : Nat) (hk : 600000 ≤ k) (f : Zai) (h : mayF f) (hs : Zem f) : Zcp k f = some (Zb1 f) := by
  have hK := Zf1 h.2.2 hs
  have hp := h.2.2
  obtain ⟨s1, s2, s3, s4, s5, s6, s7, s8⟩ := hs
  obtain ⟨hh, hh'⟩ : ∃ hh, [ZcQ f.Kind, ZcQ f.From, ZcQ f.To] = hh := ⟨_, rfl⟩
  have hh3 : hh.length = 3 := by rw [← hh']; rfl
  have hbody : Zcs f = hh ++ Ze6 f := by rw [← hh']; rfl
  have hbl : (Zcs f).length ≤ 500003 := by rw [hbody, List.length_append]; omega
  have tail : (Option.bind (some (Zcs f)) fun b_14 => Option.bind (crc_Sum k ([b_14] : (List (List UInt8)))) fun v_17 => Option.bind (wire_Put k (UN.to v_17 : UInt64) (4 : Int)) fun p => Option.bind (ZbL k p.1 p.2 b_14) fun x_23 => some x_23) = some (Zb1 f) := by
    have hr : room (UN.to (Crc.csum (Zcs f)) : UInt64) 4 := ⟨by omega, by omega, by rw [to64]; exact Nat.lt_of_lt_of_le (Crc.csum (Zcs f)).toNat_lt (by decide)⟩
    have hp : wire_Put k (UN.to (Crc.csum (Zcs f)) : UInt64) 4 = some (put (Crc.csum (Zcs f)).toNat 4, 0) := by
      rw [Zej k (by omega) _ 4 (by omega) (by omega), if_pos hr, to64]; rfl
    simp only [Option.bind_some, sumW k (by omega) (Zcs f) (by omega) (by omega), hp, ZbL, ap1 (show (Zcs f).length + (put (Crc.csum (Zcs f)).toNat 4).length ≤ 100000000 by rw [Zax]; omega), Zb1]
  rw [← tail]
  have hx : ([(UN.ofI f.Kind : UInt8), (UN.ofI f.From : UInt8), (UN.ofI f.To : UInt8)] : List UInt8) = hh := hh'
  unfold Zcp
  simp only [lt1, Zcl, Option.bind_some, hx]
  have key : ∀ (w : Option (List UInt8)), w = some (Zcs f) → (Option.bind (Option.bind w fun x_11 => some x_11) fun b_14 => Option.bind (crc_Sum k ([b_14] : (List (List UInt8)))) fun v_17 => Option.bind (wire_Put k (UN.to v_17 : UInt64) (4 : Int)) fun p => Option.bind (ZbL k p.1 p.2 b_14) fun x_23 => some x_23) = Option.bind (crc_Sum k ([Zcs f] : (List (List UInt8)))) fun v_17 => Option.bind (wire_Put k (UN.to v_17 : UInt64) (4 : Int)) fun p => Option.bind (ZbL k p.1 p.2 (Zcs f)) fun x_23 => some x_23 := fun w hw => by rw [hw]; rfl
  refine key _ ?_
  rw [hbody]
  clear tail key hbody hbl hx hh' hK
  unfold ZhW at hp
  unfold Ze6
  by_cases k1 : f.Kind = 1
  · rw [if_pos k1] at hp ⊢
    rw [show Option.getD (Zen (some ([((1 : Int), (Zaf.mk (some 92 : Option Nat) (some 93 : Option Nat))), ((2 : Int), (Zaf.mk (some 94 : Option Nat) (some 95 : Option Nat))), ((3 : Int), (Zaf.mk (some 96 : Option Nat) (some 97 : Option Nat))), ((4 : Int), (Zaf.mk (some 98 : Option Nat) (some 99 : Option Nat))), ((5 : Int), (Zaf.mk (some 100 : Option Nat) (some 101 : Option Nat))), ((6 : Int), (Zaf.mk (some 102 : Option Nat) (some 103 : Option Nat))), ((7 : Int), (Zaf.mk (some 104 : Option Nat) (some 105 : Option Nat)))] : (List (Int × Zaf)))) f.Kind) (Zaf.mk (none : Option Nat) (none : Option Nat)) = Zaf.mk (some 92 : Option Nat) (some 93 : Option Nat) by rw [k1]; rfl]
    have := hp.2.1
    simp only [Option.some.injEq, Nat.reduceEqDiff, if_true, if_false, Zcz, ZmI k f.Items (by omega) (by omega) hp.2.2 hh (by omega), Option.bind_some]
  rw [if_neg k1] at hp ⊢
  by_cases k2 : f.Kind = 2
  · rw [if_pos k2] at hp ⊢
    rw [show Option.getD (Zen (some ([((1 : Int), (Zaf.mk (some 92 : Option Nat) (some 93 : Option Nat))), ((2 : Int), (Zaf.mk (some 94 : Option Nat) (some 95 : Option Nat))), ((3 : Int), (Zaf.mk (some 96 : Option Nat) (some 97 : Option Nat))), ((4 : Int), (Zaf.mk (some 98 : Option Nat) (some 99 : Option Nat))), ((5 : Int), (Zaf.mk (some 100 : Option Nat) (some 101 : Option Nat))), ((6 : Int), (Zaf.mk (some 102 : Option Nat) (some 103 : Option Nat))), ((7 : Int), (Zaf.mk (some 104 : Option Nat) (some 105 : Option Nat)))] : (List (Int × Zaf)))) f.Kind) (Zaf.mk (none : Option Nat) (none : Option Nat)) = Zaf.mk (some 94 : Option Nat) (some 95 : Option Nat) by rw [k2]; rfl]
    simp only [Option.some.injEq, Nat.reduceEqDiff, if_true, if_false, ZnR k (by omega) f hp hh (by omega)]
  rw [if_neg k2] at hp ⊢
  by_cases k3 : f.Kind = 3
  · rw [if_pos k3]
    rw [show Option.getD (Zen (some ([((1 : Int), (Zaf.mk (some 92 : Option Nat) (some 93 : Option Nat))), ((2 : Int), (Zaf.mk (some 94 : Option Nat) (some 95 : Option Nat))), ((3 : Int), (Zaf.mk (some 96 : Option Nat) (some 97 : Option Nat))), ((4 : Int), (Zaf.mk (some 98 : Option Nat) (some 99 : Option Nat))), ((5 : Int), (Zaf.mk (some 100 : Option Nat) (some 101 : Option Nat))), ((6 : Int), (Zaf.mk (some 102 : Option Nat) (some 103 : Option Nat))), ((7 : Int), (Zaf.mk (some 104 : Option Nat) (some 105 : Option Nat)))] : (List (Int × Zaf)))) f.Kind) (Zaf.mk (none : Option Nat) (none : Option Nat)) = Zaf.mk (some 96 : Option Nat) (some 97 : Option Nat) by rw [k3]; rfl]
    have hv := Zde f.Past 16 (by omega)
    simp only [Option.some.injEq, Nat.reduceEqDiff, if_true, if_false, Zc8, Zhb k (by omega), ZaK, ap1 (show hh.length + (vecB f.Past 16).length ≤ 100000000 by omega), Option.bind_some]
  rw [if_neg k3] at hp ⊢
  by_cases k4 : f.Kind = 4
  · rw [if_pos k4] at hp ⊢
    rw [show Option.getD (Zen (some ([((1 : Int), (Zaf.mk (some 92 : Option Nat) (some 93 : Option Nat))), ((2 : Int), (Zaf.mk (some 94 : Option Nat) (some 95 : Option Nat))), ((3 : Int), (Zaf.mk (some 96 : Option Nat) (some 97 : Option Nat))), ((4 : Int), (Zaf.mk (some 98 : Option Nat) (some 99 : Option Nat))), ((5 : Int), (Zaf.mk (some 100 : Option Nat) (some 101 : Option Nat))), ((6 : Int), (Zaf.mk (some 102 : Option Nat) (some 103 : Option Nat))), ((7 : Int), (Zaf.mk (some 104 : Option Nat) (some 105 : Option Nat)))] : (List (Int × Zaf)))) f.Kind) (Zaf.mk (none : Option Nat) (none : Option Nat)) = Zaf.mk (some 98 : Option Nat) (some 99 : Option Nat) by rw [k4]; rfl]
    have hv := Zde f.Seen 16 (by omega)
    have hd := Zgw f.Extra
    have hx4 := hp.2.2.2.1
    simp only [Option.some.injEq, Nat.reduceEqDiff, if_true, if_false, ZcZ, Zn3 k f (by omega) (by have := hp.2.2.2.1; omega) (Zhx hp.2.2) hh (by omega), Option.bind_some, Zog k f.Live (by have := hp.2.1; omega) (by have := hp.2.1; omega) (ZmF hp.1) (hh ++ (vecB f.Seen 16 ++ Zgm f.Extra)) (by rw [List.length_append, List.length_append]; omega), List.append_assoc]
  rw [if_neg k4] at hp ⊢
  by_cases k5 : f.Kind = 5
  · rw [if_pos k5]
    rw [show Option.getD (Zen (some ([((1 : Int), (Zaf.mk (some 92 : Option Nat) (some 93 : Option Nat))), ((2 : Int), (Zaf.mk (some 94 : Option Nat) (some 95 : Option Nat))), ((3 : Int), (Zaf.mk (some 96 : Option Nat) (some 97 : Option Nat))), ((4 : Int), (Zaf.mk (some 98 : Option Nat) (some 99 : Option Nat))), ((5 : Int), (Zaf.mk (some 100 : Option Nat) (some 101 : Option Nat))), ((6 : Int), (Zaf.mk (some 102 : Option Nat) (some 103 : Option Nat))), ((7 : Int), (Zaf.mk (some 104 : Option Nat) (some 105 : Option Nat)))] : (List (Int × Zaf)))) f.Kind) (Zaf.mk (none : Option Nat) (none : Option Nat)) = Zaf.mk (some 100 : Option Nat) (some 101 : Option Nat) by rw [k5]; rfl]
    simp only [Option.some.injEq, Nat.reduceEqDiff, if_true, if_false, Zc9, Zop, Option.bind_some, ap1 (show hh.length + (f.Hash.toList).length ≤ 100000000 by simp; omega)]
  rw [if_neg k5] at hp ⊢
  by_cases k6 : f.Kind = 6
  · rw [if_pos k6]
    rw [show Option.getD (Zen (some ([((1 : Int), (Zaf.mk (some 92 : Option Nat) (some 93 : Option Nat))), ((2 : Int), (Zaf.mk (some 94 : Option Nat) (some 95 : Option Nat))), ((3 : Int), (Zaf.mk (some 96 : Option Nat) (some 97 : Option Nat))), ((4 : Int), (Zaf.mk (some 98 : Option Nat) (some 99 : Option Nat))), ((5 : Int), (Zaf.mk (some 100 : Option Nat) (some 101 : Option Nat))), ((6 : Int), (Zaf.mk (some 102 : Option Nat) (some 103 : Option Nat))), ((7 : Int), (Zaf.mk (some 104 : Option Nat) (some 105 : Option Nat)))] : (List (Int × Zaf)))) f.Kind) (Zaf.mk (none : Option Nat) (none : Option Nat)) = Zaf.mk (some 102 : Option Nat) (some 103 : Option Nat) by rw [k6]; rfl]
    simp only [Option.some.injEq, Nat.reduceEqDiff, if_true, if_false, ZnE k f (by omega) s7 hh (by omega)]
  rw [if_neg k6] at hp ⊢
  by_cases k7 : f.Kind = 7
  · rw [if_pos k7] at hp ⊢
    rw [show Option.getD (Zen (some ([((1 : Int), (Zaf.mk (some 92 : Option Nat) (some 93 : Option Nat))), ((2 : Int), (Zaf.mk (some 94 : Option Nat) (some 95 : Option Nat))), ((3 : Int), (Zaf.mk (some 96 : Option Nat) (some 97 : Option Nat))), ((4 : Int), (Zaf.mk (some 98 : Option Nat) (some 99 : Option Nat))), ((5 : Int), (Zaf.mk (some 100 : Option Nat) (some 101 : Option Nat))), ((6 : Int), (Zaf.mk (some 102 : Option Nat) (some 103 : Option Nat))), ((7 : Int), (Zaf.mk (some 104 : Option Nat) (some 105 : Option Nat)))] : (List (Int × Zaf)))) f.Kind) (Zaf.mk (none : Option Nat) (none : Option Nat)) = Zaf.mk (some 104 : Option Nat) (some 105 : Option Nat) by rw [k7]; rfl]
    have hv := Zde f.Seen 16 (by omega)
    have hd := Zgw f.Extra
    have hx4 := hp.2.2.2.2.2.1
    have hi := Zf3 f.Items hp.2.2.2.1.2
    have hi4 := hp.2.2.2.1.1
    have hb := Zcx (fun n : Int => [ZcQ n]) 1 f.Buckets fun d _ => by simp
    have e1 : apL 1 hh [(UN.ofI (f.Buckets.length : Int) : UInt8)] = some (hh ++ [ZcQ (f.Buckets.length : Int)]) := ap1 (by show hh.length + 1 ≤ _; omega)
    obtain ⟨y1, hy1⟩ : ∃ y, hh ++ [ZcQ (f.Buckets.length : Int)] = y := ⟨_, rfl⟩
    have n1 : y1.length = 4 := by rw [← hy1, List.length_append, hh3]; rfl
    obtain ⟨y2, hy2⟩ : ∃ y, y1 ++ (f.Buckets.flatMap fun n => [ZcQ n]) = y := ⟨_, rfl⟩
    have n2 : y2.length ≤ 400 := by rw [← hy2, List.length_append]; omega
    obtain ⟨y3, hy3⟩ : ∃ y, y2 ++ ZfU f.Items = y := ⟨_, rfl⟩
    have n3 : y3.length ≤ 400000 := by rw [← hy3, List.length_append]; omega
    obtain ⟨y4, hy4⟩ : ∃ y, y3 ++ (vecB f.Seen 16 ++ Zgm f.Extra) = y := ⟨_, rfl⟩
    have n4 : y4.length ≤ 500000 := by rw [← hy4, List.length_append, List.length_append]; omega
    rw [hy1] at e1
    simp only [Option.some.injEq, Nat.reduceEqDiff, if_true, if_false, frame_writer_buckets, lt1, e1, Option.bind_some, Zmc k f (by omega) s8 y1 (by omega), hy2, ZmI k f.Items (by omega) (by omega) hp.2.2.2.1.2 y2 (by omega), hy3, Zn3 k f (by omega) (by have := hp.2.2.2.2.2.1; omega) (Zhx hp.2.2.2.2) y3 (by omega), hy4, Zpl k f.Reply y4 (by omega)]
    rw [← hy4, ← hy3, ← hy2, ← hy1]
    simp [Zg4]
  rw [if_neg k7] at hp
  exact hp.elim
end Go.Proofs.YtklnihlchhhhlaaGreat
namespace Go.Proofs.YtklnihlchhhhlaaGreat.Crc
open Fw
set_option linter.unusedVariables false
set_option linter.unusedSimpArgs false
theorem ZoF (x : BitVec 32) (i : Nat) : (L x).getLsbD i = (x.getLsbD (i + 1) != (x.getLsbD 0 && T.getLsbD i)) := by
  unfold L
  rw [BitVec.getLsbD_xor, BitVec.getLsbD_ushiftRight, Nat.add_comm 1 i]
  cases x.getLsbD 0 <;> simp
def parN : Nat → BitVec 32 → Bool
  | 0, _ => false
  | n + 1, x => (parN n x != x.getLsbD n)
theorem Zj3 (x y : BitVec 32) : ∀ n, parN n (x ^^^ y) = (parN n x != parN n y)
  | 0 => rfl
  | n + 1 => by
    show (parN n (x ^^^ y) != (x ^^^ y).getLsbD n) = ((parN n x != x.getLsbD n) != (parN n y != y.getLsbD n))
    rw [Zj3 x y n, BitVec.getLsbD_xor]
    cases parN n x <;> cases parN n y <;> cases x.getLsbD n <;> cases y.getLsbD n <;> rfl
theorem ZmN (x : BitVec 32) : ∀ n, parN n (L x) = ((parN (n + 1) x != x.getLsbD 0) != (x.getLsbD 0 && parN n T))
  | 0 => by
    show false = (((false != x.getLsbD 0) != x.getLsbD 0) != (x.getLsbD 0 && false))
    cases x.getLsbD 0 <;> rfl
  | n + 1 => by
    show (parN n (L x) != (L x).getLsbD n) = (((parN (n + 1) x != x.getLsbD (n + 1)) != x.getLsbD 0) != (x.getLsbD 0 && (parN n T != T.getLsbD n)))
    rw [ZmN x n, ZoF]
    cases parN (n + 1) x <;> cases x.getLsbD (n + 1) <;> cases x.getLsbD 0 <;> cases parN n T <;> cases T.getLsbD n <;> rfl
def par (x : BitVec 32) : Bool := parN 32 x
theorem Zlb (x y : BitVec 32) : par (x ^^^ y) = (par x != par y) := Zj3 x y 32
theorem Zpt (x : BitVec 32) : par (L x) = par x := by
  unfold par
  rw [ZmN, show parN 32 T = true by decide]
  show (((parN 32 x != x.getLsbD 32) != x.getLsbD 0) != (x.getLsbD 0 && true)) = _
  have : x.getLsbD 32 = false := BitVec.getLsbD_of_ge x 32 (Nat.le_refl _)
  rw [this]
  cases parN 32 x <;> cases x.getLsbD 0 <;> rfl
theorem ZmQ (x : BitVec 32) : ∀ n, par (Ln n x) = par x
  | 0 => rfl
  | n + 1 => by show par (L (Ln n x)) = _; rw [Zpt, ZmQ x n]
theorem Ziz (x : BitVec 32) (m : Nat) : ∀ n, Ln (n + m) x = Ln n (Ln m x)
  | 0 => by rw [Nat.zero_add]; rfl
  | n + 1 => by rw [show n + 1 + m = (n + m) + 1 by omega]; show L (Ln (n + m) x) = L (Ln n (Ln m x)); rw [Ziz x m n]
theorem Zm2 (a b : BitVec 32) (c : Bool) : stp (a ^^^ b) c = stp a c ^^^ L b := by
  unfold stp
  rw [← Zmp]
  congr 1
  ac_rfl
theorem Zli : ∀ (l : List Bool) (a b : BitVec 32), run (a ^^^ b) l = run a l ^^^ Ln l.length b
  | [], a, b => rfl
  | c :: l, a, b => by
    rw [Zkl, Zkl, Zm2, Zli l, List.length_cons]
    congr 1
    rw [Ziz b 1 l.length]; rfl
theorem Zlv (l : List UInt8) : (Zlo l).length = 8 * l.length := by
  induction l with
  | nil => rfl
  | cons c l ih =>
    have hl : (byte c).length = 8 := ZjC 8 _
    show (byte c ++ Zlo l).length = _
    rw [List.length_append, ih, hl, List.length_cons]; omega
theorem ZnD (a b : BitVec 32) (l : List UInt8) : upd (a ^^^ b) l = upd a l ^^^ Ln (8 * l.length) b := by
  unfold upd
  rw [Zli, Zlv]
def bitU (j : Nat) : UInt8 := UInt8.ofNat (2 ^ j)
def flip (x : List UInt8) (p : Nat) : List UInt8 := x.set (p / 8) (x.getD (p / 8) 0 ^^^ bitU (p % 8))
theorem flip_len (x : List UInt8) (p : Nat) : (flip x p).length = x.length := by simp [flip]
theorem ZnL : ∀ j, j < 8 → Ln 8 ((bitU j).toBitVec.setWidth 32) = Ln (8 - j) 1#32 := by decide
theorem ZmA (m : List UInt8) (i j : Nat) (hi : i < m.length) (hj : j < 8) (x : BitVec 32) : upd x (m.set i (m[i] ^^^ bitU j)) = upd x m ^^^ Ln (8 * m.length - (8 * i + j)) 1#32 := by
  have e1 : m.set i (m[i] ^^^ bitU j) = m.take i ++ ([m[i] ^^^ bitU j] ++ m.drop (i + 1)) := by rw [List.set_eq_take_append_cons_drop, if_pos hi]; rfl
  have e2 : m = m.take i ++ ([m[i]] ++ m.drop (i + 1)) := by
    have := List.drop_eq_getElem_cons hi
    rw [show [m[i]] ++ m.drop (i + 1) = m[i] :: m.drop (i + 1) from rfl, ← this, List.take_append_drop]
  rw [e1]
  conv => rhs; lhs; rw [e2]
  rw [Zee, Zee, Zee, Zee, ZjM, ZjM]
  have e3 : (m[i] ^^^ bitU j).toBitVec.setWidth 32 = (m[i].toBitVec.setWidth 32 ^^^ (bitU j).toBitVec.setWidth 32 : BitVec 32) := by
    rw [UInt8.toBitVec_xor, BitVec.setWidth_xor]
  rw [e3, ← BitVec.xor_assoc, ZmU, ZnD, ZnL j hj, ← Ziz, List.length_drop]
  congr 2
  omega
def W4 (l : List UInt8) : BitVec 32 := ((l.getD 0 0).toBitVec ++ (l.getD 1 0).toBitVec ++ (l.getD 2 0).toBitVec ++ (l.getD 3 0).toBitVec : BitVec (8 + 8 + 8 + 8))
theorem Zot (l : List UInt8) (hl : l.length = 4) (i : Nat) (hi : i < 4) (j : Nat) (hj : j < 8) : W4 (l.set i (l.getD i 0 ^^^ bitU j)) = W4 l ^^^ (1#32 <<< (8 * (3 - i) + j)) := by
  obtain ⟨a, b, c, d, rfl⟩ : ∃ a b c d, l = [a, b, c, d] := by
    match l, hl with
    | [a, b, c, d], _ => exact ⟨a, b, c, d, rfl⟩
  have key : ∀ j, j < 8 → (((bitU j).toBitVec ++ 0#8 ++ 0#8 ++ 0#8 : BitVec (8 + 8 + 8 + 8)) = 1#32 <<< (24 + j) ∧ (0#8 ++ (bitU j).toBitVec ++ 0#8 ++ 0#8 : BitVec (8 + 8 + 8 + 8)) = 1#32 <<< (16 + j) ∧ (0#8 ++ 0#8 ++ (bitU j).toBitVec ++ 0#8 : BitVec (8 + 8 + 8 + 8)) = 1#32 <<< (8 + j) ∧ (0#8 ++ 0#8 ++ 0#8 ++ (bitU j).toBitVec : BitVec (8 + 8 + 8 + 8)) = 1#32 <<< (0 + j)) := by decide
  obtain ⟨k0, k1, k2, k3⟩ := key j hj
  match i, hi with
  | 0, _ =>
    show ((a ^^^ bitU j).toBitVec ++ b.toBitVec ++ c.toBitVec ++ d.toBitVec : BitVec (8 + 8 + 8 + 8)) = (a.toBitVec ++ b.toBitVec ++ c.toBitVec ++ d.toBitVec : BitVec (8 + 8 + 8 + 8)) ^^^ 1#32 <<< (24 + j)
    rw [← k0, BitVec.xor_append, BitVec.xor_append, BitVec.xor_append, UInt8.toBitVec_xor]; simp
  | 1, _ =>
    show (a.toBitVec ++ (b ^^^ bitU j).toBitVec ++ c.toBitVec ++ d.toBitVec : BitVec (8 + 8 + 8 + 8)) = (a.toBitVec ++ b.toBitVec ++ c.toBitVec ++ d.toBitVec : BitVec (8 + 8 + 8 + 8)) ^^^ 1#32 <<< (16 + j)
    rw [← k1, BitVec.xor_append, BitVec.xor_append, BitVec.xor_append, UInt8.toBitVec_xor]; simp
  | 2, _ =>
    show (a.toBitVec ++ b.toBitVec ++ (c ^^^ bitU j).toBitVec ++ d.toBitVec : BitVec (8 + 8 + 8 + 8)) = (a.toBitVec ++ b.toBitVec ++ c.toBitVec ++ d.toBitVec : BitVec (8 + 8 + 8 + 8)) ^^^ 1#32 <<< (8 + j)
    rw [← k2, BitVec.xor_append, BitVec.xor_append, BitVec.xor_append, UInt8.toBitVec_xor]; simp
  | 3, _ =>
    show (a.toBitVec ++ b.toBitVec ++ c.toBitVec ++ (d ^^^ bitU j).toBitVec : BitVec (8 + 8 + 8 + 8)) = (a.toBitVec ++ b.toBitVec ++ c.toBitVec ++ d.toBitVec : BitVec (8 + 8 + 8 + 8)) ^^^ 1#32 <<< (0 + j)
    rw [← k3, BitVec.xor_append, BitVec.xor_append, BitVec.xor_append, UInt8.toBitVec_xor]; simp
def syn (N : Nat) (b : List UInt8) : BitVec 32 := upd ones (b.take N) ^^^ W4 (b.drop N)
def vOf (N p : Nat) : BitVec 32 := if p < 8 * N then Ln (8 * N - p) 1#32 else 1#32 <<< (8 * (3 - (p / 8 - N)) + p % 8)
theorem Zf4 (N : Nat) (b : List UInt8) (hb : b.length = N + 4) (p : Nat) (hp : p < 8 * (N + 4)) : syn N (flip b p) = syn N b ^^^ vOf N p := by
  unfold syn flip vOf
  have hg : b.getD (p / 8) 0 = b[p / 8]'(by omega) := by rw [List.getD_eq_getElem?_getD, List.getElem?_eq_getElem (by omega)]; rfl
  by_cases h : p < 8 * N
  · rw [if_pos h, List.drop_set_of_lt (by omega), List.take_set]
    have hi : p / 8 < (b.take N).length := by rw [List.length_take]; omega
    have h2 : b.getD (p / 8) 0 = (b.take N)[p / 8] := by rw [hg, List.getElem_take]
    rw [h2, ZmA (b.take N) (p / 8) (p % 8) hi (Nat.mod_lt _ (by decide)), List.length_take, Nat.min_eq_left (by omega), show 8 * N - (8 * (p / 8) + p % 8) = 8 * N - p by omega]
    ac_rfl
  · rw [if_neg h, List.take_set_of_le (by omega), List.drop_set, if_neg (by omega)]
    have h2 : b.getD (p / 8) 0 = (b.drop N).getD (p / 8 - N) 0 := by
      rw [List.getD_eq_getElem?_getD, List.getD_eq_getElem?_getD, List.getElem?_drop, show N + (p / 8 - N) = p / 8 by omega]
    rw [h2, Zot (b.drop N) (by rw [List.length_drop]; omega) (p / 8 - N) (by omega) (p % 8) (Nat.mod_lt _ (by decide))]
    ac_rfl
def LN (x : Nat) : Nat := Nat.xor (Nat.shiftRight x 1) (Nat.mul (Nat.land x 1) 2197175160)
def itN : Nat → Nat → Nat
  | 0, x => x
  | n + 1, x => itN n (LN x)
def go : Nat → Nat → Nat
  | 0, x => bif Nat.beq (LN x) 1 then 0 else LN x
  | k + 1, x => match go k x with
    | 0 => 0
    | y + 1 => go k (y + 1)
theorem ZjP (n : Nat) : ∀ m x, itN (m + n) x = itN n (itN m x)
  | 0, x => by rw [Nat.zero_add]; rfl
  | m + 1, x => by rw [show m + 1 + n = (m + n) + 1 by omega]; exact ZjP n m (LN x)
theorem Zj0 : ∀ k x, go k x ≠ 0 → go k x = itN (2 ^ k) x ∧ ∀ d, 1 ≤ d → d ≤ 2 ^ k → itN d x ≠ 1
  | 0, x, h => by
    have e : go 0 x = bif Nat.beq (LN x) 1 then 0 else LN x := rfl
    rw [e] at h ⊢
    cases hb : Nat.beq (LN x) 1
    · rw [hb] at h
      refine ⟨rfl, fun d h1 h2 => ?_⟩
      have : d = 1 := by simp at h2; omega
      subst this
      exact Nat.ne_of_beq_eq_false hb
    · rw [hb] at h; exact absurd rfl h
  | k + 1, x, h => by
    have e : go (k + 1) x = match go k x with | 0 => 0 | y + 1 => go k (y + 1) := rfl
    have h0 : go k x ≠ 0 := fun h0 => by rw [e, h0] at h; exact h rfl
    have e' : go (k + 1) x = go k (go k x) := by
      rw [e]
      match hy : go k x with
      | 0 => exact absurd hy h0
      | y + 1 => rfl
    rw [e'] at h ⊢
    obtain ⟨a1, a2⟩ := Zj0 k x h0
    obtain ⟨b1, b2⟩ := Zj0 k (go k x) h
    refine ⟨by rw [b1, a1, ← ZjP, ← Nat.two_mul, ← Nat.pow_succ'], fun d h1 h2 => ?_⟩
    by_cases hd : d ≤ 2 ^ k
    · exact a2 d h1 hd
    · have h3 := b2 (d - 2 ^ k) (by omega) (by rw [Nat.pow_succ] at h2; omega)
      rw [a1, ← ZjP, show 2 ^ k + (d - 2 ^ k) = d by omega] at h3
      exact h3
def isZ (n : Nat) : Bool := match n with | 0 => true | _ + 1 => false
theorem Zof {n : Nat} (h : isZ n = false) : n ≠ 0 := fun e => by rw [e] at h; cases h
theorem go19 : isZ (go 19 1) = false := by decide +kernel
theorem ZoX (x : BitVec 32) : (L x).toNat = LN x.toNat := by
  unfold L LN
  rw [BitVec.toNat_xor, BitVec.toNat_ushiftRight]
  have h1 : x.getLsbD 0 = decide (x.toNat % 2 = 1) := by
    show x.toNat.testBit 0 = _
    rw [Nat.testBit_zero]
  have h2 : Nat.land x.toNat 1 = x.toNat % 2 := Nat.and_one_is_mod x.toNat
  rw [h1, h2]
  have h3 : ∀ a b : Nat, Nat.xor a b = a ^^^ b := fun _ _ => rfl
  rw [h3]
  congr 1
  by_cases h : x.toNat % 2 = 1
  · rw [h]; rfl
  · rw [show x.toNat % 2 = 0 by omega]; rfl
theorem ZmG : ∀ n (x : BitVec 32), (Ln n x).toNat = itN n x.toNat
  | 0, _ => rfl
  | n + 1, x => by
    rw [Ziz x 1 n, ZmG n]
    show itN n (L x).toNat = itN n (LN x.toNat)
    rw [ZoX]
theorem Zmv {d : Nat} (h1 : 1 ≤ d) (h2 : d ≤ 524288) : Ln d 1#32 ≠ 1#32 := by
  intro h
  have h5 : (2 : Nat) ^ 19 = 524288 := by decide
  have := (Zj0 19 1 (Zof go19)).2 d h1 (by rw [h5]; exact h2)
  apply this
  have h3 := ZmG d 1#32
  rw [h] at h3
  exact h3.symm
theorem back : ∀ j, j < 32 → Ln j (1#32 <<< j) = 1#32 := by decide +kernel
theorem Zn7 : ∀ i, i < 32 → ∀ j, j < 32 → 1#32 <<< i = 1#32 <<< j → i = j := by decide +kernel
theorem ZnZ : ∀ i, i < 32 → par (1#32 <<< i) = true := by decide +kernel
theorem Zmr (N p : Nat) (hp : p < 8 * (N + 4)) : par (vOf N p) = true := by
  unfold vOf
  split
  · rw [ZmQ]; decide
  · exact ZnZ _ (by omega)
theorem ZoW (N : Nat) (hN : N ≤ 65532) {p q : Nat} (hp : p < 8 * (N + 4)) (hq : q < 8 * (N + 4)) (h : vOf N p = vOf N q) : p = q := by
  have one : ∀ p q, p < q → p < 8 * (N + 4) → q < 8 * (N + 4) → vOf N p ≠ vOf N q := by
    intro p q hpq hp hq h
    unfold vOf at h
    by_cases h1 : q < 8 * N
    · rw [if_pos (show p < 8 * N by omega), if_pos h1, show 8 * N - p = (8 * N - q) + (q - p) by omega, Ziz] at h
      exact Zmv (by omega) (by omega) (ZmZ _ _ _ h)
    · rw [if_neg h1] at h
      by_cases h2 : p < 8 * N
      · rw [if_pos h2] at h
        have h3 := congrArg (Ln (8 * (3 - (q / 8 - N)) + q % 8)) h
        rw [← Ziz, back _ (by omega)] at h3
        exact Zmv (by omega) (by omega) h3
      · rw [if_neg h2] at h
        have := Zn7 _ (by omega) _ (by omega) h
        omega
  by_cases h1 : p < q
  · exact absurd h (one p q h1 hp hq)
  · by_cases h2 : q < p
    · exact absurd h.symm (one q p h2 hq hp)
    · omega
theorem Zgn {a b : BitVec 32} (h : a ^^^ b = a) : b = 0#32 := by
  have := congrArg (fun z => a ^^^ z) h
  simp only [← BitVec.xor_assoc, BitVec.xor_self, BitVec.zero_xor] at this
  exact this
theorem Zlh (b : List UInt8) (p : Nat) (hp : p / 8 < b.length) : flip (flip b p) p = b := by
  unfold flip
  rw [List.set_set]
  have h1 : (b.set (p / 8) (b.getD (p / 8) 0 ^^^ bitU (p % 8))).getD (p / 8) 0 = b.getD (p / 8) 0 ^^^ bitU (p % 8) := by
    rw [List.getD_eq_getElem?_getD, List.getElem?_set, if_pos rfl, if_pos hp]; rfl
  rw [h1, UInt8.xor_assoc, UInt8.xor_self, UInt8.xor_zero, List.getD_eq_getElem?_getD, List.getElem?_eq_getElem hp]
  simp
def turn (b : List UInt8) (p : Option Nat) : List UInt8 := match p with | none => b | some p => flip b p
theorem three (N : Nat) (hN : N ≤ 65532) (b : List UInt8) (hb : b.length = N + 4) (p q r : Option Nat) (hp : ∀ x, p = some x → x < 8 * (N + 4)) (hq : ∀ x, q = some x → x < 8 * (N + 4)) (hr : ∀ x, r = some x → x < 8 * (N + 4)) (h : syn N (turn (turn (turn b p) q) r) = syn N b) : turn (turn (turn b p) q) r = b := by
  have z1 : ∀ x, x < 8 * (N + 4) → vOf N x ≠ 0#32 := fun x hx e => by
    have := Zmr N x hx
    rw [e] at this
    exact absurd this (by decide)
  have z3 : ∀ x y z, x < 8 * (N + 4) → y < 8 * (N + 4) → z < 8 * (N + 4) → vOf N x ^^^ vOf N y ^^^ vOf N z ≠ 0#32 := fun x y z hx hy hz e => by
    have h1 := congrArg par e
    rw [Zlb, Zlb, Zmr N x hx, Zmr N y hy, Zmr N z hz] at h1
    exact absurd h1 (by decide)
  have one : ∀ x, x < 8 * (N + 4) → syn N (flip b x) ≠ syn N b := fun x hx e => by
    rw [Zf4 N b hb x hx] at e
    exact z1 x hx (Zgn e)
  have two : ∀ x y, x < 8 * (N + 4) → y < 8 * (N + 4) → syn N (flip (flip b x) y) = syn N b → flip (flip b x) y = b := fun x y hx hy e => by
    rw [Zf4 N (flip b x) (by rw [flip_len, hb]) y hy, Zf4 N b hb x hx, BitVec.xor_assoc] at e
    have e := Zgn e
    have e2 : vOf N x = vOf N y := by
      have := congrArg (fun z => z ^^^ vOf N y) e
      simp only [BitVec.xor_assoc, BitVec.xor_self, BitVec.xor_zero, BitVec.zero_xor] at this
      exact this
    have := ZoW N hN hx hy e2
    subst this
    exact Zlh b x (by omega)
  cases p with
  | none =>
    cases q with
    | none =>
      cases r with
      | none => rfl
      | some z => exact absurd h (one z (hr z rfl))
    | some y =>
      cases r with
      | none => exact absurd h (one y (hq y rfl))
      | some z => exact two y z (hq y rfl) (hr z rfl) h
  | some x =>
    cases q with
    | none =>
      cases r with
      | none => exact absurd h (one x (hp x rfl))
      | some z => exact two x z (hp x rfl) (hr z rfl) h
    | some y =>
      cases r with
      | none => exact two x y (hp x rfl) (hq y rfl) h
      | some z =>
        exfalso
        have hx := hp x rfl
        have hy := hq y rfl
        have hz := hr z rfl
        have e : syn N (flip (flip (flip b x) y) z) = syn N b := h
        rw [Zf4 N _ (by rw [flip_len, flip_len, hb]) z hz, Zf4 N (flip b x) (by rw [flip_len, hb]) y hy, Zf4 N b hb x hx, BitVec.xor_assoc, BitVec.xor_assoc] at e
        have e := Zgn e
        rw [← BitVec.xor_assoc] at e
        exact z3 x y z hx hy hz e
end Go.Proofs.YtklnihlchhhhlaaGreat.Crc
namespace Go.Proofs.YtklnihlchhhhlaaGreat
open Go Fw
set_option linter.unusedVariables false
set_option linter.unusedSimpArgs false
theorem Zo8 (b : List UInt8) : ∀ a : Nat, b.foldl (fun a x => a * 256 + x.toNat) a < (a + 1) * 256 ^ b.length := by
  induction b with
  | nil => intro a; simp
  | cons x b ih =>
    intro a
    have h1 := ih (a * 256 + x.toNat)
    have hx := x.toNat_lt
    have h2 : (a * 256 + x.toNat + 1) * 256 ^ b.length ≤ ((a + 1) * 256) * 256 ^ b.length := Nat.mul_le_mul_right _ (by omega)
    rw [List.foldl_cons, List.length_cons, Nat.pow_succ, Nat.mul_comm (256 ^ b.length) 256, ← Nat.mul_assoc]
    omega
theorem Zh8 (b : List UInt8) : getB b < 256 ^ b.length := by
  have := Zo8 b 0
  simpa [getB] using this
theorem Zlc (b : List UInt8) (i : Nat) (h : i < b.length) : getB (b.take (i + 1)) = getB (b.take i) * 256 + b[i].toNat := by rw [List.take_succ_eq_append_getElem h, Zkm]
def getU (b : List UInt8) : UInt64 := UInt64.ofNat (getB b)
theorem Zip (b : List UInt8) (h : b.length ≤ 8) : (getU b).toNat = getB b := UInt64.toNat_ofNat_of_lt' (Nat.lt_of_lt_of_le (Zh8 b) (Zjk h))
theorem Zjq (b : List UInt8) (i : Nat) (h : i < 8) : getB (b.take i) * 256 < 18446744073709551616 ∧ getB (b.take i) < 18446744073709551616 := by
  have h1 := Zh8 (b.take i)
  have h2 : (b.take i).length ≤ 7 := by simp; omega
  have h3 : 256 ^ (b.take i).length ≤ 256 ^ 7 := Nat.pow_le_pow_right (by decide) h2
  have h4 : (256 : Nat) ^ 7 = 72057594037927936 := by decide
  omega
theorem ZiC (k : Nat) (hk : 9 ≤ k) (b : List UInt8) (hb : b.length ≤ 1000000) : wire_Get k b = some (if 1 ≤ b.length ∧ b.length ≤ 8 then (getU b, 0) else (0, 2)) := by
  simp only [wire_Get, lt1]
  by_cases h1 : (b.length : Int) < 1
  · have : ¬ (1 ≤ b.length ∧ b.length ≤ 8) := by omega
    simp only [h1, this, decide_true, cond_true, if_true, if_false, Option.bind_some]
  by_cases h2 : (b.length : Int) > 8
  · have : ¬ (1 ≤ b.length ∧ b.length ≤ 8) := by omega
    simp only [h1, h2, this, decide_true, decide_false, cond_false, if_true, if_false, Option.bind_some]
  have h3 : 1 ≤ b.length ∧ b.length ≤ 8 := by omega
  have hl : Zbc (fun x => wire_Get.b1 k b x.1 x.2) k ((0 : UInt64), (0 : Int)) = some (getU b) := by
    refine Zek (n := b.length) (fun i => (UInt64.ofNat (getB (b.take i)), ((i : Nat) : Int))) _ (by simp [getB]) ?_ ?_ (by omega)
    · intro i hi
      obtain ⟨g1, g2⟩ := Zjq b i (by omega)
      have e1 : UN.shl (UInt64.ofNat (getB (b.take i))) (UN.toN (8 : UInt64)) = UInt64.ofNat (getB (b.take i) * 256) := by
        show UInt64.ofNat ((UInt64.ofNat (getB (b.take i))).toNat * 2 ^ (min ((8 : UInt64).toNat) 64)) = _
        rw [UInt64.toNat_ofNat_of_lt' g2]
        rfl
      have e2 : (UInt64.ofNat (getB (b.take i) * 256) ||| (UN.to b[i] : UInt64)) = UInt64.ofNat (getB (b.take (i + 1))) := by
        apply UInt64.toNat_inj.1
        have hx := b[i].toNat_lt
        have e3 : (UN.to b[i] : UInt64).toNat = b[i].toNat := UInt64.toNat_ofNat_of_lt' (Nat.lt_of_lt_of_le hx (by decide))
        have g3 := Zh8 (b.take (i + 1))
        have g4 : (b.take (i + 1)).length ≤ 8 := by simp; omega
        rw [UInt64.toNat_or, UInt64.toNat_ofNat_of_lt' g1, e3, UInt64.toNat_ofNat_of_lt' (Nat.lt_of_lt_of_le g3 (Zjk g4)), Zlc b i hi]
        have := Nat.shiftLeft_add_eq_or_of_lt (i := 8) (b := b[i].toNat) hx (getB (b.take i))
        rw [Nat.shiftLeft_eq] at this
        exact this.symm
      simp only [wire_Get.b1, lt1, Zbb (show (i : Int) < (b.length : Int) by omega), if_true, Za9 hi, Option.bind_some, e1, e2, ZaP (show i < 9223372036854775807 by omega)]
    · simp only [wire_Get.b1, lt1, ZbB (show ¬ (b.length : Int) < (b.length : Int) by omega), Bool.false_eq_true, if_false, List.take_length, getU]
  simp only [ZbB h1, ZbB h2, cond_false, Bool.false_eq_true, if_false, Option.bind_some, hl, if_pos h3]
abbrev R (b : List UInt8) : Zag := Zag.mk b true true
theorem ZgK (k : Nat) (a c : List UInt8) (n : Int) (hn : n = (a.length : Int)) (hl : a.length + c.length ≤ 100000000) : ZaW k n (R (a ++ c)) = some (a, true, R c) := by
  subst hn
  have h1 : decide ((a.length : Int) < 0) = false := ZbB (by omega)
  have h2 : decide ((a.length : Int) > ((a ++ c).length : Int)) = false := ZbB (by rw [List.length_append]; omega)
  have e1 : subL (a ++ c) (0) (a.length : Int) = some a := by
    rw [Zfk (by omega) (by omega) (by rw [List.length_append]; omega)]; simp
  have e2 : subL (a ++ c) (a.length : Int) ((a ++ c).length : Int) = some c := by
    rw [Zfk (by omega) (by rw [List.length_append]; omega) (by omega)]; simp
    exact List.take_of_length_le (by omega)
  simp only [ZaW, ZaH, lt1, Option.bind_some, Bool.not_true, Bool.false_eq_true, if_false, h1, h2, cond_false, e1, e2]
theorem Zi3 (k : Nat) (a c : List UInt8) (n : Int) (hn : n = (a.length : Int)) (hl : a.length + c.length ≤ 100000000) : Zbp k n true true (a ++ c) = some (a, true, c, true, true) := by
  subst hn
  have h1 : decide ((a.length : Int) < 0) = false := ZbB (by omega)
  have h2 : decide ((a.length : Int) > ((a ++ c).length : Int)) = false := ZbB (by rw [List.length_append]; omega)
  have e1 : subL (a ++ c) (0) (a.length : Int) = some a := by
    rw [Zfk (by omega) (by omega) (by rw [List.length_append]; omega)]; simp
  have e2 : subL (a ++ c) (a.length : Int) ((a ++ c).length : Int) = some c := by
    rw [Zfk (by omega) (by rw [List.length_append]; omega) (by omega)]; simp
    exact List.take_of_length_le (by omega)
  simp only [Zbp, ZbZ, lt1, Option.bind_some, Bool.not_true, Bool.false_eq_true, if_false, h1, h2, cond_false, e1, e2]
theorem Zls (k : Nat) (hk : 9 ≤ k) (n s : Nat) (h1 : 1 ≤ s) (h8 : s ≤ 8) (hn : n < 256 ^ s) : wire_Get k (put n s) = some (UInt64.ofNat n, 0) := by
  rw [ZiC k hk _ (by rw [Zax]; omega), Zax, if_pos ⟨h1, h8⟩]
  have : getU (put n s) = UInt64.ofNat n := by rw [getU, Zmh, Nat.mod_eq_of_lt hn]
  rw [this]
theorem numR (k : Nat) (hk : 9 ≤ k) (n s : Nat) (h1 : 1 ≤ s) (h8 : s ≤ 8) (hn : n < 256 ^ s) (c : List UInt8) (hc : c.length ≤ 10000000) (z : Int) (hz : z = (s : Int)) : Zay k z (R (put n s ++ c)) = some (UInt64.ofNat n, R c) := by
  subst hz
  have e1 : decide ((s : Int) < 1) = false := ZbB (by omega)
  have e2 : decide ((s : Int) > 8) = false := ZbB (by omega)
  have ht := ZgK k (put n s) c (s : Int) (by rw [Zax]) (by rw [Zax]; omega)
  simp only [Zay, lt1, e1, e2, cond_false, Bool.false_eq_true, if_false, Option.bind_some, ht, Zls k hk n s h1 h8 hn]
theorem numP (k : Nat) (hk : 9 ≤ k) (n s : Nat) (h1 : 1 ≤ s) (h8 : s ≤ 8) (hn : n < 256 ^ s) (c : List UInt8) (hc : c.length ≤ 10000000) (z : Int) (hz : z = (s : Int)) : ZaV k z true true (put n s ++ c) = some (UInt64.ofNat n, R c) := by
  subst hz
  have e1 : decide ((s : Int) < 1) = false := ZbB (by omega)
  have e2 : decide ((s : Int) > 8) = false := ZbB (by omega)
  have ht := Zi3 k (put n s) c (s : Int) (by rw [Zax]) (by rw [Zax]; omega)
  simp only [ZaV, lt1, e1, e2, cond_false, Bool.false_eq_true, if_false, Option.bind_some, ht, Zls k hk n s h1 h8 hn]
theorem ZdV (k : Nat) (b : List UInt8) (h : b.length ≤ 10000000) : ZcA k b = some b := by
  have : apL 1 ([] : List UInt8) b = some b := by rw [ap1 (by simp; omega)]; rfl
  simp only [ZcA, ZbW, this, Option.bind_some]
theorem toI {n : Nat} (h : n < 9223372036854775807) : w64 (UN.toN (UInt64.ofNat n) : Int) = (n : Int) := by
  have : UN.toN (UInt64.ofNat n) = n := UInt64.toNat_ofNat_of_lt' (by show n < 2 ^ 64; omega)
  rw [this]; exact ZdI (by omega) (by omega)
theorem dotR (k : Nat) (hk : 9 ≤ k) {d : Zah} (h : ZcB d) (c : List UInt8) (hc : c.length ≤ 10000000) : ZbD k (R (dotB d ++ c)) = some (d, R c) := by
  have g1 := h.1
  have g2 := h.2.1
  have e : dotB d = put d.Region.toNat 1 ++ put d.Count.toNat 8 := by rw [show put d.Region.toNat 1 = [UInt8.ofNat d.Region.toNat] by simp [put]]; rfl
  have ht := ZgK k (dotB d) c (9 : Int) (by rw [ZbY]; rfl) (by rw [ZbY]; omega)
  have h1 := numP k hk d.Region.toNat 1 (by omega) (by omega) (by omega) (put d.Count.toNat 8) (by rw [Zax]; omega) (1 : Int) rfl
  have h2 := numR k hk d.Count.toNat 8 (by omega) (by omega) (by exact Nat.lt_of_lt_of_le d.Count.toNat_lt (by decide)) [] (by simp) (8 : Int) rfl
  rw [List.append_nil] at h2
  have hr : ((d.Region.toNat : Nat) : Int) = d.Region := by omega
  have hcnt : UInt64.ofNat d.Count.toNat = d.Count := UInt64.toNat_inj.1 (UInt64.toNat_ofNat_of_lt' d.Count.toNat_lt)
  simp only [ZbD, ht, Option.bind_some, ZdV k (dotB d) (by rw [ZbY]; omega)]
  rw [e]
  simp only [h1, h2, Option.bind_some, lt1, toI (show d.Region.toNat < 9223372036854775807 by omega), hr, hcnt]
theorem ZmD (v : Vector UInt64 16) : ∀ i, i ≤ 16 → vecB v 16 = vecB v i ++ (v.toList.drop i).flatMap fun n => put n.toNat 8 := by
  intro i hi
  unfold vecB
  rw [← List.flatMap_append]
  congr 1
  rw [show v.toList.take 16 = v.toList from List.take_of_length_le (by simp), List.take_append_drop]
theorem vecR (k : Nat) (hk : 17 ≤ k) (v : Vector UInt64 16) (c : List UInt8) (hc : c.length ≤ 10000000) : wire_Reader_Vector k (R (vecB v 16 ++ c)) = some (v, R c) := by
  have hvl := Zde v 16 (by omega)
  have ht := ZgK k (vecB v 16) c (128 : Int) (by rw [hvl]; rfl) (by omega)
  have hl : Zbc (fun s => wire_Reader_Vector.b1 k s.1 s.2.1 s.2.2) k ((Vector.replicate 16 (0 : UInt64)), (Zag.mk (vecB v 16) true true), (0 : Int)) = some v := by
    refine Zek (n := 16) (fun i => ((Vector.ofFn fun j => if j.1 < i then v[j] else 0 : Vector UInt64 16), R ((v.toList.drop i).flatMap fun n => put n.toNat 8), ((i : Nat) : Int))) _ ?_ ?_ ?_ (by omega)
    · refine Prod.ext (Vector.ext fun j hj => by simp) (Prod.ext ?_ rfl)
      show R _ = R _
      rw [ZmD v 0 (by omega)]; simp [vecB]
    · intro i hi
      have hi' : i < v.toList.length := by simpa using hi
      have hd : ((v.toList.drop i).flatMap fun n => put n.toNat 8) = put v[i].toNat 8 ++ (v.toList.drop (i + 1)).flatMap fun n => put n.toNat 8 := by
        rw [List.drop_eq_getElem_cons hi', List.flatMap_cons]; simp
      have hb := Zcx (fun n : UInt64 => put n.toNat 8) 8 (v.toList.drop (i + 1)) fun x _ => by rw [Zax]; exact Nat.le_refl _
      have hdl : (v.toList.drop (i + 1)).length ≤ 16 := by simp; omega
      have hn := numR k (by omega) v[i].toNat 8 (by omega) (by omega) (by exact Nat.lt_of_lt_of_le v[i].toNat_lt (by decide)) ((v.toList.drop (i + 1)).flatMap fun n => put n.toNat 8) (by omega) (8 : Int) rfl
      rw [← hd] at hn
      have hcnt : UInt64.ofNat v[i].toNat = v[i] := UInt64.toNat_inj.1 (UInt64.toNat_ofNat_of_lt' v[i].toNat_lt)
      have h3 : inV 16 (i : Int) = some ⟨i, hi⟩ := Zjs (by omega) (by simpa using hi)
      simp only [wire_Reader_Vector.b1, lt1, Zbb (show (i : Int) < 16 by omega), if_true, ZbP, hn, h3, Option.bind_some, hcnt, ZaP (show i < 9223372036854775807 by omega)]
      refine congrArg (fun z => some (Sum.inl (z, _))) (Vector.ext fun j hj => ?_)
      simp only [putV, Vector.getElem_set, Vector.getElem_ofFn]
      by_cases e : i = j
      · subst e; simp
      · rw [if_neg e]
        by_cases e2 : j < i
        · rw [if_pos e2, if_pos (by omega)]
        · rw [if_neg e2, if_neg (by omega)]
    · simp only [wire_Reader_Vector.b1, lt1, ZbB (show ¬ ((16 : Nat) : Int) < 16 by omega), Bool.false_eq_true, if_false]
      refine congrArg (fun z => some (Sum.inr z)) (Vector.ext fun j hj => ?_)
      rw [Vector.getElem_ofFn, if_pos hj]; rfl
  simp only [wire_Reader_Vector, ht, Option.bind_some, ZdV k (vecB v 16) (by omega), hl]
theorem ZlA (k : Nat) (a c : List UInt8) (n : Int) (hn : n = (a.length : Int)) (hl : a.length + c.length ≤ 100000000) : Zbu k n (R (a ++ c)) = some (a, R c) := by
  simp only [Zbu, ZgK k a c n hn hl, Option.bind_some]
theorem ZjJ (k : Nat) (hk : 9 ≤ k) (b c : List UInt8) (hb : b.length ≤ 65535) (hc : c.length ≤ 1000000) : Za3 k (R (Zbj b ++ c)) = some (b, R c) := by
  have h1 := numR k hk b.length 2 (by omega) (by omega) (by omega) (b ++ c) (by rw [List.length_append]; omega) (2 : Int) rfl
  have e : Zbj b ++ c = put b.length 2 ++ (b ++ c) := by unfold Zbj; rw [List.append_assoc]
  simp only [Za3, e, h1, Option.bind_some, lt1, toI (show b.length < 9223372036854775807 by omega), ZlA k b c _ rfl (by omega)]
theorem ZoA (k : Nat) (a1 a2 a3 : Int) (a4 : Zah) (a5 : List UInt8) (a6 a7 a8 : Vector UInt64 16) (a9 : Vector UInt8 32) (a10 : Bool) (h : Vector UInt8 32) (c : List UInt8) (hc : c.length ≤ 10000000) : ZbH k a1 a2 a3 a4 a5 a6 a7 a8 a9 a10 (R (h.toList ++ c)) = some (h, R c) := by
  have hl : h.toList.length = 32 := by simp
  have e : cpV (Vector.replicate 32 (0 : UInt8)) 0 (32 - 0) h.toList = h := by
    refine Vector.ext fun i hi => ?_
    simp [cpV, hi]
  simp only [ZbH, ZlA k h.toList c (32 : Int) (by rw [hl]; rfl) (by omega), Option.bind_some, lt1, e]
theorem ZmR (k : Nat) (hk : 9 ≤ k) (a1 a2 a3 : Int) (a4 : Zah) (a5 : List UInt8) (a6 a7 a8 : Vector UInt64 16) (a9 : Vector UInt8 32) (a10 : Bool) (n : Nat) (hn : n ≤ 65535) (c : List UInt8) (hc : c.length ≤ 10000000) : ZbA k a1 a2 a3 a4 a5 a6 a7 a8 a9 a10 (R (put n 2 ++ c)) = some ((n : Int), R c) := by
  simp only [ZbA, numR k hk n 2 (by omega) (by omega) (by omega) c hc (2 : Int) rfl, Option.bind_some, lt1, toI (show n < 9223372036854775807 by omega)]
theorem ZnH (k : Nat) (hk : 9 ≤ k) (a1 a2 a3 : Int) (a4 : Zah) (a5 : List UInt8) (a6 a7 a8 : Vector UInt64 16) (a9 : Vector UInt8 32) (a10 : Bool) (l : List Zah) (n : Nat) (hn : n ≤ 65535) (c : List UInt8) (hc : c.length ≤ 10000000) : Zbx k a1 a2 a3 a4 a5 a6 a7 a8 a9 a10 (R (put n 2 ++ c)) l = some ((n : Int), R c) := by
  simp only [Zbx, numR k hk n 2 (by omega) (by omega) (by omega) c hc (2 : Int) rfl, Option.bind_some, lt1, toI (show n < 9223372036854775807 by omega)]
theorem Zi0 (k : Nat) (l : List Zah) (hk : l.length + 10 < k) (hl : l.length ≤ 70000) (hm : ∀ d ∈ l, ZcB d) (c : List UInt8) (hc : c.length ≤ 1000000) : frame_listapi_Dot k (l.length : Int) (R (l.flatMap dotB ++ c)) = some (l, R c) := by
  have hlp : Zbc (fun s => frame_listapi_Dot.b1 k (l.length : Int) s.1 s.2.1 s.2.2) k (R (l.flatMap dotB ++ c), ([] : (List Zah)), (0 : Int)) = some (.inl (l, R c)) := by
    refine Zek (n := l.length) (fun i => (R ((l.drop i).flatMap dotB ++ c), l.take i, ((i : Nat) : Int))) _ (by simp) ?_ ?_ (by omega)
    · intro i hi
      have hb := Zcx dotB 9 (l.drop (i + 1)) fun d _ => by rw [ZbY]; exact Nat.le_refl _
      rw [List.length_drop] at hb
      have hd : (l.drop i).flatMap dotB ++ c = dotB l[i] ++ ((l.drop (i + 1)).flatMap dotB ++ c) := by
        rw [List.drop_eq_getElem_cons hi, List.flatMap_cons, List.append_assoc]
      have h1 := dotR k (by omega) (hm _ (List.getElem_mem hi)) ((l.drop (i + 1)).flatMap dotB ++ c) (by rw [List.length_append]; omega)
      rw [← hd] at h1
      have ha : apL 16 (l.take i) [l[i]] = some (l.take (i + 1)) := by
        rw [ZdF (by rw [List.length_take]; show (min i l.length + 1) * 16 ≤ _; omega), List.take_succ_eq_append_getElem hi]
      simp only [frame_listapi_Dot.b1, lt1, Zbb (show (i : Int) < (l.length : Int) by omega), if_true, ZaH, Bool.not_true, Bool.false_eq_true, if_false, Option.bind_some, h1, ha, ZaP (show i < 9223372036854775807 by omega)]
    · simp only [frame_listapi_Dot.b1, lt1, endB, Bool.false_eq_true, if_false]
      simp
  simp only [frame_listapi_Dot, hlp, Option.bind_some]
theorem Zcc (k : Nat) (r : Zag) : ZaH k r = some (!r.is) := rfl
def Zd1 (r : Zag) (n : Int) : List UInt8 × Bool × Zag :=
  if r.is = false then ([], false, r) else if n < 0 ∨ n > r.rest.length then ([], false, ⟨[], false, true⟩) else (r.rest.take n.toNat, true, ⟨r.rest.drop n.toNat, r.is, r.made⟩)
theorem Zjv {b : List UInt8} {n : Int} (h0 : 0 ≤ n) (h1 : n ≤ b.length) : subL b 0 n = some (b.take n.toNat) := by
  rw [Zfk (by omega) h0 h1]; simp
theorem Zjc {b : List UInt8} {n : Int} (h0 : 0 ≤ n) (h1 : n ≤ b.length) : subL b n (b.length : Int) = some (b.drop n.toNat) := by
  rw [Zfk h0 h1 (by omega)]
  congr 1
  rw [List.take_of_length_le (by simp)]
theorem Zki (k : Nat) (n : Int) (r : Zag) : ZaW k n r = some (Zd1 r n) := by
  obtain ⟨rest, is, made⟩ := r
  simp only [ZaW, Zcc, lt1, Option.bind_some, Zd1]
  cases is
  · simp
  · by_cases h1 : n < 0
    · simp [h1]
    · by_cases h2 : n > rest.length
      · simp [h1, h2]
      · simp [h1, h2, Zjv (show 0 ≤ n by omega) (show n ≤ rest.length by omega), Zjc (show 0 ≤ n by omega) (show n ≤ rest.length by omega)]
theorem Zkb (k : Nat) (n : Int) (is made : Bool) (rest : List UInt8) : Zbp k n is made rest = some ((Zd1 ⟨rest, is, made⟩ n).1, (Zd1 ⟨rest, is, made⟩ n).2.1, (Zd1 ⟨rest, is, made⟩ n).2.2.rest, (Zd1 ⟨rest, is, made⟩ n).2.2.is, (Zd1 ⟨rest, is, made⟩ n).2.2.made) := by
  simp only [Zbp, ZbZ, lt1, Option.bind_some, Zd1]
  cases is
  · simp
  · by_cases h1 : n < 0
    · simp [h1]
    · by_cases h2 : n > rest.length
      · simp [h1, h2]
      · simp [h1, h2, Zjv (show 0 ≤ n by omega) (show n ≤ rest.length by omega), Zjc (show 0 ≤ n by omega) (show n ≤ rest.length by omega)]
theorem ZhZ (r : Zag) (n : Int) : (Zd1 r n).1.length ≤ r.rest.length := by
  unfold Zd1
  split
  · simp
  · split
    · simp
    · simp; omega
theorem Zg8 (r : Zag) (n : Int) : ((Zd1 r n).1.length : Int) ≤ max n 0 := by
  unfold Zd1
  split
  · show (0 : Int) ≤ _; omega
  · split
    · show (0 : Int) ≤ _; omega
    · simp only [List.length_take]; omega
def szR (size : Int) : Int := if size < 1 ∨ size > 8 then -1 else size
def nR (r : Zag) (size : Int) : UInt64 × Zag := (getU (Zd1 r (szR size)).1, (Zd1 r (szR size)).2.2)
theorem Zov (k : Nat) (hk : 9 ≤ k) (r : Zag) (size : Int) (h : r.rest.length ≤ 1000000) : ∃ e, wire_Get k (Zd1 r (szR size)).1 = some (getU (Zd1 r (szR size)).1, e) := by
  have h1 := ZhZ r (szR size)
  have h2 := Zg8 r (szR size)
  have h3 : szR size ≤ 8 := by unfold szR; split <;> omega
  rw [ZiC k hk _ (by omega)]
  by_cases h4 : 1 ≤ (Zd1 r (szR size)).1.length
  · rw [if_pos ⟨h4, by omega⟩]; exact ⟨_, rfl⟩
  · rw [if_neg (by omega)]
    have : (Zd1 r (szR size)).1 = [] := List.eq_nil_of_length_eq_zero (by omega)
    rw [this]
    exact ⟨_, rfl⟩
theorem Zln (k : Nat) (hk : 9 ≤ k) (size : Int) (r : Zag) (h : r.rest.length ≤ 1000000) : Zay k size r = some (nR r size) := by
  obtain ⟨e, he⟩ := Zov k hk r size h
  have hs : (if (bif decide (size < 1) then true else decide (size > 8)) = true then some (-1 : Int) else some size) = some (szR size) := by
    unfold szR
    by_cases h1 : size < 1 <;> by_cases h2 : size > 8 <;> simp [h1, h2]
  simp only [Zay, lt1, Option.bind_some, hs, Zki]
  rw [show Zd1 r (szR size) = ((Zd1 r (szR size)).1, (Zd1 r (szR size)).2.1, (Zd1 r (szR size)).2.2) from rfl]
  simp only [he, Option.bind_some, nR]
theorem Znj (k : Nat) (hk : 9 ≤ k) (size : Int) (is made : Bool) (rest : List UInt8) (h : rest.length ≤ 1000000) : ZaV k size is made rest = some (nR ⟨rest, is, made⟩ size) := by
  obtain ⟨e, he⟩ := Zov k hk ⟨rest, is, made⟩ size h
  have hs : (if (bif decide (size < 1) then true else decide (size > 8)) = true then some (-1 : Int) else some size) = some (szR size) := by
    unfold szR
    by_cases h1 : size < 1 <;> by_cases h2 : size > 8 <;> simp [h1, h2]
  simp only [ZaV, lt1, Option.bind_some, hs, Zkb, he, nR]
theorem ZeT (r : Zag) (n : Int) : (Zd1 r n).2.2.rest.length ≤ r.rest.length := by
  unfold Zd1
  split
  · simp
  · split
    · simp
    · simp
theorem toU {x : UInt64} (h : x.toNat < 9223372036854775807) : w64 (UN.toN x : Int) = (x.toNat : Int) := ZdI (by show -9223372036854775808 ≤ (x.toNat : Int); omega) (by show (x.toNat : Int) ≤ _; omega)
theorem tNum (k : Nat) (hk : 9 ≤ k) (r : Zag) (h : r.rest.length ≤ 1000000) (s : Nat) (h1 : 1 ≤ s) (h8 : s ≤ 7) (z : Int) (hz : z = (s : Int)) : ∃ x r', Zay k z r = some (x, r') ∧ x.toNat < 256 ^ s ∧ r'.rest.length ≤ r.rest.length := by
  subst hz
  refine ⟨_, _, Zln k hk (s : Int) r h, ?_, ZeT _ _⟩
  have hs : szR (s : Int) = (s : Int) := by unfold szR; rw [if_neg (by omega)]
  have hl := Zg8 r (s : Int)
  rw [hs, Zip _ (by omega)]
  exact Nat.lt_of_lt_of_le (Zh8 _) (Nat.pow_le_pow_right (by decide) (by omega))
theorem Znn (k : Nat) (hk : 9 ≤ k) (r : Zag) (h : r.rest.length ≤ 1000000) : ∃ x r', Zay k (8 : Int) r = some (x, r') ∧ r'.rest.length ≤ r.rest.length :=
  ⟨_, _, Zln k hk 8 r h, ZeT _ _⟩
theorem Zne (k : Nat) (n : Int) (r : Zag) : ∃ v e r', ZaW k n r = some (v, e, r') ∧ v.length ≤ r.rest.length ∧ r'.rest.length ≤ r.rest.length :=
  ⟨_, _, _, Zki k n r, ZhZ r n, ZeT r n⟩
theorem Znd (k : Nat) (hk : 9 ≤ k) (b : List UInt8) (h : b.length ≤ 1000000) : ∃ x r', ZaV k (1 : Int) true true b = some (x, r') ∧ x.toNat < 256 ∧ r'.rest.length ≤ b.length := by
  refine ⟨_, _, Znj k hk 1 true true b h, ?_, ZeT _ _⟩
  have hs : szR 1 = 1 := by decide
  have hl := Zg8 ⟨b, true, true⟩ 1
  rw [hs, Zip _ (by omega)]
  exact Nat.lt_of_lt_of_le (Zh8 _) (Nat.le_trans (Nat.pow_le_pow_right (by decide) (show _ ≤ 1 by omega)) (by decide))
theorem tDot (k : Nat) (hk : 9 ≤ k) (r : Zag) (h : r.rest.length ≤ 1000000) : ∃ d r', ZbD k r = some (d, r') ∧ r'.rest.length ≤ r.rest.length := by
  obtain ⟨v, e, r1, h1, h2, h3⟩ := Zne k 9 r
  obtain ⟨x, r2, h4, h5, h6⟩ := Znd k hk v (by omega)
  obtain ⟨y, r3, h7, h8⟩ := Znn k hk r2 (by omega)
  exact ⟨_, _, by simp only [ZbD, h1, Option.bind_some, ZdV k v (by omega), h4, lt1, h7]; rfl, h3⟩
theorem Zk9 (k : Nat) (n : Int) (r : Zag) : ∃ v r', Zbu k n r = some (v, r') ∧ v.length ≤ r.rest.length ∧ r'.rest.length ≤ r.rest.length := by
  obtain ⟨v, e, r1, h1, h2, h3⟩ := Zne k n r
  exact ⟨v, r1, by simp only [Zbu, h1, Option.bind_some], h2, h3⟩
theorem ZjA (k : Nat) (hk : 9 ≤ k) (r : Zag) (h : r.rest.length ≤ 1000000) : ∃ d r', Za3 k r = some (d, r') ∧ d.length ≤ r.rest.length ∧ r'.rest.length ≤ r.rest.length := by
  obtain ⟨x, r1, h1, h2, h3⟩ := tNum k hk r h 2 (by omega) (by omega) 2 rfl
  obtain ⟨v, r2, h4, h5, h6⟩ := Zk9 k (w64 (UN.toN x : Int)) r1
  exact ⟨v, r2, by simp only [Za3, h1, Option.bind_some, lt1, h4], by omega, by omega⟩
theorem tVec (k : Nat) (hk : 17 ≤ k) (r : Zag) (h : r.rest.length ≤ 1000000) : ∃ d r', wire_Reader_Vector k r = some (d, r') ∧ r'.rest.length ≤ r.rest.length := by
  obtain ⟨v, e, r1, h1, h2, h3⟩ := Zne k 128 r
  have hlp := Zc0 (body := fun s : Vector UInt64 16 × Zag × Int => wire_Reader_Vector.b1 k s.1 s.2.1 s.2.2) (I := fun s => s.2.1.rest.length ≤ 1000000 ∧ 0 ≤ s.2.2 ∧ s.2.2 ≤ 16) (m := fun s => ((16 : Int) - s.2.2).toNat) (fun t => True) ?_ k (Vector.replicate 16 (0 : UInt64), Zag.mk v true true, (0 : Int)) ⟨by show v.length ≤ _; omega, Int.le_refl _, by show (0 : Int) ≤ 16; omega⟩ (by show ((16 : Int) - 0).toNat < k; omega)
  · obtain ⟨t, h4, _⟩ := hlp
    exact ⟨t, r1, by simp only [wire_Reader_Vector, h1, Option.bind_some, ZdV k v (by omega), h4], h3⟩
  · rintro ⟨w, r0, s⟩ ⟨i1, i2, i3⟩
    simp only at i1 i2 i3
    obtain ⟨i, rfl⟩ : ∃ i : Nat, s = i := ⟨s.toNat, by omega⟩
    by_cases hlt : i < 16
    · left
      obtain ⟨y, r3, h7, h8⟩ := Znn k (by omega) r0 i1
      have h9 : inV 16 (i : Int) = some ⟨i, hlt⟩ := Zjs (by omega) (by simpa using hlt)
      simp only [wire_Reader_Vector.b1, lt1, Zbb (show (i : Int) < 16 by omega), if_true, ZbP, h7, h9, Option.bind_some, ZaP (show i < 9223372036854775807 by omega)]
      exact ⟨_, rfl, ⟨by show r3.rest.length ≤ _; omega, by show (0 : Int) ≤ ((i + 1 : Nat) : Int); omega, by show ((i + 1 : Nat) : Int) ≤ 16; omega⟩, by show ((16 : Int) - ((i + 1 : Nat) : Int)).toNat < ((16 : Int) - (i : Int)).toNat; omega⟩
    · right
      simp only [wire_Reader_Vector.b1, lt1, ZbB (show ¬ (i : Int) < 16 by omega), Bool.false_eq_true, if_false]
      exact ⟨_, rfl, trivial⟩
theorem Zom (k : Nat) (a1 a2 a3 : Int) (a4 : Zah) (a5 : List UInt8) (a6 a7 a8 : Vector UInt64 16) (a9 : Vector UInt8 32) (a10 : Bool) (r : Zag) : ∃ d r', ZbH k a1 a2 a3 a4 a5 a6 a7 a8 a9 a10 r = some (d, r') ∧ r'.rest.length ≤ r.rest.length := by
  obtain ⟨v, r1, h1, h2, h3⟩ := Zk9 k 32 r
  exact ⟨_, r1, by simp only [ZbH, h1, Option.bind_some, lt1]; rfl, h3⟩
theorem ZoL (k : Nat) (hk : 9 ≤ k) (a1 a2 a3 : Int) (a4 : Zah) (a5 : List UInt8) (a6 a7 a8 : Vector UInt64 16) (a9 : Vector UInt8 32) (a10 : Bool) (r : Zag) (h : r.rest.length ≤ 1000000) : ∃ d r', ZbJ k a1 a2 a3 a4 a5 a6 a7 a8 a9 a10 r = some (d, r') ∧ r'.rest.length ≤ r.rest.length := by
  obtain ⟨d, r1, h1, h2⟩ := tDot k hk r h
  obtain ⟨x, r2, h3, _, h4⟩ := tNum k hk r1 (by omega) 1 (by omega) (by omega) 1 rfl
  obtain ⟨u, r3, h5, _, h6⟩ := ZjA k hk r2 (by omega)
  obtain ⟨v, r4, h7, _, h8⟩ := ZjA k hk r3 (by omega)
  simp only [ZbJ, h1, h3, h5, h7, Option.bind_some, lt1]
  by_cases hx : (x == 0) = true
  · rw [hx]; exact ⟨_, r4, rfl, by omega⟩
  · have hx : (x == 0) = false := by simpa using hx
    rw [hx]; exact ⟨_, r2, rfl, by omega⟩
theorem ZnK (k : Nat) (hk : 9 ≤ k) (a1 a2 a3 : Int) (a4 : Zah) (a5 : List UInt8) (a6 a7 a8 : Vector UInt64 16) (a9 : Vector UInt8 32) (a10 : Bool) (l : List Int) (r : Zag) (h : r.rest.length ≤ 1000000) : ∃ d r', Zbo k a1 a2 a3 a4 a5 a6 a7 a8 a9 a10 r l = some (d, r') ∧ r'.rest.length ≤ r.rest.length := by
  obtain ⟨d, r1, h1, h2⟩ := tDot k hk r h
  obtain ⟨x, r2, h3, _, h4⟩ := tNum k hk r1 (by omega) 1 (by omega) (by omega) 1 rfl
  obtain ⟨u, r3, h5, _, h6⟩ := ZjA k hk r2 (by omega)
  obtain ⟨v, r4, h7, _, h8⟩ := ZjA k hk r3 (by omega)
  simp only [Zbo, h1, h3, h5, h7, Option.bind_some, lt1]
  by_cases hx : (x == 0) = true
  · rw [hx]; exact ⟨_, r4, rfl, by omega⟩
  · have hx : (x == 0) = false := by simpa using hx
    rw [hx]; exact ⟨_, r2, rfl, by omega⟩
theorem ZmV (k : Nat) (hk : 9 ≤ k) (a1 a2 a3 : Int) (a4 : Zah) (a5 : List UInt8) (a6 a7 a8 : Vector UInt64 16) (a9 : Vector UInt8 32) (a10 : Bool) (r : Zag) (h : r.rest.length ≤ 1000000) : ∃ n : Nat, n ≤ 65535 ∧ ∃ r', ZbA k a1 a2 a3 a4 a5 a6 a7 a8 a9 a10 r = some ((n : Int), r') ∧ r'.rest.length ≤ r.rest.length := by
  obtain ⟨x, r', h1, h2, h3⟩ := tNum k hk r h 2 (by omega) (by omega) 2 rfl
  refine ⟨x.toNat, by omega, r', ?_, h3⟩
  simp only [ZbA, h1, Option.bind_some, lt1, toU (show x.toNat < 9223372036854775807 by omega)]
theorem Zl7 (k : Nat) (hk : 9 ≤ k) (a1 a2 a3 : Int) (a4 : Zah) (a5 : List UInt8) (a6 a7 a8 : Vector UInt64 16) (a9 : Vector UInt8 32) (a10 : Bool) (l : List Zah) (r : Zag) (h : r.rest.length ≤ 1000000) : ∃ n : Nat, n ≤ 65535 ∧ ∃ r', Zbx k a1 a2 a3 a4 a5 a6 a7 a8 a9 a10 r l = some ((n : Int), r') ∧ r'.rest.length ≤ r.rest.length := by
  obtain ⟨x, r', h1, h2, h3⟩ := tNum k hk r h 2 (by omega) (by omega) 2 rfl
  refine ⟨x.toNat, by omega, r', ?_, h3⟩
  simp only [Zbx, h1, Option.bind_some, lt1, toU (show x.toNat < 9223372036854775807 by omega)]
theorem Zma (k : Nat) (hk : 9 ≤ k) (a1 a2 a3 : Int) (a4 : Zah) (a5 : List UInt8) (a6 a7 a8 : Vector UInt64 16) (a9 : Vector UInt8 32) (a10 : Bool) (l : List Int) (r : Zag) (h : r.rest.length ≤ 1000000) : ∃ n : Nat, n ≤ 65535 ∧ ∃ r', Zbv k a1 a2 a3 a4 a5 a6 a7 a8 a9 a10 r l = some ((n : Int), r') ∧ r'.rest.length ≤ r.rest.length := by
  obtain ⟨x, r', h1, h2, h3⟩ := tNum k hk r h 2 (by omega) (by omega) 2 rfl
  refine ⟨x.toNat, by omega, r', ?_, h3⟩
  simp only [Zbv, h1, Option.bind_some, lt1, toU (show x.toNat < 9223372036854775807 by omega)]
theorem Zl9 (k : Nat) (hk : 9 ≤ k) (a1 a2 a3 : Int) (a4 : Zah) (a5 : List UInt8) (a6 a7 a8 : Vector UInt64 16) (a9 : Vector UInt8 32) (a10 : Bool) (l : List Zal) (l2 : List Int) (r : Zag) (h : r.rest.length ≤ 1000000) : ∃ n : Nat, n ≤ 65535 ∧ ∃ r', Zbz k a1 a2 a3 a4 a5 a6 a7 a8 a9 a10 r l l2 = some ((n : Int), r') ∧ r'.rest.length ≤ r.rest.length := by
  obtain ⟨x, r', h1, h2, h3⟩ := tNum k hk r h 2 (by omega) (by omega) 2 rfl
  refine ⟨x.toNat, by omega, r', ?_, h3⟩
  simp only [Zbz, h1, Option.bind_some, lt1, toU (show x.toNat < 9223372036854775807 by omega)]
theorem Znv (k : Nat) (hk : 9 ≤ k) (a1 a2 a3 : Int) (a4 : Zah) (a5 : List UInt8) (a6 a7 a8 : Vector UInt64 16) (a9 : Vector UInt8 32) (a10 : Bool) (r : Zag) (h : r.rest.length ≤ 1000000) : ∃ d r', Zbi k a1 a2 a3 a4 a5 a6 a7 a8 a9 a10 r = some (d, r') ∧ r'.rest.length ≤ r.rest.length := by
  obtain ⟨x, r2, h3, _, h4⟩ := tNum k hk r h 1 (by omega) (by omega) 1 rfl
  exact ⟨_, r2, by simp only [Zbi, h3, Option.bind_some, lt1]; rfl, h4⟩
theorem ZiJ (k : Nat) (hk : 70000 ≤ k) (n : Nat) (hn : n ≤ 65535) (r : Zag) (h : r.rest.length ≤ 1000000) : ∃ l : List (Zah), l.length ≤ n ∧ ∃ r', frame_listapi_Dot k (n : Int) r = some (l, r') ∧ r'.rest.length ≤ r.rest.length := by
  have hlp := Zc0 (body := fun s : Zag × List (Zah) × Int => frame_listapi_Dot.b1 k (n : Int) s.1 s.2.1 s.2.2) (I := fun s => s.1.rest.length ≤ r.rest.length ∧ 0 ≤ s.2.2 ∧ s.2.2 ≤ (n : Int) ∧ (s.2.1.length : Int) ≤ s.2.2) (m := fun s => ((n : Int) - s.2.2).toNat) (fun t => (∃ l r', t = .inl (l, r') ∧ l.length ≤ n ∧ r'.rest.length ≤ r.rest.length) ∨ (∃ l r', t = .inr (l, r') ∧ l.length ≤ n ∧ r'.rest.length ≤ r.rest.length)) ?_ k (r, ([] : List (Zah)), (0 : Int)) ⟨Nat.le_refl _, Int.le_refl _, by show (0 : Int) ≤ (n : Int); omega, by show ((0 : Nat) : Int) ≤ 0; omega⟩ (by show ((n : Int) - 0).toNat < k; omega)
  · obtain ⟨t, h1, h2⟩ := hlp
    rcases h2 with ⟨l, r', rfl, h3, h4⟩ | ⟨l, r', rfl, h3, h4⟩
    · exact ⟨l, h3, r', by simp only [frame_listapi_Dot, h1, Option.bind_some], h4⟩
    · exact ⟨l, h3, r', by simp only [frame_listapi_Dot, h1, Option.bind_some], h4⟩
  · rintro ⟨r0, l, s⟩ ⟨i1, i2, i3, i4⟩
    simp only at i1 i2 i3 i4
    obtain ⟨i, rfl⟩ : ∃ i : Nat, s = i := ⟨s.toNat, by omega⟩
    by_cases hlt : i < n
    · by_cases hf : r0.is = true
      · left
        obtain ⟨d, r', e1, e2⟩ := tDot k (by omega) r0 (by omega)
        have ha : apL 16 l [d] = some (l ++ [d]) := ZdF (by show (l.length + 1) * 16 ≤ _; omega)
        simp only [frame_listapi_Dot.b1, lt1, Zbb (show (i : Int) < (n : Int) by omega), if_true, Zcc, hf, Bool.not_true, Bool.false_eq_true, if_false, Option.bind_some, e1, ha, ZaP (show i < 9223372036854775807 by omega)]
        exact ⟨_, rfl, ⟨by show r'.rest.length ≤ _; omega, by show (0 : Int) ≤ ((i + 1 : Nat) : Int); omega, by show ((i + 1 : Nat) : Int) ≤ _; omega, by show ((l ++ [d]).length : Int) ≤ ((i + 1 : Nat) : Int); rw [List.length_append]; show ((l.length + 1 : Nat) : Int) ≤ _; omega⟩, by show ((n : Int) - ((i + 1 : Nat) : Int)).toNat < ((n : Int) - (i : Int)).toNat; omega⟩
      · right
        have hf : r0.is = false := by simpa using hf
        simp only [frame_listapi_Dot.b1, lt1, Zbb (show (i : Int) < (n : Int) by omega), if_true, Zcc, hf, Bool.not_false, Option.bind_some]
        exact ⟨_, rfl, .inr ⟨_, _, rfl, by simp, i1⟩⟩
    · right
      simp only [frame_listapi_Dot.b1, lt1, ZbB (show ¬ (i : Int) < (n : Int) by omega), Bool.false_eq_true, if_false]
      exact ⟨_, rfl, .inl ⟨_, _, rfl, by omega, i1⟩⟩
theorem Zk4 (k : Nat) (hk : 70000 ≤ k) (a1 a2 a3 : Int) (a4 : Zah) (a5 : List UInt8) (a6 a7 a8 : Vector UInt64 16) (a9 : Vector UInt8 32) (a10 : Bool) (n : Nat) (hn : n ≤ 65535) (r : Zag) (h : r.rest.length ≤ 1000000) : ∃ l : List (Zal), l.length ≤ n ∧ ∃ r', frame_listapi_Item k (n : Int) r a1 a2 a3 a4 a5 a6 a7 a8 a9 a10 = some (l, r') ∧ r'.rest.length ≤ r.rest.length := by
  have hlp := Zc0 (body := fun s : Zag × List (Zal) × Int => frame_listapi_Item.b1 k (n : Int) a1 a2 a3 a4 a5 a6 a7 a8 a9 a10 s.1 s.2.1 s.2.2) (I := fun s => s.1.rest.length ≤ r.rest.length ∧ 0 ≤ s.2.2 ∧ s.2.2 ≤ (n : Int) ∧ (s.2.1.length : Int) ≤ s.2.2) (m := fun s => ((n : Int) - s.2.2).toNat) (fun t => (∃ l r', t = .inl (l, r') ∧ l.length ≤ n ∧ r'.rest.length ≤ r.rest.length) ∨ (∃ l r', t = .inr (l, r') ∧ l.length ≤ n ∧ r'.rest.length ≤ r.rest.length)) ?_ k (r, ([] : List (Zal)), (0 : Int)) ⟨Nat.le_refl _, Int.le_refl _, by show (0 : Int) ≤ (n : Int); omega, by show ((0 : Nat) : Int) ≤ 0; omega⟩ (by show ((n : Int) - 0).toNat < k; omega)
  · obtain ⟨t, h1, h2⟩ := hlp
    rcases h2 with ⟨l, r', rfl, h3, h4⟩ | ⟨l, r', rfl, h3, h4⟩
    · exact ⟨l, h3, r', by simp only [frame_listapi_Item, h1, Option.bind_some], h4⟩
    · exact ⟨l, h3, r', by simp only [frame_listapi_Item, h1, Option.bind_some], h4⟩
  · rintro ⟨r0, l, s⟩ ⟨i1, i2, i3, i4⟩
    simp only at i1 i2 i3 i4
    obtain ⟨i, rfl⟩ : ∃ i : Nat, s = i := ⟨s.toNat, by omega⟩
    by_cases hlt : i < n
    · by_cases hf : r0.is = true
      · left
        obtain ⟨d, r', e1, e2⟩ := ZoL k (by omega) a1 a2 a3 a4 a5 a6 a7 a8 a9 a10 r0 (by omega)
        have ha : apL 56 l [d] = some (l ++ [d]) := ZdF (by show (l.length + 1) * 56 ≤ _; omega)
        simp only [frame_listapi_Item.b1, lt1, Zbb (show (i : Int) < (n : Int) by omega), if_true, Zcc, hf, Bool.not_true, Bool.false_eq_true, if_false, Option.bind_some, e1, ha, ZaP (show i < 9223372036854775807 by omega)]
        exact ⟨_, rfl, ⟨by show r'.rest.length ≤ _; omega, by show (0 : Int) ≤ ((i + 1 : Nat) : Int); omega, by show ((i + 1 : Nat) : Int) ≤ _; omega, by show ((l ++ [d]).length : Int) ≤ ((i + 1 : Nat) : Int); rw [List.length_append]; show ((l.length + 1 : Nat) : Int) ≤ _; omega⟩, by show ((n : Int) - ((i + 1 : Nat) : Int)).toNat < ((n : Int) - (i : Int)).toNat; omega⟩
      · right
        have hf : r0.is = false := by simpa using hf
        simp only [frame_listapi_Item.b1, lt1, Zbb (show (i : Int) < (n : Int) by omega), if_true, Zcc, hf, Bool.not_false, Option.bind_some]
        exact ⟨_, rfl, .inr ⟨_, _, rfl, by simp, i1⟩⟩
    · right
      simp only [frame_listapi_Item.b1, lt1, ZbB (show ¬ (i : Int) < (n : Int) by omega), Bool.false_eq_true, if_false]
      exact ⟨_, rfl, .inl ⟨_, _, rfl, by omega, i1⟩⟩
theorem ZjN (k : Nat) (hk : 70000 ≤ k) (a1 a2 a3 : Int) (a4 : Zah) (a5 : List UInt8) (a6 a7 a8 : Vector UInt64 16) (a9 : Vector UInt8 32) (a10 : Bool) (x : List Int) (n : Nat) (hn : n ≤ 65535) (r : Zag) (h : r.rest.length ≤ 1000000) : ∃ l : List (Zal), l.length ≤ n ∧ ∃ r', frame_listapi_Item'2 k (n : Int) r a1 a2 a3 a4 a5 a6 a7 a8 a9 a10 x = some (l, r') ∧ r'.rest.length ≤ r.rest.length := by
  have hlp := Zc0 (body := fun s : Zag × List (Zal) × Int => frame_listapi_Item'2.b1 k (n : Int) a1 a2 a3 a4 a5 a6 a7 a8 a9 a10 x s.1 s.2.1 s.2.2) (I := fun s => s.1.rest.length ≤ r.rest.length ∧ 0 ≤ s.2.2 ∧ s.2.2 ≤ (n : Int) ∧ (s.2.1.length : Int) ≤ s.2.2) (m := fun s => ((n : Int) - s.2.2).toNat) (fun t => (∃ l r', t = .inl (l, r') ∧ l.length ≤ n ∧ r'.rest.length ≤ r.rest.length) ∨ (∃ l r', t = .inr (l, r') ∧ l.length ≤ n ∧ r'.rest.length ≤ r.rest.length)) ?_ k (r, ([] : List (Zal)), (0 : Int)) ⟨Nat.le_refl _, Int.le_refl _, by show (0 : Int) ≤ (n : Int); omega, by show ((0 : Nat) : Int) ≤ 0; omega⟩ (by show ((n : Int) - 0).toNat < k; omega)
  · obtain ⟨t, h1, h2⟩ := hlp
    rcases h2 with ⟨l, r', rfl, h3, h4⟩ | ⟨l, r', rfl, h3, h4⟩
    · exact ⟨l, h3, r', by simp only [frame_listapi_Item'2, h1, Option.bind_some], h4⟩
    · exact ⟨l, h3, r', by simp only [frame_listapi_Item'2, h1, Option.bind_some], h4⟩
  · rintro ⟨r0, l, s⟩ ⟨i1, i2, i3, i4⟩
    simp only at i1 i2 i3 i4
    obtain ⟨i, rfl⟩ : ∃ i : Nat, s = i := ⟨s.toNat, by omega⟩
    by_cases hlt : i < n
    · by_cases hf : r0.is = true
      · left
        obtain ⟨d, r', e1, e2⟩ := ZnK k (by omega) a1 a2 a3 a4 a5 a6 a7 a8 a9 a10 x r0 (by omega)
        have ha : apL 56 l [d] = some (l ++ [d]) := ZdF (by show (l.length + 1) * 56 ≤ _; omega)
        simp only [frame_listapi_Item'2.b1, lt1, Zbb (show (i : Int) < (n : Int) by omega), if_true, Zcc, hf, Bool.not_true, Bool.false_eq_true, if_false, Option.bind_some, e1, ha, ZaP (show i < 9223372036854775807 by omega)]
        exact ⟨_, rfl, ⟨by show r'.rest.length ≤ _; omega, by show (0 : Int) ≤ ((i + 1 : Nat) : Int); omega, by show ((i + 1 : Nat) : Int) ≤ _; omega, by show ((l ++ [d]).length : Int) ≤ ((i + 1 : Nat) : Int); rw [List.length_append]; show ((l.length + 1 : Nat) : Int) ≤ _; omega⟩, by show ((n : Int) - ((i + 1 : Nat) : Int)).toNat < ((n : Int) - (i : Int)).toNat; omega⟩
      · right
        have hf : r0.is = false := by simpa using hf
        simp only [frame_listapi_Item'2.b1, lt1, Zbb (show (i : Int) < (n : Int) by omega), if_true, Zcc, hf, Bool.not_false, Option.bind_some]
        exact ⟨_, rfl, .inr ⟨_, _, rfl, by simp, i1⟩⟩
    · right
      simp only [frame_listapi_Item'2.b1, lt1, ZbB (show ¬ (i : Int) < (n : Int) by omega), Bool.false_eq_true, if_false]
      exact ⟨_, rfl, .inl ⟨_, _, rfl, by omega, i1⟩⟩
theorem Zmy (k : Nat) (hk : 70000 ≤ k) (a1 a2 a3 : Int) (a4 : Zah) (a5 : List UInt8) (a6 a7 a8 : Vector UInt64 16) (a9 : Vector UInt8 32) (a10 : Bool) (n : Nat) (hn : n ≤ 65535) (r : Zag) (h : r.rest.length ≤ 1000000) : ∃ l : List (Int), l.length ≤ n ∧ ∃ r', frame_listint k (n : Int) r a1 a2 a3 a4 a5 a6 a7 a8 a9 a10 = some (l, r') ∧ r'.rest.length ≤ r.rest.length := by
  have hlp := Zc0 (body := fun s : Zag × List (Int) × Int => frame_listint.b1 k (n : Int) a1 a2 a3 a4 a5 a6 a7 a8 a9 a10 s.1 s.2.1 s.2.2) (I := fun s => s.1.rest.length ≤ r.rest.length ∧ 0 ≤ s.2.2 ∧ s.2.2 ≤ (n : Int) ∧ (s.2.1.length : Int) ≤ s.2.2) (m := fun s => ((n : Int) - s.2.2).toNat) (fun t => (∃ l r', t = .inl (l, r') ∧ l.length ≤ n ∧ r'.rest.length ≤ r.rest.length) ∨ (∃ l r', t = .inr (l, r') ∧ l.length ≤ n ∧ r'.rest.length ≤ r.rest.length)) ?_ k (r, ([] : List (Int)), (0 : Int)) ⟨Nat.le_refl _, Int.le_refl _, by show (0 : Int) ≤ (n : Int); omega, by show ((0 : Nat) : Int) ≤ 0; omega⟩ (by show ((n : Int) - 0).toNat < k; omega)
  · obtain ⟨t, h1, h2⟩ := hlp
    rcases h2 with ⟨l, r', rfl, h3, h4⟩ | ⟨l, r', rfl, h3, h4⟩
    · exact ⟨l, h3, r', by simp only [frame_listint, h1, Option.bind_some], h4⟩
    · exact ⟨l, h3, r', by simp only [frame_listint, h1, Option.bind_some], h4⟩
  · rintro ⟨r0, l, s⟩ ⟨i1, i2, i3, i4⟩
    simp only at i1 i2 i3 i4
    obtain ⟨i, rfl⟩ : ∃ i : Nat, s = i := ⟨s.toNat, by omega⟩
    by_cases hlt : i < n
    · by_cases hf : r0.is = true
      · left
        obtain ⟨d, r', e1, e2⟩ := Znv k (by omega) a1 a2 a3 a4 a5 a6 a7 a8 a9 a10 r0 (by omega)
        have ha : apL 8 l [d] = some (l ++ [d]) := ZdF (by show (l.length + 1) * 8 ≤ _; omega)
        simp only [frame_listint.b1, lt1, Zbb (show (i : Int) < (n : Int) by omega), if_true, Zcc, hf, Bool.not_true, Bool.false_eq_true, if_false, Option.bind_some, e1, ha, ZaP (show i < 9223372036854775807 by omega)]
        exact ⟨_, rfl, ⟨by show r'.rest.length ≤ _; omega, by show (0 : Int) ≤ ((i + 1 : Nat) : Int); omega, by show ((i + 1 : Nat) : Int) ≤ _; omega, by show ((l ++ [d]).length : Int) ≤ ((i + 1 : Nat) : Int); rw [List.length_append]; show ((l.length + 1 : Nat) : Int) ≤ _; omega⟩, by show ((n : Int) - ((i + 1 : Nat) : Int)).toNat < ((n : Int) - (i : Int)).toNat; omega⟩
      · right
        have hf : r0.is = false := by simpa using hf
        simp only [frame_listint.b1, lt1, Zbb (show (i : Int) < (n : Int) by omega), if_true, Zcc, hf, Bool.not_false, Option.bind_some]
        exact ⟨_, rfl, .inr ⟨_, _, rfl, by simp, i1⟩⟩
    · right
      simp only [frame_listint.b1, lt1, ZbB (show ¬ (i : Int) < (n : Int) by omega), Bool.false_eq_true, if_false]
      exact ⟨_, rfl, .inl ⟨_, _, rfl, by omega, i1⟩⟩
theorem ZlE (k : Nat) (hk : 70000 ≤ k) (a1 a2 a3 : Int) (a4 : Zah) (a5 : List UInt8) (a6 a7 a8 : Vector UInt64 16) (a9 : Vector UInt8 32) (a10 : Bool) (n : Nat) (hn : n ≤ 65535) (r : Zag) (h : r.rest.length ≤ 1000000) : ∃ l : List (Vector UInt8 32), l.length ≤ n ∧ ∃ r', frame_listapi_Hash k (n : Int) r a1 a2 a3 a4 a5 a6 a7 a8 a9 a10 = some (l, r') ∧ r'.rest.length ≤ r.rest.length := by
  have hlp := Zc0 (body := fun s : Zag × List (Vector UInt8 32) × Int => frame_listapi_Hash.b1 k (n : Int) a1 a2 a3 a4 a5 a6 a7 a8 a9 a10 s.1 s.2.1 s.2.2) (I := fun s => s.1.rest.length ≤ r.rest.length ∧ 0 ≤ s.2.2 ∧ s.2.2 ≤ (n : Int) ∧ (s.2.1.length : Int) ≤ s.2.2) (m := fun s => ((n : Int) - s.2.2).toNat) (fun t => (∃ l r', t = .inl (l, r') ∧ l.length ≤ n ∧ r'.rest.length ≤ r.rest.length) ∨ (∃ l r', t = .inr (l, r') ∧ l.length ≤ n ∧ r'.rest.length ≤ r.rest.length)) ?_ k (r, ([] : List (Vector UInt8 32)), (0 : Int)) ⟨Nat.le_refl _, Int.le_refl _, by show (0 : Int) ≤ (n : Int); omega, by show ((0 : Nat) : Int) ≤ 0; omega⟩ (by show ((n : Int) - 0).toNat < k; omega)
  · obtain ⟨t, h1, h2⟩ := hlp
    rcases h2 with ⟨l, r', rfl, h3, h4⟩ | ⟨l, r', rfl, h3, h4⟩
    · exact ⟨l, h3, r', by simp only [frame_listapi_Hash, h1, Option.bind_some], h4⟩
    · exact ⟨l, h3, r', by simp only [frame_listapi_Hash, h1, Option.bind_some], h4⟩
  · rintro ⟨r0, l, s⟩ ⟨i1, i2, i3, i4⟩
    simp only at i1 i2 i3 i4
    obtain ⟨i, rfl⟩ : ∃ i : Nat, s = i := ⟨s.toNat, by omega⟩
    by_cases hlt : i < n
    · by_cases hf : r0.is = true
      · left
        obtain ⟨d, r', e1, e2⟩ := Zom k a1 a2 a3 a4 a5 a6 a7 a8 a9 a10 r0
        have ha : apL 32 l [d] = some (l ++ [d]) := ZdF (by show (l.length + 1) * 32 ≤ _; omega)
        simp only [frame_listapi_Hash.b1, lt1, Zbb (show (i : Int) < (n : Int) by omega), if_true, Zcc, hf, Bool.not_true, Bool.false_eq_true, if_false, Option.bind_some, e1, ha, ZaP (show i < 9223372036854775807 by omega)]
        exact ⟨_, rfl, ⟨by show r'.rest.length ≤ _; omega, by show (0 : Int) ≤ ((i + 1 : Nat) : Int); omega, by show ((i + 1 : Nat) : Int) ≤ _; omega, by show ((l ++ [d]).length : Int) ≤ ((i + 1 : Nat) : Int); rw [List.length_append]; show ((l.length + 1 : Nat) : Int) ≤ _; omega⟩, by show ((n : Int) - ((i + 1 : Nat) : Int)).toNat < ((n : Int) - (i : Int)).toNat; omega⟩
      · right
        have hf : r0.is = false := by simpa using hf
        simp only [frame_listapi_Hash.b1, lt1, Zbb (show (i : Int) < (n : Int) by omega), if_true, Zcc, hf, Bool.not_false, Option.bind_some]
        exact ⟨_, rfl, .inr ⟨_, _, rfl, by simp, i1⟩⟩
    · right
      simp only [frame_listapi_Hash.b1, lt1, ZbB (show ¬ (i : Int) < (n : Int) by omega), Bool.false_eq_true, if_false]
      exact ⟨_, rfl, .inl ⟨_, _, rfl, by omega, i1⟩⟩
def zf (n a b : Int) : Zai := Zai.mk n a b ([] : (List Zal)) (Zaq.mk (Zah.mk (0 : Int) (0 : UInt64)) ([] : (List UInt8)) ([] : (List UInt8)) (Vector.replicate 16 (0 : UInt64)) ([] : (List ZaA))) (Vector.replicate 16 (0 : UInt64)) (Vector.replicate 16 (0 : UInt64)) ([] : (List Zah)) ([] : (List Zah)) (Vector.replicate 32 (0 : UInt8)) ([] : (List (Vector UInt8 32))) ([] : (List Int)) false
theorem ZnM (k : Nat) : Zbq k ([] : List UInt8) = some (zf 0 0 0, 4) := by
  have h1 : apL 1 ([] : List UInt8) ([] : List UInt8) = some [] := ZdF (by decide)
  have r : ZcA k ([] : List UInt8) = some [] := by simp only [ZcA, ZbW, h1, Option.bind_some]
  have h2 : (decide ((1 : Int) < 1)) = false := by decide
  have h3 : (decide ((1 : Int) > 8)) = false := by decide
  have t1 : Zbp k 1 true true ([] : List UInt8) = some ([], false, [], false, true) := by simp [Zbp, ZbZ, lt1]
  have n1 : ZaV k (1 : Int) true true ([] : (List UInt8)) = some ((0 : UInt64), (Zag.mk ([] : (List UInt8)) false true)) := by
    simp only [ZaV, lt1, h2, h3, cond_false, Option.bind_some, Bool.false_eq_true, if_false, t1, get0]
  have t2 : ZaW k 1 (Zag.mk ([] : (List UInt8)) false true) = some ([], false, Zag.mk ([] : (List UInt8)) false true) := by simp [ZaW, ZaH, lt1]
  have n2 : Zay k (1 : Int) (Zag.mk ([] : (List UInt8)) false true) = some ((0 : UInt64), (Zag.mk ([] : (List UInt8)) false true)) := by
    simp only [Zay, lt1, h2, h3, cond_false, Option.bind_some, Bool.false_eq_true, if_false, t2, get0]
  have hw : w64 (UN.toN (0 : UInt64) : Int) = 0 := ZdI (by decide) (by decide)
  have hM : frame_May k (zf 0 0 0) = some false := by simp [frame_May, lt1, zf]
  have hM' := hM
  unfold zf at hM'
  have hg : ZeS (some ([((1 : Int), (Zaf.mk (some 92 : Option Nat) (some 93 : Option Nat))), ((2 : Int), (Zaf.mk (some 94 : Option Nat) (some 95 : Option Nat))), ((3 : Int), (Zaf.mk (some 96 : Option Nat) (some 97 : Option Nat))), ((4 : Int), (Zaf.mk (some 98 : Option Nat) (some 99 : Option Nat))), ((5 : Int), (Zaf.mk (some 100 : Option Nat) (some 101 : Option Nat))), ((6 : Int), (Zaf.mk (some 102 : Option Nat) (some 103 : Option Nat))), ((7 : Int), (Zaf.mk (some 104 : Option Nat) (some 105 : Option Nat)))] : (List (Int × Zaf)))) (0 : Int) (Zaf.mk (none : Option Nat) (none : Option Nat)) = some ((Zaf.mk (none : Option Nat) (none : Option Nat)), false) := rfl
  simp only [Zbq, r, n1, n2, hw, lt1, Option.bind_some, Zcl, hg, Bool.false_eq_true, if_false, hM', Bool.not_false, if_true]
  rfl
def F3 : Zai := Zai.mk (3 : Int) (1 : Int) (2 : Int) ([] : (List Zal)) (Zaq.mk (Zah.mk (0 : Int) (0 : UInt64)) ([] : (List UInt8)) ([] : (List UInt8)) (Vector.replicate 16 (0 : UInt64)) ([] : (List ZaA))) (Vector.replicate 16 (0 : UInt64)) (Vector.replicate 16 (0 : UInt64)) ([] : (List Zah)) ([] : (List Zah)) (Vector.replicate 32 (0 : UInt8)) ([] : (List (Vector UInt8 32))) ([] : (List Int)) false
theorem ZmO : Zem F3 := by unfold Zem F3; simp
theorem may3 : mayF F3 := by
  refine ⟨by decide, by unfold Zjj F3; simp [Zij], ?_⟩
  show Zf2 (Vector.replicate 16 0)
  intro i hi
  simp
theorem Zmo (k : Nat) (hk : 600000 ≤ k) : ZdG k = some true := by
  have hv : (vecB (Vector.replicate 16 (0 : UInt64)) 16).length = 128 := Zde _ 16 (by omega)
  obtain ⟨t, ht, hl⟩ : ∃ t, Zb1 F3 = [3, 1, 2] ++ t ∧ t.length = 132 := ⟨vecB (Vector.replicate 16 (0 : UInt64)) 16 ++ put (Crc.csum (Zcs F3)).toNat 4, by
    show ([ZcQ 3, ZcQ 1, ZcQ 2] ++ vecB (Vector.replicate 16 (0 : UInt64)) 16) ++ put (Crc.csum (Zcs F3)).toNat 4 = _
    rw [List.append_assoc]; rfl, by rw [List.length_append, Zax, hv]⟩
  have hM : frame_May k F3 = some true := by rw [Zfp k (by omega) F3 ZmO, decide_eq_true may3]
  have hB : ZcP k F3 = some ([3, 1, 2] ++ t, 0) := by
    simp only [ZcP, hM, lt1, Option.bind_some, Bool.not_true, Bool.false_eq_true, if_false, Zd9 k hk F3 may3 ZmO, ht]
  have hB' := hB
  unfold F3 at hB'
  have hnum : ∀ v, Zc5 k v = some () := fun _ => rfl
  have hlen : (((([3, 1, 2] : List UInt8) ++ t).length : Int) == 135) = true := by rw [beq_iff_eq, List.length_append, hl]; rfl
  have i0 : inO (([3, 1, 2] : List UInt8) ++ t) (0 : Int) = some 0 := Zkt (by omega) (by rw [List.length_append]; simp; omega)
  have i1 : inO (([3, 1, 2] : List UInt8) ++ t) (1 : Int) = some 1 := Zkt (by omega) (by rw [List.length_append]; simp; omega)
  have i2 : inO (([3, 1, 2] : List UInt8) ++ t) (2 : Int) = some 2 := Zkt (by omega) (by rw [List.length_append]; simp; omega)
  have g0 : (([3, 1, 2] : List UInt8) ++ t)[0]? = some 3 := rfl
  have g1 : (([3, 1, 2] : List UInt8) ++ t)[1]? = some 1 := rfl
  have g2 : (([3, 1, 2] : List UInt8) ++ t)[2]? = some 2 := rfl
  have hsame : ∀ (a : Int) (i : List Zal) (e : Zaq) (p s : Vector UInt64 16) (x l : List Zah) (h : Vector UInt8 32) (v : List (Vector UInt8 32)) (bu : List Int) (rp : Bool), frame_May k (Zai.mk a (1 : Int) (1 : Int) i e p s x l h v bu rp) = some false := fun a i e p s x l h v bu rp => by simp [frame_May, lt1]
  simp only [ZdG, hB', Option.bind_some, ZnM, hnum, lt1, beq_self_eq_true, if_true, hlen, i0, i1, i2, g0, g1, g2, hsame, Bool.not_false, cond_true, show Zf5 k 7 = some ([105, 116, 101, 109, 115] : List UInt8) from rfl]
theorem Zpk (k : Nat) (hk : 9 ≤ k) (b : List UInt8) (h : b.length ≤ 1000000) : ∃ d r', ZbQ k true true b = some (d, r') ∧ r'.rest.length ≤ b.length := by
  have h1 := Zkb k 9 true true b
  have h2 := ZhZ ⟨b, true, true⟩ 9
  have h3 := ZeT ⟨b, true, true⟩ 9
  simp only at h2 h3
  obtain ⟨x, r2, h4, h5, h6⟩ := Znd k hk (Zd1 ⟨b, true, true⟩ 9).1 (by omega)
  obtain ⟨y, r3, h7, h8⟩ := Znn k hk r2 (by omega)
  exact ⟨_, _, by simp only [ZbQ, h1, Option.bind_some, ZdV k _ (show (Zd1 ⟨b, true, true⟩ 9).1.length ≤ 10000000 by omega), h4, lt1, h7]; rfl, h3⟩
theorem tTo (k : Nat) (hk : 70000 ≤ k) (n : Nat) (hn : n ≤ 65535) (r : Zag) (h : r.rest.length ≤ 1000000) : ∃ (l : List ZaA) (r' : Zag), l.length ≤ 65535 ∧ Zbc (fun s => event_Of.b1 k (n : Int) s.1 s.2.1 s.2.2) k (r, ([] : (List ZaA)), (0 : Int)) = some (r', l) := by
  have hlp := Zc0 (body := fun s : Zag × List ZaA × Int => event_Of.b1 k (n : Int) s.1 s.2.1 s.2.2) (I := fun s => s.1.rest.length ≤ r.rest.length ∧ 0 ≤ s.2.2 ∧ s.2.2 ≤ (n : Int) ∧ (s.2.1.length : Int) ≤ s.2.2) (m := fun s => ((n : Int) - s.2.2).toNat) (fun t => t.2.length ≤ 65535) ?_ k (r, ([] : (List ZaA)), (0 : Int)) ⟨Nat.le_refl _, Int.le_refl _, by show (0 : Int) ≤ (n : Int); omega, by show ((0 : Nat) : Int) ≤ 0; omega⟩ (by show ((n : Int) - 0).toNat < k; omega)
  · obtain ⟨⟨r', l⟩, h1, h2⟩ := hlp
    exact ⟨l, r', h2, h1⟩
  · rintro ⟨r0, l, s⟩ ⟨i1, i2, i3, i4⟩
    simp only at i1 i2 i3 i4
    obtain ⟨i, rfl⟩ : ∃ i : Nat, s = i := ⟨s.toNat, by omega⟩
    by_cases hlt : i < n
    · left
      obtain ⟨d, r1, e1, e2⟩ := tDot k (by omega) r0 (by omega)
      obtain ⟨u, r2, e3, _, e4⟩ := ZjA k (by omega) r1 (by omega)
      have ha : apL 32 l [ZaA.mk d u] = some (l ++ [ZaA.mk d u]) := ZdF (by show (l.length + 1) * 32 ≤ _; omega)
      simp only [event_Of.b1, lt1, Zbb (show (i : Int) < (n : Int) by omega), if_true, Option.bind_some, e1, e3, ha, ZaP (show i < 9223372036854775807 by omega)]
      exact ⟨_, rfl, ⟨by show r2.rest.length ≤ _; omega, by show (0 : Int) ≤ ((i + 1 : Nat) : Int); omega, by show ((i + 1 : Nat) : Int) ≤ _; omega, by show ((l ++ [ZaA.mk d u]).length : Int) ≤ ((i + 1 : Nat) : Int); rw [List.length_append]; show ((l.length + 1 : Nat) : Int) ≤ _; omega⟩, by show ((n : Int) - ((i + 1 : Nat) : Int)).toNat < ((n : Int) - (i : Int)).toNat; omega⟩
    · right
      simp only [event_Of.b1, lt1, ZbB (show ¬ (i : Int) < (n : Int) by omega), Bool.false_eq_true, if_false]
      exact ⟨_, rfl, by show l.length ≤ _; omega⟩
theorem tEnd (k : Nat) (r : Zag) : ∃ e, Zcd k r = some e := by
  simp only [Zcd, lt1, Zcc, Option.bind_some]
  by_cases h1 : r.made = true
  · by_cases h2 : (bif !r.is then true else decide ((r.rest.length : Int) > 0)) = true
    · exact ⟨4, by rw [h1, h2]; rfl⟩
    · have h2 : (bif !r.is then true else decide ((r.rest.length : Int) > 0)) = false := by simpa using h2
      exact ⟨0, by rw [h1, h2]; rfl⟩
  · have h1 : r.made = false := by simpa using h1
    exact ⟨1, by rw [h1]; rfl⟩
theorem Zn2 (k : Nat) (hk : 100000 ≤ k) (b : List UInt8) (hb : b.length ≤ 1000000) : ∃ e x, event_Of k b = some (e, x) ∧ (e = Zij ∨ may e) := by
  obtain ⟨d, r1, h1, l1⟩ := Zpk k (by omega) b hb
  obtain ⟨u, r2, h2, _, l2⟩ := ZjA k (by omega) r1 (by omega)
  obtain ⟨v, r3, h3, _, l3⟩ := ZjA k (by omega) r2 (by omega)
  obtain ⟨w, r4, h4, l4⟩ := tVec k (by omega) r3 (by omega)
  obtain ⟨x, r5, h5, hx, l5⟩ := tNum k (by omega) r4 (by omega) 2 (by omega) (by omega) 2 rfl
  obtain ⟨n, hn, hmin⟩ : ∃ n : Nat, n ≤ 65535 ∧ ∃ y, Zb3 k r5 = some y ∧ minI (w64 (UN.toN x : Int)) y = (n : Int) := by
    have hxx := toU (show x.toNat < 9223372036854775807 by omega)
    rw [hxx]
    simp only [Zb3, Zcc, Option.bind_some]
    cases r5.is
    · exact ⟨0, by omega, 0, rfl, by unfold minI; split <;> omega⟩
    · exact ⟨min x.toNat r5.rest.length, by omega, _, rfl, by unfold minI; split <;> omega⟩
  obtain ⟨y, h6, h7⟩ := hmin
  obtain ⟨l, r6, hl, h8⟩ := tTo k (by omega) n hn r5 (by omega)
  obtain ⟨e, h9⟩ := tEnd k r6
  simp only [event_Of, ZdV k b (by omega), h1, h2, h3, h4, h5, h6, h7, h8, h9, lt1, Option.bind_some]
  by_cases he : (e != 0) = true
  · exact ⟨_, _, by rw [he]; rfl, .inl rfl⟩
  · have he : (e != 0) = false := by simpa using he
    have hm := Zfe k hk (Zaq.mk d u v w l) (by show l.length ≤ 70000; omega)
    simp only [he, Bool.false_eq_true, if_false, hm, Option.bind_some]
    by_cases hmy : may (Zaq.mk d u v w l)
    · have hlen := ZeU hmy
      simp only [decide_eq_true hmy, Bool.not_true, Bool.false_eq_true, if_false, ZeG k hk _ hmy, Zh6 k (Zcy (Zaq.mk d u v w l)) b (by omega) (by omega), Option.bind_some]
      by_cases hq : Zcy (Zaq.mk d u v w l) = b
      · exact ⟨_, _, by rw [decide_eq_true hq]; rfl, .inr hmy⟩
      · exact ⟨_, _, by rw [decide_eq_false hq]; rfl, .inl rfl⟩
    · exact ⟨_, _, by rw [decide_eq_false hmy]; rfl, .inl rfl⟩
theorem ZjK {e : Zaq} (h : e = Zij ∨ may e) : e.Topic.length ≤ 300 ∧ e.Payload.length ≤ 3000 ∧ e.To.length ≤ 3000 := by
  rcases h with rfl | h
  · simp [Zij]
  · obtain ⟨⟨_, _, _, h4, h5, h6⟩, _⟩ := h
    have := h4.2
    exact ⟨by omega, by omega, by omega⟩
theorem Zhr (k : Nat) (hk : 600000 ≤ k) (b : List UInt8) (f z : Zai) (hs : Zem f) : ∃ g e, (Option.bind (Option.bind (frame_May k f) fun v_58 => if (!v_58) = true then some true else Option.bind (Zcp k f) fun v_60 => Option.bind (slices_Equalbyte_byte k v_60 b) fun v_63 => some (!v_63)) fun x_65 => if x_65 = true then some (z, (4 : Int)) else some (f, (0 : Int))) = some (g, e) ∧ (e = 4 ∨ e = 0 ∧ mayF g ∧ Zem g ∧ Zb1 g = b) := by
  simp only [Zfp k (by omega) f hs, Option.bind_some]
  by_cases hm : mayF f
  · have hl : (Zb1 f).length ≤ 500007 := by
      have := Zf1 hm.2.2 hs
      unfold Zb1 Zcs
      rw [List.length_append, List.length_append, Zax]; show 3 + _ + 4 ≤ _; omega
    simp only [decide_eq_true hm, Option.bind_some, Bool.not_true, Bool.false_eq_true, if_false, Zd9 k hk f hm hs, Zh6 k (Zb1 f) b (by omega) (by omega)]
    by_cases hq : Zb1 f = b
    · exact ⟨_, _, by rw [decide_eq_true hq]; rfl, .inr ⟨rfl, hm, hs, hq⟩⟩
    · exact ⟨_, _, by rw [decide_eq_false hq]; rfl, .inl rfl⟩
  · exact ⟨_, _, by rw [decide_eq_false hm]; rfl, .inl rfl⟩
theorem Zlx (n : Int) (h : ¬ (1 ≤ n ∧ n ≤ 7)) : ZeS (some ([((1 : Int), (Zaf.mk (some 92 : Option Nat) (some 93 : Option Nat))), ((2 : Int), (Zaf.mk (some 94 : Option Nat) (some 95 : Option Nat))), ((3 : Int), (Zaf.mk (some 96 : Option Nat) (some 97 : Option Nat))), ((4 : Int), (Zaf.mk (some 98 : Option Nat) (some 99 : Option Nat))), ((5 : Int), (Zaf.mk (some 100 : Option Nat) (some 101 : Option Nat))), ((6 : Int), (Zaf.mk (some 102 : Option Nat) (some 103 : Option Nat))), ((7 : Int), (Zaf.mk (some 104 : Option Nat) (some 105 : Option Nat)))] : (List (Int × Zaf)))) n (Zaf.mk (none : Option Nat) (none : Option Nat)) = some ((Zaf.mk (none : Option Nat) (none : Option Nat)), false) := by
  have h1 : ¬ n = 1 := by omega
  have h2 : ¬ n = 2 := by omega
  have h3 : ¬ n = 3 := by omega
  have h4 : ¬ n = 4 := by omega
  have h5 : ¬ n = 5 := by omega
  have h6 : ¬ n = 6 := by omega
  have h7 : ¬ n = 7 := by omega
  simp [ZeS, Zen, mget, mpos, Ne.symm h1, Ne.symm h2, Ne.symm h3, Ne.symm h4, Ne.symm h5, Ne.symm h6, Ne.symm h7, h1, h2, h3, h4, h5, h6, h7]
theorem ZiV (k : Nat) (hk : 600000 ≤ k) (b : List UInt8) (hb : b.length ≤ 1000000) : ∃ g e, Zbq k b = some (g, e) ∧ (e = 4 ∨ e = 0 ∧ mayF g ∧ Zem g ∧ Zb1 g = b) := by
  obtain ⟨x1, r1, h1, _, l1⟩ := Znd k (by omega) b hb
  obtain ⟨x2, r2, h2, _, l2⟩ := tNum k (by omega) r1 (by omega) 1 (by omega) (by omega) 1 rfl
  obtain ⟨x3, r3, h3, _, l3⟩ := tNum k (by omega) r2 (by omega) 1 (by omega) (by omega) 1 rfl
  obtain ⟨n, hn⟩ : ∃ n, w64 (UN.toN x1 : Int) = n := ⟨_, rfl⟩
  obtain ⟨p, hp⟩ : ∃ n, w64 (UN.toN x2 : Int) = n := ⟨_, rfl⟩
  obtain ⟨q, hq⟩ : ∃ n, w64 (UN.toN x3 : Int) = n := ⟨_, rfl⟩
  have l3' : r3.rest.length ≤ 1000000 := by omega
  by_cases h17 : 1 ≤ n ∧ n ≤ 7
  case neg =>
    have hg := Zlx n h17
    simp only [Zbq, ZdV k b (by omega), h1, h2, h3, hn, hp, hq, lt1, Option.bind_some, Zcl, hg, Bool.false_eq_true, if_false]
    exact Zhr k hk b _ _ (by unfold Zem; simp)
  have hc : n = 1 ∨ n = 2 ∨ n = 3 ∨ n = 4 ∨ n = 5 ∨ n = 6 ∨ n = 7 := by omega
  rcases hc with hc | hc | hc | hc | hc | hc | hc <;> subst hc
  · have hg : ZeS (some ([((1 : Int), (Zaf.mk (some 92 : Option Nat) (some 93 : Option Nat))), ((2 : Int), (Zaf.mk (some 94 : Option Nat) (some 95 : Option Nat))), ((3 : Int), (Zaf.mk (some 96 : Option Nat) (some 97 : Option Nat))), ((4 : Int), (Zaf.mk (some 98 : Option Nat) (some 99 : Option Nat))), ((5 : Int), (Zaf.mk (some 100 : Option Nat) (some 101 : Option Nat))), ((6 : Int), (Zaf.mk (some 102 : Option Nat) (some 103 : Option Nat))), ((7 : Int), (Zaf.mk (some 104 : Option Nat) (some 105 : Option Nat)))] : (List (Int × Zaf)))) (1 : Int) (Zaf.mk (none : Option Nat) (none : Option Nat)) = some ((Zaf.mk (some 92 : Option Nat) (some 93 : Option Nat)), true) := rfl
    obtain ⟨m, hm, r4, h4, l4⟩ := ZmV k (by omega) 1 p q (Zah.mk (0 : Int) (0 : UInt64)) ([] : (List UInt8)) (Vector.replicate 16 (0 : UInt64)) (Vector.replicate 16 (0 : UInt64)) (Vector.replicate 16 (0 : UInt64)) (Vector.replicate 32 (0 : UInt8)) false r3 l3'
    obtain ⟨l, hl, r5, h5, l5⟩ := Zk4 k (by omega) 1 p q (Zah.mk (0 : Int) (0 : UInt64)) ([] : (List UInt8)) (Vector.replicate 16 (0 : UInt64)) (Vector.replicate 16 (0 : UInt64)) (Vector.replicate 16 (0 : UInt64)) (Vector.replicate 32 (0 : UInt8)) false m hm r4 (by omega)
    simp only [Zbq, ZdV k b (by omega), h1, h2, h3, hn, hp, hq, lt1, Option.bind_some, Zcl, hg, if_true, Option.some.injEq, Nat.reduceEqDiff, if_false, Zcq, h4, h5]
    exact Zhr k hk b _ _ (by unfold Zem; simp; omega)
  · have hg : ZeS (some ([((1 : Int), (Zaf.mk (some 92 : Option Nat) (some 93 : Option Nat))), ((2 : Int), (Zaf.mk (some 94 : Option Nat) (some 95 : Option Nat))), ((3 : Int), (Zaf.mk (some 96 : Option Nat) (some 97 : Option Nat))), ((4 : Int), (Zaf.mk (some 98 : Option Nat) (some 99 : Option Nat))), ((5 : Int), (Zaf.mk (some 100 : Option Nat) (some 101 : Option Nat))), ((6 : Int), (Zaf.mk (some 102 : Option Nat) (some 103 : Option Nat))), ((7 : Int), (Zaf.mk (some 104 : Option Nat) (some 105 : Option Nat)))] : (List (Int × Zaf)))) (2 : Int) (Zaf.mk (none : Option Nat) (none : Option Nat)) = some ((Zaf.mk (some 94 : Option Nat) (some 95 : Option Nat)), true) := rfl
    obtain ⟨m, r4, h4, _, l4⟩ := tNum k (by omega) r3 l3' 4 (by omega) (by omega) 4 rfl
    obtain ⟨v, r5, h5, l5, _⟩ := Zk9 k (w64 (UN.toN m : Int)) r4
    obtain ⟨e, x, h6, h7⟩ := Zn2 k (by omega) v (by omega)
    have h8 := ZjK h7
    simp only [Zbq, ZdV k b (by omega), h1, h2, h3, hn, hp, hq, lt1, Option.bind_some, Zcl, hg, if_true, Option.some.injEq, Nat.reduceEqDiff, if_false, Zco, h4, h5, h6]
    exact Zhr k hk b _ _ (by unfold Zem; exact ⟨by simp, h8.1, h8.2.1, h8.2.2, by simp, by simp, by simp, by simp⟩)
  · have hg : ZeS (some ([((1 : Int), (Zaf.mk (some 92 : Option Nat) (some 93 : Option Nat))), ((2 : Int), (Zaf.mk (some 94 : Option Nat) (some 95 : Option Nat))), ((3 : Int), (Zaf.mk (some 96 : Option Nat) (some 97 : Option Nat))), ((4 : Int), (Zaf.mk (some 98 : Option Nat) (some 99 : Option Nat))), ((5 : Int), (Zaf.mk (some 100 : Option Nat) (some 101 : Option Nat))), ((6 : Int), (Zaf.mk (some 102 : Option Nat) (some 103 : Option Nat))), ((7 : Int), (Zaf.mk (some 104 : Option Nat) (some 105 : Option Nat)))] : (List (Int × Zaf)))) (3 : Int) (Zaf.mk (none : Option Nat) (none : Option Nat)) = some ((Zaf.mk (some 96 : Option Nat) (some 97 : Option Nat)), true) := rfl
    obtain ⟨v, r4, h4, l4⟩ := tVec k (by omega) r3 l3'
    simp only [Zbq, ZdV k b (by omega), h1, h2, h3, hn, hp, hq, lt1, Option.bind_some, Zcl, hg, if_true, Option.some.injEq, Nat.reduceEqDiff, if_false, ZcD, h4]
    exact Zhr k hk b _ _ (by unfold Zem; simp)
  · have hg : ZeS (some ([((1 : Int), (Zaf.mk (some 92 : Option Nat) (some 93 : Option Nat))), ((2 : Int), (Zaf.mk (some 94 : Option Nat) (some 95 : Option Nat))), ((3 : Int), (Zaf.mk (some 96 : Option Nat) (some 97 : Option Nat))), ((4 : Int), (Zaf.mk (some 98 : Option Nat) (some 99 : Option Nat))), ((5 : Int), (Zaf.mk (some 100 : Option Nat) (some 101 : Option Nat))), ((6 : Int), (Zaf.mk (some 102 : Option Nat) (some 103 : Option Nat))), ((7 : Int), (Zaf.mk (some 104 : Option Nat) (some 105 : Option Nat)))] : (List (Int × Zaf)))) (4 : Int) (Zaf.mk (none : Option Nat) (none : Option Nat)) = some ((Zaf.mk (some 98 : Option Nat) (some 99 : Option Nat)), true) := rfl
    obtain ⟨v, r4, h4, l4⟩ := tVec k (by omega) r3 l3'
    obtain ⟨m, hm, r5, h5, l5⟩ := ZmV k (by omega) 4 p q (Zah.mk (0 : Int) (0 : UInt64)) ([] : (List UInt8)) (Vector.replicate 16 (0 : UInt64)) (Vector.replicate 16 (0 : UInt64)) v (Vector.replicate 32 (0 : UInt8)) false r4 (by omega)
    obtain ⟨l, hl, r6, h6, l6⟩ := ZiJ k (by omega) m hm r5 (by omega)
    obtain ⟨m2, hm2, r7, h7, l7⟩ := Zl7 k (by omega) 4 p q (Zah.mk (0 : Int) (0 : UInt64)) ([] : (List UInt8)) (Vector.replicate 16 (0 : UInt64)) (Vector.replicate 16 (0 : UInt64)) v (Vector.replicate 32 (0 : UInt8)) false l r6 (by omega)
    obtain ⟨l2, hl2, r8, h8, l8⟩ := ZiJ k (by omega) m2 hm2 r7 (by omega)
    simp only [Zbq, ZdV k b (by omega), h1, h2, h3, hn, hp, hq, lt1, Option.bind_some, Zcl, hg, if_true, Option.some.injEq, Nat.reduceEqDiff, if_false, Zcv, ZcC, h4, h5, h6, h7, h8]
    exact Zhr k hk b _ _ (by unfold Zem; simp; omega)
  · have hg : ZeS (some ([((1 : Int), (Zaf.mk (some 92 : Option Nat) (some 93 : Option Nat))), ((2 : Int), (Zaf.mk (some 94 : Option Nat) (some 95 : Option Nat))), ((3 : Int), (Zaf.mk (some 96 : Option Nat) (some 97 : Option Nat))), ((4 : Int), (Zaf.mk (some 98 : Option Nat) (some 99 : Option Nat))), ((5 : Int), (Zaf.mk (some 100 : Option Nat) (some 101 : Option Nat))), ((6 : Int), (Zaf.mk (some 102 : Option Nat) (some 103 : Option Nat))), ((7 : Int), (Zaf.mk (some 104 : Option Nat) (some 105 : Option Nat)))] : (List (Int × Zaf)))) (5 : Int) (Zaf.mk (none : Option Nat) (none : Option Nat)) = some ((Zaf.mk (some 100 : Option Nat) (some 101 : Option Nat)), true) := rfl
    obtain ⟨v, r4, h4, l4⟩ := Zom k 5 p q (Zah.mk (0 : Int) (0 : UInt64)) ([] : (List UInt8)) (Vector.replicate 16 (0 : UInt64)) (Vector.replicate 16 (0 : UInt64)) (Vector.replicate 16 (0 : UInt64)) (Vector.replicate 32 (0 : UInt8)) false r3
    simp only [Zbq, ZdV k b (by omega), h1, h2, h3, hn, hp, hq, lt1, Option.bind_some, Zcl, hg, if_true, Option.some.injEq, Nat.reduceEqDiff, if_false, ZcG, h4]
    exact Zhr k hk b _ _ (by unfold Zem; simp)
  · have hg : ZeS (some ([((1 : Int), (Zaf.mk (some 92 : Option Nat) (some 93 : Option Nat))), ((2 : Int), (Zaf.mk (some 94 : Option Nat) (some 95 : Option Nat))), ((3 : Int), (Zaf.mk (some 96 : Option Nat) (some 97 : Option Nat))), ((4 : Int), (Zaf.mk (some 98 : Option Nat) (some 99 : Option Nat))), ((5 : Int), (Zaf.mk (some 100 : Option Nat) (some 101 : Option Nat))), ((6 : Int), (Zaf.mk (some 102 : Option Nat) (some 103 : Option Nat))), ((7 : Int), (Zaf.mk (some 104 : Option Nat) (some 105 : Option Nat)))] : (List (Int × Zaf)))) (6 : Int) (Zaf.mk (none : Option Nat) (none : Option Nat)) = some ((Zaf.mk (some 102 : Option Nat) (some 103 : Option Nat)), true) := rfl
    obtain ⟨l, hl, r5, h5, l5⟩ := ZlE k (by omega) 6 p q (Zah.mk (0 : Int) (0 : UInt64)) ([] : (List UInt8)) (Vector.replicate 16 (0 : UInt64)) (Vector.replicate 16 (0 : UInt64)) (Vector.replicate 16 (0 : UInt64)) (Vector.replicate 32 (0 : UInt8)) false 64 (by omega) r3 l3'
    simp only [Zbq, ZdV k b (by omega), h1, h2, h3, hn, hp, hq, lt1, Option.bind_some, Zcl, hg, if_true, Option.some.injEq, Nat.reduceEqDiff, if_false, Zca, show (64 : Int) = ((64 : Nat) : Int) from rfl, h5]
    exact Zhr k hk b _ _ (by unfold Zem; simp; omega)
  · have hg : ZeS (some ([((1 : Int), (Zaf.mk (some 92 : Option Nat) (some 93 : Option Nat))), ((2 : Int), (Zaf.mk (some 94 : Option Nat) (some 95 : Option Nat))), ((3 : Int), (Zaf.mk (some 96 : Option Nat) (some 97 : Option Nat))), ((4 : Int), (Zaf.mk (some 98 : Option Nat) (some 99 : Option Nat))), ((5 : Int), (Zaf.mk (some 100 : Option Nat) (some 101 : Option Nat))), ((6 : Int), (Zaf.mk (some 102 : Option Nat) (some 103 : Option Nat))), ((7 : Int), (Zaf.mk (some 104 : Option Nat) (some 105 : Option Nat)))] : (List (Int × Zaf)))) (7 : Int) (Zaf.mk (none : Option Nat) (none : Option Nat)) = some ((Zaf.mk (some 104 : Option Nat) (some 105 : Option Nat)), true) := rfl
    obtain ⟨m0, r4, h4, hm0, l4⟩ := tNum k (by omega) r3 l3' 1 (by omega) (by omega) 1 rfl
    have hm0' := toU (show m0.toNat < 9223372036854775807 by omega)
    obtain ⟨bs, hbs, r5, h5, l5⟩ := Zmy k (by omega) 7 p q (Zah.mk (0 : Int) (0 : UInt64)) ([] : (List UInt8)) (Vector.replicate 16 (0 : UInt64)) (Vector.replicate 16 (0 : UInt64)) (Vector.replicate 16 (0 : UInt64)) (Vector.replicate 32 (0 : UInt8)) false m0.toNat (by omega) r4 (by omega)
    obtain ⟨m, hm, r6, h6, l6⟩ := Zma k (by omega) 7 p q (Zah.mk (0 : Int) (0 : UInt64)) ([] : (List UInt8)) (Vector.replicate 16 (0 : UInt64)) (Vector.replicate 16 (0 : UInt64)) (Vector.replicate 16 (0 : UInt64)) (Vector.replicate 32 (0 : UInt8)) false bs r5 (by omega)
    obtain ⟨l, hl, r7, h7, l7⟩ := ZjN k (by omega) 7 p q (Zah.mk (0 : Int) (0 : UInt64)) ([] : (List UInt8)) (Vector.replicate 16 (0 : UInt64)) (Vector.replicate 16 (0 : UInt64)) (Vector.replicate 16 (0 : UInt64)) (Vector.replicate 32 (0 : UInt8)) false bs m hm r6 (by omega)
    obtain ⟨v, r8, h8, l8⟩ := tVec k (by omega) r7 (by omega)
    obtain ⟨m2, hm2, r9, h9, l9⟩ := Zl9 k (by omega) 7 p q (Zah.mk (0 : Int) (0 : UInt64)) ([] : (List UInt8)) (Vector.replicate 16 (0 : UInt64)) (Vector.replicate 16 (0 : UInt64)) v (Vector.replicate 32 (0 : UInt8)) false l bs r8 (by omega)
    obtain ⟨l2, hl2, r10, h10, l10⟩ := ZiJ k (by omega) m2 hm2 r9 (by omega)
    obtain ⟨m3, r11, h11, _, l11⟩ := tNum k (by omega) r10 (by omega) 1 (by omega) (by omega) 1 rfl
    simp only [Zbq, ZdV k b (by omega), h1, h2, h3, hn, hp, hq, lt1, Option.bind_some, Zcl, hg, if_true, Option.some.injEq, Nat.reduceEqDiff, if_false, Zb5, Zb4, Zb9, h4, hm0', h5, h6, h7, h8, h9, h10, h11]
    exact Zhr k hk b _ _ (by unfold Zem; simp; omega)
theorem ZgZ {n : Int} (h0 : 0 ≤ n) (h : n < 256) : [ZcQ n] = put n.toNat 1 := by
  have : ZcQ n = UInt8.ofNat n.toNat := by
    show UInt8.ofNat (n % ((2 ^ 8 : Nat) : Int)).toNat = _
    congr 1
    omega
  rw [this]; simp [put]
theorem Zks {f : Zai} (hK : 0 ≤ f.Kind ∧ f.Kind < 256) (h : ZjH f) (c : List UInt8) : Zcs f ++ c = put f.Kind.toNat 1 ++ (put f.From.toNat 1 ++ (put f.To.toNat 1 ++ (Ze6 f ++ c))) := by
  obtain ⟨⟨h1, h2, h3, h4⟩, _⟩ := h
  rw [← ZgZ hK.1 hK.2, ← ZgZ (by omega) (by omega), ← ZgZ (by omega) (by omega)]
  simp [Zcs]
theorem Zm7 (k : Nat) (hk : 600000 ≤ k) (f : Zai) (hK : 0 ≤ f.Kind ∧ f.Kind < 256) (h : ZjH f) (c : List UInt8) (hc : (Ze6 f ++ c).length ≤ 600000) : ZcA k (Zcs f ++ c) = some (Zcs f ++ c) ∧ ZaV k (1 : Int) true true (Zcs f ++ c) = some (UInt64.ofNat f.Kind.toNat, R (put f.From.toNat 1 ++ (put f.To.toNat 1 ++ (Ze6 f ++ c)))) ∧ Zay k (1 : Int) (R (put f.From.toNat 1 ++ (put f.To.toNat 1 ++ (Ze6 f ++ c)))) = some (UInt64.ofNat f.From.toNat, R (put f.To.toNat 1 ++ (Ze6 f ++ c))) ∧ Zay k (1 : Int) (R (put f.To.toNat 1 ++ (Ze6 f ++ c))) = some (UInt64.ofNat f.To.toNat, R (Ze6 f ++ c)) := by
  have hh := h
  obtain ⟨⟨h1, h2, h3, h4⟩, _⟩ := h
  refine ⟨?_, ?_, ?_, ?_⟩
  · refine ZdV k _ ?_
    rw [Zks hK hh]
    simp only [List.length_append, Zax] at hc ⊢; omega
  · rw [Zks hK hh]
    exact numP k (by omega) _ 1 (by omega) (by omega) (by omega) _ (by simp only [List.length_append, Zax] at hc ⊢; omega) 1 rfl
  · exact numR k (by omega) _ 1 (by omega) (by omega) (by omega) _ (by simp only [List.length_append, Zax] at hc ⊢; omega) 1 rfl
  · exact numR k (by omega) _ 1 (by omega) (by omega) (by omega) _ (by omega) 1 rfl
theorem toI' {n : Int} (h0 : 0 ≤ n) (h : n < 256) : w64 (UN.toN (UInt64.ofNat n.toNat) : Int) = n := by
  rw [toI (by omega)]; omega
theorem ZkQ {f : Zai} (h : ZhW f) : (f.Kind = 1 → f.Items ≠ []) ∧ (f.Kind = 2 → f.Event ≠ Zij) ∧ (f.Kind = 6 → f.Leaves ≠ []) ∧ (f.Kind = 7 → f.Buckets ≠ []) ∧ (f.Kind = 1 ∨ f.Kind = 2 ∨ f.Kind = 3 ∨ f.Kind = 4 ∨ f.Kind = 5 ∨ f.Kind = 6 ∨ f.Kind = 7) := by
  have hE : ¬ may Zij := fun hm => by have := hm.1.1.1; simp [Zij] at this
  unfold ZhW at h
  by_cases k1 : f.Kind = 1
  · rw [if_pos k1] at h
    exact ⟨fun _ => h.1, fun e => by omega, fun e => by omega, fun e => by omega, .inl k1⟩
  rw [if_neg k1] at h
  by_cases k2 : f.Kind = 2
  · rw [if_pos k2] at h
    exact ⟨fun e => by omega, fun _ e => hE (e ▸ h), fun e => by omega, fun e => by omega, by omega⟩
  rw [if_neg k2] at h
  by_cases k3 : f.Kind = 3
  · exact ⟨fun e => by omega, fun e => by omega, fun e => by omega, fun e => by omega, by omega⟩
  rw [if_neg k3] at h
  by_cases k4 : f.Kind = 4
  · exact ⟨fun e => by omega, fun e => by omega, fun e => by omega, fun e => by omega, by omega⟩
  rw [if_neg k4] at h
  by_cases k5 : f.Kind = 5
  · exact ⟨fun e => by omega, fun e => by omega, fun e => by omega, fun e => by omega, by omega⟩
  rw [if_neg k5] at h
  by_cases k6 : f.Kind = 6
  · rw [if_pos k6] at h
    exact ⟨fun e => by omega, fun e => by omega, fun _ e => by rw [e] at h; simp at h, fun e => by omega, by omega⟩
  rw [if_neg k6] at h
  by_cases k7 : f.Kind = 7
  · rw [if_pos k7] at h
    exact ⟨fun e => by omega, fun e => by omega, fun e => by omega, fun _ => h.2.2.1, by omega⟩
  rw [if_neg k7] at h
  exact h.elim
theorem ZoU (k : Nat) (hk : 9 ≤ k) (a1 a2 a3 : Int) (a4 : Zah) (a5 : List UInt8) (a6 a7 a8 : Vector UInt64 16) (a9 : Vector UInt8 32) (a10 : Bool) {i : Zal} (h : ZbV i) (c : List UInt8) (hc : c.length ≤ 900000) : ZbJ k a1 a2 a3 a4 a5 a6 a7 a8 a9 a10 (R (ZcL i ++ c)) = some (i, R c) := by
  obtain ⟨d, ⟨t, v⟩, g⟩ := i
  obtain ⟨hd, hk2⟩ := h
  simp only at hd hk2
  have e : ZcL ⟨d, ⟨t, v⟩, g⟩ ++ c = dotB d ++ (ZgQ g ++ ((if g = true then [] else Zbj t ++ Zbj v) ++ c)) := by
    simp only [ZcL, List.append_assoc]
  cases g
  · have hk2 : Zch t ∧ Zch v := hk2
    have n1 := hk2.1.2
    have n2 := hk2.2.2
    have hb1 : (Zbj v).length ≤ 40 := by simp [Zbj, Zax]; omega
    have hb2 : (Zbj t).length ≤ 40 := by simp [Zbj, Zax]; omega
    have e' : ZcL ⟨d, ⟨t, v⟩, false⟩ ++ c = dotB d ++ (put 0 1 ++ (Zbj t ++ (Zbj v ++ c))) := by
      rw [e]; simp only [Bool.false_eq_true, if_false, List.append_assoc]; rfl
    have h1 := dotR k hk hd (put 0 1 ++ (Zbj t ++ (Zbj v ++ c))) (by simp only [List.length_append, Zax]; omega)
    have h2 := numR k hk 0 1 (by omega) (by omega) (by omega) (Zbj t ++ (Zbj v ++ c)) (by simp only [List.length_append]; omega) 1 rfl
    have h3 := ZjJ k hk t (Zbj v ++ c) (by omega) (by simp only [List.length_append]; omega)
    have h4 := ZjJ k hk v c (by omega) (by omega)
    rw [e']
    simp only [ZbJ, h1, h2, Option.bind_some, lt1, h3, h4]
    rfl
  · have hk2 : Zbs.mk t v = ⟨[], []⟩ := hk2
    have e' : ZcL ⟨d, ⟨t, v⟩, true⟩ ++ c = dotB d ++ (put 1 1 ++ c) := by
      rw [e]; simp only [if_true, List.nil_append]; rfl
    have h1 := dotR k hk hd (put 1 1 ++ c) (by simp only [List.length_append, Zax]; omega)
    have h2 := numR k hk 1 1 (by omega) (by omega) (by omega) c (by omega) 1 rfl
    rw [e', hk2]
    simp only [ZbJ, h1, h2, Option.bind_some, lt1]
    rfl
theorem Znc (k : Nat) (hk : 9 ≤ k) (a1 a2 a3 : Int) (a4 : Zah) (a5 : List UInt8) (a6 a7 a8 : Vector UInt64 16) (a9 : Vector UInt8 32) (a10 : Bool) (w : List Int) {i : Zal} (h : ZbV i) (c : List UInt8) (hc : c.length ≤ 900000) : Zbo k a1 a2 a3 a4 a5 a6 a7 a8 a9 a10 (R (ZcL i ++ c)) w = some (i, R c) := by
  obtain ⟨d, ⟨t, v⟩, g⟩ := i
  obtain ⟨hd, hk2⟩ := h
  simp only at hd hk2
  have e : ZcL ⟨d, ⟨t, v⟩, g⟩ ++ c = dotB d ++ (ZgQ g ++ ((if g = true then [] else Zbj t ++ Zbj v) ++ c)) := by
    simp only [ZcL, List.append_assoc]
  cases g
  · have hk2 : Zch t ∧ Zch v := hk2
    have n1 := hk2.1.2
    have n2 := hk2.2.2
    have hb1 : (Zbj v).length ≤ 40 := by simp [Zbj, Zax]; omega
    have hb2 : (Zbj t).length ≤ 40 := by simp [Zbj, Zax]; omega
    have e' : ZcL ⟨d, ⟨t, v⟩, false⟩ ++ c = dotB d ++ (put 0 1 ++ (Zbj t ++ (Zbj v ++ c))) := by
      rw [e]; simp only [Bool.false_eq_true, if_false, List.append_assoc]; rfl
    have h1 := dotR k hk hd (put 0 1 ++ (Zbj t ++ (Zbj v ++ c))) (by simp only [List.length_append, Zax]; omega)
    have h2 := numR k hk 0 1 (by omega) (by omega) (by omega) (Zbj t ++ (Zbj v ++ c)) (by simp only [List.length_append]; omega) 1 rfl
    have h3 := ZjJ k hk t (Zbj v ++ c) (by omega) (by simp only [List.length_append]; omega)
    have h4 := ZjJ k hk v c (by omega) (by omega)
    rw [e']
    simp only [Zbo, h1, h2, Option.bind_some, lt1, h3, h4]
    rfl
  · have hk2 : Zbs.mk t v = ⟨[], []⟩ := hk2
    have e' : ZcL ⟨d, ⟨t, v⟩, true⟩ ++ c = dotB d ++ (put 1 1 ++ c) := by
      rw [e]; simp only [if_true, List.nil_append]; rfl
    have h1 := dotR k hk hd (put 1 1 ++ c) (by simp only [List.length_append, Zax]; omega)
    have h2 := numR k hk 1 1 (by omega) (by omega) (by omega) c (by omega) 1 rfl
    rw [e', hk2]
    simp only [Zbo, h1, h2, Option.bind_some, lt1]
    rfl
theorem Zny (k : Nat) (hk : 9 ≤ k) (a1 a2 a3 : Int) (a4 : Zah) (a5 : List UInt8) (a6 a7 a8 : Vector UInt64 16) (a9 : Vector UInt8 32) (a10 : Bool) (w : List Int) (n : Nat) (hn : n ≤ 65535) (c : List UInt8) (hc : c.length ≤ 10000000) : Zbv k a1 a2 a3 a4 a5 a6 a7 a8 a9 a10 (R (put n 2 ++ c)) w = some ((n : Int), R c) := by
  simp only [Zbv, numR k hk n 2 (by omega) (by omega) (by omega) c hc (2 : Int) rfl, Option.bind_some, lt1, toI (show n < 9223372036854775807 by omega)]
theorem Znr (k : Nat) (hk : 9 ≤ k) (a1 a2 a3 : Int) (a4 : Zah) (a5 : List UInt8) (a6 a7 a8 : Vector UInt64 16) (a9 : Vector UInt8 32) (a10 : Bool) (u : List Zal) (w : List Int) (n : Nat) (hn : n ≤ 65535) (c : List UInt8) (hc : c.length ≤ 10000000) : Zbz k a1 a2 a3 a4 a5 a6 a7 a8 a9 a10 (R (put n 2 ++ c)) u w = some ((n : Int), R c) := by
  simp only [Zbz, numR k hk n 2 (by omega) (by omega) (by omega) c hc (2 : Int) rfl, Option.bind_some, lt1, toI (show n < 9223372036854775807 by omega)]
theorem Zlu (k : Nat) (a1 a2 a3 : Int) (a4 : Zah) (a5 : List UInt8) (a6 a7 a8 : Vector UInt64 16) (a9 : Vector UInt8 32) (a10 : Bool) (l : List (Zal)) (hk : l.length + 10 < k) (hl : l.length ≤ 5000) (hm : ∀ d ∈ l, ZbV d) (c : List UInt8) (hc : c.length ≤ 500000) : frame_listapi_Item k (l.length : Int) (R (l.flatMap (ZcL) ++ c)) a1 a2 a3 a4 a5 a6 a7 a8 a9 a10 = some (l, R c) := by
  have hlp : Zbc (fun s => frame_listapi_Item.b1 k (l.length : Int) a1 a2 a3 a4 a5 a6 a7 a8 a9 a10 s.1 s.2.1 s.2.2) k (R (l.flatMap (ZcL) ++ c), ([] : (List (Zal))), (0 : Int)) = some (.inl (l, R c)) := by
    refine Zek (n := l.length) (fun i => (R ((l.drop i).flatMap (ZcL) ++ c), l.take i, ((i : Nat) : Int))) _ (by simp) ?_ ?_ (by omega)
    · intro i hi
      have hb := Zcx (ZcL) 78 (l.drop (i + 1)) fun x hx => ZgM (hm x (List.mem_of_mem_drop hx))
      rw [List.length_drop] at hb
      have hd : (l.drop i).flatMap (ZcL) ++ c = (ZcL) l[i] ++ ((l.drop (i + 1)).flatMap (ZcL) ++ c) := by
        rw [List.drop_eq_getElem_cons hi, List.flatMap_cons, List.append_assoc]
      have h1 := ZoU k (by omega) a1 a2 a3 a4 a5 a6 a7 a8 a9 a10 (hm _ (List.getElem_mem hi)) ((l.drop (i + 1)).flatMap ZcL ++ c) (by rw [List.length_append]; omega)
      rw [← hd] at h1
      have ha : apL 56 (l.take i) [l[i]] = some (l.take (i + 1)) := by
        rw [ZdF (by rw [List.length_take]; show (min i l.length + 1) * 56 ≤ _; omega), List.take_succ_eq_append_getElem hi]
      simp only [frame_listapi_Item.b1, lt1, Zbb (show (i : Int) < (l.length : Int) by omega), if_true, ZaH, Bool.not_true, Bool.false_eq_true, if_false, Option.bind_some, h1, ha, ZaP (show i < 9223372036854775807 by omega)]
    · simp only [frame_listapi_Item.b1, lt1, endB, Bool.false_eq_true, if_false]
      simp
  simp only [frame_listapi_Item, hlp, Option.bind_some]
theorem ZkG (k : Nat) (a1 a2 a3 : Int) (a4 : Zah) (a5 : List UInt8) (a6 a7 a8 : Vector UInt64 16) (a9 : Vector UInt8 32) (a10 : Bool) (w : List Int) (l : List (Zal)) (hk : l.length + 10 < k) (hl : l.length ≤ 5000) (hm : ∀ d ∈ l, ZbV d) (c : List UInt8) (hc : c.length ≤ 500000) : frame_listapi_Item'2 k (l.length : Int) (R (l.flatMap (ZcL) ++ c)) a1 a2 a3 a4 a5 a6 a7 a8 a9 a10 w = some (l, R c) := by
  have hlp : Zbc (fun s => frame_listapi_Item'2.b1 k (l.length : Int) a1 a2 a3 a4 a5 a6 a7 a8 a9 a10 w s.1 s.2.1 s.2.2) k (R (l.flatMap (ZcL) ++ c), ([] : (List (Zal))), (0 : Int)) = some (.inl (l, R c)) := by
    refine Zek (n := l.length) (fun i => (R ((l.drop i).flatMap (ZcL) ++ c), l.take i, ((i : Nat) : Int))) _ (by simp) ?_ ?_ (by omega)
    · intro i hi
      have hb := Zcx (ZcL) 78 (l.drop (i + 1)) fun x hx => ZgM (hm x (List.mem_of_mem_drop hx))
      rw [List.length_drop] at hb
      have hd : (l.drop i).flatMap (ZcL) ++ c = (ZcL) l[i] ++ ((l.drop (i + 1)).flatMap (ZcL) ++ c) := by
        rw [List.drop_eq_getElem_cons hi, List.flatMap_cons, List.append_assoc]
      have h1 := Znc k (by omega) a1 a2 a3 a4 a5 a6 a7 a8 a9 a10 w (hm _ (List.getElem_mem hi)) ((l.drop (i + 1)).flatMap ZcL ++ c) (by rw [List.length_append]; omega)
      rw [← hd] at h1
      have ha : apL 56 (l.take i) [l[i]] = some (l.take (i + 1)) := by
        rw [ZdF (by rw [List.length_take]; show (min i l.length + 1) * 56 ≤ _; omega), List.take_succ_eq_append_getElem hi]
      simp only [frame_listapi_Item'2.b1, lt1, Zbb (show (i : Int) < (l.length : Int) by omega), if_true, ZaH, Bool.not_true, Bool.false_eq_true, if_false, Option.bind_some, h1, ha, ZaP (show i < 9223372036854775807 by omega)]
    · simp only [frame_listapi_Item'2.b1, lt1, endB, Bool.false_eq_true, if_false]
      simp
  simp only [frame_listapi_Item'2, hlp, Option.bind_some]
theorem ZkV (k : Nat) (a1 a2 a3 : Int) (a4 : Zah) (a5 : List UInt8) (a6 a7 a8 : Vector UInt64 16) (a9 : Vector UInt8 32) (a10 : Bool) (l : List (Vector UInt8 32)) (hk : l.length + 10 < k) (hl : l.length ≤ 5000) (c : List UInt8) (hc : c.length ≤ 500000) : frame_listapi_Hash k (l.length : Int) (R (l.flatMap (fun h : Vector UInt8 32 => h.toList) ++ c)) a1 a2 a3 a4 a5 a6 a7 a8 a9 a10 = some (l, R c) := by
  have hlp : Zbc (fun s => frame_listapi_Hash.b1 k (l.length : Int) a1 a2 a3 a4 a5 a6 a7 a8 a9 a10 s.1 s.2.1 s.2.2) k (R (l.flatMap (fun h : Vector UInt8 32 => h.toList) ++ c), ([] : (List (Vector UInt8 32))), (0 : Int)) = some (.inl (l, R c)) := by
    refine Zek (n := l.length) (fun i => (R ((l.drop i).flatMap (fun h : Vector UInt8 32 => h.toList) ++ c), l.take i, ((i : Nat) : Int))) _ (by simp) ?_ ?_ (by omega)
    · intro i hi
      have hb := Zcx (fun h : Vector UInt8 32 => h.toList) 32 (l.drop (i + 1)) fun x hx => by simp
      rw [List.length_drop] at hb
      have hd : (l.drop i).flatMap (fun h : Vector UInt8 32 => h.toList) ++ c = (fun h : Vector UInt8 32 => h.toList) l[i] ++ ((l.drop (i + 1)).flatMap (fun h : Vector UInt8 32 => h.toList) ++ c) := by
        rw [List.drop_eq_getElem_cons hi, List.flatMap_cons, List.append_assoc]
      have h1 := ZoA k a1 a2 a3 a4 a5 a6 a7 a8 a9 a10 l[i] ((l.drop (i + 1)).flatMap (fun h : Vector UInt8 32 => h.toList) ++ c) (by rw [List.length_append]; omega)
      rw [← hd] at h1
      have ha : apL 32 (l.take i) [l[i]] = some (l.take (i + 1)) := by
        rw [ZdF (by rw [List.length_take]; show (min i l.length + 1) * 32 ≤ _; omega), List.take_succ_eq_append_getElem hi]
      simp only [frame_listapi_Hash.b1, lt1, Zbb (show (i : Int) < (l.length : Int) by omega), if_true, ZaH, Bool.not_true, Bool.false_eq_true, if_false, Option.bind_some, h1, ha, ZaP (show i < 9223372036854775807 by omega)]
    · simp only [frame_listapi_Hash.b1, lt1, endB, Bool.false_eq_true, if_false]
      simp
  simp only [frame_listapi_Hash, hlp, Option.bind_some]
theorem ZnG (k : Nat) (hk : 9 ≤ k) (a1 a2 a3 : Int) (a4 : Zah) (a5 : List UInt8) (a6 a7 a8 : Vector UInt64 16) (a9 : Vector UInt8 32) (a10 : Bool) {n : Int} (h0 : 0 ≤ n) (h : n < 256) (c : List UInt8) (hc : c.length ≤ 10000000) : Zbi k a1 a2 a3 a4 a5 a6 a7 a8 a9 a10 (R ([ZcQ n] ++ c)) = some (n, R c) := by
  have h1 := numR k hk n.toNat 1 (by omega) (by omega) (by omega) c hc 1 rfl
  rw [ZgZ h0 h]
  simp only [Zbi, h1, Option.bind_some, lt1, toI' h0 h]
theorem Zmi (k : Nat) (a1 a2 a3 : Int) (a4 : Zah) (a5 : List UInt8) (a6 a7 a8 : Vector UInt64 16) (a9 : Vector UInt8 32) (a10 : Bool) (l : List (Int)) (hk : l.length + 10 < k) (hl : l.length ≤ 5000) (hm : ∀ d ∈ l, 0 ≤ d ∧ d < 256) (c : List UInt8) (hc : c.length ≤ 500000) : frame_listint k (l.length : Int) (R (l.flatMap (fun n : Int => [ZcQ n]) ++ c)) a1 a2 a3 a4 a5 a6 a7 a8 a9 a10 = some (l, R c) := by
  have hlp : Zbc (fun s => frame_listint.b1 k (l.length : Int) a1 a2 a3 a4 a5 a6 a7 a8 a9 a10 s.1 s.2.1 s.2.2) k (R (l.flatMap (fun n : Int => [ZcQ n]) ++ c), ([] : (List (Int))), (0 : Int)) = some (.inl (l, R c)) := by
    refine Zek (n := l.length) (fun i => (R ((l.drop i).flatMap (fun n : Int => [ZcQ n]) ++ c), l.take i, ((i : Nat) : Int))) _ (by simp) ?_ ?_ (by omega)
    · intro i hi
      have hb := Zcx (fun n : Int => [ZcQ n]) 1 (l.drop (i + 1)) fun x hx => by simp
      rw [List.length_drop] at hb
      have hd : (l.drop i).flatMap (fun n : Int => [ZcQ n]) ++ c = (fun n : Int => [ZcQ n]) l[i] ++ ((l.drop (i + 1)).flatMap (fun n : Int => [ZcQ n]) ++ c) := by
        rw [List.drop_eq_getElem_cons hi, List.flatMap_cons, List.append_assoc]
      have h1 := ZnG k (by omega) a1 a2 a3 a4 a5 a6 a7 a8 a9 a10 (hm _ (List.getElem_mem hi)).1 (hm _ (List.getElem_mem hi)).2 ((l.drop (i + 1)).flatMap (fun n : Int => [ZcQ n]) ++ c) (by rw [List.length_append]; omega)
      rw [← hd] at h1
      have ha : apL 8 (l.take i) [l[i]] = some (l.take (i + 1)) := by
        rw [ZdF (by rw [List.length_take]; show (min i l.length + 1) * 8 ≤ _; omega), List.take_succ_eq_append_getElem hi]
      simp only [frame_listint.b1, lt1, Zbb (show (i : Int) < (l.length : Int) by omega), if_true, ZaH, Bool.not_true, Bool.false_eq_true, if_false, Option.bind_some, h1, ha, ZaP (show i < 9223372036854775807 by omega)]
    · simp only [frame_listint.b1, lt1, endB, Bool.false_eq_true, if_false]
      simp
  simp only [frame_listint, hlp, Option.bind_some]
theorem ZoJ (k : Nat) (hk : 9 ≤ k) {d : Zah} (h : ZcB d) (c : List UInt8) (hc : c.length ≤ 10000000) : ZbQ k true true (dotB d ++ c) = some (d, R c) := by
  have g1 := h.1
  have g2 := h.2.1
  have e : dotB d = put d.Region.toNat 1 ++ put d.Count.toNat 8 := by rw [show put d.Region.toNat 1 = [UInt8.ofNat d.Region.toNat] by simp [put]]; rfl
  have ht := Zi3 k (dotB d) c (9 : Int) (by rw [ZbY]; rfl) (by rw [ZbY]; omega)
  have h1 := numP k hk d.Region.toNat 1 (by omega) (by omega) (by omega) (put d.Count.toNat 8) (by rw [Zax]; omega) (1 : Int) rfl
  have h2 := numR k hk d.Count.toNat 8 (by omega) (by omega) (by exact Nat.lt_of_lt_of_le d.Count.toNat_lt (by decide)) [] (by simp) (8 : Int) rfl
  rw [List.append_nil] at h2
  have hr : ((d.Region.toNat : Nat) : Int) = d.Region := by omega
  have hcnt : UInt64.ofNat d.Count.toNat = d.Count := UInt64.toNat_inj.1 (UInt64.toNat_ofNat_of_lt' d.Count.toNat_lt)
  simp only [ZbQ, ht, Option.bind_some, ZdV k (dotB d) (by rw [ZbY]; omega)]
  rw [e]
  simp only [h1, h2, Option.bind_some, lt1, toI (show d.Region.toNat < 9223372036854775807 by omega), hr, hcnt]
theorem toR (k : Nat) (l : List ZaA) (hk : l.length + 10 < k) (hl : l.length ≤ 5000) (hm : ∀ d ∈ l, ZcB d.Dot ∧ Zch d.Device) : Zbc (fun s => event_Of.b1 k (l.length : Int) s.1 s.2.1 s.2.2) k (R (l.flatMap Zc2), ([] : (List ZaA)), (0 : Int)) = some (R [], l) := by
  refine Zek (n := l.length) (fun i => (R ((l.drop i).flatMap Zc2), l.take i, ((i : Nat) : Int))) _ (by simp) ?_ ?_ (by omega)
  · intro i hi
    have hm' := hm _ (List.getElem_mem hi)
    have hn := hm'.2.2
    have hb := Zcx Zc2 43 (l.drop (i + 1)) fun x hx => ZgB (hm x (List.mem_of_mem_drop hx)).2
    rw [List.length_drop] at hb
    have hbl : (Zbj l[i].Device).length ≤ 40 := by simp [Zbj, Zax]; omega
    have hd : (l.drop i).flatMap Zc2 = dotB l[i].Dot ++ (Zbj l[i].Device ++ (l.drop (i + 1)).flatMap Zc2) := by
      rw [List.drop_eq_getElem_cons hi, List.flatMap_cons, Zc2, List.append_assoc]
    have h1 := dotR k (by omega) hm'.1 (Zbj l[i].Device ++ (l.drop (i + 1)).flatMap Zc2) (by rw [List.length_append]; omega)
    have h2 := ZjJ k (by omega) l[i].Device ((l.drop (i + 1)).flatMap Zc2) (by omega) (by omega)
    have ha : apL 32 (l.take i) [ZaA.mk l[i].Dot l[i].Device] = some (l.take (i + 1)) := by
      rw [ZdF (by rw [List.length_take]; show (min i l.length + 1) * 32 ≤ _; omega), List.take_succ_eq_append_getElem hi]
    rw [← hd] at h1
    simp only [event_Of.b1, lt1, Zbb (show (i : Int) < (l.length : Int) by omega), if_true, Option.bind_some, h1, h2, ha, ZaP (show i < 9223372036854775807 by omega)]
  · simp only [event_Of.b1, lt1, endB, Bool.false_eq_true, if_false]
    simp
theorem Zn8 (k : Nat) (hk : 100000 ≤ k) (e : Zaq) (h : may e) : event_Of k (Zcy e) = some (e, 0) := by
  have hlen := ZeU h
  have hmay := h
  obtain ⟨⟨h1, _, _, h4, h5, h6⟩, h7⟩ := h
  have h4' := h4.2
  have hb := Zcx Zc2 43 e.To fun d hd => ZgB (Zja h7 d hd).2
  have hb1 : (Zbj e.Topic).length ≤ 40 := by simp [Zbj, Zax]; omega
  have hb2 : (Zbj e.Payload).length ≤ 600 := by simp [Zbj, Zax]; omega
  have hv := Zde e.Past 16 (by omega)
  have r1 := ZoJ k (by omega) h1 (Zbj e.Topic ++ (Zbj e.Payload ++ (vecB e.Past 16 ++ (put e.To.length 2 ++ e.To.flatMap Zc2)))) (by simp only [List.length_append, Zax]; omega)
  have r2 := ZjJ k (by omega) e.Topic (Zbj e.Payload ++ (vecB e.Past 16 ++ (put e.To.length 2 ++ e.To.flatMap Zc2))) (by omega) (by simp only [List.length_append, Zax]; omega)
  have r3 := ZjJ k (by omega) e.Payload (vecB e.Past 16 ++ (put e.To.length 2 ++ e.To.flatMap Zc2)) (by omega) (by simp only [List.length_append, Zax]; omega)
  have r4 := vecR k (by omega) e.Past (put e.To.length 2 ++ e.To.flatMap Zc2) (by simp only [List.length_append, Zax]; omega)
  have r5 := numR k (by omega) e.To.length 2 (by omega) (by omega) (by omega) (e.To.flatMap Zc2) (by omega) 2 rfl
  have r6 := toR k e.To (by omega) (by omega) (Zja h7)
  have hge : e.To.length ≤ (e.To.flatMap Zc2).length := by
    have : ∀ l : List ZaA, l.length ≤ (l.flatMap Zc2).length := by
      intro l
      induction l with
      | nil => simp
      | cons d l ih =>
        rw [List.flatMap_cons, List.length_append, List.length_cons]
        have : 1 ≤ (Zc2 d).length := by unfold Zc2; rw [List.length_append, ZbY]; omega
        omega
    exact this e.To
  have hleft : Zb3 k (R (e.To.flatMap Zc2)) = some ((e.To.flatMap Zc2).length : Int) := by
    simp only [Zb3, Zcc, Bool.not_true, Option.bind_some, Bool.false_eq_true, if_false]
  have hmin : minI (w64 (UN.toN (UInt64.ofNat e.To.length) : Int)) ((e.To.flatMap Zc2).length : Int) = (e.To.length : Int) := by
    rw [toI (show e.To.length < 9223372036854775807 by omega)]
    unfold minI; split <;> omega
  have hend : Zcd k (R []) = some 0 := by
    simp only [Zcd, lt1, Zcc, Option.bind_some, Bool.not_true, Bool.false_eq_true, if_false, cond_false]
    rfl
  have hE : Zaq.mk e.ID e.Topic e.Payload e.Past e.To = e := rfl
  have hT : e.To.length ≤ 70000 := by omega
  have hq : slices_Equalbyte_byte k (Zcy e) (Zcy e) = some true := by rw [Zh6 k _ _ (by omega) (by omega), decide_eq_true rfl]
  have head : event_Of k (dotB e.ID ++ (Zbj e.Topic ++ (Zbj e.Payload ++ (vecB e.Past 16 ++ (put e.To.length 2 ++ e.To.flatMap Zc2))))) = some (e, 0) := by
    have hc : ZcA k (dotB e.ID ++ (Zbj e.Topic ++ (Zbj e.Payload ++ (vecB e.Past 16 ++ (put e.To.length 2 ++ e.To.flatMap Zc2))))) = some (dotB e.ID ++ (Zbj e.Topic ++ (Zbj e.Payload ++ (vecB e.Past 16 ++ (put e.To.length 2 ++ e.To.flatMap Zc2))))) := ZdV k (Zcy e) (by omega)
    have hq' : slices_Equalbyte_byte k (Zcy e) (dotB e.ID ++ (Zbj e.Topic ++ (Zbj e.Payload ++ (vecB e.Past 16 ++ (put e.To.length 2 ++ e.To.flatMap Zc2))))) = some true := hq
    simp only [event_Of, hc, r1, r2, r3, r4, r5, hleft, hmin, r6, hend, lt1, Option.bind_some, hE, bne_self_eq_false, Bool.false_eq_true, if_false, Zfe k hk e hT, decide_eq_true hmay, Bool.not_true, ZeG k hk e hmay, hq']
  exact head
theorem Zmn (k : Nat) (hk : 600000 ≤ k) (b : List UInt8) (f : Zai) (hm : mayF f) (hs : Zem f) {z : Zai} : (Option.bind (Option.bind (frame_May k f) fun v_58 => if (!v_58) = true then some true else Option.bind (Zcp k f) fun v_60 => Option.bind (slices_Equalbyte_byte k v_60 b) fun v_63 => some (!v_63)) fun x_65 => if x_65 = true then some (z, (4 : Int)) else some (f, (0 : Int))) = some (if Zb1 f = b then (f, 0) else (z, 4)) := by
  have hl : (Zb1 f).length ≤ 500007 := by
    have := Zf1 hm.2.2 hs
    unfold Zb1 Zcs
    rw [List.length_append, List.length_append, Zax]; show 3 + _ + 4 ≤ _; omega
  simp only [Zfp k (by omega) f hs, decide_eq_true hm, Option.bind_some, Bool.not_true, Bool.false_eq_true, if_false, Zd9 k hk f hm hs, Zh6 k (Zb1 f) b (by omega) (by omega)]
  by_cases h : Zb1 f = b <;> simp [h]
theorem Zk6 (k : Nat) (hk : 600000 ≤ k) (f : Zai) (hm : mayF f) (hs : Zem f) (s : List UInt8) (hsl : s.length ≤ 100) : ∃ z, Zbq k (Zcs f ++ s) = some (if Zb1 f = Zcs f ++ s then (f, 0) else (z, 4)) := by
  have hKl := Zf1 hm.2.2 hs
  have hkf := ZkQ hm.2.2
  have hK : 0 ≤ f.Kind ∧ f.Kind < 256 := by have := hkf.2.2.2.2; omega
  obtain ⟨r0, r1, r2, r3⟩ := Zm7 k hk f hK hm.1 s (by rw [List.length_append]; omega)
  have hh := hm.1.1
  have w1 : w64 (UN.toN (UInt64.ofNat f.Kind.toNat) : Int) = f.Kind := toI' hK.1 hK.2
  have w2 : w64 (UN.toN (UInt64.ofNat f.From.toNat) : Int) = f.From := toI' (by omega) (by omega)
  have w3 : w64 (UN.toN (UInt64.ofNat f.To.toNat) : Int) = f.To := toI' (by omega) (by omega)
  have tail := fun z => Zmn k hk (Zcs f ++ s) f hm hs (z := z)
  have hp := hm.2.2
  have hz := hm.2.1
  clear hm hkf hh hK
  obtain ⟨a1, a2, a3, a4, a5, a6, a7, a8, a9, a10, a11, a12, a13⟩ := f
  unfold ZhW at hp
  unfold Zjj Zij at hz
  simp only at hp hz r0 r1 r2 r3 w1 w2 w3 hKl
  by_cases k1 : a1 = 1
  · subst k1
    rw [if_pos rfl] at hp
    simp at hz
    obtain ⟨rfl, rfl, rfl, rfl, rfl, rfl, ⟨rfl, rfl⟩, rfl⟩ := hz
    have hg : ZeS (some ([((1 : Int), (Zaf.mk (some 92 : Option Nat) (some 93 : Option Nat))), ((2 : Int), (Zaf.mk (some 94 : Option Nat) (some 95 : Option Nat))), ((3 : Int), (Zaf.mk (some 96 : Option Nat) (some 97 : Option Nat))), ((4 : Int), (Zaf.mk (some 98 : Option Nat) (some 99 : Option Nat))), ((5 : Int), (Zaf.mk (some 100 : Option Nat) (some 101 : Option Nat))), ((6 : Int), (Zaf.mk (some 102 : Option Nat) (some 103 : Option Nat))), ((7 : Int), (Zaf.mk (some 104 : Option Nat) (some 105 : Option Nat)))] : (List (Int × Zaf)))) (1 : Int) (Zaf.mk (none : Option Nat) (none : Option Nat)) = some ((Zaf.mk (some 92 : Option Nat) (some 93 : Option Nat)), true) := rfl
    have hl := hp.2.1
    have hib := Zf3 a4 hp.2.2
    have hfl := ZgS a4 hp.2.2
    have hkb : ∀ c, Ze6 (Zai.mk 1 a2 a3 a4 ⟨⟨0, 0⟩, [], [], Vector.replicate 16 0, []⟩ (Vector.replicate 16 0) (Vector.replicate 16 0) [] [] (Vector.replicate 32 0) [] [] false) ++ c = put a4.length 2 ++ (a4.flatMap ZcL ++ c) := fun c => by
      show ZfU a4 ++ c = _
      unfold ZfU; rw [List.append_assoc]
    rw [hkb] at r1 r2 r3
    have hc := ZmR k (by omega) 1 a2 a3 (Zah.mk (0 : Int) (0 : UInt64)) ([] : (List UInt8)) (Vector.replicate 16 (0 : UInt64)) (Vector.replicate 16 (0 : UInt64)) (Vector.replicate 16 (0 : UInt64)) (Vector.replicate 32 (0 : UInt8)) false a4.length (by omega) (a4.flatMap ZcL ++ s) (by rw [List.length_append]; omega)
    have hl2 := Zlu k 1 a2 a3 (Zah.mk (0 : Int) (0 : UInt64)) ([] : (List UInt8)) (Vector.replicate 16 (0 : UInt64)) (Vector.replicate 16 (0 : UInt64)) (Vector.replicate 16 (0 : UInt64)) (Vector.replicate 32 (0 : UInt8)) false a4 (by omega) (by omega) hp.2.2 s (by omega)
    simp only [Zbq, r0, r1, r2, r3, w1, w2, w3, lt1, Option.bind_some, Zcl, hg, if_true, Option.some.injEq, Nat.reduceEqDiff, if_false, Zcq, hc, hl2]
    exact ⟨_, tail _⟩
  rw [if_neg k1] at hp
  by_cases k2 : a1 = 2
  · subst k2
    rw [if_pos rfl] at hp
    simp at hz
    obtain ⟨rfl, rfl, rfl, rfl, rfl, rfl, rfl, ⟨rfl, rfl⟩⟩ := hz
    have hg : ZeS (some ([((1 : Int), (Zaf.mk (some 92 : Option Nat) (some 93 : Option Nat))), ((2 : Int), (Zaf.mk (some 94 : Option Nat) (some 95 : Option Nat))), ((3 : Int), (Zaf.mk (some 96 : Option Nat) (some 97 : Option Nat))), ((4 : Int), (Zaf.mk (some 98 : Option Nat) (some 99 : Option Nat))), ((5 : Int), (Zaf.mk (some 100 : Option Nat) (some 101 : Option Nat))), ((6 : Int), (Zaf.mk (some 102 : Option Nat) (some 103 : Option Nat))), ((7 : Int), (Zaf.mk (some 104 : Option Nat) (some 105 : Option Nat)))] : (List (Int × Zaf)))) (2 : Int) (Zaf.mk (none : Option Nat) (none : Option Nat)) = some ((Zaf.mk (some 94 : Option Nat) (some 95 : Option Nat)), true) := rfl
    have hl := ZeU hp
    have hkb : ∀ c, Ze6 (Zai.mk 2 a2 a3 [] a5 (Vector.replicate 16 0) (Vector.replicate 16 0) [] [] (Vector.replicate 32 0) [] [] false) ++ c = put (Zcy a5).length 4 ++ (Zcy a5 ++ c) := fun c => by
      show (put (Zcy a5).length 4 ++ Zcy a5) ++ c = _
      rw [List.append_assoc]
    rw [hkb] at r1 r2 r3
    have hn := numR k (by omega) (Zcy a5).length 4 (by omega) (by omega) (by omega) (Zcy a5 ++ s) (by rw [List.length_append]; omega) 4 rfl
    have hb := ZlA k (Zcy a5) s ((Zcy a5).length : Int) rfl (by omega)
    simp only [Zbq, r0, r1, r2, r3, w1, w2, w3, lt1, Option.bind_some, Zcl, hg, if_true, Option.some.injEq, Nat.reduceEqDiff, if_false, Zco, hn, toI (show (Zcy a5).length < 9223372036854775807 by omega), hb, Zn8 k (by omega) a5 hp]
    exact ⟨_, tail _⟩
  rw [if_neg k2] at hp
  by_cases k3 : a1 = 3
  · subst k3
    simp at hz
    obtain ⟨rfl, rfl, rfl, rfl, rfl, rfl, ⟨rfl, rfl⟩, rfl⟩ := hz
    have hg : ZeS (some ([((1 : Int), (Zaf.mk (some 92 : Option Nat) (some 93 : Option Nat))), ((2 : Int), (Zaf.mk (some 94 : Option Nat) (some 95 : Option Nat))), ((3 : Int), (Zaf.mk (some 96 : Option Nat) (some 97 : Option Nat))), ((4 : Int), (Zaf.mk (some 98 : Option Nat) (some 99 : Option Nat))), ((5 : Int), (Zaf.mk (some 100 : Option Nat) (some 101 : Option Nat))), ((6 : Int), (Zaf.mk (some 102 : Option Nat) (some 103 : Option Nat))), ((7 : Int), (Zaf.mk (some 104 : Option Nat) (some 105 : Option Nat)))] : (List (Int × Zaf)))) (3 : Int) (Zaf.mk (none : Option Nat) (none : Option Nat)) = some ((Zaf.mk (some 96 : Option Nat) (some 97 : Option Nat)), true) := rfl
    have hv := vecR k (by omega) a6 s (by omega)
    have hkb : ∀ c, Ze6 (Zai.mk 3 a2 a3 [] ⟨⟨0, 0⟩, [], [], Vector.replicate 16 0, []⟩ a6 (Vector.replicate 16 0) [] [] (Vector.replicate 32 0) [] [] false) ++ c = vecB a6 16 ++ c := fun c => rfl
    rw [hkb] at r1 r2 r3
    simp only [Zbq, r0, r1, r2, r3, w1, w2, w3, lt1, Option.bind_some, Zcl, hg, if_true, Option.some.injEq, Nat.reduceEqDiff, if_false, ZcD, hv]
    exact ⟨_, tail _⟩
  rw [if_neg k3] at hp
  by_cases k4 : a1 = 4
  · subst k4
    rw [if_pos rfl] at hp
    simp at hz
    obtain ⟨rfl, rfl, rfl, rfl, rfl, rfl, rfl⟩ := hz
    have hg : ZeS (some ([((1 : Int), (Zaf.mk (some 92 : Option Nat) (some 93 : Option Nat))), ((2 : Int), (Zaf.mk (some 94 : Option Nat) (some 95 : Option Nat))), ((3 : Int), (Zaf.mk (some 96 : Option Nat) (some 97 : Option Nat))), ((4 : Int), (Zaf.mk (some 98 : Option Nat) (some 99 : Option Nat))), ((5 : Int), (Zaf.mk (some 100 : Option Nat) (some 101 : Option Nat))), ((6 : Int), (Zaf.mk (some 102 : Option Nat) (some 103 : Option Nat))), ((7 : Int), (Zaf.mk (some 104 : Option Nat) (some 105 : Option Nat)))] : (List (Int × Zaf)))) (4 : Int) (Zaf.mk (none : Option Nat) (none : Option Nat)) = some ((Zaf.mk (some 98 : Option Nat) (some 99 : Option Nat)), true) := rfl
    have hx := hp.2.2.2.1
    have hl := hp.2.1
    have hxm := Zhx hp.2.2
    have hlm : ∀ d ∈ a9, ZcB d := ZlV fun i hi => (hp.1 i hi).1
    have b1 := Zcx dotB 9 a8 fun d _ => by rw [ZbY]; exact Nat.le_refl _
    have b2 := Zcx dotB 9 a9 fun d _ => by rw [ZbY]; exact Nat.le_refl _
    have hkb : ∀ c, Ze6 (Zai.mk 4 a2 a3 [] ⟨⟨0, 0⟩, [], [], Vector.replicate 16 0, []⟩ (Vector.replicate 16 0) a7 a8 a9 (Vector.replicate 32 0) [] [] false) ++ c = vecB a7 16 ++ (put a8.length 2 ++ (a8.flatMap dotB ++ (put a9.length 2 ++ (a9.flatMap dotB ++ c)))) := fun c => by
      show (vecB a7 16 ++ (Zgm a8 ++ Zgm a9)) ++ c = _
      simp only [Zgm, List.append_assoc]
    rw [hkb] at r1 r2 r3
    have hv := vecR k (by omega) a7 (put a8.length 2 ++ (a8.flatMap dotB ++ (put a9.length 2 ++ (a9.flatMap dotB ++ s)))) (by simp only [List.length_append, Zax]; omega)
    have hc1 := ZmR k (by omega) 4 a2 a3 (Zah.mk (0 : Int) (0 : UInt64)) ([] : (List UInt8)) (Vector.replicate 16 (0 : UInt64)) (Vector.replicate 16 (0 : UInt64)) a7 (Vector.replicate 32 (0 : UInt8)) false a8.length (by omega) (a8.flatMap dotB ++ (put a9.length 2 ++ (a9.flatMap dotB ++ s))) (by simp only [List.length_append, Zax]; omega)
    have hl1 := Zi0 k a8 (by omega) (by omega) hxm (put a9.length 2 ++ (a9.flatMap dotB ++ s)) (by simp only [List.length_append, Zax]; omega)
    have hc2 := ZnH k (by omega) 4 a2 a3 (Zah.mk (0 : Int) (0 : UInt64)) ([] : (List UInt8)) (Vector.replicate 16 (0 : UInt64)) (Vector.replicate 16 (0 : UInt64)) a7 (Vector.replicate 32 (0 : UInt8)) false a8 a9.length (by omega) (a9.flatMap dotB ++ s) (by simp only [List.length_append, Zax]; omega)
    have hl2 := Zi0 k a9 (by omega) (by omega) hlm s (by omega)
    simp only [Zbq, r0, r1, r2, r3, w1, w2, w3, lt1, Option.bind_some, Zcl, hg, if_true, Option.some.injEq, Nat.reduceEqDiff, if_false, Zcv, ZcC, hv, hc1, hl1, hc2, hl2]
    exact ⟨_, tail _⟩
  rw [if_neg k4] at hp
  by_cases k5 : a1 = 5
  · subst k5
    simp at hz
    obtain ⟨rfl, rfl, rfl, rfl, rfl, rfl, ⟨rfl, rfl⟩, rfl⟩ := hz
    have hg : ZeS (some ([((1 : Int), (Zaf.mk (some 92 : Option Nat) (some 93 : Option Nat))), ((2 : Int), (Zaf.mk (some 94 : Option Nat) (some 95 : Option Nat))), ((3 : Int), (Zaf.mk (some 96 : Option Nat) (some 97 : Option Nat))), ((4 : Int), (Zaf.mk (some 98 : Option Nat) (some 99 : Option Nat))), ((5 : Int), (Zaf.mk (some 100 : Option Nat) (some 101 : Option Nat))), ((6 : Int), (Zaf.mk (some 102 : Option Nat) (some 103 : Option Nat))), ((7 : Int), (Zaf.mk (some 104 : Option Nat) (some 105 : Option Nat)))] : (List (Int × Zaf)))) (5 : Int) (Zaf.mk (none : Option Nat) (none : Option Nat)) = some ((Zaf.mk (some 100 : Option Nat) (some 101 : Option Nat)), true) := rfl
    have hh := ZoA k 5 a2 a3 (Zah.mk (0 : Int) (0 : UInt64)) ([] : (List UInt8)) (Vector.replicate 16 (0 : UInt64)) (Vector.replicate 16 (0 : UInt64)) (Vector.replicate 16 (0 : UInt64)) (Vector.replicate 32 (0 : UInt8)) false a10 s (by omega)
    have hkb : ∀ c, Ze6 (Zai.mk 5 a2 a3 [] ⟨⟨0, 0⟩, [], [], Vector.replicate 16 0, []⟩ (Vector.replicate 16 0) (Vector.replicate 16 0) [] [] a10 [] [] false) ++ c = a10.toList ++ c := fun c => rfl
    rw [hkb] at r1 r2 r3
    simp only [Zbq, r0, r1, r2, r3, w1, w2, w3, lt1, Option.bind_some, Zcl, hg, if_true, Option.some.injEq, Nat.reduceEqDiff, if_false, ZcG, hh]
    exact ⟨_, tail _⟩
  rw [if_neg k5] at hp
  by_cases k6 : a1 = 6
  · subst k6
    rw [if_pos rfl] at hp
    simp at hz
    obtain ⟨rfl, rfl, rfl, rfl, rfl, rfl, ⟨rfl, rfl⟩, rfl⟩ := hz
    have hg : ZeS (some ([((1 : Int), (Zaf.mk (some 92 : Option Nat) (some 93 : Option Nat))), ((2 : Int), (Zaf.mk (some 94 : Option Nat) (some 95 : Option Nat))), ((3 : Int), (Zaf.mk (some 96 : Option Nat) (some 97 : Option Nat))), ((4 : Int), (Zaf.mk (some 98 : Option Nat) (some 99 : Option Nat))), ((5 : Int), (Zaf.mk (some 100 : Option Nat) (some 101 : Option Nat))), ((6 : Int), (Zaf.mk (some 102 : Option Nat) (some 103 : Option Nat))), ((7 : Int), (Zaf.mk (some 104 : Option Nat) (some 105 : Option Nat)))] : (List (Int × Zaf)))) (6 : Int) (Zaf.mk (none : Option Nat) (none : Option Nat)) = some ((Zaf.mk (some 102 : Option Nat) (some 103 : Option Nat)), true) := rfl
    have hh := ZkV k 6 a2 a3 (Zah.mk (0 : Int) (0 : UInt64)) ([] : (List UInt8)) (Vector.replicate 16 (0 : UInt64)) (Vector.replicate 16 (0 : UInt64)) (Vector.replicate 16 (0 : UInt64)) (Vector.replicate 32 (0 : UInt8)) false a11 (by omega) (by omega) s (by omega)
    rw [hp] at hh
    have hkb : ∀ c, Ze6 (Zai.mk 6 a2 a3 [] ⟨⟨0, 0⟩, [], [], Vector.replicate 16 0, []⟩ (Vector.replicate 16 0) (Vector.replicate 16 0) [] [] (Vector.replicate 32 0) a11 [] false) ++ c = (a11.flatMap fun h : Vector UInt8 32 => h.toList) ++ c := fun c => rfl
    rw [hkb] at r1 r2 r3
    simp only [Zbq, r0, r1, r2, r3, w1, w2, w3, lt1, Option.bind_some, Zcl, hg, if_true, Option.some.injEq, Nat.reduceEqDiff, if_false, Zca, show (64 : Int) = ((64 : Nat) : Int) from rfl, hh]
    exact ⟨_, tail _⟩
  rw [if_neg k6] at hp
  by_cases k7 : a1 = 7
  · subst k7
    rw [if_pos rfl] at hp
    simp at hz
    obtain ⟨rfl, rfl, rfl, rfl, rfl⟩ := hz
    have hg : ZeS (some ([((1 : Int), (Zaf.mk (some 92 : Option Nat) (some 93 : Option Nat))), ((2 : Int), (Zaf.mk (some 94 : Option Nat) (some 95 : Option Nat))), ((3 : Int), (Zaf.mk (some 96 : Option Nat) (some 97 : Option Nat))), ((4 : Int), (Zaf.mk (some 98 : Option Nat) (some 99 : Option Nat))), ((5 : Int), (Zaf.mk (some 100 : Option Nat) (some 101 : Option Nat))), ((6 : Int), (Zaf.mk (some 102 : Option Nat) (some 103 : Option Nat))), ((7 : Int), (Zaf.mk (some 104 : Option Nat) (some 105 : Option Nat)))] : (List (Int × Zaf)))) (7 : Int) (Zaf.mk (none : Option Nat) (none : Option Nat)) = some ((Zaf.mk (some 104 : Option Nat) (some 105 : Option Nat)), true) := rfl
    have hl := hp.2.2.2.1.1
    have him := hp.2.2.2.1.2
    have hx := hp.2.2.2.2.2.1
    have hxm := Zhx hp.2.2.2.2
    have hbn : a12.length ≤ 300 := hs.2.2.2.2.2.2.2
    have hbm : ∀ d ∈ a12, 0 ≤ d ∧ d < 64 := by
      intro d hd
      obtain ⟨i, hi, rfl⟩ := List.getElem_of_mem hd
      have := (hp.1 i hi).1
      have e : bg a12 i = a12[i] := by rw [bg, List.getElem?_eq_getElem hi]; rfl
      rwa [e] at this
    have hrise : ∀ i, i < a12.length → (i : Int) ≤ bg a12 i := by
      intro i
      induction i with
      | zero => intro hi; exact (hp.1 0 hi).1.1
      | succ i ih =>
        intro hi
        have h1 := ih (by omega)
        have h2 := (hp.1 (i + 1) hi).2
        rcases h2 with h2 | h2
        · omega
        · have : i + 1 - 1 = i := rfl
          rw [this] at h2; omega
    have hb64 : a12.length ≤ 64 := by
      by_cases h0 : a12.length = 0
      · omega
      · have h1 := hrise (a12.length - 1) (by omega)
        have h2 := (hp.1 (a12.length - 1) (by omega)).1.2
        omega
    have b1 := Zcx dotB 9 a8 fun d _ => by rw [ZbY]; exact Nat.le_refl _
    have b2 := ZgS a4 him
    have b3 := Zcx (fun n : Int => [ZcQ n]) 1 a12 fun d _ => by simp
    have hv16 := Zde a7 16 (by omega)
    have hfl : ∀ c, ZgQ a13 ++ c = put (if a13 = true then 1 else 0) 1 ++ c := fun c => by cases a13 <;> rfl
    have hkb : ∀ c, Ze6 (Zai.mk 7 a2 a3 a4 ⟨⟨0, 0⟩, [], [], Vector.replicate 16 0, []⟩ (Vector.replicate 16 0) a7 a8 [] (Vector.replicate 32 0) [] a12 a13) ++ c = put a12.length 1 ++ ((a12.flatMap fun n : Int => [ZcQ n]) ++ (put a4.length 2 ++ (a4.flatMap ZcL ++ (vecB a7 16 ++ (put a8.length 2 ++ (a8.flatMap dotB ++ (put (if a13 = true then 1 else 0) 1 ++ c))))))) := fun c => by
      show (Zg4 a12 ++ (ZfU a4 ++ (vecB a7 16 ++ (Zgm a8 ++ ZgQ a13)))) ++ c = _
      have e : Zg4 a12 = put a12.length 1 ++ a12.flatMap fun n : Int => [ZcQ n] := by
        have := ZgZ (n := (a12.length : Int)) (by omega) (by omega)
        rw [show ((a12.length : Int)).toNat = a12.length by omega] at this
        rw [← this]; rfl
      rw [e]
      simp only [ZfU, Zgm, List.append_assoc, hfl]
    rw [hkb] at r1 r2 r3
    have q1 := numR k (by omega) a12.length 1 (by omega) (by omega) (by omega) ((a12.flatMap fun n : Int => [ZcQ n]) ++ (put a4.length 2 ++ (a4.flatMap ZcL ++ (vecB a7 16 ++ (put a8.length 2 ++ (a8.flatMap dotB ++ (put (if a13 = true then 1 else 0) 1 ++ s))))))) (by simp only [List.length_append, Zax]; omega) 1 rfl
    have q2 := Zmi k 7 a2 a3 (Zah.mk (0 : Int) (0 : UInt64)) ([] : (List UInt8)) (Vector.replicate 16 (0 : UInt64)) (Vector.replicate 16 (0 : UInt64)) (Vector.replicate 16 (0 : UInt64)) (Vector.replicate 32 (0 : UInt8)) false a12 (by omega) (by omega) (fun d hd => by have := hbm d hd; omega) (put a4.length 2 ++ (a4.flatMap ZcL ++ (vecB a7 16 ++ (put a8.length 2 ++ (a8.flatMap dotB ++ (put (if a13 = true then 1 else 0) 1 ++ s)))))) (by simp only [List.length_append, Zax]; omega)
    have q3 := Zny k (by omega) 7 a2 a3 (Zah.mk (0 : Int) (0 : UInt64)) ([] : (List UInt8)) (Vector.replicate 16 (0 : UInt64)) (Vector.replicate 16 (0 : UInt64)) (Vector.replicate 16 (0 : UInt64)) (Vector.replicate 32 (0 : UInt8)) false a12 a4.length (by omega) (a4.flatMap ZcL ++ (vecB a7 16 ++ (put a8.length 2 ++ (a8.flatMap dotB ++ (put (if a13 = true then 1 else 0) 1 ++ s))))) (by simp only [List.length_append, Zax]; omega)
    have q4 := ZkG k 7 a2 a3 (Zah.mk (0 : Int) (0 : UInt64)) ([] : (List UInt8)) (Vector.replicate 16 (0 : UInt64)) (Vector.replicate 16 (0 : UInt64)) (Vector.replicate 16 (0 : UInt64)) (Vector.replicate 32 (0 : UInt8)) false a12 a4 (by omega) (by omega) him (vecB a7 16 ++ (put a8.length 2 ++ (a8.flatMap dotB ++ (put (if a13 = true then 1 else 0) 1 ++ s)))) (by simp only [List.length_append, Zax]; omega)
    have q5 := vecR k (by omega) a7 (put a8.length 2 ++ (a8.flatMap dotB ++ (put (if a13 = true then 1 else 0) 1 ++ s))) (by simp only [List.length_append, Zax]; omega)
    have q6 := Znr k (by omega) 7 a2 a3 (Zah.mk (0 : Int) (0 : UInt64)) ([] : (List UInt8)) (Vector.replicate 16 (0 : UInt64)) (Vector.replicate 16 (0 : UInt64)) a7 (Vector.replicate 32 (0 : UInt8)) false a4 a12 a8.length (by omega) (a8.flatMap dotB ++ (put (if a13 = true then 1 else 0) 1 ++ s)) (by simp only [List.length_append, Zax]; omega)
    have q7 := Zi0 k a8 (by omega) (by omega) hxm (put (if a13 = true then 1 else 0) 1 ++ s) (by simp only [List.length_append, Zax]; omega)
    have q8 := numR k (by omega) (if a13 = true then 1 else 0) 1 (by omega) (by omega) (by split <;> omega) s (by omega) 1 rfl
    have q9 : (!(UInt64.ofNat (if a13 = true then 1 else 0) == 0)) = a13 := by cases a13 <;> rfl
    simp only [Zbq, r0, r1, r2, r3, w1, w2, w3, lt1, Option.bind_some, Zcl, hg, if_true, Option.some.injEq, Nat.reduceEqDiff, if_false, Zb5, Zb4, Zb9, q1, toI (show a12.length < 9223372036854775807 by omega), q2, q3, q4, q5, q6, q7, q8, q9]
    exact ⟨_, tail _⟩
  · rw [if_neg k7] at hp
    exact hp.elim
theorem ZmY (k : Nat) (hk : 600000 ≤ k) (f : Zai) (hm : mayF f) (hs : Zem f) : Zbq k (Zb1 f) = some (f, 0) := by
  obtain ⟨z, h⟩ := Zk6 k hk f hm hs (put (Crc.csum (Zcs f)).toNat 4) (by rw [Zax]; omega)
  have e : Zcs f ++ put (Crc.csum (Zcs f)).toNat 4 = Zb1 f := rfl
  rw [e, if_pos rfl] at h
  exact h
theorem Zjx (k : Nat) (hk : 600000 ≤ k) {f g : Zai} (hf : mayF f) (sf : Zem f) (hg : mayF g) (sg : Zem g) (c : List UInt8) (hc : c.length ≤ 50) (h : Zb1 f ++ c = Zb1 g) : c = [] := by
  obtain ⟨z, h1⟩ := Zk6 k hk f hf sf (put (Crc.csum (Zcs f)).toNat 4 ++ c) (by rw [List.length_append, Zax]; omega)
  have e : Zcs f ++ (put (Crc.csum (Zcs f)).toNat 4 ++ c) = Zb1 g := by rw [← h, ← List.append_assoc]; rfl
  rw [e, ZmY k hk g hg sg] at h1
  by_cases h2 : Zb1 f = Zb1 g
  · rw [← h2] at h
    have := congrArg List.length h
    rw [List.length_append] at this
    exact List.eq_nil_of_length_eq_zero (by omega)
  · rw [if_neg h2] at h1
    have h3 := (Prod.mk.inj (Option.some.inj h1)).2
    exact absurd h3 (by decide)
theorem Zi5 (k : Nat) (a b : List (Zal)) (hk : a.length < k) (hm : a.length ≤ 1000000) : ref11_sameItems k a b = some (decide (a = b)) := by
  simp only [ref11_sameItems, lt1, Zgf]
  by_cases hl : a.length = b.length
  · have h := Zeu a b (body := fun s => ref11_sameItems.b1 k a b s) hl (fun i h1 h2 => by
      simp only [ref11_sameItems.b1, lt1, Zbb (show (i : Int) < (a.length : Int) by omega), if_true, Za9 h1, Za9 h2, Option.bind_some, Zjb, dDot, ZiL, dVec, Zha, dBne, Zdh, sw, ZaP (show i < 9223372036854775807 by omega)]
      by_cases h : a[i] = b[i] <;> simp [h]) (by simp only [ref11_sameItems.b1, lt1, ZbB (show ¬ (a.length : Int) < (a.length : Int) by omega), Bool.false_eq_true, if_false]) hk
    simp only [decide_eq_true hl, Bool.not_true, Bool.false_eq_true, if_false, h, Option.bind_some]
    by_cases hab : a = b <;> simp [hab]
  · have : ¬ a = b := fun h => hl (by rw [h])
    simp [hl, this]
theorem Zh5 (k : Nat) (a b : List (Zah)) (hk : a.length < k) (hm : a.length ≤ 1000000) : ref11_sameDots k a b = some (decide (a = b)) := by
  simp only [ref11_sameDots, lt1, Zgf]
  by_cases hl : a.length = b.length
  · have h := Zeu a b (body := fun s => ref11_sameDots.b1 k a b s) hl (fun i h1 h2 => by
      simp only [ref11_sameDots.b1, lt1, Zbb (show (i : Int) < (a.length : Int) by omega), if_true, Za9 h1, Za9 h2, Option.bind_some, Zjb, dDot, ZiL, dVec, Zha, dBne, Zdh, sw, ZaP (show i < 9223372036854775807 by omega)]
      by_cases h : a[i] = b[i] <;> simp [h]) (by simp only [ref11_sameDots.b1, lt1, ZbB (show ¬ (a.length : Int) < (a.length : Int) by omega), Bool.false_eq_true, if_false]) hk
    simp only [decide_eq_true hl, Bool.not_true, Bool.false_eq_true, if_false, h, Option.bind_some]
    by_cases hab : a = b <;> simp [hab]
  · have : ¬ a = b := fun h => hl (by rw [h])
    simp [hl, this]
theorem ZkM (k : Nat) (a b : Zai) (h : ZlG k a) : ref11_Same k a b = some (decide (a = b)) := by
  obtain ⟨h1, h2, h3, h4, h5, h6, h7⟩ := h
  simp only [ref11_Same, lt1, dVec, Zha, Zdh, Zgf, Zi5 k _ _ h1.1 h1.2, Zh5 k _ _ h2.1 h2.2, Zh5 k _ _ h3.1 h3.2, ZhP k _ _ h7.1 h7.2, Option.bind_some]
  by_cases hl : a.Leaves.length = b.Leaves.length
  case neg =>
    have : ¬ a = b := fun h => hl (by rw [h])
    simp [hl, this]
  by_cases hb : a.Buckets.length = b.Buckets.length
  case neg =>
    have : ¬ a = b := fun h => hb (by rw [h])
    simp [hl, hb, this]
  have e1 := Zeu a.Leaves b.Leaves (body := fun s => ref11_Same.b1 k a b s) hl (fun i g1 g2 => by
      simp only [ref11_Same.b1, lt1, Zbb (show (i : Int) < (a.Leaves.length : Int) by omega), if_true, Za9 g1, Za9 g2, Option.bind_some, dVec, Zha, Zdh, sw, ZaP (show i < 9223372036854775807 by omega)]
      by_cases h : a.Leaves[i] = b.Leaves[i] <;> simp [h]) (by simp only [ref11_Same.b1, lt1, ZbB (show ¬ (a.Leaves.length : Int) < (a.Leaves.length : Int) by omega), Bool.false_eq_true, if_false]) h4.1
  have e2 := Zeu a.Buckets b.Buckets (body := fun s => ref11_Same.b2 k a b s) hb (fun i g1 g2 => by
      simp only [ref11_Same.b2, lt1, Zbb (show (i : Int) < (a.Buckets.length : Int) by omega), if_true, Za9 g1, Za9 g2, Option.bind_some, dBne, sw, ZaP (show i < 9223372036854775807 by omega)]
      by_cases h : a.Buckets[i] = b.Buckets[i] <;> simp [h]) (by simp only [ref11_Same.b2, lt1, ZbB (show ¬ (a.Buckets.length : Int) < (a.Buckets.length : Int) by omega), Bool.false_eq_true, if_false]) h5.1
  simp only [decide_eq_true hl, decide_eq_true hb, Bool.not_true, Bool.false_eq_true, if_false, Option.bind_some, e1, e2]
  by_cases hL : a.Leaves = b.Leaves
  case neg =>
    have : ¬ a = b := fun h => hL (by rw [h])
    simp [hL, this]
  by_cases hB : a.Buckets = b.Buckets
  case neg =>
    have : ¬ a = b := fun h => hB (by rw [h])
    simp [hL, hB, this]
  clear h1 h2 h3 h4 h5 h6 h7 e1 e2 hl hb
  obtain ⟨a1, a2, a3, a4, a5, a6, a7, a8, a9, a10, a11, a12, a13⟩ := a
  obtain ⟨b1, b2, b3, b4, b5, b6, b7, b8, b9, b10, b11, b12, b13⟩ := b
  simp only [Zai.mk.injEq]
  simp only at hL hB
  subst hL hB
  simp only [Zkp, Zle, ZlT, Option.bind_some, true_and]
  exact congrArg some (decide_eq_decide.2 (by grind))
theorem ZoE (x : UInt32) : Crc.W4 (put x.toNat 4) = x.toBitVec := by
  have hx := x.toNat_lt
  have e : put x.toNat 4 = [UInt8.ofNat (x.toNat / 16777216), UInt8.ofNat (x.toNat / 65536), UInt8.ofNat (x.toNat / 256), UInt8.ofNat x.toNat] := by
    simp [put, List.range, List.range.loop]
  rw [e]
  show ((UInt8.ofNat (x.toNat / 16777216)).toBitVec ++ (UInt8.ofNat (x.toNat / 65536)).toBitVec ++ (UInt8.ofNat (x.toNat / 256)).toBitVec ++ (UInt8.ofNat x.toNat).toBitVec : BitVec (8 + 8 + 8 + 8)) = x.toBitVec
  apply BitVec.eq_of_toNat_eq
  have h : ∀ n : Nat, (UInt8.ofNat n).toBitVec.toNat = n % 256 := fun n => by
    show (UInt8.ofNat n).toNat = _
    simp
  have hs : ∀ (a b m : Nat), b < 2 ^ m → a <<< m ||| b = a * 2 ^ m + b := fun a b m hb => by
    rw [← Nat.shiftLeft_add_eq_or_of_lt hb, Nat.shiftLeft_eq]
  rw [BitVec.toNat_append, BitVec.toNat_append, BitVec.toNat_append, h, h, h, h]
  have h4 : x.toNat < 4294967296 := hx
  rw [hs _ _ 8 (by omega), hs _ _ 8 (by omega), hs _ _ 8 (by omega)]
  show _ = x.toNat
  omega
theorem Zkk (f : Zai) : Crc.syn (Zcs f).length (Zb1 f) = BitVec.allOnes 32 := by
  unfold Crc.syn Zb1
  rw [List.take_left, List.drop_left, ZoE]
  show Crc.upd Crc.ones (Zcs f) ^^^ ~~~ Crc.upd Crc.ones (Zcs f) = _
  apply BitVec.eq_of_getLsbD_eq
  intro i hi
  rw [BitVec.getLsbD_xor, BitVec.getLsbD_not, BitVec.getLsbD_allOnes]
  simp [hi]
def posA (n m : Int) : Option Nat := if 0 ≤ n ∧ n < m then some n.toNat else none
theorem Znb : ∀ j : Nat, j < 8 → UN.shl (1 : UInt8) (UN.toN (UN.ofI (j : Int) : UInt64)) = Crc.bitU j := by
  intro j hj
  have h1 : UN.toN (UN.ofI (j : Int) : UInt64) = j := by
    show (UInt64.ofNat ((j : Int) % ((2 ^ 64 : Nat) : Int)).toNat).toNat = j
    have : ((j : Int) % ((2 ^ 64 : Nat) : Int)).toNat = j := by omega
    rw [this]
    exact UInt64.toNat_ofNat_of_lt' (Nat.lt_of_lt_of_le hj (by decide))
  rw [h1]
  revert j
  decide
theorem Zf7 (b : List UInt8) (p : Option Nat) : (Crc.turn b p).length = b.length := by cases p with | none => rfl | some p => exact Crc.flip_len b p
theorem ZhH (k : Nat) (a : Vector Int 3) (v x : List UInt8) (hv : v.length ≤ 1000000) (hx : x.length = v.length) (i : Nat) (hi : i < 3) : law11_FrameMeans'4.b1 k a v x (i : Int) = some (.inl (Crc.turn x (posA a[i] (8 * (v.length : Int))), ((i + 1 : Nat) : Int))) := by
  have h3 : inV 3 (i : Int) = some ⟨i, hi⟩ := Zjs (by omega) (by simpa using hi)
  have hw : w64 ((8 : Int) * (v.length : Int)) = 8 * (v.length : Int) := ZdI (by omega) (by omega)
  obtain ⟨n, hn⟩ : ∃ n, a[i] = n := ⟨_, rfl⟩
  have hg : getV a ⟨i, hi⟩ = n := hn
  simp only [law11_FrameMeans'4.b1, lt1, Zbb (show (i : Int) < 3 by omega), if_true, h3, hg, hw, hn, Option.bind_some, ZaP (show i < 9223372036854775807 by omega)]
  by_cases h1 : n ≥ 0
  case neg =>
    have e : posA n (8 * (v.length : Int)) = none := if_neg (fun h => h1 h.1)
    rw [ZbB h1, e]
    rfl
  rw [Zbb h1]
  by_cases h2 : n < 8 * (v.length : Int)
  case neg =>
    have e : posA n (8 * (v.length : Int)) = none := if_neg (fun h => h2 h.2)
    rw [ZbB h2, e]
    rfl
  have ep : posA n (8 * (v.length : Int)) = some n.toNat := if_pos ⟨h1, h2⟩
  rw [Zbb h2, ep]
  obtain ⟨p, rfl⟩ : ∃ p : Nat, n = p := ⟨n.toNat, by omega⟩
  have hp8 : p / 8 < x.length := by omega
  have d1 : divI (p : Int) 8 = some ((p / 8 : Nat) : Int) := by
    unfold divI
    rw [if_neg (by decide), Int.tdiv_eq_ediv_of_nonneg (by omega)]
    exact congrArg some (ZdI (by omega) (by omega))
  have d2 : modI (p : Int) 8 = some ((p % 8 : Nat) : Int) := by
    unfold modI
    rw [if_neg (by decide), Int.tmod_eq_emod_of_nonneg (by omega)]; rfl
  have d3 : inO x ((p / 8 : Nat) : Int) = some (p / 8) := by rw [Zkt (by omega) (by omega)]; rfl
  have d4 : x[p / 8]? = some x[p / 8] := List.getElem?_eq_getElem hp8
  have d5 := Zmk (xs := x) (x := x[p / 8] ^^^ Crc.bitU (p % 8)) hp8
  have d6 := Znb (p % 8) (Nat.mod_lt _ (by decide))
  simp only [if_true, Option.bind_some, d1, d2, d3, d4, d6, d5]
  have e : x.getD (p / 8) 0 = x[p / 8] := by rw [List.getD_eq_getElem?_getD, d4]; rfl
  show some (Sum.inl (x.set (p / 8) (x[p / 8] ^^^ Crc.bitU (p % 8)), ((i + 1 : Nat) : Int))) = some (Sum.inl (x.set ((p : Int).toNat / 8) (x.getD ((p : Int).toNat / 8) 0 ^^^ Crc.bitU ((p : Int).toNat % 8)), ((i + 1 : Nat) : Int)))
  rw [Int.toNat_natCast, e]
theorem Zk8 (k : Nat) (hk : 4 ≤ k) (a : Vector Int 3) (v : List UInt8) (hv : v.length ≤ 1000000) : Zbc (fun s => law11_FrameMeans'4.b1 k a v s.1 s.2) k (v, (0 : Int)) = some (Crc.turn (Crc.turn (Crc.turn v (posA a[0] (8 * (v.length : Int)))) (posA a[1] (8 * (v.length : Int)))) (posA a[2] (8 * (v.length : Int)))) := by
  obtain ⟨j, rfl⟩ : ∃ j, k = j + 4 := ⟨k - 4, by omega⟩
  have s0 := ZhH (j + 4) a v v hv rfl 0 (by omega)
  have s1 := ZhH (j + 4) a v (Crc.turn v (posA a[0] (8 * (v.length : Int)))) hv (by rw [Zf7]) 1 (by omega)
  have s2 := ZhH (j + 4) a v (Crc.turn (Crc.turn v (posA a[0] (8 * (v.length : Int)))) (posA a[1] (8 * (v.length : Int)))) hv (by rw [Zf7, Zf7]) 2 (by omega)
  rw [Zfa (s' := (Crc.turn v (posA a[0] (8 * (v.length : Int))), ((0 + 1 : Nat) : Int))) s0]
  rw [Zfa (s' := (Crc.turn (Crc.turn v (posA a[0] (8 * (v.length : Int)))) (posA a[1] (8 * (v.length : Int))), ((1 + 1 : Nat) : Int))) s1]
  rw [Zfa (s' := (Crc.turn (Crc.turn (Crc.turn v (posA a[0] (8 * (v.length : Int)))) (posA a[1] (8 * (v.length : Int)))) (posA a[2] (8 * (v.length : Int))), ((2 + 1 : Nat) : Int))) s2]
  refine ZhE ?_
  simp only [law11_FrameMeans'4.b1, lt1]
  rfl
theorem Zkx (k : Nat) (hk : 600000 ≤ k) (f : Zai) (a : Vector Int 3) : law11_FrameMeans'4 k f a = some true := by
  have hkn := Zmo k hk
  have hnum : ∀ v, Zc5 k v = some () := fun _ => rfl
  obtain ⟨m, h1, h1'⟩ := Zm6 k (by omega) f
  simp only [law11_FrameMeans'4, hkn, h1, Option.bind_some, lt1, Bool.not_true, Bool.false_eq_true, if_false]
  cases m
  case true => rfl
  have hs := h1' rfl
  have hsh := ZhK (show 100000 ≤ k by omega) hs
  simp only [Bool.false_eq_true, if_false, ZcP, Zfp k (by omega) f hs, lt1, Option.bind_some, hnum]
  by_cases hm : mayF f
  case neg => simp [hm]
  simp only [decide_eq_true hm, Bool.not_true, Bool.false_eq_true, if_false, Zd9 k hk f hm hs, Option.bind_some, bne_self_eq_false, ZmY k hk f hm hs]
  have hbl : (Zb1 f).length = (Zcs f).length + 4 := by unfold Zb1; rw [List.length_append, Zax]
  have hbk : (Zcs f).length = 3 + (Ze6 f).length := by unfold Zcs; rw [List.length_append]; rfl
  have hKl := Zf1 hm.2.2 hs
  obtain ⟨b, hb⟩ : ∃ b, Zb1 f = b := ⟨_, rfl⟩
  rw [hb] at hbl
  have hw : w64 ((b.length : Int) - 1) = ((b.length - 1 : Nat) : Int) := by rw [ZdI (by omega) (by omega)]; omega
  have hsub : subL b (0) ((b.length - 1 : Nat) : Int) = some (b.take (b.length - 1)) := by
    rw [Zfk (by omega) (by omega) (by omega)]; simp
  have ha : apL 1 ([] : List UInt8) b = some b := by rw [ap1 (by simp; omega)]; rfl
  have ha0 : apL 1 b [(0 : UInt8)] = some (b ++ [0]) := ap1 (by show b.length + 1 ≤ _; omega)
  obtain ⟨g1, e1, o1, p1⟩ := ZiV k hk (b.take (b.length - 1)) (by rw [List.length_take]; omega)
  obtain ⟨g2, e2, o2, p2⟩ := ZiV k hk (b ++ [0]) (by rw [List.length_append]; show b.length + 1 ≤ _; omega)
  have q1 : e1 = 4 := by
    rcases p1 with p1 | ⟨_, m1, z1, c1⟩
    · exact p1
    · exfalso
      have e : Zb1 g1 ++ b.drop (b.length - 1) = Zb1 f := by rw [c1, List.take_append_drop, hb]
      have := Zjx k hk m1 z1 hm hs _ (by rw [List.length_drop]; omega) e
      have := congrArg List.length this
      rw [List.length_drop] at this
      simp at this
      omega
  have q2 : e2 = 4 := by
    rcases p2 with p2 | ⟨_, m2, z2, c2⟩
    · exact p2
    · exfalso
      have e : Zb1 f ++ [0] = Zb1 g2 := by rw [c2, hb]
      have := Zjx k hk hm hs m2 z2 [0] (by simp) e
      exact absurd this (by simp)
  subst q1 q2
  simp only [hb, hw, hsub, ha, ha0, o1, o2, Option.bind_some, hnum, bne_self_eq_false, Bool.not_false, if_true, ZkM k f f hsh, Zhv k f f hsh, Bool.not_true, cond_false, Bool.false_eq_true, if_false, decide_true]
  by_cases hlong : b.length ≤ 65536
  case neg => rw [Zbb (show (b.length : Int) > 65536 by omega)]; rfl
  rw [ZbB (show ¬ (b.length : Int) > 65536 by omega)]
  obtain ⟨t, ht⟩ : ∃ t, Crc.turn (Crc.turn (Crc.turn b (posA a[0] (8 * (b.length : Int)))) (posA a[1] (8 * (b.length : Int)))) (posA a[2] (8 * (b.length : Int))) = t := ⟨_, rfl⟩
  have htl : t.length = b.length := by rw [← ht, Zf7, Zf7, Zf7]
  obtain ⟨g3, e3, o3, p3⟩ := ZiV k hk t (by omega)
  simp only [Bool.false_eq_true, if_false, Zk8 k (by omega) a b (by omega), ht, Option.bind_some, o3, Zdh]
  by_cases hq : t = b
  · simp [hq]
  · have q3 : e3 = 4 := by
      rcases p3 with p3 | ⟨_, m3, z3, c3⟩
      · exact p3
      · exfalso
        apply hq
        have hl3 : (Zb1 g3).length = (Zcs g3).length + 4 := by unfold Zb1; rw [List.length_append, Zax]
        have hN : (Zcs g3).length = (Zcs f).length := by rw [c3, htl] at hl3; omega
        have s1 := Zkk f
        have s3 := Zkk g3
        rw [c3, hN] at s3
        rw [hb] at s1
        have hpos : ∀ n x, posA n (8 * (b.length : Int)) = some x → x < 8 * ((Zcs f).length + 4) := by
          intro n x h
          unfold posA at h
          split at h
          · have := Option.some.inj h; omega
          · cases h
        have h3 := Crc.three (Zcs f).length (by omega) b hbl (posA a[0] (8 * (b.length : Int))) (posA a[1] (8 * (b.length : Int))) (posA a[2] (8 * (b.length : Int))) (hpos _) (hpos _) (hpos _)
        rw [ht] at h3
        exact h3 (by rw [s1, s3])
    subst q3
    have e : (t == b) = false := by simpa using hq
    rw [e]
    rfl
theorem Zh2 (y0 : Zai) (y1 : (Vector Int 3)) (f0 : ((IntKind.min .i64 ≤ y0.Kind ∧ y0.Kind ≤ IntKind.max .i64) ∧ ((IntKind.min .i64 ≤ y0.From ∧ y0.From ≤ IntKind.max .i64) ∧ ((IntKind.min .i64 ≤ y0.To ∧ y0.To ≤ IntKind.max .i64) ∧ ((List.length y0.Items * 56 ≤ 140737488351232 ∧ ∀ z0 ∈ y0.Items, (((IntKind.min .i64 ≤ z0.Dot.Region ∧ z0.Dot.Region ≤ IntKind.max .i64) ∧ (True ∧ True)) ∧ (((List.length z0.Key.Topic ≤ 140737488351232) ∧ ((List.length z0.Key.Device ≤ 140737488351232) ∧ True)) ∧ (True ∧ True)))) ∧ ((((IntKind.min .i64 ≤ y0.Event.ID.Region ∧ y0.Event.ID.Region ≤ IntKind.max .i64) ∧ (True ∧ True)) ∧ ((List.length y0.Event.Topic ≤ 140737488351232) ∧ ((List.length y0.Event.Payload * 1 ≤ 140737488351232 ∧ ∀ z0 ∈ y0.Event.Payload, True) ∧ ((∀ (i : Nat) (h : i < 16), True) ∧ ((List.length y0.Event.To * 32 ≤ 140737488351232 ∧ ∀ z0 ∈ y0.Event.To, (((IntKind.min .i64 ≤ z0.Dot.Region ∧ z0.Dot.Region ≤ IntKind.max .i64) ∧ (True ∧ True)) ∧ ((List.length z0.Device ≤ 140737488351232) ∧ True))) ∧ True))))) ∧ ((∀ (i : Nat) (h : i < 16), True) ∧ ((∀ (i : Nat) (h : i < 16), True) ∧ ((List.length y0.Extra * 16 ≤ 140737488351232 ∧ ∀ z0 ∈ y0.Extra, ((IntKind.min .i64 ≤ z0.Region ∧ z0.Region ≤ IntKind.max .i64) ∧ (True ∧ True))) ∧ ((List.length y0.Live * 16 ≤ 140737488351232 ∧ ∀ z0 ∈ y0.Live, ((IntKind.min .i64 ≤ z0.Region ∧ z0.Region ≤ IntKind.max .i64) ∧ (True ∧ True))) ∧ ((∀ (i : Nat) (h : i < 32), True) ∧ ((List.length y0.Leaves * 32 ≤ 140737488351232 ∧ ∀ z0 ∈ y0.Leaves, (∀ (i : Nat) (h : i < 32), True)) ∧ ((List.length y0.Buckets * 8 ≤ 140737488351232 ∧ ∀ z0 ∈ y0.Buckets, (IntKind.min .i64 ≤ z0 ∧ z0 ≤ IntKind.max .i64)) ∧ (True ∧ True)))))))))))))) (f1 : (∀ (i : Nat) (h : i < 3), (IntKind.min .i64 ≤ y1[i] ∧ y1[i] ≤ IntKind.max .i64))) : ∃ k, law11_FrameMeans'4 k y0 y1 = some true := by
  exact ⟨600000, Zkx 600000 (Nat.le_refl _) y0 y1⟩
end Go.Proofs.YtklnihlchhhhlaaGreat
