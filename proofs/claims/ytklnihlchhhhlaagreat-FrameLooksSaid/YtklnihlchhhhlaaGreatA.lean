/- Items' bytes. -/
import Derived.Test.YtklnihlchhhhlaaGreatW
namespace Go.Proofs.YtklnihlchhhhlaaGreat
open Go Fw
set_option linter.unusedVariables false
set_option linter.unusedSimpArgs false

def blobB (b : List UInt8) : List UInt8 := put b.length 2 ++ b
def flagB (g : Bool) : List UInt8 := [if g then 1 else 0]
def itemB (i : api_Item) : List UInt8 := dotB i.Dot ++ (flagB i.Gone ++ if i.Gone then [] else blobB i.Key.Topic ++ blobB i.Key.Device)
def itemsB (l : List api_Item) : List UInt8 := put l.length 2 ++ l.flatMap itemB
def mayDot (d : api_Dot) : Prop := 1 ≤ d.Region ∧ d.Region ≤ 16 ∧ 1 ≤ d.Count.toNat ∧ d.Count.toNat ≤ 4611686018427387904
instance (d : api_Dot) : Decidable (mayDot d) := inferInstanceAs (Decidable (_ ∧ _))
def mayName (s : List UInt8) : Prop := 1 ≤ s.length ∧ s.length ≤ 32
instance (s : List UInt8) : Decidable (mayName s) := inferInstanceAs (Decidable (_ ∧ _))
def mayItem (i : api_Item) : Prop := mayDot i.Dot ∧ (if i.Gone then i.Key = ⟨[], []⟩ else mayName i.Key.Topic ∧ mayName i.Key.Device)
instance (i : api_Item) : Decidable (mayItem i) := by unfold mayItem; exact inferInstance
theorem itemB_len {i : api_Item} (h : mayItem i) : (itemB i).length ≤ 78 := by
  unfold itemB
  obtain ⟨_, h⟩ := h
  cases hg : i.Gone
  · rw [hg] at h
    have h : mayName i.Key.Topic ∧ mayName i.Key.Device := h
    have h1 := h.1.2
    have h2 := h.2.2
    simp [blobB, flagB, dotB_len, put_length]; omega
  · simp [flagB, dotB_len]
theorem items_len (l : List api_Item) (h : ∀ i ∈ l, mayItem i) : (l.flatMap itemB).length ≤ 78 * l.length := by
  induction l with
  | nil => simp
  | cons i l ih =>
    have h1 := itemB_len (h i (List.mem_cons_self ..))
    have h2 := ih fun j hj => h j (List.mem_cons_of_mem _ hj)
    rw [List.flatMap_cons, List.length_append, List.length_cons]; omega
theorem ap1 {x y : List UInt8} (h : x.length + y.length ≤ 100000000) : apL 1 x y = some (x ++ y) := apL_ok (by omega)
theorem wDot (k : Nat) (hk : 9 ≤ k) {d : api_Dot} (h : mayDot d) : wire_Dot k d = some (dotB d, 0) := by
  rw [wireDot_eq k hk, if_pos (by have := h.1; have := h.2.1; omega)]; rfl
theorem wBlob (k : Nat) (hk : 9 ≤ k) {b : List UInt8} (h : b.length ≤ 65535) : wire_Blob k b = some (blobB b, 0) := by rw [wireBlob_eq k hk b (by omega), if_pos h]; rfl
theorem items_step (k : Nat) (hk : 9 ≤ k) (l : List api_Item) (i : Nat) (hi : i < l.length) (hm : mayItem l[i]) (hl : l.length ≤ 65535) (x : List UInt8) (hx : x.length ≤ 10000000) :
    frame_writer_items'4.b1 k l x (i : Int) = some (.inl (x ++ itemB l[i], ((i + 1 : Nat) : Int))) := by
  obtain ⟨it, hit⟩ : ∃ it, l[i] = it := ⟨_, rfl⟩
  have hd := wDot k hk hm.1
  have hlen := itemB_len hm
  rw [hit] at hm hd hlen
  have hdl := dotB_len it.Dot
  simp only [frame_writer_items'4.b1, lt1, dec_t (show (i : Int) < (l.length : Int) by omega), if_true, idxL_lt hi, hit, Option.bind_some, hd, frame_writer_put'2, ap1 (show x.length + (dotB it.Dot).length ≤ 100000000 by omega), frame_writer_flag, w64_succ (show i < 9223372036854775807 by omega)]
  obtain ⟨_, hm2⟩ := hm
  cases hg : it.Gone
  · rw [hg] at hm2
    have hm2 : mayName it.Key.Topic ∧ mayName it.Key.Device := hm2
    have h1 := hm2.1.2
    have h2 := hm2.2.2
    have hb1 := wBlob k hk (b := it.Key.Topic) (by omega)
    have hb2 := wBlob k hk (b := it.Key.Device) (by omega)
    have e1 : (blobB it.Key.Topic).length ≤ 34 := by simp [blobB, put_length]; omega
    have e2 : (blobB it.Key.Device).length ≤ 34 := by simp [blobB, put_length]; omega
    simp only [Bool.false_eq_true, if_false, Option.bind_some, Bool.not_false, if_true, hb1, hb2]
    rw [ap1 (by simp; omega), Option.bind_some, Option.bind_some, ap1 (by simp; omega), Option.bind_some, Option.bind_some, ap1 (by simp; omega), Option.bind_some, Option.bind_some, Option.bind_some]
    simp [itemB, hg, flagB]
  · simp only [if_true, Option.bind_some, Bool.not_true, Bool.false_eq_true, if_false]
    rw [ap1 (by simp; omega), Option.bind_some, Option.bind_some, Option.bind_some]
    simp [itemB, hg, flagB]
end Go.Proofs.YtklnihlchhhhlaaGreat
