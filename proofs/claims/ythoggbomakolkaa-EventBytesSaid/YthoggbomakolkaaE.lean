/- An event's bytes: both write them alike. -/
import Derived.Test.YthoggbomakolkaaM
import Derived.Test.YthoggbomakolkaaG
namespace Go.Proofs.Ythoggbomakolkaa
open Go Fw
set_option linter.unusedVariables false
set_option linter.unusedSimpArgs false

def blobB (b : List UInt8) : List UInt8 := put b.length 2 ++ b
def destB (t : api_Dest) : List UInt8 := dotB t.Dot ++ blobB t.Device
def hdB (e : api_Event) : List UInt8 := dotB e.ID ++ (blobB e.Topic ++ (blobB e.Payload ++ vecB e.Past 16))
def evB (e : api_Event) : List UInt8 := hdB e ++ (put e.To.length 2 ++ e.To.flatMap destB)
theorem blobB_len (b : List UInt8) : (blobB b).length = 2 + b.length := by simp [blobB, put_length]
theorem destB_len (t : api_Dest) : (destB t).length = 11 + t.Device.length := by simp [destB, dotB_len, blobB_len]; omega
theorem dests_len (to : List api_Dest) (h : okTo to) : ∀ i, i ≤ to.length → ((to.take i).flatMap destB).length ≤ 43 * i
  | 0, _ => by simp
  | i + 1, hi => by
    rw [flatMap_take_succ _ _ _ (by omega), List.length_append, destB_len]
    have := dests_len to h i (by omega)
    have h1 := (h i (by omega)).2.1.2
    omega
theorem dot_region {d : api_Dot} (h : mayDot d) : 0 ≤ d.Region ∧ d.Region ≤ 255 := by have := h.1; have := h.2.1; omega
theorem wDot (k : Nat) (hk : 9 ≤ k) {d : api_Dot} (h : mayDot d) : wire_Dot k d = some (dotB d, 0) := by rw [wireDot_eq k hk, if_pos (dot_region h)]; rfl
theorem wBlob (k : Nat) (hk : 9 ≤ k) {b : List UInt8} (h : b.length ≤ 65535) : wire_Blob k b = some (blobB b, 0) := by rw [wireBlob_eq k hk b (by omega), if_pos h]; rfl
theorem wPut2 (k : Nat) (hk : 9 ≤ k) {n : Nat} (h : n ≤ 65535) : wire_Put k (UN.ofI (n : Int) : UInt64) 2 = some (put n 2, 0) := by
  have e : (UN.ofI (n : Int) : UInt64).toNat = n := ofI_toNat (by omega)
  have hr : room (UN.ofI (n : Int) : UInt64) 2 := ⟨by omega, by omega, by rw [e]; exact Nat.lt_of_le_of_lt h (by decide)⟩
  rw [wirePut_eq k hk _ 2 (by omega) (by omega), if_pos hr, e]; rfl
theorem eb_loop (k : Nat) (hk : 1026 ≤ k) (e : api_Event) (h : okTo e.To) (hl : e.To.length ≤ 1024) (x : List UInt8) (hx : x.length ≤ 100000) : loopO (fun s => event_bytes.b1 k e s.1 s.2) k (x, (0 : Int)) = some (x ++ e.To.flatMap destB) := by
  refine loop_nat (n := e.To.length) (fun i => x ++ (e.To.take i).flatMap destB) _ ?_ ?_ (by omega) (by simp)
  · intro i hi
    have hd := (h i hi).1
    have hn := (h i hi).2.1.2
    have hb := dests_len e.To h i (by omega)
    simp only [event_bytes.b1, lt1, dec_t (show (i : Int) < (e.To.length : Int) by omega), if_true, idxL_lt hi, Option.bind_some, wDot k (by omega) hd, wBlob k (by omega) (show e.To[i].Device.length ≤ 65535 by omega), event_bytes_1'2]
    rw [apL_ok (by simp only [List.length_append, dotB_len]; omega), Option.bind_some, Option.bind_some, apL_ok (by simp only [List.length_append, dotB_len, blobB_len]; omega), Option.bind_some, w64_succ (show i < 9223372036854775807 by omega)]
    rw [flatMap_take_succ _ _ _ hi]
    simp only [destB, List.append_assoc, Option.bind_some]
  · simp only [event_bytes.b1, lt1, dec_f (show ¬ (e.To.length : Int) < (e.To.length : Int) by omega), Bool.false_eq_true, if_false, List.take_length]
theorem hdB_len (e : api_Event) : (hdB e).length = 9 + (2 + e.Topic.length + (2 + e.Payload.length + 128)) := by
  simp only [hdB, List.length_append, dotB_len, blobB_len, vecB_len _ 16 (Nat.le_refl _)]
theorem bytes_eq (k : Nat) (hk : 1026 ≤ k) (e : api_Event) (h : may e) : event_bytes k e = some (evB e) := by
  obtain ⟨⟨h1, h2, h3, h4, h5, h6⟩, h7⟩ := h
  have h4' := h4.2
  have hh := hdB_len e
  have a1 : apL 1 ([] : List UInt8) (dotB e.ID) = some (dotB e.ID) := by rw [apL_ok (by simp [dotB_len])]; simp
  have a2 : apL 1 (dotB e.ID) (blobB e.Topic) = some (dotB e.ID ++ blobB e.Topic) := apL_ok (by simp [dotB_len, blobB_len]; omega)
  have a3 : apL 1 (dotB e.ID ++ blobB e.Topic) (blobB e.Payload) = some (dotB e.ID ++ blobB e.Topic ++ blobB e.Payload) := apL_ok (by simp [dotB_len, blobB_len]; omega)
  have a4 : apL 1 (dotB e.ID ++ blobB e.Topic ++ blobB e.Payload) (vecB e.Past 16) = some (hdB e) := by
    rw [apL_ok (by simp [dotB_len, blobB_len, vecB_len _ 16 (Nat.le_refl _)]; omega)]; simp only [hdB, List.append_assoc]
  have a5 : apL 1 (hdB e) (put e.To.length 2) = some (hdB e ++ put e.To.length 2) := apL_ok (by rw [hh, put_length]; omega)
  simp only [event_bytes, wDot k (by omega) h1, Option.bind_some, event_bytes_1, event_bytes_1'2, a1, wBlob k (by omega) (show e.Topic.length ≤ 65535 by omega), a2, wBlob k (by omega) (show e.Payload.length ≤ 65535 by omega), a3, wireVec_eq k (by omega), a4, lt1, wPut2 k (by omega) (show e.To.length ≤ 65535 by omega), a5, eb_loop k hk e h7 h6 _ (show (hdB e ++ put e.To.length 2).length ≤ 100000 by rw [List.length_append, hh, put_length]; omega)]
  simp only [evB, List.append_assoc]
theorem wBlob2 (k : Nat) {x b : List UInt8} {o n : Nat} (h : viewL x o n = some b) (hn : b.length = n) : wire_Blob'2 k o n x = wire_Blob k b := by
  subst hn
  simp only [wire_Blob'2, wire_Blob, apV, h, Option.bind_some]
theorem bytes2_eq (k : Nat) (hk : 1026 ≤ k) (e : api_Event) (h : may e) {o n : Nat} {x : List UInt8} (hv : viewL x o n = some e.Payload) (hn : e.Payload.length = n) : event_bytes'2 k e.ID e.Topic o n e.Past e.To x = some (evB e) := by
  rw [← bytes_eq k hk e h]
  unfold event_bytes'2 event_bytes
  rw [wBlob2 k hv hn]
  rfl
theorem Bytes_eq (k : Nat) (hk : 1026 ≤ k) (e : api_Event) : event_Bytes k e = some (if may e then (evB e, 0) else ([], 2)) := by
  simp only [event_Bytes, May_eq k hk, lt1, Option.bind_some]
  by_cases h : may e
  · simp [h, bytes_eq k hk e h]
  · simp [h]
/-! the reference -/
def partsB (e : api_Event) (i : Nat) : List (List UInt8) := [dotB e.ID, blobB e.Topic, blobB e.Payload, vecB e.Past 16, put e.To.length 2] ++ (e.To.take i).flatMap fun t => [dotB t.Dot, blobB t.Device]
theorem two_len (to : List api_Dest) : ∀ i, i ≤ to.length → ((to.take i).flatMap fun t => [dotB t.Dot, blobB t.Device]).length = 2 * i
  | 0, _ => by simp
  | i + 1, h => by rw [flatMap_take_succ _ _ _ (by omega), List.length_append, two_len to i (by omega)]; simp; omega
theorem two_flat (to : List api_Dest) : (to.flatMap fun t => [dotB t.Dot, blobB t.Device]).flatten = to.flatMap destB := by
  induction to with
  | nil => rfl
  | cons t to ih => simp only [List.flatMap_cons, List.flatten_append, ih, destB]; simp
theorem refBytes2_eq (k : Nat) (hk : 3000 ≤ k) (e : api_Event) (h : may e) : ref09_Bytes k e = some (evB e) := by
  obtain ⟨⟨h1, h2, h3, h4, h5, h6⟩, h7⟩ := h
  have h4' := h4.2
  have hh := hdB_len e
  have hp : ref01_Put k (UN.ofI (e.To.length : Int) : UInt64) 2 = some (put e.To.length 2) := by
    have := refPut_eq k (by omega) (UN.ofI (e.To.length : Int) : UInt64) 2 (by omega)
    rw [ofI_toNat (by omega)] at this
    exact this
  have hl : loopO (fun s => ref09_Bytes.b1 k e s.1 s.2) k ([dotB e.ID, blobB e.Topic, blobB e.Payload, vecB e.Past 16, put e.To.length 2], (0 : Int)) = some (partsB e e.To.length) := by
    refine loop_nat (n := e.To.length) (fun i => partsB e i) _ ?_ ?_ (by omega) (by simp [partsB])
    · intro i hi
      have hd := (h7 i hi).1
      have hn := (h7 i hi).2.1.2
      have hb := two_len e.To i (by omega)
      simp only [ref09_Bytes.b1, lt1, dec_t (show (i : Int) < (e.To.length : Int) by omega), if_true, idxL_lt hi, Option.bind_some, refDot_eq k (by omega) _ (dot_region hd), refBlob_eq k (by omega) _ (show e.To[i].Device.length ≤ 140000000000000 by omega)]
      rw [apL_ok (by simp only [partsB, List.length_append, hb]; simp; omega), Option.bind_some, w64_succ (show i < 9223372036854775807 by omega)]
      simp only [partsB, flatMap_take_succ _ _ _ hi, List.append_assoc]
      rfl
    · simp only [ref09_Bytes.b1, lt1, dec_f (show ¬ (e.To.length : Int) < (e.To.length : Int) by omega), Bool.false_eq_true, if_false]
  have hf : (partsB e e.To.length).flatten = evB e := by
    simp only [partsB, List.take_length, List.flatten_append, two_flat, evB, hdB]
    simp
  have hlen : (partsB e e.To.length).length ≤ 3000 - 900 := by simp only [partsB, List.length_append, two_len e.To e.To.length (Nat.le_refl _)]; simp; omega
  have hsum : sumL (partsB e e.To.length) (partsB e e.To.length).length ≤ 1000000 := by
    rw [← flat_len, List.take_length, hf]
    have := dests_len e.To h7 e.To.length (Nat.le_refl _)
    rw [List.take_length] at this
    simp only [evB, List.length_append, hh, put_length]
    omega
  have hj := refJoin_eq k (partsB e e.To.length) (by omega) hsum (by omega)
  have hd := refDot_eq k (by omega) _ (dot_region h1)
  have hb1 := refBlob_eq k (by omega) e.Topic (by omega)
  have hb2 := refBlob_eq k (by omega) e.Payload (by omega)
  have hl' := hl
  simp only [dotB, blobB] at hl'
  simp only [ref09_Bytes, hd, hb1, hb2, refVec_eq k (by omega), hp, lt1, Option.bind_some, hl', hj, hf]
end Go.Proofs.Ythoggbomakolkaa
