/- What calls with constants come to (the walks lean on it). -/
import Derived.Test.YtklnihlchhhhlaaGreatFa
import Derived.Test.YtklnihlchhhhlaaGreatFq
import Derived.Test.YtklnihlchhhhlaaGreatS
namespace Go.Proofs.YtklnihlchhhhlaaGreat
open Go Fw
set_option linter.unusedVariables false
set_option linter.unusedSimpArgs false

theorem h_w0 {v : Int} (h : w64 (UN.toN (0 : UInt64) : Int) = v) : v = (0 : Int) := by
  rw [← h]; exact w64_id (by decide) (by decide)
theorem h_Read {k : Nat} {v : List UInt8} (h : wire_Read k ([] : (List UInt8)) = some v) : v = ([] : (List UInt8)) := by
  have h1 : apL 1 ([] : List UInt8) ([] : List UInt8) = some [] := apL_ok (by decide)
  simp only [wire_Read, slices_Clonebyte_byte, h1, Option.bind_some, Option.some.injEq] at h
  exact h.symm
theorem get0 (k : Nat) : wire_Get k ([] : List UInt8) = some ((0 : UInt64), (2 : Int)) := by
  simp [wire_Get, lt1]
theorem h_Num {k : Nat} {v : UInt64} {x : wire_Reader} (h : wire_Reader_Number k (1 : Int) true true ([] : (List UInt8)) = some (v, x)) : v = (0 : UInt64) ∧ x = (wire_Reader.mk ([] : (List UInt8)) false true) := by
  have h1 : wire_Reader_take k 1 true true ([] : List UInt8) = some ([], false, [], false, true) := by simp [wire_Reader_take, wire_Reader_Failed, lt1]
  have h2 : (decide ((1 : Int) < 1)) = false := by decide
  have h3 : (decide ((1 : Int) > 8)) = false := by decide
  simp only [wire_Reader_Number, lt1, h2, h3, cond_false, Option.bind_some, Bool.false_eq_true, if_false, h1, get0, Option.some.injEq, Prod.mk.injEq] at h
  exact ⟨h.1.symm, h.2.symm⟩
theorem h_Num2 {k : Nat} {v : UInt64} {x : wire_Reader} (h : wire_Reader_Number'2 k (1 : Int) (wire_Reader.mk ([] : (List UInt8)) false true) = some (v, x)) : v = (0 : UInt64) ∧ x = (wire_Reader.mk ([] : (List UInt8)) false true) := by
  have h1 : wire_Reader_take'2 k 1 (wire_Reader.mk ([] : (List UInt8)) false true) = some ([], false, wire_Reader.mk ([] : (List UInt8)) false true) := by simp [wire_Reader_take'2, wire_Reader_Failed'2, lt1]
  have h2 : (decide ((1 : Int) < 1)) = false := by decide
  have h3 : (decide ((1 : Int) > 8)) = false := by decide
  simp only [wire_Reader_Number'2, lt1, h2, h3, cond_false, Option.bind_some, Bool.false_eq_true, if_false, h1, get0, Option.some.injEq, Prod.mk.injEq] at h
  exact ⟨h.1.symm, h.2.symm⟩
theorem h_forms {k : Nat} {v : List (Int × frame_form)} (h : frame_forms k = some v) : v = ([((1 : Int), (frame_form.mk (some 92 : Option Nat) (some 93 : Option Nat))), ((2 : Int), (frame_form.mk (some 94 : Option Nat) (some 95 : Option Nat))), ((3 : Int), (frame_form.mk (some 96 : Option Nat) (some 97 : Option Nat))), ((4 : Int), (frame_form.mk (some 98 : Option Nat) (some 99 : Option Nat))), ((5 : Int), (frame_form.mk (some 100 : Option Nat) (some 101 : Option Nat))), ((6 : Int), (frame_form.mk (some 102 : Option Nat) (some 103 : Option Nat))), ((7 : Int), (frame_form.mk (some 104 : Option Nat) (some 105 : Option Nat)))] : (List (Int × frame_form))) := by
  have h' : some ([((1 : Int), (frame_form.mk (some 92 : Option Nat) (some 93 : Option Nat))), ((2 : Int), (frame_form.mk (some 94 : Option Nat) (some 95 : Option Nat))), ((3 : Int), (frame_form.mk (some 96 : Option Nat) (some 97 : Option Nat))), ((4 : Int), (frame_form.mk (some 98 : Option Nat) (some 99 : Option Nat))), ((5 : Int), (frame_form.mk (some 100 : Option Nat) (some 101 : Option Nat))), ((6 : Int), (frame_form.mk (some 102 : Option Nat) (some 103 : Option Nat))), ((7 : Int), (frame_form.mk (some 104 : Option Nat) (some 105 : Option Nat)))] : (List (Int × frame_form))) = some v := h
  exact (Option.some.inj h').symm
theorem h_get {v : frame_form} {b : Bool} (h : mgetC (some ([((1 : Int), (frame_form.mk (some 92 : Option Nat) (some 93 : Option Nat))), ((2 : Int), (frame_form.mk (some 94 : Option Nat) (some 95 : Option Nat))), ((3 : Int), (frame_form.mk (some 96 : Option Nat) (some 97 : Option Nat))), ((4 : Int), (frame_form.mk (some 98 : Option Nat) (some 99 : Option Nat))), ((5 : Int), (frame_form.mk (some 100 : Option Nat) (some 101 : Option Nat))), ((6 : Int), (frame_form.mk (some 102 : Option Nat) (some 103 : Option Nat))), ((7 : Int), (frame_form.mk (some 104 : Option Nat) (some 105 : Option Nat)))] : (List (Int × frame_form)))) (0 : Int) (frame_form.mk (none : Option Nat) (none : Option Nat)) = some (v, b)) : v = (frame_form.mk (none : Option Nat) (none : Option Nat)) ∧ b = false := by
  have h' : some ((frame_form.mk (none : Option Nat) (none : Option Nat)), false) = some (v, b) := h
  have h2 := Prod.mk.inj (Option.some.inj h')
  exact ⟨h2.1.symm, h2.2.symm⟩
theorem h_May0 {k : Nat} {v : Bool} (h : frame_May k (api_Frame.mk (0 : Int) (0 : Int) (0 : Int) ([] : (List api_Item)) (api_Event.mk (api_Dot.mk (0 : Int) (0 : UInt64)) ([] : (List UInt8)) ([] : (List UInt8)) (Vector.replicate 16 (0 : UInt64)) ([] : (List api_Dest))) (Vector.replicate 16 (0 : UInt64)) (Vector.replicate 16 (0 : UInt64)) ([] : (List api_Dot)) ([] : (List api_Dot)) (Vector.replicate 32 (0 : UInt8)) ([] : (List (Vector UInt8 32))) ([] : (List Int)) false) = some v) : v = false := by
  have e : frame_May k (api_Frame.mk (0 : Int) (0 : Int) (0 : Int) ([] : (List api_Item)) (api_Event.mk (api_Dot.mk (0 : Int) (0 : UInt64)) ([] : (List UInt8)) ([] : (List UInt8)) (Vector.replicate 16 (0 : UInt64)) ([] : (List api_Dest))) (Vector.replicate 16 (0 : UInt64)) (Vector.replicate 16 (0 : UInt64)) ([] : (List api_Dot)) ([] : (List api_Dot)) (Vector.replicate 32 (0 : UInt8)) ([] : (List (Vector UInt8 32))) ([] : (List Int)) false) = some false := by simp [frame_May, lt1]
  rw [e] at h
  exact (Option.some.inj h).symm
end Go.Proofs.YtklnihlchhhhlaaGreat
