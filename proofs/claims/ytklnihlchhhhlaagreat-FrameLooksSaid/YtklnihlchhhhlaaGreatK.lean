/- What known() asks, part by part. -/
import Derived.Test.YtklnihlchhhhlaaGreatO
import Derived.Test.YtklnihlchhhhlaaGreatH
namespace Go.Proofs.YtklnihlchhhhlaaGreat
open Go Fw
set_option linter.unusedVariables false
set_option linter.unusedSimpArgs false

theorem Of0_eq (k : Nat) : frame_Of k = some () := by
  have h1 : apL 1 ([] : List UInt8) ([] : List UInt8) = some [] := apL_ok (by decide)
  have r : wire_Read k ([] : List UInt8) = some [] := by simp only [wire_Read, slices_Clonebyte_byte, h1, Option.bind_some]
  have h2 : (decide ((1 : Int) < 1)) = false := by decide
  have h3 : (decide ((1 : Int) > 8)) = false := by decide
  have t1 : wire_Reader_take k 1 true true ([] : List UInt8) = some ([], false, [], false, true) := by simp [wire_Reader_take, wire_Reader_Failed, lt1]
  have n1 : wire_Reader_Number k (1 : Int) true true ([] : (List UInt8)) = some ((0 : UInt64), (wire_Reader.mk ([] : (List UInt8)) false true)) := by
    simp only [wire_Reader_Number, lt1, h2, h3, cond_false, Option.bind_some, Bool.false_eq_true, if_false, t1, get0]
  have t2 : wire_Reader_take'2 k 1 (wire_Reader.mk ([] : (List UInt8)) false true) = some ([], false, wire_Reader.mk ([] : (List UInt8)) false true) := by simp [wire_Reader_take'2, wire_Reader_Failed'2, lt1]
  have n2 : wire_Reader_Number'2 k (1 : Int) (wire_Reader.mk ([] : (List UInt8)) false true) = some ((0 : UInt64), (wire_Reader.mk ([] : (List UInt8)) false true)) := by
    simp only [wire_Reader_Number'2, lt1, h2, h3, cond_false, Option.bind_some, Bool.false_eq_true, if_false, t2, get0]
  have h4 : (decide ((0 : Int) < 1)) = true := by decide
  have hM : ∀ (a b : Int) (i : List api_Item) (e : api_Event) (p s : Vector UInt64 16) (x l : List api_Dot) (h : Vector UInt8 32) (v : List (Vector UInt8 32)) (bu : List Int) (rp : Bool), frame_May k (api_Frame.mk a (0 : Int) b i e p s x l h v bu rp) = some false := fun a b i e p s x l h v bu rp => by
    simp only [frame_May, lt1, h4, if_true, Option.bind_some]
  simp only [frame_Of, r, n1, n2, hM, lt1, Option.bind_some]
  rfl
theorem MaySame_eq (k : Nat) (a : Int) (i : List api_Item) (e : api_Event) (p s : Vector UInt64 16) (x l : List api_Dot) (h : Vector UInt8 32) (v : List (Vector UInt8 32)) (bu : List Int) (rp : Bool) : frame_May k (api_Frame.mk a (1 : Int) (1 : Int) i e p s x l h v bu rp) = some false := by
  have h1 : (decide ((1 : Int) < 1)) = false := by decide
  have h2 : (decide ((1 : Int) > 16)) = false := by decide
  simp [frame_May, lt1]
theorem Name7_eq (k : Nat) : frame_Name k 7 = some ([105, 116, 101, 109, 115] : List UInt8) := by rfl
end Go.Proofs.YtklnihlchhhhlaaGreat
