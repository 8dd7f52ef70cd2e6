/- A constant frame may be. -/
import Derived.Test.YtklnihlchhhhlaaGreatK
namespace Go.Proofs.YtklnihlchhhhlaaGreat
open Go Fw
set_option linter.unusedVariables false
set_option linter.unusedSimpArgs false

def F3 : api_Frame := api_Frame.mk (3 : Int) (1 : Int) (2 : Int) ([] : (List api_Item)) (api_Event.mk (api_Dot.mk (0 : Int) (0 : UInt64)) ([] : (List UInt8)) ([] : (List UInt8)) (Vector.replicate 16 (0 : UInt64)) ([] : (List api_Dest))) (Vector.replicate 16 (0 : UInt64)) (Vector.replicate 16 (0 : UInt64)) ([] : (List api_Dot)) ([] : (List api_Dot)) (Vector.replicate 32 (0 : UInt8)) ([] : (List (Vector UInt8 32))) ([] : (List Int)) false
theorem contains0 (k : Nat) (hk : 17 ≤ k) : slices_ContainsFuncuint64_uint64'2 k (List.replicate 16 (0 : UInt64)) = some false := by
  have hlp : loopO (fun s => slices_IndexFuncuint64_uint64'2.b1 k (List.replicate 16 (0 : UInt64)) s) k (0 : Int) = some (.inl ()) := by
    refine loop_g (f := fun i => ((i : Nat) : Int)) 16 _ rfl ?_ ?_ (by omega)
    · intro i hi
      have hl : i < (List.replicate 16 (0 : UInt64)).length := by rw [List.length_replicate]; exact hi
      have h0 : (decide ((4611686018427387904 : UInt64) < 0)) = false := by decide
      simp only [slices_IndexFuncuint64_uint64'2.b1, lt1, List.length_replicate, dec_t (show (i : Int) < ((16 : Nat) : Int) by omega), if_true, idxL_lt hl, List.getElem_replicate, Option.bind_some, frame_May_2, h0, Bool.false_eq_true, if_false, w64_succ (show i < 9223372036854775807 by omega)]
    · simp only [slices_IndexFuncuint64_uint64'2.b1, lt1, List.length_replicate, dec_f (show ¬ ((16 : Nat) : Int) < ((16 : Nat) : Int) by omega), Bool.false_eq_true, if_false]
  simp only [slices_ContainsFuncuint64_uint64'2, slices_IndexFuncuint64_uint64'2, hlp, Option.bind_some, lt1]
  rfl
theorem bare3 (k : Nat) : frame_bare k F3 = some F3 := rfl
theorem same3 (k : Nat) : frame_Same (k + 1) F3 F3 = some true := by rfl
theorem May3_eq (k : Nat) (hk : 17 ≤ k) : frame_May k F3 = some true := by
  obtain ⟨j, rfl⟩ : ∃ j, k = j + 1 := ⟨k - 1, by omega⟩
  have h1 : (decide (F3.From < 1)) = false := by decide
  have h2 : (decide (F3.From > 16)) = false := by decide
  have h3 : (decide (F3.To < 1)) = false := by decide
  have h4 : (decide (F3.To > 16)) = false := by decide
  have h5 : (F3.From == F3.To) = false := by decide
  have k1 : (F3.Kind == 1) = false := by decide
  have k2 : (F3.Kind == 2) = false := by decide
  have k3 : (F3.Kind == 3) = true := by decide
  have hs : subL (Vector.toList F3.Past) 0 16 = some (List.replicate 16 (0 : UInt64)) := by
    rw [subL_ok (by omega) (by omega) (by decide)]; rfl
  simp only [frame_May, lt1, h1, h2, h3, h4, h5, k1, k2, k3, Bool.false_eq_true, if_false, if_true, Bool.not_false, bare3, same3, Option.bind_some, Bool.not_true, cond_false, hs, contains0 (j + 1) hk]
end Go.Proofs.YtklnihlchhhhlaaGreat
