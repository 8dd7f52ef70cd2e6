/- The law FrameMeans holds at every input: the walk and the plain law joined. -/
import Derived.Test.YtklnihlchhhhlaaGreatRows
import Derived.Test.YtklnihlchhhhlaaGreatW8
import Derived.Test.YtklnihlchhhhlaaGreatPFrameMeans
import Derived.WalkKit
import Derived.ProofKit
import Derived.OpenShut
import Derived.ShutString
import Derived.ChangeOld
import Derived.Below
import Derived.SizedLaws
import Derived.Carry
namespace Go.Proofs.YtklnihlchhhhlaaGreat.frameMeans
open Go Go.ChangeShapes Go.WideShapes Go.ChangeAt Go.RowKit Fw
open Go.ChangeMaps (open_string shut_string)
set_option linter.unusedVariables false
theorem own : ownKnob Tryz.prog.godebug = none := by kernel_rfl
theorem laidOut : laidOutB Tryz.prog = true := by kernel_rfl
set_option maxRecDepth 100000 in
theorem lifted (os : Os) (started : os.Started) (H : Type) (enc : TypeId × Value → H) :
    ReturnsInHanded {} Tryz.checked os 5 .any (Rows.frameMeansSpec.pre6 enc Tryz.prog Tryz.f5 Rows.frameMeansRow.domain false) (Rows.frameMeansSpec.post enc Tryz.prog Tryz.f5 false true false false) := by
  refine returnsInHanded_of_change_sized (C := Tryz.checked) own started (by kernel_rfl) Tryz.func5
    (ChangeSpec.witness6 (enc := enc) (C := Tryz.checked) false ⟨#[], #[(.agg #[.int .i64 0, .int .i64 0, .int .i64 0, .slice none 0 0, .int .i64 0, .int .u64 0, .string ⟨#[]⟩, .slice none 0 0, .int .u64 0, .int .u64 0, .int .u64 0, .int .u64 0, .int .u64 0, .int .u64 0, .int .u64 0, .int .u64 0, .int .u64 0, .int .u64 0, .int .u64 0, .int .u64 0, .int .u64 0, .int .u64 0, .int .u64 0, .int .u64 0, .slice none 0 0, .int .u64 0, .int .u64 0, .int .u64 0, .int .u64 0, .int .u64 0, .int .u64 0, .int .u64 0, .int .u64 0, .int .u64 0, .int .u64 0, .int .u64 0, .int .u64 0, .int .u64 0, .int .u64 0, .int .u64 0, .int .u64 0, .int .u64 0, .int .u64 0, .int .u64 0, .int .u64 0, .int .u64 0, .int .u64 0, .int .u64 0, .int .u64 0, .int .u64 0, .int .u64 0, .int .u64 0, .int .u64 0, .int .u64 0, .int .u64 0, .int .u64 0, .int .u64 0, .slice none 0 0, .slice none 0 0, .int .u8 0, .int .u8 0, .int .u8 0, .int .u8 0, .int .u8 0, .int .u8 0, .int .u8 0, .int .u8 0, .int .u8 0, .int .u8 0, .int .u8 0, .int .u8 0, .int .u8 0, .int .u8 0, .int .u8 0, .int .u8 0, .int .u8 0, .int .u8 0, .int .u8 0, .int .u8 0, .int .u8 0, .int .u8 0, .int .u8 0, .int .u8 0, .int .u8 0, .int .u8 0, .int .u8 0, .int .u8 0, .int .u8 0, .int .u8 0, .int .u8 0, .int .u8 0, .slice none 0 0, .slice none 0 0, .bool false]), (.agg #[.int .i64 0, .int .i64 0, .int .i64 0])], []⟩ 8 (by kernel_rfl) (by kernel_rfl) (by kernel_rfl) (by kernel_rfl)) ?_
  intro W base args ds gs before hval0 hW hcnd hsz0 _
  have hsz : (DataW.weightsEach Tryz.prog (Tryz.f5.params.toList ++ Rows.frameMeansSpec.plain.varTypes Tryz.prog) (ds ++ gs)).all (· ≤ reachBytes) = true := hsz0
  have hval : ∀ (j : Nat) t v, Tryz.f5.params[j]? = some t → args[j]? = some v → Value.okWide Tryz.prog W .any base t v := hval0
  have hW2 := hW
  obtain ⟨p, q, hA0, hV, rfl, hfz, hnd⟩ := hW
  have hA : DataW.TrodAll enc Tryz.prog W 0 (fun _ => true) true Tryz.f5.params.toList args.toList ds p := hA0
  rw [Tryz.params5] at hA hval hsz
  obtain ⟨v0, vs0, d0, ds0, p0, q0, hargs, rfl, rfl, h0, r0⟩ := trodAll_cons hA
  obtain ⟨v1, vs1, d1, ds1, p1, q1, rfl, rfl, rfl, h1, r1⟩ := trodAll_cons r0
  obtain ⟨rfl, rfl, rfl⟩ := trodAll_nil r1
  obtain rfl : args = #[v0, v1] := by cases args; simp_all
  obtain ⟨rfl, rfl⟩ := trodVars_none hV
  have lt0 : ∀ x ∈ p0, x.block < W.heap.size := by obtain ⟨m, hm⟩ := h0; exact DataW.trod_lt m _ _ _ hm
  obtain ⟨w0, hsz⟩ := Zfv hsz
  obtain ⟨y0, a0, fit0⟩ := argA (Rd.struct (f := Zai.tup) (fun y : Int × Int × Int × (List Zal) × Zaq × (Vector UInt64 16) × (Vector UInt64 16) × (List Zah) × (List Zah) × (Vector UInt8 32) × (List (Vector UInt8 32)) × (List Int) × Bool × Unit => Zai.mk y.1 y.2.1 y.2.2.1 y.2.2.2.1 y.2.2.2.2.1 y.2.2.2.2.2.1 y.2.2.2.2.2.2.1 y.2.2.2.2.2.2.2.1 y.2.2.2.2.2.2.2.2.1 y.2.2.2.2.2.2.2.2.2.1 y.2.2.2.2.2.2.2.2.2.2.1 y.2.2.2.2.2.2.2.2.2.2.2.1 y.2.2.2.2.2.2.2.2.2.2.2.2.1) (fun y => rfl) tu39 (by kernel_rfl) (by rw [fl39]; exact (RdL.cons rfl (by kernel_rfl) (Rd.int tu22) (RdL.cons rfl (by kernel_rfl) (Rd.int tu3) (RdL.cons rfl (by kernel_rfl) (Rd.int tu3) (RdL.cons rfl (by kernel_rfl) (Rd.slice (B := 56) tu23 (Rd.struct (f := Zal.tup) (fun y : Zah × Zbs × Bool × Unit => Zal.mk y.1 y.2.1 y.2.2.1) (fun y => rfl) tu62 (by kernel_rfl) (by rw [fl62]; exact (RdL.cons rfl (by kernel_rfl) (Rd.struct (f := Zah.tup) (fun y : Int × UInt64 × Unit => Zah.mk y.1 y.2.1) (fun y => rfl) tu26 (by kernel_rfl) (by rw [fl26]; exact (RdL.cons rfl (by kernel_rfl) (Rd.int tu3) (RdL.cons rfl (by kernel_rfl) (Rd.u (U := UInt64) tu24) RdL.nil)))) (RdL.cons rfl (by kernel_rfl) (Rd.struct (f := Zbs.tup) (fun y : (List UInt8) × (List UInt8) × Unit => Zbs.mk y.1 y.2.1) (fun y => rfl) tu60 (by kernel_rfl) (by rw [fl60]; exact (RdL.cons rfl (by kernel_rfl) (Rd.str tu9) (RdL.cons rfl (by kernel_rfl) (Rd.str tu9) RdL.nil)))) (RdL.cons rfl (by kernel_rfl) (Rd.bool tu4) RdL.nil))))) (by kernel_rfl) (ltB rfl) (by kernel_rfl)) (RdL.cons rfl (by kernel_rfl) (Rd.struct (f := Zaq.tup) (fun y : Zah × (List UInt8) × (List UInt8) × (Vector UInt64 16) × (List ZaA) × Unit => Zaq.mk y.1 y.2.1 y.2.2.1 y.2.2.2.1 y.2.2.2.2.1) (fun y => rfl) tu32 (by kernel_rfl) (by rw [fl32]; exact (RdL.cons rfl (by kernel_rfl) (Rd.struct (f := Zah.tup) (fun y : Int × UInt64 × Unit => Zah.mk y.1 y.2.1) (fun y => rfl) tu26 (by kernel_rfl) (by rw [fl26]; exact (RdL.cons rfl (by kernel_rfl) (Rd.int tu3) (RdL.cons rfl (by kernel_rfl) (Rd.u (U := UInt64) tu24) RdL.nil)))) (RdL.cons rfl (by kernel_rfl) (Rd.str tu9) (RdL.cons rfl (by kernel_rfl) (Rd.slice (B := 1) tu27 (Rd.u (U := UInt8) tu5) (by kernel_rfl) (ltB rfl) (by kernel_rfl)) (RdL.cons rfl (by kernel_rfl) (Rd.arr (n := 16) tu29 (Rd.u (U := UInt64) tu24) (by kernel_rfl) (by kernel_rfl)) (RdL.cons rfl (by kernel_rfl) (Rd.slice (B := 32) tu30 (Rd.struct (f := ZaA.tup) (fun y : Zah × (List UInt8) × Unit => ZaA.mk y.1 y.2.1) (fun y => rfl) ZnQ (by kernel_rfl) (by rw [Zoj]; exact (RdL.cons rfl (by kernel_rfl) (Rd.struct (f := Zah.tup) (fun y : Int × UInt64 × Unit => Zah.mk y.1 y.2.1) (fun y => rfl) tu26 (by kernel_rfl) (by rw [fl26]; exact (RdL.cons rfl (by kernel_rfl) (Rd.int tu3) (RdL.cons rfl (by kernel_rfl) (Rd.u (U := UInt64) tu24) RdL.nil)))) (RdL.cons rfl (by kernel_rfl) (Rd.str tu9) RdL.nil)))) (by kernel_rfl) (ltB rfl) (by kernel_rfl)) RdL.nil))))))) (RdL.cons rfl (by kernel_rfl) (Rd.arr (n := 16) tu29 (Rd.u (U := UInt64) tu24) (by kernel_rfl) (by kernel_rfl)) (RdL.cons rfl (by kernel_rfl) (Rd.arr (n := 16) tu29 (Rd.u (U := UInt64) tu24) (by kernel_rfl) (by kernel_rfl)) (RdL.cons rfl (by kernel_rfl) (Rd.slice (B := 16) tu33 (Rd.struct (f := Zah.tup) (fun y : Int × UInt64 × Unit => Zah.mk y.1 y.2.1) (fun y => rfl) tu26 (by kernel_rfl) (by rw [fl26]; exact (RdL.cons rfl (by kernel_rfl) (Rd.int tu3) (RdL.cons rfl (by kernel_rfl) (Rd.u (U := UInt64) tu24) RdL.nil)))) (by kernel_rfl) (ltB rfl) (by kernel_rfl)) (RdL.cons rfl (by kernel_rfl) (Rd.slice (B := 16) tu33 (Rd.struct (f := Zah.tup) (fun y : Int × UInt64 × Unit => Zah.mk y.1 y.2.1) (fun y => rfl) tu26 (by kernel_rfl) (by rw [fl26]; exact (RdL.cons rfl (by kernel_rfl) (Rd.int tu3) (RdL.cons rfl (by kernel_rfl) (Rd.u (U := UInt64) tu24) RdL.nil)))) (by kernel_rfl) (ltB rfl) (by kernel_rfl)) (RdL.cons rfl (by kernel_rfl) (Rd.arr (n := 32) tu35 (Rd.u (U := UInt8) tu5) (by kernel_rfl) (by kernel_rfl)) (RdL.cons rfl (by kernel_rfl) (Rd.slice (B := 32) tu36 (Rd.arr (n := 32) tu35 (Rd.u (U := UInt8) tu5) (by kernel_rfl) (by kernel_rfl)) (by kernel_rfl) (ltB rfl) (by kernel_rfl)) (RdL.cons rfl (by kernel_rfl) (Rd.slice (B := 8) tu37 (Rd.int tu3) (by kernel_rfl) (ltB rfl) (by kernel_rfl)) (RdL.cons rfl (by kernel_rfl) (Rd.bool tu4) RdL.nil))))))))))))))) (by kernel_rfl) (hval 0 39 v0 rfl rfl) h0 w0
  have lt1 : ∀ x ∈ p1, x.block < W.heap.size := by obtain ⟨m, hm⟩ := h1; exact DataW.trod_lt m _ _ _ hm
  obtain ⟨w1, hsz⟩ := Zfv hsz
  obtain ⟨y1, a1, fit1⟩ := argA (Rd.arr (n := 3) tu53 (Rd.int tu3) (by kernel_rfl) (by kernel_rfl)) (by kernel_rfl) (hval 1 53 v1 rfl rfl) h1 w1
  obtain ⟨k, hk⟩ := Zh2 y0 y1 fit0 fit1
  clear hA0 hval0 hsz0 hsz
  refine (Sim.law (vs := [v0, v1]) (Zfx k y0 y1 true hk) (Zez.cons a0 (Zez.cons a1 Zez.nil))).mono fun e W2 he => ?_
  obtain ⟨he, bel⟩ := he
  subst he
  exact ⟨_, rfl, _, _, _, [], _, [], hW2, trodAll_mk1 (shut_bool (by kernel_rfl) _), (trodAll_cons_mk (Below.trod laidOut (by kernel_rfl) (of_decide_eq_true (by kernel_rfl)) h0 bel lt0) (trodAll_cons_mk (Below.trod laidOut (by kernel_rfl) (of_decide_eq_true (by kernel_rfl)) h1 bel lt1) trodAll_mk0)), rfl, bel.frame _, fun h => by cases h⟩
theorem over : Rows.frameMeansRow.holds Tryz.pinned (OpenSpec.ofChange Rows.frameMeansSpec) :=
  OpenClaim.holds_of_wide 5 Tryz.f5 rfl rfl rfl rfl rfl rfl rfl ⟨rfl, rfl, rfl, rfl, rfl⟩ rfl rfl rfl rfl rfl (by kernel_rfl) Tryz.func5 (by kernel_rfl)
    (of_decide_eq_true (by kernel_rfl)) (by unfold Func.isWrapper; first | (rw [if_pos (by decide +kernel)]; kernel_rfl) | (rw [if_neg (by decide +kernel)]; exact ⟨rfl, rfl⟩))
    (fun os started H enc _ => lifted os started H enc)
end Go.Proofs.YtklnihlchhhhlaaGreat.frameMeans
namespace Go.Proofs.YtklnihlchhhhlaaGreat
theorem frameMeans_holds : Rows.FrameMeansSaid := frameMeans.over
#print axioms frameMeans_holds
end Go.Proofs.YtklnihlchhhhlaaGreat
