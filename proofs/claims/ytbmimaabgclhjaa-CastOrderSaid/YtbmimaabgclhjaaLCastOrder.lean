/- The law CastOrder holds at every input: the walk and the plain law joined. -/
import Derived.Test.YtbmimaabgclhjaaRows
import Derived.Test.YtbmimaabgclhjaaW8
import Derived.Test.YtbmimaabgclhjaaPCastOrder
import Derived.WalkKit
import Derived.ProofKit
import Derived.OpenShut
import Derived.ShutString
import Derived.ChangeOld
import Derived.Below
import Derived.SizedLaws
import Derived.Carry
namespace Go.Proofs.Ytbmimaabgclhjaa.castOrder
open Go Go.ChangeShapes Go.WideShapes Go.ChangeAt Go.RowKit Fw
open Go.ChangeMaps (open_string shut_string)
set_option linter.unusedVariables false
theorem own : ownKnob Try.prog.godebug = none := by kernel_rfl
theorem laidOut : laidOutB Try.prog = true := by kernel_rfl
set_option maxRecDepth 100000 in
theorem lifted (os : Os) (started : os.Started) (H : Type) (enc : TypeId × Value → H) :
    ReturnsInHanded {} Try.checked os 3 .any (Rows.castOrderSpec.pre6 enc Try.prog Try.f3 Rows.castOrderRow.domain false) (Rows.castOrderSpec.post enc Try.prog Try.f3 false true false false) := by
  refine returnsInHanded_of_change_sized (C := Try.checked) own started (by kernel_rfl) Try.func3
    (ChangeSpec.witness6 (enc := enc) (C := Try.checked) false ⟨#[], #[.int .i64 0, .int .i64 0, .slice none 0 0], []⟩ 8 (by kernel_rfl) (by kernel_rfl) (by kernel_rfl) (by kernel_rfl)) ?_
  intro W base args ds gs before hval0 hW hcnd hsz0 _
  have hsz : (DataW.weightsEach Try.prog (Try.f3.params.toList ++ Rows.castOrderSpec.plain.varTypes Try.prog) (ds ++ gs)).all (· ≤ reachBytes) = true := hsz0
  have hval : ∀ (j : Nat) t v, Try.f3.params[j]? = some t → args[j]? = some v → Value.okWide Try.prog W .any base t v := hval0
  have hW2 := hW
  obtain ⟨p, q, hA0, hV, rfl, hfz, hnd⟩ := hW
  have hA : DataW.TrodAll enc Try.prog W 0 (fun _ => true) true Try.f3.params.toList args.toList ds p := hA0
  rw [Try.params3] at hA hval hsz
  obtain ⟨v0, vs0, d0, ds0, p0, q0, hargs, rfl, rfl, h0, r0⟩ := trodAll_cons hA
  obtain ⟨v1, vs1, d1, ds1, p1, q1, rfl, rfl, rfl, h1, r1⟩ := trodAll_cons r0
  obtain ⟨v2, vs2, d2, ds2, p2, q2, rfl, rfl, rfl, h2, r2⟩ := trodAll_cons r1
  obtain ⟨rfl, rfl, rfl⟩ := trodAll_nil r2
  obtain rfl : args = #[v0, v1, v2] := by cases args; simp_all
  obtain ⟨rfl, rfl⟩ := trodVars_none hV
  have lt0 : ∀ x ∈ p0, x.block < W.heap.size := by obtain ⟨m, hm⟩ := h0; exact DataW.trod_lt m _ _ _ hm
  obtain ⟨w0, hsz⟩ := weightsEach_cons hsz
  obtain ⟨y0, a0, fit0⟩ := argS (Rd.int tu3) (by kernel_rfl) (hval 0 3 v0 rfl rfl) h0 w0
  have lt1 : ∀ x ∈ p1, x.block < W.heap.size := by obtain ⟨m, hm⟩ := h1; exact DataW.trod_lt m _ _ _ hm
  obtain ⟨w1, hsz⟩ := weightsEach_cons hsz
  obtain ⟨y1, a1, fit1⟩ := argS (Rd.int tu3) (by kernel_rfl) (hval 1 3 v1 rfl rfl) h1 w1
  have lt2 : ∀ x ∈ p2, x.block < W.heap.size := by obtain ⟨m, hm⟩ := h2; exact DataW.trod_lt m _ _ _ hm
  obtain ⟨w2, hsz⟩ := weightsEach_cons hsz
  obtain ⟨y2, a2, fit2⟩ := argS (Rd.slice (B := 216) tu22 (Rd.struct (f := law13_Act.tup) (fun y : Int × api_Event × Unit => law13_Act.mk y.1 y.2.1) (fun y => rfl) tu39 (by kernel_rfl) (by rw [fl39]; exact (RdL.cons rfl (by kernel_rfl) (Rd.int tu3) (RdL.cons rfl (by kernel_rfl) (Rd.struct (f := api_Event.tup) (fun y : api_Dot × (List UInt8) × (List UInt8) × (Vector UInt64 16) × (List api_Dest) × Unit => api_Event.mk y.1 y.2.1 y.2.2.1 y.2.2.2.1 y.2.2.2.2.1) (fun y => rfl) tu37 (by kernel_rfl) (by rw [fl37]; exact (RdL.cons rfl (by kernel_rfl) (Rd.struct (f := api_Dot.tup) (fun y : Int × UInt64 × Unit => api_Dot.mk y.1 y.2.1) (fun y => rfl) tu31 (by kernel_rfl) (by rw [fl31]; exact (RdL.cons rfl (by kernel_rfl) (Rd.int tu3) (RdL.cons rfl (by kernel_rfl) (Rd.u (U := UInt64) tu29) RdL.nil)))) (RdL.cons rfl (by kernel_rfl) (Rd.str tu9) (RdL.cons rfl (by kernel_rfl) (Rd.slice (B := 1) tu32 (Rd.u (U := UInt8) tu5) (by kernel_rfl) (ltB rfl) (by kernel_rfl)) (RdL.cons rfl (by kernel_rfl) (Rd.arr (n := 16) tu34 (Rd.u (U := UInt64) tu29) (by kernel_rfl) (by kernel_rfl)) (RdL.cons rfl (by kernel_rfl) (Rd.slice (B := 32) tu35 (Rd.struct (f := api_Dest.tup) (fun y : api_Dot × (List UInt8) × Unit => api_Dest.mk y.1 y.2.1) (fun y => rfl) tu91 (by kernel_rfl) (by rw [fl91]; exact (RdL.cons rfl (by kernel_rfl) (Rd.struct (f := api_Dot.tup) (fun y : Int × UInt64 × Unit => api_Dot.mk y.1 y.2.1) (fun y => rfl) tu31 (by kernel_rfl) (by rw [fl31]; exact (RdL.cons rfl (by kernel_rfl) (Rd.int tu3) (RdL.cons rfl (by kernel_rfl) (Rd.u (U := UInt64) tu29) RdL.nil)))) (RdL.cons rfl (by kernel_rfl) (Rd.str tu9) RdL.nil)))) (by kernel_rfl) (ltB rfl) (by kernel_rfl)) RdL.nil))))))) RdL.nil)))) (by kernel_rfl) (ltB rfl) (by kernel_rfl)) (by kernel_rfl) (hval 2 22 v2 rfl rfl) h2 w2
  obtain ⟨k, hk⟩ := pure_CastOrder y0 y1 y2 fit0 fit1 fit2
  clear hA0 hval0 hsz0 hsz
  refine (Sim.law (vs := [v0, v1, v2]) (sim_law13_CastOrder k y0 y1 y2 true hk) (ArgsR.cons a0 (ArgsR.cons a1 (ArgsR.cons a2 ArgsR.nil)))).mono fun e W2 he => ?_
  obtain ⟨he, bel⟩ := he
  subst he
  exact ⟨_, rfl, _, _, _, [], _, [], hW2, trodAll_mk1 (shut_bool (by kernel_rfl) _), (trodAll_cons_mk (Below.trod laidOut (by kernel_rfl) (of_decide_eq_true (by kernel_rfl)) h0 bel lt0) (trodAll_cons_mk (Below.trod laidOut (by kernel_rfl) (of_decide_eq_true (by kernel_rfl)) h1 bel lt1) (trodAll_cons_mk (Below.trod laidOut (by kernel_rfl) (of_decide_eq_true (by kernel_rfl)) h2 bel lt2) trodAll_mk0))), rfl, bel.frame _, fun h => by cases h⟩
theorem over : Rows.castOrderRow.holds Try.pinned (OpenSpec.ofChange Rows.castOrderSpec) :=
  OpenClaim.holds_of_wide 3 Try.f3 rfl rfl rfl rfl rfl rfl rfl ⟨rfl, rfl, rfl, rfl, rfl⟩ rfl rfl rfl rfl rfl (by kernel_rfl) Try.func3 (by kernel_rfl)
    (of_decide_eq_true (by kernel_rfl)) (by unfold Func.isWrapper; first | (rw [if_pos (by decide +kernel)]; kernel_rfl) | (rw [if_neg (by decide +kernel)]; exact ⟨rfl, rfl⟩))
    (fun os started H enc _ => lifted os started H enc)
end Go.Proofs.Ytbmimaabgclhjaa.castOrder
namespace Go.Proofs.Ytbmimaabgclhjaa
/-- The row, under a short name. -/
theorem castOrder_holds : Rows.CastOrderSaid := castOrder.over
#print axioms castOrder_holds
end Go.Proofs.Ytbmimaabgclhjaa
