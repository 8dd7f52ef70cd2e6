/- The plain law ShaSums. -/
import Derived.Test.YtdncoiehmkcajaaR
namespace Go.Proofs.Ytdncoiehmkcajaa
open Go Fw
set_option linter.unusedVariables false
set_option linter.unusedSimpArgs false

theorem eqV8_refl {n : Nat} (v : Vector UInt8 n) : eqV (fun x y => x == y) v v = true := (eqV_iff (fun _ _ => beq_iff_eq)).2 rfl
theorem pure_ShaSums (y0 : (List (List UInt8))) (f0 : (List.length y0 * 24 ≤ 140737488351232 ∧ ∀ z0 ∈ y0, (List.length z0 * 1 ≤ 140737488351232 ∧ ∀ z1 ∈ z0, True))) : ∃ k, law03_ShaSums k y0 = some true := by
  obtain ⟨k, hk⟩ : ∃ k : Nat, k = 4000 := ⟨_, rfl⟩
  refine ⟨k, ?_⟩
  obtain ⟨b, hb, hb2⟩ := much_eq k 3000 (by omega) y0 (by omega) (by omega)
  have hb : ref01_Much k y0 3000 = some b := hb
  cases b with
  | true => simp only [law03_ShaSums, hb, Option.bind_some, if_true, known_ok hk]
  | false =>
    have h1 := hb2 rfl
    rw [flat_all] at h1
    have h2 := refJoin_eq k y0 (by omega) (by omega) (by omega)
    have h3 := shaSumK hk y0 (by omega) (by omega)
    have h4 := shaSumK hk [y0.flatten] (by simp) (by simp; simp at h1; omega)
    have h5 := refSumK hk y0.flatten (by omega)
    simp only [List.flatten_cons, List.flatten_nil, List.append_nil] at h4
    simp only [law03_ShaSums, hb, Option.bind_some, Bool.false_eq_true, if_false, if_true, h2, h3, h4, h5, lt1, eqV8_refl, known_ok hk, cond_true]
end Go.Proofs.Ytdncoiehmkcajaa
