/- The plain law ShaCodes. -/
import Derived.Test.YtdncoiehmkcajaaPShaSums
namespace Go.Proofs.Ytdncoiehmkcajaa
open Go Fw
set_option linter.unusedVariables false
set_option linter.unusedSimpArgs false

theorem pure_ShaCodes (y0 : (List UInt8)) (y1 : (List (List UInt8))) (f0 : (List.length y0 * 1 ≤ 140737488351232 ∧ ∀ z0 ∈ y0, True)) (f1 : (List.length y1 * 24 ≤ 140737488351232 ∧ ∀ z0 ∈ y1, (List.length z0 * 1 ≤ 140737488351232 ∧ ∀ z1 ∈ z0, True))) : ∃ k, law03_ShaCodes k y0 y1 = some true := by
  obtain ⟨k, hk⟩ : ∃ k : Nat, k = 4000 := ⟨_, rfl⟩
  refine ⟨k, ?_⟩
  obtain ⟨b, hb, hb2⟩ := much_eq k 3000 (by omega) y1 (by omega) (by omega)
  have hb : ref01_Much k y1 3000 = some b := hb
  by_cases h0 : (y0.length : Int) > 300
  · simp only [law03_ShaCodes, lt1, dec_t h0, Bool.not_true, Bool.false_eq_true, if_false, Option.bind_some, cond_true, if_true, known_ok hk]
  cases b with
  | true => simp only [law03_ShaCodes, lt1, dec_f h0, Bool.not_false, Bool.false_eq_true, if_false, Option.bind_some, cond_false, if_true, known_ok hk, hb]
  | false =>
    have h1 := hb2 rfl
    rw [flat_all] at h1
    have h2 := refJoin_eq k y1 (by omega) (by omega) (by omega)
    have h3 := shaCode hk y0 y1 (by omega) (by omega) (by omega)
    have h4 := shaCode hk y0 [y1.flatten] (by omega) (by simp) (by simp; simp at h1; omega)
    have h5 := refCode hk y0 y1.flatten (by omega) (by omega)
    simp only [List.flatten_cons, List.flatten_nil, List.append_nil] at h4
    simp only [law03_ShaCodes, lt1, dec_f h0, Bool.not_false, cond_false, hb, Option.bind_some, Bool.false_eq_true, if_false, if_true, h2, h3, h4, h5, eqV8_refl, known_ok hk, cond_true, beq_self_eq_true]
end Go.Proofs.Ytdncoiehmkcajaa
