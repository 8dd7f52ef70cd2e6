/- Casters: publishing; many acts; the law CastPast but for the known row. -/
import Derived.Test.YtbmimaabgclhjaaD
namespace Go.Proofs.Ytbmimaabgclhjaa
open Go Fw
set_option linter.unusedVariables false
set_option linter.unusedSimpArgs false

theorem pub_eq {k : Nat} (hk : 100000 ≤ k) (a b : List UInt8) (c : List api_Dest) (hl : c.length ≤ 70000) (r o : Int) (h1 : 1 ≤ r) (h2 : r ≤ 16) (o1 : 1 ≤ o) (o2 : o ≤ 16) (n : Nat) (hn : n ≤ 200) (s : CS) (h : CInv n s) : ∃ e f, ∃ s' : CS, cast_Caster_Publish_pvvv_svvvoomm k a b c r o s.v s.l s.b s.x = some (e, f, s'.v, s'.l, s'.b) ∧ s'.x = s.x ∧ CInv (n + 1) s' := by
  have hup : CInv (n + 1) s := ⟨h.runs, h.held, by have := h.size; omega⟩
  have hth : cast_Caster_there_p_svvvoomm k r o s.v s.l s.b s.x = some () := rfl
  have w1 : w64 (o - 1) = o - 1 := w64_id (by omega) (by omega)
  have hin : (o - 1).toNat < 16 := by omega
  have e1 : inV 16 (o - 1) = some ⟨(o - 1).toNat, hin⟩ := inV_ok (by omega) hin
  cases hf : decide ((4611686018427387904 : UInt64) < getV s.v ⟨(o - 1).toNat, hin⟩ + 1) with
  | true =>
    obtain ⟨m, m1, m2⟩ := cmay_eq hk (api_Event.mk ({ (api_Dot.mk o (getV s.v ⟨(o - 1).toNat, hin⟩ + 1)) with Count := (1 : UInt64) }) a b (putV s.v ⟨(o - 1).toNat, hin⟩ 0) c) hl r h1 h2 o s.v s.l s.b s.x
    cases m with
    | false => exact ⟨_, 2, s, by simp only [cast_Caster_Publish_pvvv_svvvoomm, hth, Option.bind_some, lt1, w1, e1, hf, if_true, m1, Bool.not_false]; rfl, rfl, hup⟩
    | true => exact ⟨_, 5, s, by simp only [cast_Caster_Publish_pvvv_svvvoomm, hth, Option.bind_some, lt1, w1, e1, hf, if_true, m1, Bool.not_true, Bool.false_eq_true, if_false]; rfl, rfl, hup⟩
  | false =>
    obtain ⟨m, m1, m2⟩ := cmay_eq hk (api_Event.mk (api_Dot.mk o (getV s.v ⟨(o - 1).toNat, hin⟩ + 1)) a b s.v c) hl r h1 h2 o s.v s.l s.b s.x
    cases m with
    | false => exact ⟨_, 2, s, by simp only [cast_Caster_Publish_pvvv_svvvoomm, hth, Option.bind_some, lt1, w1, e1, hf, Bool.false_eq_true, if_false, m1, Bool.not_false, if_true]; rfl, rfl, hup⟩
    | true =>
      obtain ⟨he, _⟩ := m2 rfl
      obtain ⟨t1, t2⟩ := may_to he
      have hsz := h.size
      have hbl := h.runs.len
      have hfr := fresh_eq k _ (show (api_Event.mk (api_Dot.mk o (getV s.v ⟨(o - 1).toNat, hin⟩ + 1)) a b s.v c).Payload.length ≤ 1000000 by omega) (by omega)
      have ha := apply_eq k _ he r o s.v s.l s.b s.x (by omega) (by omega)
      exact ⟨_, 0, ⟨bump s.v (api_Event.mk (api_Dot.mk o (getV s.v ⟨(o - 1).toNat, hin⟩ + 1)) a b s.v c), s.l ++ [(api_Event.mk (api_Dot.mk o (getV s.v ⟨(o - 1).toNat, hin⟩ + 1)) a b s.v c)], s.b ++ [bump s.v (api_Event.mk (api_Dot.mk o (getV s.v ⟨(o - 1).toNat, hin⟩ + 1)) a b s.v c)], s.x⟩, by simp only [cast_Caster_Publish_pvvv_svvvoomm, hth, Option.bind_some, lt1, w1, e1, hf, Bool.false_eq_true, if_false, m1, Bool.not_true, hfr, ha]; rfl, rfl, h.apply (pub_good he rfl rfl) s.x (fun _ h => h) (n + 1) (by omega)⟩
theorem much_eq {k : Nat} (l : List law13_Act) (hk : l.length < k) (hl : l.length * 216 ≤ 140737488351232) : ∃ b, law13_much k l = some b ∧ (b = false → l.length ≤ 100 ∧ ∀ a ∈ l, a.Event.To.length ≤ 40 ∧ a.Event.Payload.length ≤ 1000) := by
  have hL := loop_PQ (body := fun s => law13_much.b1 k l s) (k := k) (fun i (j : Int) => j = i ∧ ∀ m (hm : m < l.length), m < i → l[m].Event.To.length ≤ 40 ∧ l[m].Event.Payload.length ≤ 1000) (fun t => t = .inr true ∨ (t = .inl () ∧ ∀ a ∈ l, a.Event.To.length ≤ 40 ∧ a.Event.Payload.length ≤ 1000)) l.length (s := 0) (fun i t hi hP => ?_) (fun t hP => ?_) hk ⟨rfl, fun m hm h => by omega⟩
  · obtain ⟨t, t1, t2⟩ := hL
    rcases t2 with rfl | ⟨rfl, t2⟩
    · exact ⟨true, by simp only [law13_much, t1, Option.bind_some], by simp⟩
    · refine ⟨_, by simp only [law13_much, t1, Option.bind_some, lt1]; rfl, fun hb => ?_⟩
      have := of_decide_eq_false hb
      exact ⟨by omega, t2⟩
  · obtain ⟨rfl, hP⟩ := hP
    by_cases h1 : l[i].Event.To.length > 40
    · exact .inr ⟨_, by simp only [law13_much.b1, lt1, dec_t (show (i : Int) < (l.length : Int) by omega), if_true, idxL_lt hi, Option.bind_some, dec_t (show (l[i].Event.To.length : Int) > 40 by omega), Bool.not_true, Bool.false_eq_true, if_false, cond_true], .inl rfl⟩
    · by_cases h2 : l[i].Event.Payload.length > 1000
      · exact .inr ⟨_, by simp only [law13_much.b1, lt1, dec_t (show (i : Int) < (l.length : Int) by omega), if_true, idxL_lt hi, Option.bind_some, dec_f (show ¬ (l[i].Event.To.length : Int) > 40 by omega), Bool.not_false, dec_t (show (l[i].Event.Payload.length : Int) > 1000 by omega), cond_false], .inl rfl⟩
      · refine .inl ⟨_, by simp only [law13_much.b1, lt1, dec_t (show (i : Int) < (l.length : Int) by omega), if_true, idxL_lt hi, Option.bind_some, dec_f (show ¬ (l[i].Event.To.length : Int) > 40 by omega), Bool.not_false, dec_f (show ¬ (l[i].Event.Payload.length : Int) > 1000 by omega), cond_false, Bool.false_eq_true, if_false, w64_succ (show i < 9223372036854775807 by omega)], rfl, fun m hm hmi => ?_⟩
        by_cases hmi' : m = i
        · subst hmi'; omega
        · exact hP m hm (by omega)
  · obtain ⟨rfl, hP⟩ := hP
    exact ⟨.inl (), by simp only [law13_much.b1, lt1, dec_f (show ¬ (l.length : Int) < (l.length : Int) by omega), Bool.false_eq_true, if_false], .inr ⟨rfl, fun a ha => by
      obtain ⟨m, hm, rfl⟩ := List.getElem_of_mem ha
      exact hP m hm hm⟩⟩
/-- The vector ahead of a place. -/
def ahead (b : List Vc) (i : Nat) : Vc := if i = 0 then zeroV else b[i - 1]?.getD zeroV
theorem Runs.last {l : List api_Event} {b : List Vc} {v : Vc} (h : Runs l b v) : ahead b b.length = v := by
  cases h with
  | nil => rfl
  | snoc h g => simp [ahead]
theorem Runs.at {l : List api_Event} {b : List Vc} {v : Vc} (h : Runs l b v) : ∀ i (hi : i < l.length), b[i]? = some (bump (ahead b i) l[i]) ∧ good (ahead b i) l[i] := by
  induction h with
  | nil => intro i hi; simp at hi
  | @snoc l b v e h g ih =>
    intro i hi
    have hlen := h.len
    have ha : ∀ j, j ≤ b.length → ahead (b ++ [bump v e]) j = ahead b j := fun j hj => by
      unfold ahead
      by_cases h0 : j = 0
      · rw [if_pos h0, if_pos h0]
      · rw [if_neg h0, if_neg h0, List.getElem?_append_left (by omega)]
    by_cases hil : i < l.length
    · rw [ha i (by omega), List.getElem?_append_left (by omega), List.getElem_append_left hil]
      exact ih i hil
    · have : i = l.length := by simp at hi; omega
      subst this
      rw [ha _ (by omega), show ahead b l.length = v by rw [hlen]; exact h.last]
      simp [hlen]
      exact g
end Go.Proofs.Ytbmimaabgclhjaa
