/- Casters: the known row. -/
import Derived.Test.YtbmimaabgclhjaaE
namespace Go.Proofs.Ytbmimaabgclhjaa
open Go Fw
set_option linter.unusedVariables false
set_option linter.unusedSimpArgs false
set_option maxRecDepth 10000
set_option maxHeartbeats 4000000

abbrev E1 : api_Event := ⟨⟨2, 1⟩, [116], [], (Vector.replicate 16 (0 : UInt64)), []⟩
abbrev E2 : api_Event := ⟨⟨2, 2⟩, [116], [], (Vector.replicate 16 (0 : UInt64)).set 1 1, []⟩
theorem wl (x : Int) (h : -9223372036854775808 ≤ x) (h2 : x < 9223372036854775808) : w64 x = x := w64_id (by omega) (by omega)
theorem nm (K : Nat) : law13_named K 2 2 = some ⟨⟨2, 2⟩, [116], [], (Vector.replicate 16 (0 : UInt64)).set 1 1, []⟩ := by
  simp [law13_named, lt1, wl, inV, putV]
theorem nm1 (K : Nat) : law13_named K 2 1 = some ⟨⟨2, 1⟩, [116], [], (Vector.replicate 16 (0 : UInt64)), []⟩ := by
  simp [law13_named, lt1, wl, inV, putV]
theorem m2 : may ⟨⟨2, 2⟩, [116], [], (Vector.replicate 16 (0 : UInt64)).set 1 1, []⟩ := by decide +kernel
theorem m1 : may ⟨⟨2, 1⟩, [116], [], (Vector.replicate 16 (0 : UInt64)), []⟩ := by decide +kernel
theorem of1 (K : Nat) (hK : 100000 ≤ K + 100) : cast_Caster_Offer_pv_svvvnnmm (K + 100) ⟨⟨2, 2⟩, [116], [], (Vector.replicate 16 (0 : UInt64)).set 1 1, []⟩ 2 1 (Vector.replicate 16 (0 : UInt64)) [] = some ([], 0, Vector.replicate 16 (0 : UInt64), [], [], [(⟨2, 2⟩, ⟨⟨2, 2⟩, [116], [], (Vector.replicate 16 (0 : UInt64)).set 1 1, []⟩)]) := by
  have hm := eventMay_eq (K + 100) hK ⟨⟨2, 2⟩, [116], [], (Vector.replicate 16 (0 : UInt64)).set 1 1, []⟩ (by simp)
  rw [decide_eq_true m2] at hm
  have hs : subL (Vector.toList ((Vector.replicate 16 (0 : UInt64)).set 1 1)) 2 16 = some (List.replicate 14 0) := rfl
  simp [cast_Caster_Offer_pv_svvvnnmm, cast_Caster_there_p_svvvnnmm, cast_Caster_may_pv_svvvnnmm, cast_Caster_may_pv_svvvnnmm.b1, hm, hs, lt1, wl, inV, getV, loopO, idxL, cast_Caster_can_pv_svvvnnmm, mgetC, mgetO, mget, mpos, fresh_eq, mput]
theorem c1 (K : Nat) (z : Hd) : cast_Caster_can_pv_svvvoomm'2 (K + 100) E1 2 1 (Vector.replicate 16 (0 : UInt64)) [] [] z = some true := by
  simp [cast_Caster_can_pv_svvvoomm'2, cast_Caster_can_pv_svvvoomm'2.b1, lt1, wl, inV, getV, idxV, loopO]
theorem c2 (K : Nat) (x : List api_Event) (y : List Vc) (z : Hd) : cast_Caster_can_pv_svvvoomm'2 (K + 100) E2 2 1 ((Vector.replicate 16 (0 : UInt64)).set 1 1) x y z = some true := by
  simp [cast_Caster_can_pv_svvvoomm'2, cast_Caster_can_pv_svvvoomm'2.b1, lt1, wl, inV, getV, idxV, loopO]
theorem a1 (K : Nat) (z : Hd) : cast_Caster_apply_pv_svvvoomm'2 (K + 100) E1 2 1 (Vector.replicate 16 (0 : UInt64)) [] [] z = some ((Vector.replicate 16 (0 : UInt64)).set 1 1, [E1], [(Vector.replicate 16 (0 : UInt64)).set 1 1]) := by
  rw [apply_eq _ _ m1 _ _ _ _ _ _ (by simp) (by simp)]; rfl
theorem a2 (K : Nat) (z : Hd) : cast_Caster_apply_pv_svvvoomm'2 (K + 100) E2 2 1 ((Vector.replicate 16 (0 : UInt64)).set 1 1) [E1] [(Vector.replicate 16 (0 : UInt64)).set 1 1] z = some ((Vector.replicate 16 (0 : UInt64)).set 1 2, [E1, E2], [(Vector.replicate 16 (0 : UInt64)).set 1 1, (Vector.replicate 16 (0 : UInt64)).set 1 2]) := by
  rw [apply_eq _ _ m2 _ _ _ _ _ _ (by simp) (by simp)]; rfl
theorem my1 (K : Nat) (hK : 100000 ≤ K + 100) (z : Hd) : cast_Caster_may_pv_svvvoomm (K + 100) E1 2 1 (Vector.replicate 16 (0 : UInt64)) [] [] z = some true := by
  have hm := eventMay_eq (K + 100) hK E1 (by simp)
  rw [decide_eq_true m1] at hm
  have hs : subL (Vector.toList (Vector.replicate 16 (0 : UInt64))) 2 16 = some (List.replicate 14 0) := rfl
  have hs2 : subL ([0, 0, 0, 0, 0, 0, 0, 0, 0, 0, 0, 0, 0, 0, 0, 0] : List UInt64) 2 16 = some (List.replicate 14 0) := rfl
  simp [cast_Caster_may_pv_svvvoomm, cast_Caster_may_pv_svvvoomm.b1, hm, hs, hs2, lt1, wl, inV, getV, loopO, idxL]
theorem of2 (K : Nat) (hK : 100000 ≤ K + 100) : cast_Caster_Offer_pv_svvvoomm (K + 100) E1 2 1 (Vector.replicate 16 (0 : UInt64)) [] [] [(⟨2, 2⟩, E2)] = some ([E1, E2], 0, (Vector.replicate 16 (0 : UInt64)).set 1 2, [E1, E2], [(Vector.replicate 16 (0 : UInt64)).set 1 1, (Vector.replicate 16 (0 : UInt64)).set 1 2], []) := by
  have hall := all_eq (k := K + 100) [E1, E2] (by show 2 < K + 100; omega) (by simp) (by simp)
  have hs : subL [E1, E2] 0 2 = some [E1, E2] := rfl
  have hfr : cast_fresh (K + 100) E1 = some E1 := fresh_eq _ _ (by simp) (by simp)
  have hc1 := c1 K [(⟨2, 2⟩, E2)]
  have hc2 := c2 K [E1] [(Vector.replicate 16 (0 : UInt64)).set 1 1] [(⟨2, 2⟩, E2)]
  have hr := my1 K hK [(⟨2, 2⟩, E2)]
  have hth : cast_Caster_there_p_svvvoomm (K + 100) 2 1 (Vector.replicate 16 (0 : UInt64)) [] [] [(⟨2, 2⟩, E2)] = some () := rfl
  have hb1 : cast_Caster_Offer_pv_svvvoomm.b1 (K + 100) 2 1 ((Vector.replicate 16 (0 : UInt64)).set 1 1) [E1] [(Vector.replicate 16 (0 : UInt64)).set 1 1] [(⟨2, 2⟩, E2)] 1 = some (.inl ((Vector.replicate 16 (0 : UInt64)).set 1 1, [E1], [(Vector.replicate 16 (0 : UInt64)).set 1 1], [(⟨2, 2⟩, E2)], 2)) := by
    simp [cast_Caster_Offer_pv_svvvoomm.b1, lt1, wl, inV, getV, mgetC, mgetO, mget, mpos]
  have hb2 : cast_Caster_Offer_pv_svvvoomm.b1 (K + 100) 2 1 ((Vector.replicate 16 (0 : UInt64)).set 1 1) [E1] [(Vector.replicate 16 (0 : UInt64)).set 1 1] [(⟨2, 2⟩, E2)] 2 = some (.inl ((Vector.replicate 16 (0 : UInt64)).set 1 2, [E1, E2], [(Vector.replicate 16 (0 : UInt64)).set 1 1, (Vector.replicate 16 (0 : UInt64)).set 1 2], [], 1)) := by
    simp only [cast_Caster_Offer_pv_svvvoomm.b1, lt1, wl 1 (by decide) (by decide), show w64 (2 - 1) = 1 from wl _ (by decide) (by decide), show decide ((2 : Int) ≤ 2) = true from rfl, if_true, show inV 16 1 = some ⟨1, by decide⟩ from rfl, Option.bind_some, show (getV ((Vector.replicate 16 (0 : UInt64)).set 1 1) ⟨1, by decide⟩ + 1 : UInt64) = 2 from rfl, show mgetC (some [((⟨2, 2⟩ : api_Dot), E2)]) ⟨2, 2⟩ (api_Event.mk (api_Dot.mk (0 : Int) (0 : UInt64)) ([] : (List UInt8)) ([] : (List UInt8)) (Vector.replicate 16 (0 : UInt64)) ([] : (List api_Dest))) = some (E2, true) from rfl, hc2, show mdel (⟨2, 2⟩ : api_Dot) [((⟨2, 2⟩ : api_Dot), E2)] = [] from rfl, a2, show w64 (0 + 1) = 1 from wl _ (by decide) (by decide)]
  have hb3 : cast_Caster_Offer_pv_svvvoomm.b1 (K + 100) 2 1 ((Vector.replicate 16 (0 : UInt64)).set 1 2) [E1, E2] [(Vector.replicate 16 (0 : UInt64)).set 1 1, (Vector.replicate 16 (0 : UInt64)).set 1 2] [] 1 = some (.inl ((Vector.replicate 16 (0 : UInt64)).set 1 2, [E1, E2], [(Vector.replicate 16 (0 : UInt64)).set 1 1, (Vector.replicate 16 (0 : UInt64)).set 1 2], [], 2)) := by
    simp [cast_Caster_Offer_pv_svvvoomm.b1, lt1, wl, inV, getV, mgetC, mgetO, mget, mpos]
  have hb4 : cast_Caster_Offer_pv_svvvoomm.b1 (K + 100) 2 1 ((Vector.replicate 16 (0 : UInt64)).set 1 2) [E1, E2] [(Vector.replicate 16 (0 : UInt64)).set 1 1, (Vector.replicate 16 (0 : UInt64)).set 1 2] [] 2 = some (.inl ((Vector.replicate 16 (0 : UInt64)).set 1 2, [E1, E2], [(Vector.replicate 16 (0 : UInt64)).set 1 1, (Vector.replicate 16 (0 : UInt64)).set 1 2], [], 3)) := by
    simp [cast_Caster_Offer_pv_svvvoomm.b1, lt1, wl, inV, getV, mgetC, mgetO, mget, mpos]
  have hb5 : cast_Caster_Offer_pv_svvvoomm.b1 (K + 100) 2 1 ((Vector.replicate 16 (0 : UInt64)).set 1 2) [E1, E2] [(Vector.replicate 16 (0 : UInt64)).set 1 1, (Vector.replicate 16 (0 : UInt64)).set 1 2] [] 3 = some (.inr ((Vector.replicate 16 (0 : UInt64)).set 1 2, [E1, E2], [(Vector.replicate 16 (0 : UInt64)).set 1 1, (Vector.replicate 16 (0 : UInt64)).set 1 2], [])) := by
    simp [cast_Caster_Offer_pv_svvvoomm.b1, lt1]
  have hloop : loopO (fun s => cast_Caster_Offer_pv_svvvoomm.b1 (K + 100) 2 1 s.1 s.2.1 s.2.2.1 s.2.2.2.1 s.2.2.2.2) (K + 100) ((Vector.replicate 16 (0 : UInt64)).set 1 1, [E1], [(Vector.replicate 16 (0 : UInt64)).set 1 1], [(⟨2, 2⟩, E2)], (1 : Int)) = some ((Vector.replicate 16 (0 : UInt64)).set 1 2, [E1, E2], [(Vector.replicate 16 (0 : UInt64)).set 1 1, (Vector.replicate 16 (0 : UInt64)).set 1 2], []) := by
    rw [show K + 100 = (K + 95) + 1 + 1 + 1 + 1 + 1 from rfl, loopO_step hb1, loopO_step hb2, loopO_step hb3, loopO_step hb4]
    exact loopO_out hb5
  have hmg : mgetC (some [((⟨2, 2⟩ : api_Dot), E2)]) ⟨2, 1⟩ (api_Event.mk (api_Dot.mk (0 : Int) (0 : UInt64)) ([] : (List UInt8)) ([] : (List UInt8)) (Vector.replicate 16 (0 : UInt64)) ([] : (List api_Dest))) = some (api_Event.mk (api_Dot.mk (0 : Int) (0 : UInt64)) ([] : (List UInt8)) ([] : (List UInt8)) (Vector.replicate 16 (0 : UInt64)) ([] : (List api_Dest)), false) := rfl
  simp only [cast_Caster_Offer_pv_svvvoomm, hth, Option.bind_some, hr, lt1, Bool.not_true, Bool.false_eq_true, if_false, hmg, show w64 (2 - 1) = 1 from wl _ (by decide) (by decide), show inV 16 1 = some ⟨1, by decide⟩ from rfl, show decide ((1 : UInt64) ≤ getV (Vector.replicate 16 (0 : UInt64)) ⟨1, by decide⟩) = false from rfl, hc1, hfr, a1, hloop, List.length_nil, List.length_cons, show subL [E1, E2] ((0 : Nat) : Int) ((0 + 1 + 1 : Nat) : Int) = some [E1, E2] from rfl, hall]
theorem bits0 (K : Nat) : ∃ n, math_bits_Len (K + 100) (UN.ofI (0 : Int) : UInt64) = some n := ⟨_, rfl⟩
theorem bits1 (K : Nat) : ∃ n, math_bits_Len (K + 100) (UN.ofI (1 : Int) : UInt64) = some n := ⟨_, rfl⟩
theorem sort1 (K : Nat) (l : List api_Event) (n : Int) (hl : l.length ≤ 1) : slices_pdqsortCmpFuncapi_Event (K + 100) l 0 (l.length : Int) n = some () := by
  have hi : loopO (fun s => slices_insertionSortCmpFuncapi_Event.b1 (K + 100) (l.length : Int) 0 l s) (K + 100) 1 = some () := by
    rw [show K + 100 = (K + 99) + 1 from rfl]
    refine loopO_out ?_
    simp only [slices_insertionSortCmpFuncapi_Event.b1, lt1, dec_f (show ¬ (1 : Int) < (l.length : Int) by omega), Bool.false_eq_true, if_false]
  have hb : slices_pdqsortCmpFuncapi_Event.b1 (K + 100) (l.length : Int) 0 l n = some (.inr ()) := by
    simp only [slices_pdqsortCmpFuncapi_Event.b1, lt1, show w64 ((l.length : Int) - 0) = (l.length : Int) from by rw [wl _ (by omega) (by omega)]; omega, dec_t (show (l.length : Int) ≤ 12 by omega), if_true, slices_insertionSortCmpFuncapi_Event, show w64 (0 + 1) = 1 from wl _ (by decide) (by decide), hi, Option.bind_some]
  unfold slices_pdqsortCmpFuncapi_Event
  rw [show K + 100 = (K + 99) + 1 from rfl]
  exact loopO_out hb
theorem held0 (K : Nat) (r o : Int) (v : Vc) (x : List api_Event) (y : List Vc) : cast_Caster_Held_p_svvvoomm (K + 100) r o v x y [] = some [] := by
  have hr : rangeM (Option.getD (some ([] : Hd)) []) (fun s e => maps_Valuesmapapi_Dotapi_Event_api_Dot_api_Event_1.b1 (K + 100) (fun (s : (List api_Event)) (u : api_Event) => slices_AppendSeqapi_Event_api_Event'2.y1 (K + 100) s u) s e) (fun s => maps_Valuesmapapi_Dotapi_Event_api_Dot_api_Event_1.f1 (K + 100) s) (Sum.inl ([] : List api_Event)) = some (.inl (Sum.inl [])) := by
    refine rangeM_of fun l hl => ?_
    have : l = [] := List.perm_nil.1 hl
    subst this
    rfl
  obtain ⟨n, hn⟩ := bits0 K
  have hs := sort1 K [] n (by simp)
  have hall := all_eq (k := K + 100) [] (by show 0 < K + 100; omega) (by simp) (by simp)
  have hth : cast_Caster_there_p_svvvoomm (K + 100) r o v x y [] = some () := rfl
  simp only [List.length_nil, Int.ofNat_zero, Int.natCast_zero] at hs
  simp only [cast_Caster_Held_p_svvvoomm, hth, Option.bind_some, maps_Valuesmapapi_Dotapi_Event_api_Dot_api_Event, slices_SortedFuncapi_Event'2, slices_Collectapi_Event'2, slices_AppendSeqapi_Event_api_Event'2, maps_Valuesmapapi_Dotapi_Event_api_Dot_api_Event_1, hr, slices_SortFuncapi_Event_api_Event, lt1, List.length_nil, Int.ofNat_zero, Int.natCast_zero, hn, hs, hall]
theorem held1 (K : Nat) (r o : Int) (v : Vc) (x : List api_Event) (y : List Vc) (q : api_Dot) (e : api_Event) (h1 : e.Payload.length ≤ 1000) (h2 : e.To.length ≤ 1000) : cast_Caster_Held_p_svvvoomm (K + 100) r o v x y [(q, e)] = some [e] := by
  have hr : rangeM (Option.getD (some ([(q, e)] : Hd)) []) (fun s e => maps_Valuesmapapi_Dotapi_Event_api_Dot_api_Event_1.b1 (K + 100) (fun (s : (List api_Event)) (u : api_Event) => slices_AppendSeqapi_Event_api_Event'2.y1 (K + 100) s u) s e) (fun s => maps_Valuesmapapi_Dotapi_Event_api_Dot_api_Event_1.f1 (K + 100) s) (Sum.inl ([] : List api_Event)) = some (.inl (Sum.inl [e])) := by
    refine rangeM_of fun l hl => ?_
    have : l = [(q, e)] := List.perm_singleton.1 hl
    subst this
    rfl
  obtain ⟨n, hn⟩ := bits1 K
  have hs := sort1 K [e] n (by simp)
  have hall := all_eq (k := K + 100) [e] (by show 1 < K + 100; omega) (by simp) (by simp; omega)
  have hth : cast_Caster_there_p_svvvoomm (K + 100) r o v x y [(q, e)] = some () := rfl
  have hl : (([e] : List api_Event).length : Int) = 1 := rfl
  rw [hl] at hs
  simp only [cast_Caster_Held_p_svvvoomm, hth, Option.bind_some, maps_Valuesmapapi_Dotapi_Event_api_Dot_api_Event, slices_SortedFuncapi_Event'2, slices_Collectapi_Event'2, slices_AppendSeqapi_Event_api_Event'2, maps_Valuesmapapi_Dotapi_Event_api_Dot_api_Event_1, hr, slices_SortFuncapi_Event_api_Event, lt1, hl, hn, hs, hall]
theorem known13 (K : Nat) (hK : 100000 ≤ K + 100) : law13_known (K + 100) = some true := by
  have hnew : cast_New (K + 100) 2 1 = some (.inl ()) := rfl
  have hv : cast_Caster_Vector_p_svvvoomm (K + 100) 2 1 ((Vector.replicate 16 (0 : UInt64)).set 1 2) [E1, E2] [(Vector.replicate 16 (0 : UInt64)).set 1 1, (Vector.replicate 16 (0 : UInt64)).set 1 2] [] = some () := rfl
  have h1 := held1 K 2 1 (Vector.replicate 16 (0 : UInt64)) [] [] ⟨2, 2⟩ E2 (by simp) (by simp)
  have h0 := held0 K 2 1 ((Vector.replicate 16 (0 : UInt64)).set 1 2) [E1, E2] [(Vector.replicate 16 (0 : UInt64)).set 1 1, (Vector.replicate 16 (0 : UInt64)).set 1 2]
  have i0 : inO [E1, E2] (0 : Int) = some 0 := rfl
  have i1 : inO [E1, E2] (1 : Int) = some 1 := rfl
  have g0 : [E1, E2][0]? = some E1 := rfl
  have g1 : [E1, E2][1]? = some E2 := rfl
  simp only [law13_known, hnew, Option.bind_some, nm, nm1, of1 K hK, h1, of2 K hK, lt1, show ((0 : Int) == 0) = true from rfl, cond_true, if_true, show (((([] : List api_Event).length : Nat) : Int) == 0) = true from rfl, show (((([E2] : List api_Event).length : Nat) : Int) == 1) = true from rfl, show (((([E1, E2] : List api_Event).length : Nat) : Int) == 2) = true from rfl, i0, g0, i1, g1, h0, hv, show ((1 : UInt64) == 1) = true from rfl, show ((2 : UInt64) == 2) = true from rfl]
  rfl
end Go.Proofs.Ytbmimaabgclhjaa
