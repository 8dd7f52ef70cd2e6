/- A map's keys, in order: the library's contract, as a call of a function. -/
import Derived.Test.YtipchpbcjkhnaaaFde
import Derived.Sort.KeysCollected
import Derived.Sort.OwnSorted
import Derived.Sort.Walk0
namespace Go.Proofs.Ytipchpbcjkhnaaa.Fw
open Go Go.RowKit Go.MapKept Go.Sort
set_option linter.unusedVariables false
set_option linter.unusedSimpArgs false

def RK : Value → Option (DataW Unit × List MemPlace) := fun _ => some (.nil, [])
theorem Zin {V : Type} {x : Option (List (List UInt8 × V))} {ss : List (List UInt8)} (h : Zhs x = some ss) : ∃ l, x = some l ∧ l.length * 16 ≤ 140737488355328 ∧ (∀ p ∈ l, p.1.length ≤ 140737488355328) ∧ ((l.map Prod.fst).mergeSort fun a b => decide (a ≤ b)) = ss := by
  unfold Zhs at h
  cases x with
  | none => cases h
  | some l =>
    simp only [Option.bind_some] at h
    split at h
    · rename_i hc
      exact ⟨l, rfl, hc.1, fun p hp => of_decide_eq_true (List.all_eq_true.1 hc.2 p hp), Option.some.inj h⟩
    · cases h
section
variable {P : Program} {kt : TypeId} {V : Type} {pv : V → VP}
theorem keyS (hk : P.underlying kt = some .string) {e : Env} {x : List UInt8} {u : Value} (h : (S rS x).p e u) (hl : x.length ≤ 140737488355328) : keyOf P kt u = some (.string x) := by
  have h : [u] = [.string (bs x)] := h
  injection h with h
  subst h
  have hm : (bs x).size ≤ maxLen := by rw [ZfJ]; exact Nat.le_trans hl (by decide)
  have hm' : ({ data := x.toArray } : ByteArray).size ≤ maxLen := hm
  simp [keyOf, hk, mapKey, hm', bs]
theorem Zg7 (hk : P.underlying kt = some .string) {e : Env} : ∀ {l : List (List UInt8 × V)} {es : List MapEntry}, MRel (fun x => S rS x) pv e l es → (∀ p ∈ l, p.1.length ≤ 140737488355328) →
    es.map (fun x => strOf (WideElems.rg P kt RK x).1) = l.map Prod.fst ∧ ∀ x ∈ es, ∃ y, WideElems.rd P kt RK x = some y
  | [], [], _, _ => ⟨rfl, fun x hx => by cases hx⟩
  | [], _ :: _, h, _ => by cases h
  | _ :: _, [], h, _ => by cases h
  | p :: l, en :: es, h, hl => by
    obtain ⟨h1, h2, h3⟩ := h
    have hkey := keyS hk h1 (hl p (List.mem_cons_self ..))
    have hr : WideElems.rd P kt RK en = some (.string p.1, .nil) := by simp [WideElems.rd, hkey, RK]
    obtain ⟨k1, k2⟩ := Zg7 hk h3 fun q hq => hl q (List.mem_cons_of_mem _ hq)
    refine ⟨?_, fun x hx => ?_⟩
    · rw [List.map_cons, List.map_cons, k1]
      simp [WideElems.rg, hr, strOf]
    · rcases List.mem_cons.1 hx with rfl | hx
      · exact ⟨_, hr⟩
      · exact k2 x hx
theorem ZiI (hk : P.underlying kt = some .string) {e : Env} {w : World} {b : Nat} {l : List (List UInt8 × V)} {es : Array MapEntry} {clock : Nat} (h1 : w.heap[b]? = some (.map es clock)) (h2 : MP (fun x => S rS x) pv e l es.toList) (h3 : Stamped es clock) (hn : l.length * 16 ≤ 140737488355328) (hl : ∀ p ∈ l, p.1.length ≤ 140737488355328) :
    ∃ D0 : DataW Unit, w.ownsMap P kt RK b l.length D0 ∧ Maps.size D0 = l.length ∧ (strKeys D0).Perm (l.map Prod.fst) := by
  obtain ⟨l', hr, hp⟩ := h2
  have hlen : l.length = es.size := by rw [hr.len, hp.length_eq, Array.length_toList]
  obtain ⟨k1, k2⟩ := Zg7 hk hr hl
  refine ⟨_, ⟨es, clock, h1, ⟨by rw [← hlen]; exact Nat.le_trans (by omega) (show 140737488355328 ≤ maxLen by decide), h3, fun x hx => k2 x (hp.mem_iff.2 hx)⟩, by rw [hlen]; exact Nat.le_refl _, rfl⟩, ?_, ?_⟩
  · rw [Maps.size_eq, (WideShapes.sorted_perm _).length_eq, List.length_map, Array.length_toList, hlen]
  · refine ((WideShapes.sorted_perm _).map _).trans ?_
    rw [List.map_map]
    have : (es.toList.map fun x => strOf (WideElems.rg P kt RK x).1).Perm (l'.map fun x => strOf (WideElems.rg P kt RK x).1) := (hp.map _).symm
    rw [k1] at this
    exact this
end
theorem Zi3 {w : World} {ad : Addr} {v : Value} (h : w.cell? ad = some v) : ad.block < w.heap.size := by
  refine Nat.lt_of_not_le fun hge => ?_
  simp only [World.cell?, Array.getElem?_eq_none hge] at h
  cases h
def SortsK (P : Program) (f g : FuncId) (kt st : TypeId) : Prop :=
  ∀ (W : World) (Bm b nn : Nat) (D0 : DataW Unit), Bm < W.heap.size → W.cell? ⟨Bm, 0, none⟩ = some (.map (some b)) → W.ownsMap P kt RK b nn D0 → Maps.size D0 ≤ maxLen → Maps.size D0 * 16 ≤ 140737488355328 →
    CallsIn (WF none) 0 P f #[.func (.func g) #[] #[.pointer (some ⟨Bm, 0, none⟩)]] W fun e w' => ∃ (v : Value) (ss : List (List UInt8)), e = .returned v ∧ ss.Perm (strKeys D0) ∧
      w'.ownsRow W.heap.size st 1 v ss.length ((ss.mergeSort (fun x y => decide (x ≤ y))).map encStr) ∧ (v = .slice none 0 0 ↔ ss = []) ∧ Below W.heap.size W w'
theorem Zi0 {P : Program} {f g : FuncId} {kt st : TypeId} {kb : Nat} {ob : Option Nat} {V : Type} {x : Option (List (List UInt8 × V))} {ss : List (List UInt8)} {M : ZaQ} {U : Type} {pv : U → VP} {F : List (List UInt8 × V) → List (List UInt8 × U)} (hc : SortsK P f g kt st) (hk : P.underlying kt = some .string) (hs : Zhs x = some ss)
    (hF : ∀ l, (F l).map Prod.fst = l.map Prod.fst) (hM : ∀ e w, M.R e w → (cmap ob (fun y => S rS y) pv (x.map F)).R e w) :
    Sim P f [CLO g [PTR kb 0]] [cvar kb (rW (MPV ob)) (), M] (γ := Option Nat × Nat) (fun q => [cvar kb (rW (MPV ob)) (), M, cown q.1 rS ss 0 q.2]) (fun q => .one (.val (HDR q.1 0 ss.length q.2))) := by
  intro e w vs hfz hX hdj hvs
  obtain ⟨l, rfl, hn, hl, hss⟩ := Zin hs
  have c1 := hX _ (List.mem_cons_self ..)
  have c2 := hX M (List.mem_cons_of_mem _ (List.mem_cons_self ..))
  obtain ⟨cs, el, fr, hcell, hth, ⟨vv, hvv, hmv, _⟩, hmu⟩ := c1
  subst hvv
  rcases hM e w c2 with ⟨_, hx⟩ | ⟨b, l0, es, clock, hob, hl0, h1, h2, h3, _⟩
  · cases hx
  simp only [Option.map_some, Option.some.injEq] at hl0
  subst hl0
  subst hob
  have hmv : vv = .map (some b) := hmv
  subst hmv
  have hlF : ∀ p ∈ F l, p.1.length ≤ 140737488355328 := fun p hp => by
    have : p.1 ∈ (F l).map Prod.fst := List.mem_map.2 ⟨p, hp, rfl⟩
    rw [hF] at this
    obtain ⟨q, hq, hq'⟩ := List.mem_map.1 this
    rw [← hq']; exact hl q hq
  have hnF : (F l).length = l.length := by have := congrArg List.length (hF l); simpa using this
  obtain ⟨D0, k1, k2, k3⟩ := ZiI hk h1 h2 h3 (by rw [hnF]; exact hn) hlF
  rw [hF] at k3
  rw [hnF] at k2
  have hvs' : vs.toArray = #[.func (.func g) #[] #[.pointer (some ⟨kb, 0, none⟩)]] := by
    have hlen := hvs.1
    obtain ⟨v0, rfl⟩ : ∃ v0, vs = [v0] := by
      match vs, hlen with
      | [v0], _ => exact ⟨v0, rfl⟩
    obtain ⟨us, hu, hur⟩ := hvs.2 0 _ rfl
    have hu : v0 = .func (.func g) #[] us.toArray := hu
    obtain ⟨u0, rfl⟩ : ∃ u0, us = [u0] := by
      have hl := hur.1
      match us, hl with
      | [u0], _ => exact ⟨u0, rfl⟩
    have : u0 = .pointer (some ⟨kb, 0, none⟩) := hur.2 0 _ rfl
    rw [hu, this]
  rw [hvs']
  have hkb : kb < w.heap.size := Zba hcell
  have hcl : w.cell? ⟨kb, 0, none⟩ = some (.map (some b)) := by
    simp only [World.cell?, hcell]
    rfl
  refine (hc w kb b _ D0 hkb hcl k1 (by rw [k2]; exact Nat.le_trans (by omega) (show 140737488355328 ≤ maxLen by decide)) (by rw [k2]; exact hn)).mono fun en w' hen => ?_
  obtain ⟨v, sl, rfl, hperm, hrow, hnil, hbl⟩ := hen
  have hsort : sl.mergeSort (fun x y => decide (x ≤ y)) = ss := by rw [← hss]; exact mergeSort_of_perm (hperm.trans k3)
  rw [hsort] at hrow
  have hlen : ss.length = sl.length := by rw [← hsort, List.length_mergeSort]
  rw [← hlen] at hrow
  have hkx : ZeZ (ZgG [cvar kb (rW (MPV (some b))) (), M]) w w' := ⟨hbl.os, hbl.tape, hbl.output, hbl.size, fun c hcs _ => hbl.block c hcs⟩
  have keep : ∀ c : ZaQ, c.R e w → c.R e w' := fun c hcR => c.kept hcR (Env.le.refl e) (fun ad v hm _ => hm) (fun b' hb' => hbl.block b' (c.lt hcR b' hb'))
  have hfz' : ∀ ad v, e.mu ad = some v → w'.cell? ad = some v := fun ad v hm => by
    have h0 := hfz ad v hm
    have hlt : ad.block < w.heap.size := Zi3 h0
    have h5 := hbl.block ad.block hlt
    rw [← h0]
    simp only [World.cell?, h5]
  rcases hrow with ⟨hlr, hrow | ⟨gb, cap, cur, rfl, hgb, hg, hcap, _, hsz, htk⟩⟩
  · obtain ⟨rfl, h0⟩ := hrow
    have hss0 : ss = [] := List.eq_nil_of_length_eq_zero h0
    subst hss0
    refine ⟨(none, 0), e, _, rfl, Env.le.refl e, fun ad v hm => .inl hm, hkx, hfz', ?_, ?_, ?_, rfl⟩
    · intro c hcm
      simp only [List.mem_cons, List.not_mem_nil, or_false] at hcm
      rcases hcm with rfl | rfl | rfl
      · exact keep _ (hX _ (List.mem_cons_self ..))
      · exact keep _ c2
      · exact .inl ⟨rfl, rfl, rfl, rfl⟩
    · have hd := (List.pairwise_cons.1 hdj).1 M (List.mem_cons_self ..)
      refine List.pairwise_cons.2 ⟨fun c hcm => ?_, List.pairwise_cons.2 ⟨fun c hcm => ?_, List.pairwise_singleton _ _⟩⟩
      · simp only [List.mem_cons, List.not_mem_nil, or_false] at hcm
        rcases hcm with rfl | rfl
        · exact hd
        · intro b' _ hb'; cases hb'
      · rw [List.mem_singleton.1 hcm]; intro b' _ hb'; cases hb'
    · intro c hcm b' hb'
      simp only [List.mem_cons, List.not_mem_nil, or_false] at hcm
      rcases hcm with rfl | rfl | rfl
      · exact .inl ⟨_, List.mem_cons_self .., hb'⟩
      · exact .inl ⟨_, List.mem_cons_of_mem _ (List.mem_cons_self ..), hb'⟩
      · cases hb'
  · have hcurl : cur.toList.length = cap := by rw [Array.length_toList, hsz]; omega
    refine ⟨(some gb, cap), e, _, rfl, Env.le.refl e, fun ad v hm => .inl hm, hkx, hfz', ?_, ?_, ?_, rfl⟩
    · intro c hcm
      simp only [List.mem_cons, List.not_mem_nil, or_false] at hcm
      rcases hcm with rfl | rfl | rfl
      · exact keep _ (hX _ (List.mem_cons_self ..))
      · exact keep _ c2
      · refine .inr ⟨gb, cur.toList, st, (0, 0), rfl, by rw [hg], ZeP _, hcap, ?_, fun i hi => ?_, fun ad v hm hb' => ?_, Nat.zero_le _, fun j u hj => ?_⟩
        · rw [hcurl]; show cap * 1 ≤ cap; omega
        · show (rS).rel e ss[i] ((cur.toList.drop (i * 1)).take 1)
          have h6 : cur.toList[i]? = some (encStr ss[i]) := by
            have h7 : (cur.toList.take (ss.length * 1))[i]? = some (encStr ss[i]) := by rw [htk, List.getElem?_map, List.getElem?_eq_getElem hi]; rfl
            rwa [List.getElem?_take_of_lt (by omega)] at h7
          have hi' : i < cur.toList.length := (List.getElem?_eq_some_iff.1 h6).1
          rw [Nat.mul_one, List.drop_eq_getElem_cons hi']
          have h8 : cur.toList[i] = encStr ss[i] := (List.getElem?_eq_some_iff.1 h6).2
          rw [h8]
          rfl
        · have h5 := Zi3 (hfz ad v hm)
          omega
        · simp at hj
    · have hd := (List.pairwise_cons.1 hdj).1 M (List.mem_cons_self ..)
      refine List.pairwise_cons.2 ⟨fun c hcm => ?_, List.pairwise_cons.2 ⟨fun c hcm => ?_, List.pairwise_singleton _ _⟩⟩
      · simp only [List.mem_cons, List.not_mem_nil, or_false] at hcm
        rcases hcm with rfl | rfl
        · exact hd
        · intro b' hb1 hb'
          have hb1 : b' = kb := hb1
          have hb' : some gb = some b' := hb'
          injection hb' with hb'
          omega
      · rw [List.mem_singleton.1 hcm]
        intro b' hb1 hb'
        have hlt := M.lt c2 b' hb1
        have hb' : some gb = some b' := hb'
        injection hb' with hb'
        omega
    · intro c hcm b' hb'
      simp only [List.mem_cons, List.not_mem_nil, or_false] at hcm
      rcases hcm with rfl | rfl | rfl
      · exact .inl ⟨_, List.mem_cons_self .., hb'⟩
      · exact .inl ⟨_, List.mem_cons_of_mem _ (List.mem_cons_self ..), hb'⟩
      · have hb' : some gb = some b' := hb'
        injection hb' with hb'
        exact .inr (by omega)
theorem Ziu {P : Program} {f g : FuncId} {kt st : TypeId} {kb : Nat} {ob : Option Nat} {V : Type} {r : Rep V} {β : List UInt8 → Nat} {x : Option (List (List UInt8 × V))} {ss : List (List UInt8)} (hc : SortsK P f g kt st) (hk : P.underlying kt = some .string) (hs : Zhs x = some ss) :
    Sim P f [CLO g [PTR kb 0]] [cvar kb (rW (MPV ob)) (), cqm ob (S rS) r β x] (γ := Option Nat × Nat) (fun q => [cvar kb (rW (MPV ob)) (), cqm ob (S rS) r β x, cown q.1 rS ss 0 q.2]) (fun q => .one (.val (HDR q.1 0 ss.length q.2))) :=
  Zi0 hc hk hs (F := qk β) (fun l => by simp [qk]) (fun e w h => h.1)
section
variable {P : Program} {Bs : Base} {st : St} {d : Nat} {ty t t' : TypeId} {pos : String} {af : Array Edge} {g : Option (Nat × Bool)} {x y : Operand} {m n : List UInt8} {r : Bool}
theorem Zkn (hd : d < Bs.N) (hx : HasO st x (.one (.val (S rS m)))) (hy : HasO st y (.one (.val (S rS n)))) (hr : decide (m < n) = r) : Zag P Bs ⟨some d, .binOp .lss t x y t', ty, pos, af, g⟩ st (st.set d (.one (.val (S rB r)))) := ZcP hd hx hy (by rw [← hr, ← bytesLess_eq]; rfl)
end
end Go.Proofs.Ytipchpbcjkhnaaa.Fw
