/- Functions of the library that have no code: what they compute. -/
import Derived.Test.YtbflmobpbjnekaaFo
namespace Go.Proofs.Ytbflmobpbjnekaa.Fw
open Go Go.RowKit
set_option linter.unusedVariables false
set_option linter.unusedSimpArgs false

def isExt (P : Program) (f : FuncId) (e : Array Value → Sem Value) : Prop := ∃ fn, P.funcs[f]? = some fn ∧ (fn.name == "runtime.NumGoroutine") = false ∧ fn.body.isNone = true ∧ Extern.findNext fn = none ∧ Extern.find fn = some e
section
variable {P : Program} {Bs : Base} {st st' : St} {d : Nat} {ty t t' el : TypeId} {pos : String} {af : Array Edge} {g : Option (Nat × Bool)} {x y z : Operand} {Q : Exit → Act → World → Prop} {l : List Oper} {ops : Array Oper}
variable {e : Env} {a : Act} {w : World}
theorem run_ext {f : FuncId} {ex : Array Value → Sem Value} {args : Array Value} {v : Value} (h : isExt P f ex) (hv : (ex args).run P w = .ok v w) : (callFunc f args).run P w = .ok (.value v) w := by
  obtain ⟨fn, h1, h2, h3, h4, h5⟩ := h
  simp only [callFunc, Sem.run_bind, Result.andThen]
  simp [h1, h2, h3, h4, h5, hv, Result.andThen]
theorem op_ext {f : FuncId} {fo : Operand} {xs : List Operand} {ats : Array TypeId} {args : List VP} {ex : Array Value → Sem Value} {sv : SV1} (hd : d < Bs.N) (hc : isExt P f ex) (hf : HasO st fo (.one (.val (CLO f [])))) (ha : ArgsO st xs args)
    (hs : ∀ e vs w, ArgsR e args vs → ∃ v, (ex vs.toArray).run P w = .ok v w ∧ SVR e sv v) :
    OpStep P Bs ⟨some d, .call { callee := .value fo, args := xs.toArray, argTypes := ats }, ty, pos, af, g⟩ st (st.set d sv) :=
  .value hd fun e a w hst => by
    obtain ⟨cs, hcs, hca⟩ := hf.get hst
    have : cs = [] := List.eq_nil_of_length_eq_zero hca.1
    subst this
    obtain ⟨v, h1, h2⟩ := hs e _ w (ha.get hst)
    refine ⟨v, ?_, h2⟩
    have h3 := run_ext (args := (xs.map a.eval).toArray) hc h1
    simp only [execOp, resolve, Sem.run_bind, hcs, Deferred.ofValue, Sem.run_pure, Result.andThen, invoke]
    have : ((#[] : Array Value) ++ Array.map a.eval xs.toArray) ++ ([] : List Value).toArray = (xs.map a.eval).toArray := by simp
    rw [this]
    exact h3
def exAdd64 : Array Value → Sem Value := (Extern.MathBitsCarry.rows.lookup "math/bits.Add64").getD fun _ => pure undef
theorem ArgsR.get3 {e : Env} {p q r : VP} {vs : List Value} (h : ArgsR e [p, q, r] vs) : ∃ u v w, vs = [u, v, w] ∧ p.p e u ∧ q.p e v ∧ r.p e w := by
  obtain ⟨h1, h2⟩ := h
  match vs, h1 with
  | [u, v, w], _ => exact ⟨u, v, w, rfl, h2 0 p rfl, h2 1 q rfl, h2 2 r rfl⟩
theorem op_add64 {f : FuncId} {fo x y z : Operand} {ats : Array TypeId} {m n c s o : UInt64} (hd : d < Bs.N) (hc : isExt P f exAdd64) (hf : HasO st fo (.one (.val (CLO f [])))) (hx : HasO st x (.one (.val (S (rU UInt64) m)))) (hy : HasO st y (.one (.val (S (rU UInt64) n)))) (hz : HasO st z (.one (.val (S (rU UInt64) c))))
    (h : add64 m n c = some (s, o)) :
    OpStep P Bs ⟨some d, .call { callee := .value fo, args := #[x, y, z], argTypes := ats }, ty, pos, af, g⟩ st (st.set d (.tup [.val (S (rU UInt64) s), .val (S (rU UInt64) o)])) :=
  op_ext hd hc hf (.cons hx (.cons hy (.cons hz .nil))) fun e vs w hvs => by
    obtain ⟨u1, u2, u3, rfl, h1, h2, h3⟩ := hvs.get3
    have h1 : u1 = .int .u64 (m.toNat : Int) := by simpa [S, rU, UK.k, UN.toN] using h1
    have h2 : u2 = .int .u64 (n.toNat : Int) := by simpa [S, rU, UK.k, UN.toN] using h2
    have h3 : u3 = .int .u64 (c.toNat : Int) := by simpa [S, rU, UK.k, UN.toN] using h3
    subst h1; subst h2; subst h3
    unfold add64 at h
    split at h
    · rename_i hc1
      injection h with h
      injection h with hs ho
      subst hs; subst ho
      refine ⟨.tuple #[.int .u64 ((m.toNat + n.toNat + c.toNat) % 18446744073709551616 : Nat), .int .u64 ((m.toNat + n.toNat + c.toNat) / 18446744073709551616 : Nat)], ?_, _, rfl, rfl, fun i s hs => ?_⟩
      · have : exAdd64 #[.int .u64 (m.toNat : Int), .int .u64 (n.toNat : Int), .int .u64 (c.toNat : Int)] = (do
            let (x, y, c) ← (do
              let c := (← asInt (.int .u64 (c.toNat : Int))).toNat
              if c > 1 then unsupported (.noEntry ("extern/math/bits." ++ "Add64" ++ ": a carry that is neither 0 nor 1"))
              pure ((← asInt (.int .u64 (m.toNat : Int))).toNat, (← asInt (.int .u64 (n.toNat : Int))).toNat, c) : Sem (Nat × Nat × Nat))
            pure (Extern.MathBitsCarry.pair ((x + y + c) % Extern.MathBitsCarry.m64) ((x + y + c) / Extern.MathBitsCarry.m64))) := rfl
        rw [show (List.toArray [Value.int .u64 (m.toNat : Int), .int .u64 (n.toNat : Int), .int .u64 (c.toNat : Int)]) = #[.int .u64 (m.toNat : Int), .int .u64 (n.toNat : Int), .int .u64 (c.toNat : Int)] from rfl, this]
        simp only [asInt, asIntOf, Sem.run_bind, Sem.run_pure, Result.andThen, Extern.MathBitsCarry.pair, Int.toNat_natCast]
        rw [if_neg (show ¬ c.toNat > 1 by omega)]
        simp only [Sem.run_bind, Sem.run_pure, Result.andThen, Int.toNat_natCast]
        rfl
      · have hm := m.toNat_lt
        have hn := n.toNat_lt
        have e1 : (UInt64.ofNat ((m.toNat + n.toNat + c.toNat) % 18446744073709551616)).toNat = (m.toNat + n.toNat + c.toNat) % 18446744073709551616 := UInt64.toNat_ofNat_of_lt' (Nat.mod_lt _ (by decide))
        have e2 : (UInt64.ofNat ((m.toNat + n.toNat + c.toNat) / 18446744073709551616)).toNat = (m.toNat + n.toNat + c.toNat) / 18446744073709551616 := UInt64.toNat_ofNat_of_lt' (by show _ < 2 ^ 64; omega)
        obtain _ | _ | i := i
        · cases hs
          show [Value.int .u64 _] = [Value.int .u64 ((UInt64.ofNat ((m.toNat + n.toNat + c.toNat) % 18446744073709551616)).toNat : Int)]
          rw [e1]
        · cases hs
          show [Value.int .u64 _] = [Value.int .u64 ((UInt64.ofNat ((m.toNat + n.toNat + c.toNat) / 18446744073709551616)).toNat : Int)]
          rw [e2]
        · simp at hs
    · cases h
theorem op_capH {ob : Option Nat} {off n c : Nat} (hd : d < Bs.N) (hu : P.underlying t = some (.slice el)) (hx : HasO st x (.one (.val (HDR ob off n c)))) :
    OpStep P Bs ⟨some d, .call { callee := .builtin .cap, args := #[x], argTypes := #[t] }, ty, pos, af, g⟩ st (st.set d (.one (.val (S (rI .i64) c)))) :=
  .value hd fun e a w h => by
    have hv : a.eval x = .slice (ob.map fun b => ⟨b, off, none⟩) n c := hx.get h
    exact ⟨.int .i64 c, by simp [execOp, resolve, invoke, builtin, Builtin.cap_, hv, run_underlying hu, Result.andThen, goInt], rfl⟩
/-- A row's beginning; or nothing of nil. -/
theorem op_slicePre {T : Type} {r : Rep T} {xs : List T} {ob : Option Nat} {cap j : Nat} {hi : Operand} (hd : d < Bs.N) (hu : P.underlying t = some (.slice el)) (hs : tySz P el r.sz = true) (hX : st.X[j]? = some (cown ob r xs 0 cap)) (hx : HasO st x (.one (.val (HDR ob 0 xs.length cap)))) (hh : HasO st hi (.one (.val (S (rI .i64) 0)))) :
    OpStep P Bs ⟨some d, .slice t x none (some hi) none, ty, pos, af, g⟩ st (St.set { st with X := st.X.set j (cown ob r [] 0 cap) } d (.one (.val (HDR ob 0 ([] : List T).length cap)))) :=
  .grows hd fun e a w hst => by
    have hv : a.eval x = .slice (ob.map fun b => ⟨b, 0, none⟩) xs.length cap := hx.get hst
    have hcap : xs.length ≤ cap := by
      rcases hst.xs _ (List.mem_of_getElem? hX) with ⟨h1, h2, h3, h4⟩ | ⟨b, cs, el', fr, hb, k1, k2, k3, _⟩
      · rw [h2]; simp
      · exact k3
    have hb := rBounds (P := P) hst (isSl := true) (lo := none) (hi := some hi) (mx := none) (len := xs.length) (cap := cap) (l := 0) (h := 0) (m := cap) rfl (.some hh) rfl (fun h => absurd rfl h) (by omega) (by omega) (by omega) (by omega) hcap
    refine ⟨.slice (ob.map fun b => ⟨b, 0, none⟩) 0 cap, w, e, ?_, ?_, rfl⟩
    · rw [show (none : Option Operand).map a.eval = none from rfl, show (some hi).map a.eval = some (a.eval hi) from rfl] at hb
      have hbb : (Instr.sliceBounds true xs.length cap none (some (a.eval hi)) none).run P w = .ok (0, 0, cap) w := by simpa using hb
      simp only [execOp, hv, Instr.sliceAt, Instr.slice, Sem.run_bind, run_underlying hu, Result.andThen, Option.map_none, Option.map_some, hbb, rSize hs, Sem.run_pure]
      cases ob <;> simp [add_none]
    · have hR : (cown ob r ([] : List T) 0 cap).R e w := by
        rcases hst.xs _ (List.mem_of_getElem? hX) with ⟨h1, h2, h3, h4⟩ | ⟨b, cs, el', fr, hb, k1, k2, k3, k4, k5, k6, k7, k8⟩
        · exact .inl ⟨h1, rfl, rfl, h4⟩
        · exact .inr ⟨b, cs, el', fr, hb, k1, k2, Nat.zero_le _, k4, fun i hi => by simp at hi, k6, Nat.le_refl _, k8⟩
      exact hst.turn1 hX (Env.le.refl e) (fun ad v hm => .inl hm) ⟨rfl, rfl, rfl, Nat.le_refl _, fun _ _ _ => rfl⟩ hst.frz hR (fun b hb => .inl hb)
theorem op_sliceNil {hi : Operand} {n : Nat} (hd : d < Bs.N) (hu : P.underlying t = some (.slice el)) (hs : tySz P el n = true) (hx : HasO st x (.one (.val (HDR none 0 0 0)))) (hh : HasO st hi (.one (.val (S (rI .i64) 0)))) :
    OpStep P Bs ⟨some d, .slice t x none (some hi) none, ty, pos, af, g⟩ st (st.set d (.one (.val (HDR none 0 0 0)))) :=
  .value hd fun e a w hst => by
    have hv : a.eval x = .slice none 0 0 := hx.get hst
    have hb := rBounds (P := P) hst (isSl := true) (lo := none) (hi := some hi) (mx := none) (len := 0) (cap := 0) (l := 0) (h := 0) (m := 0) rfl (.some hh) rfl (fun h => absurd rfl h) (by omega) (by omega) (by omega) (by omega) (Nat.le_refl _)
    refine ⟨.slice none 0 0, ?_, rfl⟩
    rw [show (none : Option Operand).map a.eval = none from rfl, show (some hi).map a.eval = some (a.eval hi) from rfl] at hb
    have hbb : (Instr.sliceBounds true 0 0 none (some (a.eval hi)) none).run P w = .ok (0, 0, 0) w := by simpa using hb
    simp only [execOp, hv, Instr.sliceAt, Instr.slice, Sem.run_bind, run_underlying hu, Result.andThen, Option.map_none, Option.map_some, hbb, rSize hs, Sem.run_pure]
    simp
/-! ### copying -/
structure SrcN (P : Program) (e : Env) (a : Act) (w : World) {T : Type} (r : Rep T) (ys : List T) (y : Operand) (fl : List Value) : Prop where
  len : fl.length = ys.length * r.sz
  one : ∀ v ∈ fl, one1 v = true
  rel : ∀ i (h : i < ys.length), r.rel e ys[i] ((fl.drop (i * r.sz)).take r.sz)
  lenOf : ∀ w, (Builtin.lenOf (a.eval y)).run P w = .ok ys.length w
  cells : ∀ m, m ≤ ys.length → (Builtin.firstCells r.sz m (a.eval y)).run P w = .ok (fl.take (m * r.sz)).toArray w
theorem SrcN.list {T : Type} {r : Rep T} {ys : List T} (hy : HasO st y (.one (.val (S (rL r) ys)))) (hst : StE Bs st e a w) : ∃ fl, SrcN P e a w r ys y fl := by
  obtain ⟨v, hv0, hL⟩ := hy.get hst
  have hv0 : a.eval y = v := by simpa using hv0
  obtain ⟨aa, c, fl, hv, hc, hn, hl, hr, hm⟩ := hL.flat
  refine ⟨fl, hl, flat_one hl hr, hr, fun w => by simp [hv0, hv, Builtin.lenOf], fun m hm' => ?_⟩
  rw [hv0, hv]
  rcases Nat.eq_zero_or_pos m with h0 | h0
  · subst h0
    cases aa with
    | none => simp [Builtin.firstCells]
    | some ad => simp [Builtin.firstCells, loadCells, loadCellsFrom]
  · obtain ⟨b, off, haa, hm2⟩ := hm (by omega)
    subst haa
    simp only [Builtin.firstCells]
    have hms : m * r.sz ≤ ys.length * r.sz := Nat.mul_le_mul_right _ hm'
    refine rloadCells P (by simp; omega) fun j u hj => ?_
    have hjl : j < m * r.sz := by
      rcases Nat.lt_or_ge j (m * r.sz) with h | h
      · exact h
      · rw [List.getElem?_eq_none (by simp; omega)] at hj; cases hj
    rw [List.getElem?_take_of_lt hjl] at hj
    rw [add_none]
    exact hst.frz _ _ (hm2 j u hj)
theorem SrcN.own {T : Type} {r : Rep T} {xs : List T} {ob : Option Nat} {fz cap j : Nat} (hX : st.X[j]? = some (cown ob r xs fz cap)) (hy : HasO st y (.one (.val (HDR ob 0 xs.length cap)))) (hst : StE Bs st e a w) : ∃ fl, SrcN P e a w r xs y fl := by
  have hv : a.eval y = .slice (ob.map fun b => ⟨b, 0, none⟩) xs.length cap := hy.get hst
  rcases hst.xs _ (List.mem_of_getElem? hX) with ⟨h1, h2, h3, h4⟩ | ⟨b, cs, el, fr, hb, h5, h6, h0, h7, h8, h9, h10, h11⟩
  · subst h1; subst h2
    exact ⟨[], by simp, by simp, fun i hi => by simp at hi, fun w => by rw [hv]; simp [Builtin.lenOf], fun m hm => by rw [hv]; simp [Builtin.firstCells]⟩
  · subst hb
    have hxl : xs.length * r.sz ≤ cs.length := Nat.le_trans (Nat.mul_le_mul_right _ h0) h7
    have hl : (cs.take (xs.length * r.sz)).length = xs.length * r.sz := by simp; omega
    have hrel : ∀ i (h : i < xs.length), r.rel e xs[i] (((cs.take (xs.length * r.sz)).drop (i * r.sz)).take r.sz) := fun i hi => by
      have hle2 : i * r.sz + r.sz ≤ xs.length * r.sz := by
        have := Nat.mul_le_mul_right r.sz (show i + 1 ≤ xs.length by omega)
        rw [Nat.add_mul] at this; omega
      rw [List.drop_take, List.take_take, Nat.min_eq_left (by omega)]
      exact h8 i hi
    refine ⟨cs.take (xs.length * r.sz), hl, flat_one hl hrel, hrel, fun w => by rw [hv]; simp [Builtin.lenOf], fun m hm => ?_⟩
    have hms : m * r.sz ≤ xs.length * r.sz := Nat.mul_le_mul_right _ hm
    rw [hv, List.take_take, Nat.min_eq_left hms]
    simp only [Builtin.firstCells, Option.map_some]
    exact rloadCells P (n := m * r.sz) (by simp; omega) (part_at (n := m * r.sz) h5 (by simp))
theorem rel_cpV {T : Type} {q : Rep T} {n l m k : Nat} {y : Vector T n} {ys : List T} {e : Env} {cs fl : List Value} (h : (rV n q).rel e y cs) (hl : fl.length = ys.length * q.sz) (hr : ∀ i (h : i < ys.length), q.rel e ys[i] ((fl.drop (i * q.sz)).take q.sz)) (h1 : ∀ v ∈ fl, one1 v = true) (hk : k = min ys.length m) (hn : l + m ≤ n) :
    (rV n q).rel e (cpV y l m ys) (lay cs (l * q.sz) (fl.take (k * q.sz))) := by
  obtain ⟨a1, a2, a3⟩ := h
  have hkl : k * q.sz ≤ ys.length * q.sz := Nat.mul_le_mul_right _ (by omega)
  have hft : (fl.take (k * q.sz)).length = k * q.sz := by simp; omega
  have hle : l * q.sz + k * q.sz ≤ n * q.sz := by rw [← Nat.add_mul]; exact Nat.mul_le_mul_right _ (by omega)
  refine ⟨by rw [lay_length (by omega)]; exact a1, fun v hv => ?_, fun i hi => ?_⟩
  · unfold lay at hv
    rcases List.mem_append.1 hv with hv | hv
    · rcases List.mem_append.1 hv with hv | hv
      · exact a2 v (List.mem_of_mem_take hv)
      · exact h1 v (List.mem_of_mem_take hv)
    · exact a2 v (List.mem_of_mem_drop hv)
  · simp only [cpV, Vector.getElem_ofFn]
    have hin : i * q.sz + q.sz ≤ n * q.sz := by
      have := Nat.mul_le_mul_right q.sz (show i + 1 ≤ n by omega)
      rw [Nat.add_mul] at this; omega
    by_cases hc : l ≤ i ∧ i < l + k
    · obtain ⟨o, rfl⟩ : ∃ o, i = l + o := ⟨i - l, by omega⟩
      have ho : o < ys.length := by omega
      rw [dif_pos ⟨by omega, by omega, by omega⟩]
      have e1 : l + o - l = o := by omega
      have hok : o * q.sz + q.sz ≤ k * q.sz := by
        have := Nat.mul_le_mul_right q.sz (show o + 1 ≤ k by omega)
        rw [Nat.add_mul] at this; omega
      have : ((lay cs (l * q.sz) (fl.take (k * q.sz))).drop ((l + o) * q.sz)).take q.sz = (fl.drop (o * q.sz)).take q.sz := by
        apply List.ext_getElem?
        intro z
        by_cases hz : z < q.sz
        · rw [List.getElem?_take_of_lt hz, List.getElem?_take_of_lt hz, List.getElem?_drop, List.getElem?_drop, Nat.add_mul, Nat.add_assoc, lay_get_mid (by omega) (by omega), List.getElem?_take_of_lt (by omega)]
        · rw [List.getElem?_eq_none (by simp; omega), List.getElem?_eq_none (by simp; omega)]
      rw [this]
      have h2 := hr o ho
      simp only [e1]
      exact h2
    · rw [dif_neg (by omega)]
      have : ((lay cs (l * q.sz) (fl.take (k * q.sz))).drop (i * q.sz)).take q.sz = (cs.drop (i * q.sz)).take q.sz := by
        apply List.ext_getElem?
        intro z
        by_cases hz : z < q.sz
        · rw [List.getElem?_take_of_lt hz, List.getElem?_take_of_lt hz, List.getElem?_drop, List.getElem?_drop]
          rcases Nat.lt_or_ge i l with hil | hil
          · have := Nat.mul_le_mul_right q.sz (show i + 1 ≤ l by omega)
            rw [Nat.add_mul] at this
            rw [lay_get_lt (by omega) (by omega)]
          · have hkk : (l + k) * q.sz ≤ i * q.sz := Nat.mul_le_mul_right _ (by omega)
            rw [Nat.add_mul] at hkk
            rw [lay_get_ge (by omega) (by omega)]
        · rw [List.getElem?_eq_none (by simp; omega), List.getElem?_eq_none (by simp; omega)]
      rw [this]
      exact a3 i hi
/-- A part of an array, to be written. -/
theorem op_sliceAV {n sz b o : Nat} {lo hi : Option Operand} {l h : Nat} (hd : d < Bs.N) (hu : P.underlying t = some (.array n el)) (hs : tySz P el sz = true) (hx : HasO st x (.one (.val (PTR b o))))
    (hl : OptN st lo 0 (l : Int)) (hh : OptN st hi n (h : Int)) (h1 : l ≤ h) (h2 : h ≤ n) (h3 : l < n) : OpStep P Bs ⟨some d, .slice t x lo hi none, ty, pos, af, g⟩ st (st.set d (.one (.val (HDR (some b) (o + l * sz) (h - l) (n - l))))) :=
  .value hd fun e a w hst => by
    have hv : a.eval x = .pointer (some ⟨b, o, none⟩) := hx.get hst
    have hb := rBounds (P := P) hst (isSl := false) (cap := n) (m := n) hl hh (mx := none) rfl (fun h => absurd rfl h) (by omega) (by omega) (by omega) (Int.le_refl _) (Nat.le_refl _)
    refine ⟨.slice (some ⟨b, o + l * sz, none⟩) (h - l) (n - l), ?_, rfl⟩
    simp only [execOp, hv, Instr.sliceAt, Instr.sureAddr, Sem.run_bind, run_underlying hu, Result.andThen, Sem.run_pure]
    rw [show (none : Option Operand).map a.eval = none from rfl] at hb
    rw [show (Option.map a.eval none) = none from rfl, hb]
    simp only [rSize hs, Result.andThen, Sem.run_bind, Sem.run_pure, Int.toNat_natCast]
    rw [if_neg (by omega), add_none]
theorem op_copyAV {T T' U : Type} {r : Rep T} {v : T} {r' : Rep T'} {v' v'' : T'} {q : Rep U} {n l m c j b o : Nat} {y0 y1 : Vector U n} {ys : List U} {dst : Option Nat} {k : Int} (hd : ∀ d, dst = some d → d < Bs.N) (hu : P.underlying t = some (.slice el)) (hs : tySz P el q.sz = true)
    (hx : HasO st x (.one (.val (HDR (some b) (o + l * q.sz) m c)))) (hX : st.X[j]? = some (cvar b r v)) (hc : Comp r v o (rV n q) y0) (hU : UpdR r v o (rV n q) y1 r' v') (hsrc : ∀ e a w, StE Bs st e a w → ∃ fl, SrcN P e a w q ys y fl) (hm : l + m ≤ n) (he : cpV y0 l m ys = y1) (hv : v' = v'') (hk : min (ys.length : Int) m = k) :
    OpStep P Bs ⟨dst, .call { callee := .builtin .copy, args := #[x, y], argTypes := #[t, t'] }, ty, pos, af, g⟩ st (setO { st with X := st.X.set j (cvar b r' v'') } dst (.one (.val (S (rI .i64) k)))) := fun a w ⟨e, h⟩ K Q hK => by
  subst hv; subst he; subst hk
  have hvx : a.eval x = .slice (some ⟨b, o + l * q.sz, none⟩) m c := hx.get h
  obtain ⟨fl, s⟩ := hsrc e a w h
  obtain ⟨cs, el', fr, h1, h2, h3, h4⟩ := h.xs _ (List.mem_of_getElem? hX)
  have hcl := r.len h3
  have hu1 := hU.1
  have hsz : (rV n q).sz = n * q.sz := rfl
  have hfl : (fl.take (min ys.length m * q.sz)).length = min ys.length m * q.sz := by
    have : min ys.length m * q.sz ≤ ys.length * q.sz := Nat.mul_le_mul_right _ (by omega)
    rw [List.length_take, s.len]; omega
  have hle : l * q.sz + min ys.length m * q.sz ≤ n * q.sz := by rw [← Nat.add_mul]; exact Nat.mul_le_mul_right _ (by omega)
  have hlay : (lay cs (o + l * q.sz) (fl.take (min ys.length m * q.sz))).length = cs.length := lay_length (by omega)
  have hlt := lt_of_block h1
  have hone : ∀ v ∈ fl.take (min ys.length m * q.sz), one1 v = true := fun v hv => s.one v (List.mem_of_mem_take hv)
  have hst := rstoreCells P (fl.take (min ys.length m * q.sz)) w b (o + l * q.sz) 0 cs el' fr hone h1 (by omega) h2
  refine wpIn_calm (w' := setB w b (lay cs (o + l * q.sz) (fl.take (min ys.length m * q.sz))) el' fr) (v := goInt (min ys.length m : Nat)) (fun _ _ => trivial) (nodefer_ne rfl) ?_ (hK _ _ ⟨e, StE.putO ?_ hd ?_⟩)
  · simp only [execOp, resolve, invoke, builtin, Sem.run_bind, Sem.run_pure, Result.andThen]
    have hcells := s.cells (min ys.length m) (by omega)
    have hcopy : (Builtin.copy_ #[t, t'] ty (Array.map a.eval #[x, y])).run P w = .ok (goInt (min ys.length m : Nat)) (setB w b (lay cs (o + l * q.sz) (fl.take (min ys.length m * q.sz))) el' fr) := by
      have e1 : Nat.min ys.length m = min ys.length m := rfl
      simp only [Nat.add_zero] at hst
      simp [Builtin.copy_, hvx, run_underlying hu, Result.andThen, s.lenOf w, rSize hs, e1, hcells, hst]
    rw [hcopy]
  · refine h.turn1 hX (Env.le.refl e) (fun ad v hm => .inl hm) KeptX.setB (fun ad v hm => ?_) ⟨_, el', fr, setB_at hlt, by rw [hlay]; exact h2, ?_, h4⟩ fun c hc => .inl hc
    · rw [World.cell?_of_block (setB_ne (h4 ad v hm))]
      exact h.frz ad v hm
    · have h5 := rel_cpV (l := l) (m := m) (hc e cs h3) s.len s.rel s.one rfl hm
      have h6 := hU.2.2 e cs _ h3 h5
      rwa [lay_sub (by omega) (by rw [hfl, hsz]; exact hle)] at h6
  · show [goInt ((min ys.length m : Nat) : Int)] = [Value.int .i64 (min (ys.length : Int) (m : Int))]
    have e3 : ((min ys.length m : Nat) : Int) = min (ys.length : Int) (m : Int) := by omega
    rw [e3]
    rfl
theorem op_copyO {U : Type} {q : Rep U} {cap j : Nat} {ob : Option Nat} {xs ys zs : List U} {dst : Option Nat} {k : Int} (hd : ∀ d, dst = some d → d < Bs.N) (hu : P.underlying t = some (.slice el)) (hs : tySz P el q.sz = true)
    (hx : HasO st x (.one (.val (HDR ob 0 xs.length cap)))) (hX : st.X[j]? = some (cown ob q xs 0 cap)) (hsrc : ∀ e a w, StE Bs st e a w → ∃ fl, SrcN P e a w q ys y fl) (he : cpL xs ys = zs) (hk : min (ys.length : Int) xs.length = k) :
    OpStep P Bs ⟨dst, .call { callee := .builtin .copy, args := #[x, y], argTypes := #[t, t'] }, ty, pos, af, g⟩ st (setO { st with X := st.X.set j (cown ob q zs 0 cap) } dst (.one (.val (S (rI .i64) k)))) := fun a w ⟨e, h⟩ K Q hK => by
  subst he; subst hk
  have hvx : a.eval x = .slice (ob.map fun b => ⟨b, 0, none⟩) xs.length cap := hx.get h
  obtain ⟨fl, s⟩ := hsrc e a w h
  have hcells := s.cells (min ys.length xs.length) (by omega)
  have e1 : Nat.min ys.length xs.length = min ys.length xs.length := rfl
  have e3 : ((min ys.length xs.length : Nat) : Int) = min (ys.length : Int) (xs.length : Int) := by omega
  have hfl : (fl.take (min ys.length xs.length * q.sz)).length = min ys.length xs.length * q.sz := by
    have : min ys.length xs.length * q.sz ≤ ys.length * q.sz := Nat.mul_le_mul_right _ (by omega)
    rw [List.length_take, s.len]; omega
  rcases h.xs _ (List.mem_of_getElem? hX) with ⟨h1, h2, h3, h4⟩ | ⟨b, cs, el', fr, hb, k1, k2, k3, k4, k5, k6, k7, k8⟩
  · subst h1; subst h2; subst h4
    refine wpIn_calm (w' := w) (v := goInt (min ys.length ([] : List U).length : Nat)) (fun _ _ => trivial) (nodefer_ne rfl) ?_ (hK _ _ ⟨e, StE.putO ?_ hd ?_⟩)
    · simp only [execOp, resolve, invoke, builtin, Sem.run_bind, Sem.run_pure, Result.andThen]
      have hcopy : (Builtin.copy_ #[t, t'] ty (Array.map a.eval #[x, y])).run P w = .ok (goInt (min ys.length ([] : List U).length : Nat)) w := by
        simp [Builtin.copy_, hvx, run_underlying hu, Result.andThen, s.lenOf w, rSize hs, e1] at hcells ⊢
        simp [hcells]
      rw [hcopy]
    · have hR : (cown none q (cpL ([] : List U) ys) 0 0).R e w := .inl ⟨rfl, by simp [cpL], rfl, rfl⟩
      exact h.turn1 hX (Env.le.refl e) (fun ad v hm => .inl hm) ⟨rfl, rfl, rfl, Nat.le_refl _, fun _ _ _ => rfl⟩ h.frz hR (fun b hb => .inl hb)
    · show [goInt ((min ys.length ([] : List U).length : Nat) : Int)] = [Value.int .i64 _]
      rw [e3]; rfl
  · subst hb
    have hkx : min ys.length xs.length * q.sz ≤ xs.length * q.sz := Nat.mul_le_mul_right _ (by omega)
    have hxc : xs.length * q.sz ≤ cap * q.sz := Nat.mul_le_mul_right _ k3
    have hone : ∀ v ∈ fl.take (min ys.length xs.length * q.sz), one1 v = true := fun v hv => s.one v (List.mem_of_mem_take hv)
    have hst := rstoreCells P (fl.take (min ys.length xs.length * q.sz)) w b 0 0 cs el' fr hone k1 (by omega) k2
    have hlay : (lay cs 0 (fl.take (min ys.length xs.length * q.sz))).length = cs.length := lay_length (by omega)
    have hlt := lt_of_block k1
    have hzl : (cpL xs ys).length = xs.length := by simp [cpL]; omega
    refine wpIn_calm (w' := setB w b (lay cs 0 (fl.take (min ys.length xs.length * q.sz))) el' fr) (v := goInt (min ys.length xs.length : Nat)) (fun _ _ => trivial) (nodefer_ne rfl) ?_ (hK _ _ ⟨e, StE.putO ?_ hd ?_⟩)
    · simp only [execOp, resolve, invoke, builtin, Sem.run_bind, Sem.run_pure, Result.andThen]
      have hcopy : (Builtin.copy_ #[t, t'] ty (Array.map a.eval #[x, y])).run P w = .ok (goInt (min ys.length xs.length : Nat)) (setB w b (lay cs 0 (fl.take (min ys.length xs.length * q.sz))) el' fr) := by
        simp only [Nat.add_zero] at hst
        simp [Builtin.copy_, hvx, run_underlying hu, Result.andThen, s.lenOf w, rSize hs, e1, hcells, hst]
      rw [hcopy]
    · refine h.turn1 hX (Env.le.refl e) (fun ad v hm => .inl hm) (c' := cown (some b) q (cpL xs ys) 0 cap) ⟨rfl, rfl, rfl, by rw [setB_size]; exact Nat.le_refl _, fun c _ hc => setB_ne (fun h => hc (by rw [h]; rfl))⟩ (fun ad v hm => ?_) (.inr ⟨b, _, el', fr, rfl, setB_at hlt, by rw [hlay]; exact k2, by rw [hzl]; exact k3, by rw [hlay]; exact k4, fun i hi => ?_, k6, Nat.zero_le _, ?_⟩) fun c hc => .inl hc
      · have hne : ad.block ≠ b := fun hb => by have := k6 ad v hm hb; omega
        rw [World.cell?_of_block (setB_ne hne)]
        exact h.frz ad v hm
      · have hix : i < xs.length := by omega
        by_cases hik : i < min ys.length xs.length
        · have e4 : (cpL xs ys)[i] = ys[i]'(by omega) := by
            simp only [cpL]
            rw [List.getElem_append_left (by simp; omega), List.getElem_take]
          rw [e4]
          have hok : i * q.sz + q.sz ≤ min ys.length xs.length * q.sz := by
            have := Nat.mul_le_mul_right q.sz (show i + 1 ≤ min ys.length xs.length by omega)
            rw [Nat.add_mul] at this; omega
          have : ((lay cs 0 (fl.take (min ys.length xs.length * q.sz))).drop (i * q.sz)).take q.sz = (fl.drop (i * q.sz)).take q.sz := by
            apply List.ext_getElem?
            intro z
            by_cases hz : z < q.sz
            · have := lay_get_mid (cs := cs) (off := 0) (i := i * q.sz + z) (vs := fl.take (min ys.length xs.length * q.sz)) (by omega) (by omega)
              rw [Nat.zero_add] at this
              rw [List.getElem?_take_of_lt hz, List.getElem?_take_of_lt hz, List.getElem?_drop, List.getElem?_drop, this, List.getElem?_take_of_lt (by omega)]
            · rw [List.getElem?_eq_none (by simp; omega), List.getElem?_eq_none (by simp; omega)]
          rw [this]
          exact s.rel i (by omega)
        · have e4 : (cpL xs ys)[i] = xs[i] := by
            simp only [cpL]
            rw [List.getElem_append_right (by simp; omega), List.getElem_drop]
            congr 1
            simp; omega
          rw [e4]
          have : ((lay cs 0 (fl.take (min ys.length xs.length * q.sz))).drop (i * q.sz)).take q.sz = (cs.drop (i * q.sz)).take q.sz := by
            apply List.ext_getElem?
            intro z
            by_cases hz : z < q.sz
            · have hkk : min ys.length xs.length * q.sz ≤ i * q.sz := Nat.mul_le_mul_right _ (by omega)
              rw [List.getElem?_take_of_lt hz, List.getElem?_take_of_lt hz, List.getElem?_drop, List.getElem?_drop, lay_get_ge (by omega) (by omega)]
            · rw [List.getElem?_eq_none (by simp; omega), List.getElem?_eq_none (by simp; omega)]
          rw [this]
          exact k5 i hix
      · simp only [Nat.zero_mul, List.take_zero]
        intro j u hj
        simp at hj
    · show [goInt ((min ys.length xs.length : Nat) : Int)] = [Value.int .i64 _]
      rw [e3]; rfl
theorem setO'_len {T : Type} {xs ys : List T} {i : Nat} {x : T} (h : setO' xs i x = some ys) : xs.length = ys.length := by rw [← (setO'_some h).2]; simp
theorem cpL_len {T : Type} {xs ys zs : List T} (h : cpL xs ys = zs) : xs.length = zs.length := by rw [← h]; simp [cpL]; omega
theorem wkLen {ob : Option Nat} {n m c : Nat} (h : n = m) : ∀ e v, (HDR ob 0 n c).p e v → (HDR ob 0 m c).p e v := fun e v k => h ▸ k
theorem Wk.len {K : Env → Prop} {ob : Option Nat} {n m c : Nat} (h : n = m) : Wk K (rW (HDR ob 0 n c)) () (rW (HDR ob 0 m c)) () := fun e vs _ k => h ▸ k
/-! ### noughts behind a row -/
structure AppSrc (P : Program) (e : Env) (a : Act) (w : World) {T : Type} (r : Rep T) (ys : List T) (y : Operand) (fl : List Value) (t t' el ty : TypeId) : Prop where
  len : fl.length = ys.length * r.sz
  one : ∀ v ∈ fl, one1 v = true
  rel : ∀ i (h : i < ys.length), r.rel e ys[i] ((fl.drop (i * r.sz)).take r.sz)
  none : ∀ cap, 0 + ys.length ≤ cap → (Builtin.append_ #[t, t'] ty #[.slice none 0 cap, a.eval y]).run P w = .ok (.slice none (0 + ys.length) cap) w
  room : ∀ (ad : Addr) sl cap w', sl + ys.length ≤ cap → (storeCells (ad.add (sl * r.sz)) fl).run P w = .ok () w' → (Builtin.append_ #[t, t'] ty #[.slice (some ad) sl cap, a.eval y]).run P w = .ok (.slice (some ad) (sl + ys.length) cap) w'
  grow : ∀ (i : TypeInfo) (zv : Value) sl cap nc (base : Option Addr) (old : Array Value), P.info? el = some i → i.zero = some zv → 0 < i.bytes → ¬ (sl + ys.length ≤ cap) → Builtin.nextslicecap (sl + ys.length) cap * i.bytes ≤ 281474976710656 → (sl + ys.length) ≤ 281474976710656 →
    (Question.appendCap (sl + ys.length) cap el).cut (w.tape w.drawn (Question.appendCap (sl + ys.length) cap el)) = nc → (Builtin.firstCells i.size sl (.slice base sl cap)).run P w.drew = .ok old w.drew →
    (Builtin.append_ #[t, t'] ty #[.slice base sl cap, a.eval y]).run P w = .ok (.slice (some ⟨w.heap.size, 0, Option.none⟩) (sl + ys.length) nc) (w.drew.alloc (.cells (old ++ fl.toArray ++ Builtin.zeroCells zv.cells (nc - (sl + ys.length))) el (0, 0)))
theorem zeroCells_list {z : Array Value} {n : Nat} (hz : 0 < z.size) : (Builtin.zeroCells z n).toList = (List.replicate n z.toList).flatten := by
  apply List.ext_getElem?
  intro i
  have key : ∀ n i, i < n * z.size → ((List.replicate n z.toList).flatten)[i]? = some (z[i % z.size]!) := by
    intro n
    induction n with
    | zero => intro i hi; omega
    | succ n ih =>
      intro i hi
      rw [List.replicate_succ, List.flatten_cons]
      by_cases hlt : i < z.size
      · rw [List.getElem?_append_left (by simpa using hlt), Nat.mod_eq_of_lt hlt, getElem!_pos z i hlt]
        simp [hlt]
      · rw [List.getElem?_append_right (by simpa using hlt)]
        have h1 : i - z.toList.length < n * z.size := by
          rw [Nat.add_mul] at hi
          simp only [Array.length_toList]
          omega
        rw [ih _ h1]
        congr 2
        simp only [Array.length_toList]
        rw [Nat.mod_eq_sub_mod (show i ≥ z.size by omega)]
  by_cases hi : i < n * z.size
  · rw [key n i hi]
    simp [Builtin.zeroCells, hi]
  · rw [List.getElem?_eq_none (by simp [Builtin.zeroCells]; omega), List.getElem?_eq_none (by simp; omega)]
set_option maxHeartbeats 1600000 in
theorem AppSrc.zeros {T : Type} {r : Rep T} {x0 : T} {n : Int} {zv : Value} {k : IntKind} {bytes : Nat} (hu : P.underlying t = some (.slice el)) (hu' : P.underlying t' = some (.int k)) (hel : tyB P el r.sz bytes zv) (hz : Zr r x0 zv.cells.toList) (hsz : 0 < r.sz) (hy : HasO st y (.one (.val (S (rI .i64) n)))) (h0 : 0 ≤ n) (h1 : n ≤ 9223372036854775807) (hb : n.toNat * bytes ≤ 140737488355328) (hst : StE Bs st e a w) :
    ∃ fl, AppSrc P e a w r (List.replicate n.toNat x0) y fl t t' el ty := by
  obtain ⟨i, hi, hi1, hi2, hi3⟩ := hel
  have hzl : zv.cells.toList.length = r.sz := r.len (hz e)
  have hzs : zv.cells.size = r.sz := by simpa using hzl
  have hv : a.eval y = .int .i64 n := by have := hy.get hst; simpa [SVR, SWR, S, rI] using this
  have hw : IntKind.i64.wrap n = n := by rw [wrap_i64]; exact w64_id (by omega) h1
  have hsize : ∀ w, (sizeOf el).run P w = .ok i.size w := fun w => by simp [sizeOf, typeInfo, program, Sem.run, hi]
  have hinfo : ∀ w, (typeInfo el).run P w = .ok i w := fun w => by simp [typeInfo, program, Sem.run, hi]
  have hzz : ∀ w, (zeroValue el).run P w = .ok zv w := fun w => by simp [zeroValue, typeInfo, program, Sem.run, hi, hi3]
  have hask : ∀ n w, (askRoom n).run P w = .ok () w := fun n w => by unfold askRoom; split <;> simp [mark, Sem.run]
  have hneg : ¬ n < 0 := by omega
  have h48 : ¬ ((281474976710656 : Int) < n * i.bytes) := by
    have : ((n.toNat * bytes : Nat) : Int) = n * i.bytes := by rw [← hi2]; simp [Int.toNat_of_nonneg h0]
    omega
  have hint : ∀ w, (asInt (.int .i64 n)).run P w = .ok n w := fun w => by simp [asInt, asIntOf, Result.andThen]
  have hzn : (Builtin.zeroCells zv.cells n.toNat).toList = (List.replicate n.toNat zv.cells.toList).flatten := zeroCells_list (by omega)
  have hnil : n.toNat * i.size = 0 → (List.replicate n.toNat zv.cells.toList).flatten = [] := fun h => by
    rw [hi1] at h
    have : n.toNat = 0 := by
      rcases Nat.mul_eq_zero.1 h with h | h
      · exact h
      · omega
    rw [this]; rfl
  refine ⟨(List.replicate n.toNat zv.cells.toList).flatten, by simp [hzl], fun v hv' => ?_, fun j hj => ?_, fun cap hc => ?_, fun ad sl cap w' hc hs => ?_, fun i' zv' sl cap nc base old k1 k2 k3 k4 k5 kk k6 k7 => ?_⟩
  · obtain ⟨l, m1, m2⟩ := List.mem_flatten.1 hv'
    rw [(List.mem_replicate.1 m1).2] at m2
    exact r.one (hz e) v m2
  · have hjn : j < n.toNat := by simpa using hj
    rw [flat_drop_take hzl j hjn]
    simpa using hz e
  · by_cases hn0 : n.toNat * i.size = 0
    · simp only [List.length_replicate, Nat.zero_add] at hc ⊢
      simp [hv, Builtin.append_, run_underlying hu, run_underlying hu', hsize, hinfo, hint, hw, hneg, h48, hn0, hc, show n ≤ (cap : Int) by omega]
    · simp only [List.length_replicate, Nat.zero_add] at hc ⊢
      simp [hv, Builtin.append_, run_underlying hu, run_underlying hu', hsize, hinfo, hint, hw, hneg, h48, hn0, hzz, hc, show n ≤ (cap : Int) by omega]
  · rw [← hi1] at hs
    by_cases hn0 : n.toNat * i.size = 0
    · rw [hnil hn0] at hs
      simp only [List.length_replicate] at hc
      simp [hv, Builtin.append_, run_underlying hu, run_underlying hu', hsize, hinfo, hint, hw, hneg, h48, hn0, hc, hs]
    · rw [← hzn] at hs
      simp only [List.length_replicate] at hc
      simp [hv, Builtin.append_, run_underlying hu, run_underlying hu', hsize, hinfo, hint, hw, hneg, h48, hn0, hzz, hc, hs]
  · rw [hi] at k1
    cases k1
    rw [hi3] at k2
    cases k2
    simp only [List.length_replicate] at k4 k5 k6 kk ⊢
    have hb00 : ¬ i.bytes = 0 := by omega
    have h48' : ¬ (281474976710656 < Builtin.nextslicecap (sl + n.toNat) cap * i.bytes) := by omega
    have hq : (Question.appendCap (sl + n.toNat) cap el).forced = false := rfl
    have hmax : ¬ ((IntKind.i64.max : Int) < (sl : Int) + (n.toNat : Int)) := by
      show ¬ ((9223372036854775807 : Int) < _); omega
    have hmax' : ¬ ((9223372036854775807 : Int) < (sl : Int) + max n 0) := by omega
    by_cases hn0 : n.toNat * i.size = 0
    · rw [hnil hn0]
      simp [hv, Builtin.append_, run_underlying hu, run_underlying hu', hsize, hinfo, hint, hw, hneg, h48, hn0, k4, hb00, h48', hq, k6, hask, k7, hzz, newRow, newObj, Sem.run, hmax, hmax']
    · rw [← hzn]
      simp [hv, Builtin.append_, run_underlying hu, run_underlying hu', hsize, hinfo, hint, hw, hneg, h48, hn0, k4, hb00, h48', hq, k6, hask, k7, hzz, newRow, newObj, Sem.run, hmax, hmax']
set_option maxHeartbeats 800000 in
/-- The row grows: a new block. -/
theorem grow_runA {T : Type} {r : Rep T} {xs ys : List T} {bytes cap : Nat} {base : Option Addr} {zv : Value} {dy : TypeDesc} {cs : List Value} (hu : P.underlying t = some (.slice el)) (hu' : P.underlying t' = some dy) (hni : True) (hel : tyB P el r.sz bytes zv) (hz : zv.cells.size = r.sz) (hb0 : 0 < bytes)
    (hst : StE Bs st e a w) (hv : a.eval x = .slice base xs.length cap) (hcap : xs.length ≤ cap) (hh : Head P e w r xs base cap cs) (hsrc : ∃ fl, AppSrc P e a w r ys y fl t t' el ty) (hb : (xs.length + ys.length) * bytes ≤ 140737488355328) (hroom : ¬ xs.length + ys.length ≤ cap) :
    ∃ (nc : Nat) (cells : List Value), (execOp a.eval ⟨some d, .call { callee := .builtin .append, args := #[x, y], argTypes := #[t, t'] }, ty, pos, af, g⟩).run P w = .ok (.value (.slice (some ⟨w.heap.size, 0, none⟩) (xs.length + ys.length) nc)) (w.drew.alloc (.cells cells.toArray el (0, 0))) ∧
      (xs ++ ys).length ≤ nc ∧ cells.length = nc * r.sz ∧ (∀ i (h : i < (xs ++ ys).length), r.rel e (xs ++ ys)[i] ((cells.drop (i * r.sz)).take r.sz)) ∧ cells.take (xs.length * r.sz) = cs := by
  obtain ⟨fl, hs⟩ := hsrc
  obtain ⟨i, hi, hi1, hi2, hi3⟩ := hel
  have hneed : xs.length + ys.length ≤ (xs.length + ys.length) * bytes := Nat.le_mul_of_pos_right _ hb0
  have hgrow : Builtin.nextslicecap (xs.length + ys.length) cap * bytes ≤ 281474976710656 := growslice_fits (by omega) hb
  let q := Question.appendCap (xs.length + ys.length) cap el
  obtain ⟨nc, hnc, hnc2⟩ : ∃ nc, q.cut (w.tape w.drawn q) = nc ∧ xs.length + ys.length ≤ nc := ⟨_, rfl, by simp only [q, Question.cut]; omega⟩
  let rest := (Builtin.zeroCells zv.cells (nc - (xs.length + ys.length))).toList
  let cells := cs ++ fl ++ rest
  have hrest : rest.length = (nc - (xs.length + ys.length)) * r.sz := by simp [rest, Builtin.zeroCells, hz]
  have hcs1 := hh.len
  have hfl := hs.len
  have hcells : cells.length = nc * r.sz := by
    simp only [cells, List.length_append, hcs1, hfl, hrest, ← Nat.add_mul]
    congr 1; omega
  refine ⟨nc, cells, ?_, by simpa using hnc2, hcells, ?_, ?_⟩
  · have e1 := hh.load w.drew rfl
    rw [← hi1] at e1
    have hrun := hs.grow i zv xs.length cap nc base cs.toArray hi hi3 (by omega) hroom (by rw [hi2]; exact hgrow) (by omega) hnc e1
    have hcat : (cs.toArray ++ fl.toArray ++ Builtin.zeroCells zv.cells (nc - (xs.length + ys.length))) = cells.toArray := by
      apply Array.ext'
      simp [cells, rest]
    rw [hcat] at hrun
    simp only [execOp, resolve, invoke, builtin, List.map_toArray, List.map_cons, List.map_nil, hv, Sem.run_bind, Sem.run_bind', Sem.run_pure, Result.andThen, hrun]
  · refine rel_append (tl := []) hh.rel hs.rel (fun k hk => ?_) fun k hk => ?_
    · simp only [cells]
      rw [List.append_assoc, List.getElem?_append_left (by omega)]
    · simp only [cells]
      rw [List.append_assoc, List.getElem?_append_right (by omega), List.getElem?_append_left (by omega), hcs1]
      congr 1
      omega
  · simp only [cells]
    rw [List.append_assoc, List.take_append_of_le_length (by omega), List.take_of_length_le (by omega)]
set_option maxHeartbeats 800000 in
theorem append_runA {T : Type} {r : Rep T} {xs ys : List T} {ob : Option Nat} {fz cap j bytes : Nat} {zv : Value} {dy : TypeDesc} (hu : P.underlying t = some (.slice el)) (hu' : P.underlying t' = some dy) (hni : True) (hel : tyB P el r.sz bytes zv) (hz : zv.cells.size = r.sz) (hsz : 0 < r.sz) (hb0 : 0 < bytes)
    (hX : st.X[j]? = some (cown ob r xs fz cap)) (hst : StE Bs st e a w) (hv : a.eval x = .slice (ob.map fun b => ⟨b, 0, none⟩) xs.length cap) (hsrc : ∃ fl, AppSrc P e a w r ys y fl t t' el ty) (hb : (xs.length + ys.length) * bytes ≤ 140737488355328) :
    ∃ (v : Value) (w' : World) (e' : Env) (q : Option Nat × Nat), (execOp a.eval ⟨some d, .call { callee := .builtin .append, args := #[x, y], argTypes := #[t, t'] }, ty, pos, af, g⟩).run P w = .ok (.value v) w' ∧
      StE Bs { st with X := st.X.set j (cown q.1 r (xs ++ ys) fz q.2) } e' a w' ∧ SVR e' (.one (.val (HDR q.1 0 (xs ++ ys).length q.2))) v := by
  have hR := hst.xs _ (List.mem_of_getElem? hX)
  have hcap : xs.length ≤ cap := by
    rcases hR with ⟨h1, h2, h3, h4⟩ | ⟨b, cs, el, fr, hb, h5, h6, h0, _⟩
    · subst h2; simp
    · exact h0
  by_cases hroom : xs.length + ys.length ≤ cap
  · obtain ⟨fl, hs⟩ := hsrc
    obtain ⟨i, hi, hi1, hi2, hi3⟩ := hel
    have hsize : ∀ w, (sizeOf el).run P w = .ok r.sz w := fun w => by simp [sizeOf, typeInfo, program, Sem.run, hi, hi1]
    rcases hR with ⟨h1, h2, h3, h4⟩ | ⟨b, cs, el', fr, hob, h5, h6, h0, h7, h8, h9, h10, h11⟩
    · subst h1; subst h2; subst h3; subst h4
      have hys : ys = [] := List.eq_nil_of_length_eq_zero (by simpa using hroom)
      subst hys
      refine ⟨.slice none 0 0, w, e, (none, 0), ?_, ?_, rfl⟩
      · have hrun := hs.none 0 (show 0 + ([] : List T).length ≤ 0 by simp)
        simp only [execOp, resolve, invoke, builtin, List.map_toArray, List.map_cons, List.map_nil, hv, Sem.run_bind, Sem.run_bind', Sem.run_pure, Result.andThen]
        simp only [List.length_nil] at hrun ⊢
        simp only [Option.map_none]
        rw [hrun]
      · exact hst.perm ((perm_set hX).trans (set_perm (d := cown none r ([] ++ []) 0 0) hX))
    · subst hob
      have hfl := hs.len
      have hmul : (xs.length + ys.length) * r.sz ≤ cs.length := Nat.le_trans (Nat.mul_le_mul_right _ hroom) h7
      rw [Nat.add_mul] at hmul
      have hlay : (lay cs (xs.length * r.sz) fl).length = cs.length := lay_length (by omega)
      have hlt := lt_of_block h5
      refine ⟨.slice (some ⟨b, 0, none⟩) (xs.length + ys.length) cap, setB w b (lay cs (xs.length * r.sz) fl) el' fr, e, (some b, cap), ?_, ?_, ?_⟩
      · have hst2 := rstoreCells P fl w b (xs.length * r.sz) 0 cs el' fr hs.one h5 (by omega) h6
        simp only [Nat.add_zero] at hst2
        have hrun := hs.room ⟨b, 0, none⟩ xs.length cap _ hroom (by rw [add_none, Nat.zero_add]; simpa using hst2)
        simp only [execOp, resolve, invoke, builtin, List.map_toArray, List.map_cons, List.map_nil, hv, Sem.run_bind, Sem.run_bind', Sem.run_pure, Result.andThen, Option.map_some, hrun]
      · have hfzle : fz * r.sz ≤ xs.length * r.sz := Nat.mul_le_mul_right _ h10
        have hkeep : ∀ k, k < xs.length * r.sz → (lay cs (xs.length * r.sz) fl)[k]? = cs[k]? := fun k hk => lay_get_lt hk (by omega)
        refine hst.turn1 hX (Env.le.refl e) (fun ad v hm => .inl hm) ⟨rfl, rfl, rfl, by rw [setB_size]; exact Nat.le_refl _, fun c _ hc => setB_ne fun h => hc (by rw [h]; rfl)⟩ (fun ad v hm => ?_) (.inr ⟨b, lay cs (xs.length * r.sz) fl, el', fr, rfl, setB_at hlt, by rw [hlay]; exact h6, by simpa using hroom, by rw [hlay]; exact h7,
          rel_append (tl := []) h8 hs.rel hkeep fun k hk => lay_get_mid (by omega) (by omega), h9, by simp; omega, fun k u hk => ?_⟩) (fun c hc => .inl hc)
        · by_cases hab : ad.block = b
          · obtain ⟨ab, off, sp⟩ := ad
            simp only at hab
            subst hab
            have hsp := muspot hst hm
            simp only at hsp
            subst hsp
            have h0 := hst.frz _ v hm
            rw [cell_of h5] at h0
            have hoff := h9 _ v hm rfl
            simp only at hoff
            rw [cell_of (setB_at hlt), hkeep off (by omega), h0]
          · rw [World.cell?_of_block (setB_ne hab)]; exact hst.frz ad v hm
        · have hkl : k < fz * r.sz := by
            rcases Nat.lt_or_ge k (fz * r.sz) with h | h
            · exact h
            · rw [List.getElem?_eq_none (by simp; omega)] at hk; cases hk
          refine h11 k u ?_
          rw [List.getElem?_take_of_lt hkl] at hk ⊢
          rwa [hkeep k (by omega)] at hk
      · simp [SVR, SWR, HDR]
  · obtain ⟨cs, hh⟩ := own_head (P := P) hst hX
    obtain ⟨nc, cells, hrun, h1, h2, h3, h4⟩ := grow_runA (d := d) (ty := ty) (pos := pos) (af := af) (g := g) hu hu' hni hel hz hb0 hst hv hcap hh hsrc hb hroom
    have hfz : fz ≤ xs.length := by
      rcases hR with ⟨_, k2, k3, _⟩ | ⟨b, cs, el, fr, hb, h5, h6, h0, _, _, _, h10, _⟩
      · rw [k3]; omega
      · exact h10
    have hfzle : fz * r.sz ≤ xs.length * r.sz := Nat.mul_le_mul_right _ hfz
    have hk := drewalloc_kept w (.cells cells.toArray el (0, 0))
    have hat := drewalloc_at w (.cells cells.toArray el (0, 0))
    let e' := e.add w.heap.size 0 (cells.take (fz * r.sz))
    have hle : e.le e' := Env.add_le fun ad v hm hab => by have := mu_lt hst hm; omega
    have hinv : ∀ ad v, e'.mu ad = some v → e.mu ad = some v ∨ (ad.block = w.heap.size ∧ ad.spot = none ∧ ad.off < fz * r.sz ∧ cells[ad.off]? = some v) := fun ad v hm => by
      rcases Env.add_inv hm with h | ⟨h1, h2, h3, h4, h5⟩
      · exact .inl h
      · have : ad.off < fz * r.sz := by simp at h4; omega
        rw [Nat.sub_zero, List.getElem?_take_of_lt this] at h5
        exact .inr ⟨h1, h2, this, h5⟩
    refine ⟨_, _, e', (some w.heap.size, nc), hrun, ?_, by simp [SVR, SWR, HDR]⟩
    refine hst.turn1 hX hle (fun ad v hm => ?_) (hk.x _) (fun ad v hm => ?_) (.inr ⟨w.heap.size, cells, el, (0, 0), rfl, hat, thawed00 _, h1, by rw [h2]; exact Nat.le_refl _, fun i hi => r.mono hle (h3 i hi), fun ad v hm hab => ?_, by simp; omega, Env.add_mu⟩) (fun c hc => .inr (by cases hc; exact Nat.le_refl _))
    · rcases hinv ad v hm with h | ⟨h, _⟩
      · exact .inl h
      · exact .inr (.inl (by rw [h]; exact Nat.le_refl _))
    · rcases hinv ad v hm with h | ⟨h1, h2, _, h4⟩
      · rw [World.cell?_of_block (hk.old _ (mu_lt hst h))]; exact hst.frz ad v h
      · obtain ⟨ab, off, sp⟩ := ad
        simp only at h1 h2 h4
        subst h1; subst h2
        rw [cell_of hat]; exact h4
    · rcases hinv ad v hm with h | ⟨_, _, h, _⟩
      · have := mu_lt hst h; omega
      · exact h
/-- append of so many noughts. -/
theorem op_appendZ {T : Type} {r : Rep T} {x0 : T} {xs zs : List T} {n : Int} {ob : Option Nat} {fz cap j bytes : Nat} {k : IntKind} {zv : Value} (hd : d < Bs.N) (hu : P.underlying t = some (.slice el)) (hu' : P.underlying t' = some (.int k)) (hel : tyB P el r.sz bytes zv) (hz : Zr r x0 zv.cells.toList) (hzs : zv.cells.size = r.sz) (hsz : 0 < r.sz) (hb0 : 0 < bytes)
    (hX : st.X[j]? = some (cown ob r xs fz cap)) (hx : HasO st x (.one (.val (HDR ob 0 xs.length cap)))) (hy : HasO st y (.one (.val (S (rI .i64) n)))) (h : apZ bytes xs n x0 = some zs) :
    OpX P Bs ⟨some d, .call { callee := .builtin .append, args := #[x, y], argTypes := #[t, t'] }, ty, pos, af, g⟩ st (fun q : Option Nat × Nat => St.set { st with X := st.X.set j (cown q.1 r zs fz q.2) } d (.one (.val (HDR q.1 0 zs.length q.2)))) := by
  obtain ⟨⟨h0, h1, h2⟩, rfl⟩ := apZ_some h
  exact .grows hd fun e a w hst => append_runA (dy := .int k) hu hu' trivial hel hzs hsz hb0 hX hst (hx.get hst) (AppSrc.zeros hu hu' hel hz hsz hy h0 h1 (by rw [Nat.add_mul] at h2; omega) hst) (by simpa using h2)
end
end Go.Proofs.Ytbflmobpbjnekaa.Fw
