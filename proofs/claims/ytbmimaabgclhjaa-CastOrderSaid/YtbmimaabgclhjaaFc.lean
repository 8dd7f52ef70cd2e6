/- Operations on numbers, truths and texts. -/
import Derived.Test.YtbmimaabgclhjaaFb
namespace Go.Proofs.Ytbmimaabgclhjaa.Fw
open Go Go.RowKit
set_option linter.unusedVariables false
set_option linter.unusedSimpArgs false

section
variable {P : Program} {Bs : Base} {st st' : St} {d : Nat} {ty t t' : TypeId} {pos : String} {af : Array Edge} {g : Option (Nat × Bool)} {x y z : Operand}

theorem op_move {sv : SV1} (hd : d < Bs.N) (hx : HasO st x sv) : OpStep P Bs ⟨some d, .move x, ty, pos, af, g⟩ st (st.set d sv) :=
  .value hd fun e a w h => ⟨_, by simp [execOp], hx.get h⟩
theorem op_assign {sv : SV1} (hd : d < Bs.N) (hx : HasO st x sv) : OpStep P Bs ⟨some d, .assign x, ty, pos, af, g⟩ st (st.set d sv) :=
  .value hd fun e a w h => ⟨_, by simp [execOp], hx.get h⟩

/-- What an operation of two operands comes to. -/
def BinR (P : Program) (op : BinOp) (t : TypeId) (u v r : Value) : Prop := ∀ x y w, ((do eqGuard op t x y u v; binOp op t u v) : Sem Value).run P w = .ok r w
theorem op_bin {op : BinOp} {p q s : VP} (hd : d < Bs.N) (hx : HasO st x (.one (.val p))) (hy : HasO st y (.one (.val q))) (h : ∀ e u v, p.p e u → q.p e v → ∃ r, BinR P op t u v r ∧ s.p e r) :
    OpStep P Bs ⟨some d, .binOp op t x y t', ty, pos, af, g⟩ st (st.set d (.one (.val s))) :=
  .value hd fun e a w hst => by
    obtain ⟨r, h1, h2⟩ := h e _ _ (hx.get hst) (hy.get hst)
    refine ⟨r, ?_, h2⟩
    have := h1 x y w
    simp only [execOp, Sem.run_bind, Sem.run_bind'] at this ⊢
    rw [this]
    simp

/-! ### whole numbers -/
noncomputable def bits64 (op : BinOp) (m n : Int) : Int :=
  let a := BitVec.ofInt IntKind.i64.bits m
  let b := BitVec.ofInt IntKind.i64.bits n
  w64 (match op with | .and => (a &&& b).toNat | .or => (a ||| b).toNat | .xor => (a ^^^ b).toNat | _ => (a &&& ~~~b).toNat)
noncomputable def arI (op : BinOp) (m n : Int) : Option Int :=
  match op with
  | .add => some (w64 (m + n))
  | .sub => some (w64 (m - n))
  | .mul => some (w64 (m * n))
  | .quo => if n = 0 then none else some (w64 (m.tdiv n))
  | .rem => if n = 0 then none else some (m.tmod n)
  | .and | .or | .xor | .andNot => some (bits64 op m n)
  | _ => none
def cmpI (op : BinOp) (m n : Int) : Option Bool :=
  match op with
  | .eql => some (m == n)
  | .neq => some (m != n)
  | .lss => some (decide (m < n))
  | .leq => some (decide (m ≤ n))
  | .gtr => some (decide (m > n))
  | .geq => some (decide (m ≥ n))
  | _ => none
theorem b_and (m n : Int) : bits64 .and m n = IntKind.i64.wrap (BitVec.ofInt IntKind.i64.bits m &&& BitVec.ofInt IntKind.i64.bits n).toNat := by rw [wrap_i64]; rfl
theorem b_or (m n : Int) : bits64 .or m n = IntKind.i64.wrap (BitVec.ofInt IntKind.i64.bits m ||| BitVec.ofInt IntKind.i64.bits n).toNat := by rw [wrap_i64]; rfl
theorem b_xor (m n : Int) : bits64 .xor m n = IntKind.i64.wrap (BitVec.ofInt IntKind.i64.bits m ^^^ BitVec.ofInt IntKind.i64.bits n).toNat := by rw [wrap_i64]; rfl
theorem b_andNot (m n : Int) : bits64 .andNot m n = IntKind.i64.wrap (BitVec.ofInt IntKind.i64.bits m &&& ~~~BitVec.ofInt IntKind.i64.bits n).toNat := by rw [wrap_i64]; rfl
theorem op_arI {op : BinOp} {m n r : Int} (hd : d < Bs.N) (hx : HasO st x (.one (.val (S (rI .i64) m)))) (hy : HasO st y (.one (.val (S (rI .i64) n)))) (hr : arI op m n = some r) :
    OpStep P Bs ⟨some d, .binOp op t x y t', ty, pos, af, g⟩ st (st.set d (.one (.val (S (rI .i64) r)))) :=
  op_bin hd hx hy fun e u v hu hv => by
    obtain rfl : u = .int .i64 m := by simpa [S, rI] using hu
    obtain rfl : v = .int .i64 n := by simpa [S, rI] using hv
    refine ⟨.int .i64 r, fun x y w => ?_, rfl⟩
    cases op <;> simp only [arI, Option.some.injEq, reduceCtorEq] at hr
    case add => subst hr; rw [← wrap_i64]; rfl
    case sub => subst hr; rw [← wrap_i64]; rfl
    case mul => subst hr; rw [← wrap_i64]; rfl
    case and => subst hr; rw [b_and]; rfl
    case or => subst hr; rw [b_or]; rfl
    case xor => subst hr; rw [b_xor]; rfl
    case andNot => subst hr; rw [b_andNot]; rfl
    case quo =>
      split at hr
      · cases hr
      · rename_i hz
        simp only [Option.some.injEq] at hr
        subst hr
        rw [← wrap_i64]
        have : Op.intDiv .quo .i64 m n = pure (.int .i64 (IntKind.i64.wrap (m.tdiv n))) := by unfold Op.intDiv; rw [if_neg hz]
        show (Op.intDiv .quo .i64 m n).run P w = _
        rw [this]; rfl
    case rem =>
      split at hr
      · cases hr
      · rename_i hz
        simp only [Option.some.injEq] at hr
        subst hr
        have : Op.intDiv .rem .i64 m n = pure (.int .i64 (m.tmod n)) := by unfold Op.intDiv; rw [if_neg hz]
        show (Op.intDiv .rem .i64 m n).run P w = _
        rw [this]; rfl
theorem op_cmpI {op : BinOp} {m n : Int} {r : Bool} {k : IntKind} (hd : d < Bs.N) (hx : HasO st x (.one (.val (S (rI k) m)))) (hy : HasO st y (.one (.val (S (rI k) n)))) (hr : cmpI op m n = some r) :
    OpStep P Bs ⟨some d, .binOp op t x y t', ty, pos, af, g⟩ st (st.set d (.one (.val (S rB r)))) :=
  op_bin hd hx hy fun e u v hu hv => by
    obtain rfl : u = .int k m := by simpa [S, rI] using hu
    obtain rfl : v = .int k n := by simpa [S, rI] using hv
    refine ⟨.bool r, fun x y w => ?_, rfl⟩
    cases op <;> simp [cmpI] at hr <;> subst hr <;> simp [eqGuard, binOp, Op.intCmp]

def arU {U : Type} [UK U] (op : BinOp) (m n : U) : Option U :=
  match op with
  | .add => some (UN.add m n)
  | .sub => some (UN.sub m n)
  | .mul => some (UN.mul m n)
  | .and => some (UN.and m n)
  | .or => some (UN.or m n)
  | .xor => some (UN.xor m n)
  | .quo => if UN.toN n = 0 then none else some (UN.div m n)
  | .rem => if UN.toN n = 0 then none else some (UN.mod m n)
  | _ => none
def cmpU {U : Type} [UK U] (op : BinOp) (m n : U) : Option Bool :=
  match op with
  | .eql => some (UN.eq m n)
  | .neq => some (!UN.eq m n)
  | .lss => some (UN.ltb m n)
  | .leq => some (UN.leb m n)
  | .gtr => some (UN.ltb n m)
  | .geq => some (UN.leb n m)
  | _ => none
theorem op_arU {U : Type} [UK U] {op : BinOp} {m n r : U} (hd : d < Bs.N) (hx : HasO st x (.one (.val (S (rU U) m)))) (hy : HasO st y (.one (.val (S (rU U) n)))) (hr : arU op m n = some r) :
    OpStep P Bs ⟨some d, .binOp op t x y t', ty, pos, af, g⟩ st (st.set d (.one (.val (S (rU U) r)))) :=
  op_bin hd hx hy fun e u v hu hv => by
    obtain rfl : u = .int (UK.k U) (UN.toN m) := by simpa [S, rU] using hu
    obtain rfl : v = .int (UK.k U) (UN.toN n) := by simpa [S, rU] using hv
    refine ⟨.int (UK.k U) (UN.toN r), fun x y w => ?_, rfl⟩
    have hm := UN.lt m
    have hn := UN.lt n
    have hb : (UK.k U).bits = UN.bits U := UK.hbits
    have hmm : UN.toN m % 2 ^ UN.bits U = UN.toN m := Nat.mod_eq_of_lt hm
    have hnm : UN.toN n % 2 ^ UN.bits U = UN.toN n := Nat.mod_eq_of_lt hn
    have key : ∀ z : Nat, (UK.k U).wrap (z : Int) = ((z % 2 ^ UN.bits U : Nat) : Int) := fun z => by rw [wrap_u]; norm_cast
    cases op <;> simp only [arU, Option.some.injEq, reduceCtorEq] at hr <;> simp only [eqGuard, binOp, Op.intArith, Op.intDiv, Op.intBits]
    case add => subst hr; simp [UN.h_add, ← key]
    case sub =>
      subst hr
      simp only [UN.h_sub]
      have : (UK.k U).wrap ((UN.toN m : Int) - (UN.toN n : Int)) = (((2 ^ UN.bits U - UN.toN n + UN.toN m) % 2 ^ UN.bits U : Nat) : Int) := by
        rw [wrap_u]
        rw [show ((UN.toN m : Int) - (UN.toN n : Int)) = (((2 ^ UN.bits U - UN.toN n + UN.toN m : Nat)) : Int) - ((2 ^ UN.bits U : Nat) : Int) from by omega]
        rw [Int.sub_emod, Int.emod_self, Int.sub_zero, Int.emod_emod_of_dvd _ (Int.dvd_refl _)]
        norm_cast
      simp [this]
    case mul => subst hr; simp [UN.h_mul, ← key]
    case and =>
      subst hr
      have h3 : (UN.toN m &&& UN.toN n) % 2 ^ UN.bits U = UN.toN m &&& UN.toN n := Nat.mod_eq_of_lt (Nat.and_lt_two_pow _ hn)
      simp [hb, hmm, hnm, wrap_u, UN.h_and]
      exact_mod_cast h3
    case or =>
      subst hr
      have h3 : (UN.toN m ||| UN.toN n) % 2 ^ UN.bits U = UN.toN m ||| UN.toN n := Nat.mod_eq_of_lt (Nat.or_lt_two_pow hm hn)
      simp [hb, hmm, hnm, wrap_u, UN.h_or]
      exact_mod_cast h3
    case xor =>
      subst hr
      have h3 : (UN.toN m ^^^ UN.toN n) % 2 ^ UN.bits U = UN.toN m ^^^ UN.toN n := Nat.mod_eq_of_lt (Nat.xor_lt_two_pow hm hn)
      simp [hb, hmm, hnm, wrap_u, UN.h_xor]
      exact_mod_cast h3
    case quo =>
      split at hr
      · cases hr
      · rename_i hz
        simp only [Option.some.injEq] at hr
        subst hr
        have h4 : ((UN.toN m : Int)).tdiv (UN.toN n : Int) = ((UN.toN m / UN.toN n : Nat) : Int) := by norm_cast
        have h5 : (UN.toN m / UN.toN n) % 2 ^ UN.bits U = UN.toN m / UN.toN n := Nat.mod_eq_of_lt (Nat.lt_of_le_of_lt (Nat.div_le_self _ _) hm)
        have h6 := key (UN.toN m / UN.toN n)
        rw [h5] at h6
        push_cast at h6
        simp [hz, h6, UN.h_div]
    case rem =>
      split at hr
      · cases hr
      · rename_i hz
        simp only [Option.some.injEq] at hr
        subst hr
        have h4 : ((UN.toN m : Int)).tmod (UN.toN n : Int) = ((UN.toN m % UN.toN n : Nat) : Int) := by norm_cast
        simp [hz, h4, UN.h_mod]
theorem op_cmpU {U : Type} [UK U] {op : BinOp} {m n : U} {r : Bool} (hd : d < Bs.N) (hx : HasO st x (.one (.val (S (rU U) m)))) (hy : HasO st y (.one (.val (S (rU U) n)))) (hr : cmpU op m n = some r) :
    OpStep P Bs ⟨some d, .binOp op t x y t', ty, pos, af, g⟩ st (st.set d (.one (.val (S rB r)))) :=
  op_bin hd hx hy fun e u v hu hv => by
    obtain rfl : u = .int (UK.k U) (UN.toN m) := by simpa [S, rU] using hu
    obtain rfl : v = .int (UK.k U) (UN.toN n) := by simpa [S, rU] using hv
    refine ⟨.bool r, fun x y w => ?_, rfl⟩
    have e1 : ((UN.toN m : Int) == (UN.toN n : Int)) = (UN.toN m == UN.toN n) := by rw [Bool.eq_iff_iff]; simp; omega
    cases op <;> simp only [cmpU, Option.some.injEq, reduceCtorEq] at hr <;> subst hr <;> simp [eqGuard, binOp, Op.intCmp, UN.h_eq, UN.h_lt, UN.h_le, e1, bne]

def shU {U : Type} [UK U] (op : BinOp) (m : U) (n : Int) : Option U :=
  if n < 0 then none else match op with
  | .shl => some (UN.shl m n.toNat)
  | .shr => some (UN.shr m n.toNat)
  | _ => none
theorem sh_run {U : Type} [UK U] {op : BinOp} {m r : U} {k : IntKind} {n : Int} (hr : shU op m n = some r) : BinR P op t (.int (UK.k U) (UN.toN m)) (.int k n) (.int (UK.k U) (UN.toN r)) := by
  intro x y w
  have hb : (UK.k U).bits = UN.bits U := UK.hbits
  unfold shU at hr
  split at hr
  · cases hr
  · rename_i hn
    cases op <;> simp at hr <;> subst hr
    · simp only [eqGuard, binOp, Op.shift]
      rw [if_neg hn, hb]
      have : (UK.k U).wrap ((UN.toN m : Int) * 2 ^ (min n.toNat (UN.bits U))) = (UN.toN (UN.shl m n.toNat) : Int) := by
        rw [wrap_u, UN.shl, UN.toN_ofN]; norm_cast
      simp [this]
    · simp only [eqGuard, binOp, Op.shift]
      rw [if_neg hn, hb]
      have : ((UN.toN m : Int)).fdiv (2 ^ (min n.toNat (UN.bits U))) = (UN.toN (UN.shr m n.toNat) : Int) := by
        rw [UN.shr, UN.toN_ofN, Nat.mod_eq_of_lt (Nat.lt_of_le_of_lt (Nat.div_le_self _ _) (UN.lt m))]
        rw [Int.fdiv_eq_ediv_of_nonneg _ (Int.le_of_lt (Int.pow_pos (by decide)))]
        norm_cast
      simp [this]
theorem op_shUU {U V : Type} [UK U] [UK V] {op : BinOp} {m r : U} {n : V} (hd : d < Bs.N) (hx : HasO st x (.one (.val (S (rU U) m)))) (hy : HasO st y (.one (.val (S (rU V) n)))) (hr : shU op m (UN.toN n) = some r) :
    OpStep P Bs ⟨some d, .binOp op t x y t', ty, pos, af, g⟩ st (st.set d (.one (.val (S (rU U) r)))) :=
  op_bin hd hx hy fun e u v hu hv => by
    obtain rfl : u = .int (UK.k U) (UN.toN m) := by simpa [S, rU] using hu
    obtain rfl : v = .int (UK.k V) (UN.toN n) := by simpa [S, rU] using hv
    exact ⟨_, sh_run hr, rfl⟩
/-! ### truths, texts -/
theorem op_not {m r : Bool} (hd : d < Bs.N) (hx : HasO st x (.one (.val (S rB m)))) (hr : (!m) = r) : OpStep P Bs ⟨some d, .unOp .not t x, ty, pos, af, g⟩ st (st.set d (.one (.val (S rB r)))) :=
  .value hd fun e a w h => by
    have hu : a.eval x = .bool m := by have := hx.get h; simpa [SVR, SWR, S, rB] using this
    exact ⟨.bool r, by subst hr; simp [execOp, hu, Op.unary], rfl⟩
theorem op_pick {c : Operand} {b : Bool} {sv sv2 sv3 : SV1} (hd : d < Bs.N) (hc : HasO st c (.one (.val (S rB b)))) (hx : b = true → HasO st x sv) (hy : b = false → HasO st y sv) : OpStep P Bs ⟨some d, .pick c x y, ty, pos, af, g⟩ st (st.set d sv) :=
  .value hd fun e a w h => by
    have hu : a.eval c = .bool b := by have := hc.get h; simpa [SVR, SWR, S, rB] using this
    cases b
    · exact ⟨a.eval y, by simp [execOp, hu, asBool], (hy rfl).get h⟩
    · exact ⟨a.eval x, by simp [execOp, hu, asBool], (hx rfl).get h⟩

theorem op_extract {l : List SW} {i : Nat} {s : SW} (hd : d < Bs.N) (hx : HasO st x (.tup l)) (hi : l[i]? = some s) : OpStep P Bs ⟨some d, .extract x i, ty, pos, af, g⟩ st (st.set d (.one s)) :=
  .value hd fun e a w h => by
    obtain ⟨vs, h1, h2, h3⟩ := hx.get h
    have hlt : i < vs.length := by rw [h2]; exact (List.getElem?_eq_some_iff.1 hi).1
    refine ⟨vs.getD i undef, ?_, h3 i s hi⟩
    simp [execOp, h1, Instr.extract, List.getElem?_eq_getElem hlt, List.getD_eq_getElem?_getD]

/-! ### conversions -/
section
variable {src dst : TypeId}
theorem conv_int {k k' : IntKind} {n : Int} {w : World} {dd : TypeDesc} (hs : P.underlying src = some dd) (h : P.underlying dst = some (.int k)) : (convert src dst (.int k' n)).run P w = .ok (.int k (k.wrap n)) w := by
  unfold convert
  simp only [Sem.run_bind, run_underlying hs, run_underlying h, Result.andThen]
  cases dd <;> simp [Conv.intToInt]
theorem op_convUI {U : Type} [UK U] {m : U} {r : Int} (hd : d < Bs.N) (hs : P.underlying src = some (.int (UK.k U))) (h : P.underlying dst = some (.int .i64)) (hx : HasO st x (.one (.val (S (rU U) m)))) (hr : w64 (UN.toN m) = r) :
    OpStep P Bs ⟨some d, .convert src dst x, ty, pos, af, g⟩ st (st.set d (.one (.val (S (rI .i64) r)))) :=
  .value hd fun e a w hst => by
    have hu : a.eval x = .int (UK.k U) (UN.toN m) := by have := hx.get hst; simpa [SVR, SWR, S, rU] using this
    exact ⟨.int .i64 r, by subst hr; simp only [execOp, hu, Sem.run_bind, conv_int hs h, Result.andThen, wrap_i64, Sem.run_pure], rfl⟩
theorem wrap_ofI {U : Type} [UK U] (n : Int) : (UK.k U).wrap n = (UN.toN (UN.ofI (U := U) n) : Int) := by
  have hp : 0 < 2 ^ UN.bits U := Nat.two_pow_pos _
  rw [wrap_u, UN.ofI, UN.toN_ofN]
  have h0 : 0 ≤ n % ((2 ^ UN.bits U : Nat) : Int) := Int.emod_nonneg _ (by omega)
  have h1 : n % ((2 ^ UN.bits U : Nat) : Int) < ((2 ^ UN.bits U : Nat) : Int) := Int.emod_lt_of_pos _ (by omega)
  rw [Nat.mod_eq_of_lt (by omega)]
  omega
theorem op_convIU {U : Type} [UK U] {k : IntKind} {m : Int} {r : U} (hd : d < Bs.N) (hs : P.underlying src = some (.int k)) (h : P.underlying dst = some (.int (UK.k U))) (hx : HasO st x (.one (.val (S (rI k) m)))) (hr : UN.ofI m = r) :
    OpStep P Bs ⟨some d, .convert src dst x, ty, pos, af, g⟩ st (st.set d (.one (.val (S (rU U) r)))) :=
  .value hd fun e a w hst => by
    have hu : a.eval x = .int k m := by have := hx.get hst; simpa [SVR, SWR, S, rI] using this
    exact ⟨.int (UK.k U) (UN.toN r), by subst hr; simp only [execOp, hu, Sem.run_bind, conv_int hs h, Result.andThen, wrap_ofI, Sem.run_pure], rfl⟩
theorem op_convUU {U V : Type} [UK U] [UK V] {m : U} {r : V} (hd : d < Bs.N) (hs : P.underlying src = some (.int (UK.k U))) (h : P.underlying dst = some (.int (UK.k V))) (hx : HasO st x (.one (.val (S (rU U) m)))) (hr : UN.to m = r) :
    OpStep P Bs ⟨some d, .convert src dst x, ty, pos, af, g⟩ st (st.set d (.one (.val (S (rU V) r)))) :=
  .value hd fun e a w hst => by
    have hu : a.eval x = .int (UK.k U) (UN.toN m) := by have := hx.get hst; simpa [SVR, SWR, S, rU] using this
    refine ⟨.int (UK.k V) (UN.toN r), ?_, rfl⟩
    subst hr
    have : (UK.k V).wrap (UN.toN m : Int) = (UN.toN (UN.to m : V) : Int) := by rw [wrap_u, UN.to, UN.toN_ofN]; norm_cast
    simp only [execOp, hu, Sem.run_bind, conv_int hs h, Result.andThen, this, Sem.run_pure]
end
end
end Go.Proofs.Ytbmimaabgclhjaa.Fw
