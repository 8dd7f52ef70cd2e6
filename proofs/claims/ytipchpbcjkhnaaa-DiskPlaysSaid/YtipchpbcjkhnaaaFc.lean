/- Operations on numbers, truths and texts. -/
import Derived.Test.YtipchpbcjkhnaaaFb
namespace Go.Proofs.Ytipchpbcjkhnaaa.Fw
open Go Go.RowKit
set_option linter.unusedVariables false
set_option linter.unusedSimpArgs false

section
variable {P : Program} {Bs : Base} {st st' : St} {d : Nat} {ty t t' : TypeId} {pos : String} {af : Array Edge} {g : Option (Nat × Bool)} {x y z : Operand}

theorem Zai {sv : SV1} (hd : d < Bs.N) (hx : HasO st x sv) : Zag P Bs ⟨some d, .move x, ty, pos, af, g⟩ st (st.set d sv) :=
  .value hd fun e a w h => ⟨_, by simp [execOp], hx.get h⟩
theorem Zac {sv : SV1} (hd : d < Bs.N) (hx : HasO st x sv) : Zag P Bs ⟨some d, .assign x, ty, pos, af, g⟩ st (st.set d sv) :=
  .value hd fun e a w h => ⟨_, by simp [execOp], hx.get h⟩

def BinR (P : Program) (op : BinOp) (t : TypeId) (u v r : Value) : Prop := ∀ x y w, ((do eqGuard op t x y u v; binOp op t u v) : Sem Value).run P w = .ok r w
theorem ZfX {op : BinOp} {p q s : VP} (hd : d < Bs.N) (hx : HasO st x (.one (.val p))) (hy : HasO st y (.one (.val q))) (h : ∀ e u v, p.p e u → q.p e v → ∃ r, BinR P op t u v r ∧ s.p e r) :
    Zag P Bs ⟨some d, .binOp op t x y t', ty, pos, af, g⟩ st (st.set d (.one (.val s))) :=
  .value hd fun e a w hst => by
    obtain ⟨r, h1, h2⟩ := h e _ _ (hx.get hst) (hy.get hst)
    refine ⟨r, ?_, h2⟩
    have := h1 x y w
    simp only [execOp, Sem.run_bind, Sem.run_bind'] at this ⊢
    rw [this]
    simp

noncomputable def Zhn (op : BinOp) (m n : Int) : Int :=
  let a := BitVec.ofInt IntKind.i64.bits m
  let b := BitVec.ofInt IntKind.i64.bits n
  w64 (match op with | .and => (a &&& b).toNat | .or => (a ||| b).toNat | .xor => (a ^^^ b).toNat | _ => (a &&& ~~~b).toNat)
noncomputable def arI (op : BinOp) (m n : Int) : Option Int :=
  match op with
  | .add => some (w64 (m + n))
  | .sub => some (w64 (m - n))
  | .mul => some (w64 (m * n))
  | .quo => if n = 0 then none else some (w64 (m.tdiv n))
  | .rem => if n = 0 then none else some (m.tmod n)
  | .and | .or | .xor | .andNot => some (Zhn op m n)
  | _ => none
def cmpI (op : BinOp) (m n : Int) : Option Bool :=
  match op with
  | .eql => some (m == n)
  | .neq => some (m != n)
  | .lss => some (decide (m < n))
  | .leq => some (decide (m ≤ n))
  | .gtr => some (decide (m > n))
  | .geq => some (decide (m ≥ n))
  | _ => none
theorem ZkZ (m n : Int) : Zhn .and m n = IntKind.i64.wrap (BitVec.ofInt IntKind.i64.bits m &&& BitVec.ofInt IntKind.i64.bits n).toNat := by rw [ZdK]; rfl
theorem b_or (m n : Int) : Zhn .or m n = IntKind.i64.wrap (BitVec.ofInt IntKind.i64.bits m ||| BitVec.ofInt IntKind.i64.bits n).toNat := by rw [ZdK]; rfl
theorem Zk3 (m n : Int) : Zhn .xor m n = IntKind.i64.wrap (BitVec.ofInt IntKind.i64.bits m ^^^ BitVec.ofInt IntKind.i64.bits n).toNat := by rw [ZdK]; rfl
theorem ZjN (m n : Int) : Zhn .andNot m n = IntKind.i64.wrap (BitVec.ofInt IntKind.i64.bits m &&& ~~~BitVec.ofInt IntKind.i64.bits n).toNat := by rw [ZdK]; rfl
theorem Zbx {op : BinOp} {m n r : Int} (hd : d < Bs.N) (hx : HasO st x (.one (.val (S (rI .i64) m)))) (hy : HasO st y (.one (.val (S (rI .i64) n)))) (hr : arI op m n = some r) :
    Zag P Bs ⟨some d, .binOp op t x y t', ty, pos, af, g⟩ st (st.set d (.one (.val (S (rI .i64) r)))) :=
  ZfX hd hx hy fun e u v hu hv => by
    obtain rfl : u = .int .i64 m := by simpa [S, rI] using hu
    obtain rfl : v = .int .i64 n := by simpa [S, rI] using hv
    refine ⟨.int .i64 r, fun x y w => ?_, rfl⟩
    cases op <;> simp only [arI, Option.some.injEq, reduceCtorEq] at hr
    case add => subst hr; rw [← ZdK]; rfl
    case sub => subst hr; rw [← ZdK]; rfl
    case mul => subst hr; rw [← ZdK]; rfl
    case and => subst hr; rw [ZkZ]; rfl
    case or => subst hr; rw [b_or]; rfl
    case xor => subst hr; rw [Zk3]; rfl
    case andNot => subst hr; rw [ZjN]; rfl
    case quo =>
      split at hr
      · cases hr
      · rename_i hz
        simp only [Option.some.injEq] at hr
        subst hr
        rw [← ZdK]
        have : Op.intDiv .quo .i64 m n = pure (.int .i64 (IntKind.i64.wrap (m.tdiv n))) := by unfold Op.intDiv; rw [if_neg hz]
        show (Op.intDiv .quo .i64 m n).run P w = _
        rw [this]; rfl
    case rem =>
      split at hr
      · cases hr
      · rename_i hz
        simp only [Option.some.injEq] at hr
        subst hr
        have : Op.intDiv .rem .i64 m n = pure (.int .i64 (m.tmod n)) := by unfold Op.intDiv; rw [if_neg hz]
        show (Op.intDiv .rem .i64 m n).run P w = _
        rw [this]; rfl
theorem Zan {op : BinOp} {m n : Int} {r : Bool} {k : IntKind} (hd : d < Bs.N) (hx : HasO st x (.one (.val (S (rI k) m)))) (hy : HasO st y (.one (.val (S (rI k) n)))) (hr : cmpI op m n = some r) :
    Zag P Bs ⟨some d, .binOp op t x y t', ty, pos, af, g⟩ st (st.set d (.one (.val (S rB r)))) :=
  ZfX hd hx hy fun e u v hu hv => by
    obtain rfl : u = .int k m := by simpa [S, rI] using hu
    obtain rfl : v = .int k n := by simpa [S, rI] using hv
    refine ⟨.bool r, fun x y w => ?_, rfl⟩
    cases op <;> simp [cmpI] at hr <;> subst hr <;> simp [eqGuard, binOp, Op.intCmp]

def arU {U : Type} [UK U] (op : BinOp) (m n : U) : Option U :=
  match op with
  | .add => some (UN.add m n)
  | .sub => some (UN.sub m n)
  | .mul => some (UN.mul m n)
  | .and => some (UN.and m n)
  | .or => some (UN.or m n)
  | .xor => some (UN.xor m n)
  | .quo => if UN.toN n = 0 then none else some (UN.div m n)
  | .rem => if UN.toN n = 0 then none else some (UN.mod m n)
  | _ => none
def cmpU {U : Type} [UK U] (op : BinOp) (m n : U) : Option Bool :=
  match op with
  | .eql => some (UN.eq m n)
  | .neq => some (!UN.eq m n)
  | .lss => some (UN.ltb m n)
  | .leq => some (UN.leb m n)
  | .gtr => some (UN.ltb n m)
  | .geq => some (UN.leb n m)
  | _ => none
theorem Zj6 {U : Type} [UK U] {op : BinOp} {m n r : U} (hd : d < Bs.N) (hx : HasO st x (.one (.val (S (rU U) m)))) (hy : HasO st y (.one (.val (S (rU U) n)))) (hr : arU op m n = some r) :
    Zag P Bs ⟨some d, .binOp op t x y t', ty, pos, af, g⟩ st (st.set d (.one (.val (S (rU U) r)))) :=
  ZfX hd hx hy fun e u v hu hv => by
    obtain rfl : u = .int (UK.k U) (UN.toN m) := by simpa [S, rU] using hu
    obtain rfl : v = .int (UK.k U) (UN.toN n) := by simpa [S, rU] using hv
    refine ⟨.int (UK.k U) (UN.toN r), fun x y w => ?_, rfl⟩
    have hm := UN.lt m
    have hn := UN.lt n
    have hb : (UK.k U).bits = UN.bits U := UK.hbits
    have hmm : UN.toN m % 2 ^ UN.bits U = UN.toN m := Nat.mod_eq_of_lt hm
    have hnm : UN.toN n % 2 ^ UN.bits U = UN.toN n := Nat.mod_eq_of_lt hn
    have key : ∀ z : Nat, (UK.k U).wrap (z : Int) = ((z % 2 ^ UN.bits U : Nat) : Int) := fun z => by rw [ZgQ]; norm_cast
    cases op <;> simp only [arU, Option.some.injEq, reduceCtorEq] at hr <;> simp only [eqGuard, binOp, Op.intArith, Op.intDiv, Op.intBits]
    case add => subst hr; simp [UN.h_add, ← key]
    case sub =>
      subst hr
      simp only [UN.h_sub]
      have : (UK.k U).wrap ((UN.toN m : Int) - (UN.toN n : Int)) = (((2 ^ UN.bits U - UN.toN n + UN.toN m) % 2 ^ UN.bits U : Nat) : Int) := by
        rw [ZgQ]
        rw [show ((UN.toN m : Int) - (UN.toN n : Int)) = (((2 ^ UN.bits U - UN.toN n + UN.toN m : Nat)) : Int) - ((2 ^ UN.bits U : Nat) : Int) from by omega]
        rw [Int.sub_emod, Int.emod_self, Int.sub_zero, Int.emod_emod_of_dvd _ (Int.dvd_refl _)]
        norm_cast
      simp [this]
    case mul => subst hr; simp [UN.h_mul, ← key]
    case and =>
      subst hr
      have h3 : (UN.toN m &&& UN.toN n) % 2 ^ UN.bits U = UN.toN m &&& UN.toN n := Nat.mod_eq_of_lt (Nat.and_lt_two_pow _ hn)
      simp [hb, hmm, hnm, ZgQ, UN.h_and]
      exact_mod_cast h3
    case or =>
      subst hr
      have h3 : (UN.toN m ||| UN.toN n) % 2 ^ UN.bits U = UN.toN m ||| UN.toN n := Nat.mod_eq_of_lt (Nat.or_lt_two_pow hm hn)
      simp [hb, hmm, hnm, ZgQ, UN.h_or]
      exact_mod_cast h3
    case xor =>
      subst hr
      have h3 : (UN.toN m ^^^ UN.toN n) % 2 ^ UN.bits U = UN.toN m ^^^ UN.toN n := Nat.mod_eq_of_lt (Nat.xor_lt_two_pow hm hn)
      simp [hb, hmm, hnm, ZgQ, UN.h_xor]
      exact_mod_cast h3
    case quo =>
      split at hr
      · cases hr
      · rename_i hz
        simp only [Option.some.injEq] at hr
        subst hr
        have h4 : ((UN.toN m : Int)).tdiv (UN.toN n : Int) = ((UN.toN m / UN.toN n : Nat) : Int) := by norm_cast
        have h5 : (UN.toN m / UN.toN n) % 2 ^ UN.bits U = UN.toN m / UN.toN n := Nat.mod_eq_of_lt (Nat.lt_of_le_of_lt (Nat.div_le_self _ _) hm)
        have h6 := key (UN.toN m / UN.toN n)
        rw [h5] at h6
        push_cast at h6
        simp [hz, h6, UN.h_div]
    case rem =>
      split at hr
      · cases hr
      · rename_i hz
        simp only [Option.some.injEq] at hr
        subst hr
        have h4 : ((UN.toN m : Int)).tmod (UN.toN n : Int) = ((UN.toN m % UN.toN n : Nat) : Int) := by norm_cast
        simp [hz, h4, UN.h_mod]
theorem ZdF {U : Type} [UK U] {op : BinOp} {m n : U} {r : Bool} (hd : d < Bs.N) (hx : HasO st x (.one (.val (S (rU U) m)))) (hy : HasO st y (.one (.val (S (rU U) n)))) (hr : cmpU op m n = some r) :
    Zag P Bs ⟨some d, .binOp op t x y t', ty, pos, af, g⟩ st (st.set d (.one (.val (S rB r)))) :=
  ZfX hd hx hy fun e u v hu hv => by
    obtain rfl : u = .int (UK.k U) (UN.toN m) := by simpa [S, rU] using hu
    obtain rfl : v = .int (UK.k U) (UN.toN n) := by simpa [S, rU] using hv
    refine ⟨.bool r, fun x y w => ?_, rfl⟩
    have e1 : ((UN.toN m : Int) == (UN.toN n : Int)) = (UN.toN m == UN.toN n) := by rw [Bool.eq_iff_iff]; simp; omega
    cases op <;> simp only [cmpU, Option.some.injEq, reduceCtorEq] at hr <;> subst hr <;> simp [eqGuard, binOp, Op.intCmp, UN.h_eq, UN.h_lt, UN.h_le, e1, bne]

theorem Zjt {m n : Bool} {w : World} (ht : P.underlying t = some .bool) : (Op.equal t (.bool m) (.bool n)).run P w = .ok (m == n) w := by
  have : ∀ d, (Op.equalIn (d + 1) t (.bool m) (.bool n)).run P w = .ok (m == n) w := fun d => by simp [Op.equalIn, run_underlying ht]
  exact this 9999
theorem Zfs {m n r : Bool} (hd : d < Bs.N) (ht : P.underlying t = some .bool) (hx : HasO st x (.one (.val (S rB m)))) (hy : HasO st y (.one (.val (S rB n)))) (hr : (m == n) = r) :
    Zag P Bs ⟨some d, .binOp .eql t x y t', ty, pos, af, g⟩ st (st.set d (.one (.val (S rB r)))) :=
  ZfX hd hx hy fun e u v hu hv => by
    obtain rfl : u = .bool m := by simpa [S, rB] using hu
    obtain rfl : v = .bool n := by simpa [S, rB] using hv
    refine ⟨.bool r, fun x y w => ?_, rfl⟩
    subst hr
    show (Op.equal t (.bool m) (.bool n) >>= fun r => pure (Value.bool r)).run P w = _
    rw [Sem.run_bind, Zjt ht]
    rfl
theorem Zjf {m n r : Bool} (hd : d < Bs.N) (ht : P.underlying t = some .bool) (hx : HasO st x (.one (.val (S rB m)))) (hy : HasO st y (.one (.val (S rB n)))) (hr : (m != n) = r) :
    Zag P Bs ⟨some d, .binOp .neq t x y t', ty, pos, af, g⟩ st (st.set d (.one (.val (S rB r)))) :=
  ZfX hd hx hy fun e u v hu hv => by
    obtain rfl : u = .bool m := by simpa [S, rB] using hu
    obtain rfl : v = .bool n := by simpa [S, rB] using hv
    refine ⟨.bool r, fun x y w => ?_, rfl⟩
    subst hr
    show (Op.equal t (.bool m) (.bool n) >>= fun r => pure (Value.bool (!r))).run P w = _
    rw [Sem.run_bind, Zjt ht]
    rfl
theorem Zce {m r : Bool} (hd : d < Bs.N) (hx : HasO st x (.one (.val (S rB m)))) (hr : (!m) = r) : Zag P Bs ⟨some d, .unOp .not t x, ty, pos, af, g⟩ st (st.set d (.one (.val (S rB r)))) :=
  .value hd fun e a w h => by
    have hu : a.eval x = .bool m := by have := hx.get h; simpa [SVR, SWR, S, rB] using this
    exact ⟨.bool r, by subst hr; simp [execOp, hu, Op.unary], rfl⟩
def cmpS (op : BinOp) (m n : List UInt8) : Option Bool :=
  match op with
  | .eql => some (m == n)
  | .neq => some (m != n)
  | .lss => some (Op.bytesLess m n)
  | .leq => some (Op.bytesLess m n || m == n)
  | .gtr => some !(Op.bytesLess m n || m == n)
  | .geq => some !(Op.bytesLess m n)
  | _ => none
theorem ZcP {op : BinOp} {m n : List UInt8} {r : Bool} (hd : d < Bs.N) (hx : HasO st x (.one (.val (S rS m)))) (hy : HasO st y (.one (.val (S rS n)))) (hr : cmpS op m n = some r) :
    Zag P Bs ⟨some d, .binOp op t x y t', ty, pos, af, g⟩ st (st.set d (.one (.val (S rB r)))) :=
  ZfX hd hx hy fun e u v hu hv => by
    obtain rfl : u = .string (bs m) := by simpa [S, rS] using hu
    obtain rfl : v = .string (bs n) := by simpa [S, rS] using hv
    refine ⟨.bool r, fun x y w => ?_, rfl⟩
    cases op <;> simp only [cmpS, Option.some.injEq, reduceCtorEq] at hr <;> subst hr <;> simp [eqGuard, binOp, Op.stringOp, ZfN, bne]
theorem Zjs {c : Operand} {b : Bool} {sv sv2 sv3 : SV1} (hd : d < Bs.N) (hc : HasO st c (.one (.val (S rB b)))) (hx : b = true → HasO st x sv) (hy : b = false → HasO st y sv) : Zag P Bs ⟨some d, .pick c x y, ty, pos, af, g⟩ st (st.set d sv) :=
  .value hd fun e a w h => by
    have hu : a.eval c = .bool b := by have := hc.get h; simpa [SVR, SWR, S, rB] using this
    cases b
    · exact ⟨a.eval y, by simp [execOp, hu, asBool], (hy rfl).get h⟩
    · exact ⟨a.eval x, by simp [execOp, hu, asBool], (hx rfl).get h⟩

theorem Zao {l : List SW} {i : Nat} {s : SW} (hd : d < Bs.N) (hx : HasO st x (.tup l)) (hi : l[i]? = some s) : Zag P Bs ⟨some d, .extract x i, ty, pos, af, g⟩ st (st.set d (.one s)) :=
  .value hd fun e a w h => by
    obtain ⟨vs, h1, h2, h3⟩ := hx.get h
    have hlt : i < vs.length := by rw [h2]; exact (List.getElem?_eq_some_iff.1 hi).1
    refine ⟨vs.getD i undef, ?_, h3 i s hi⟩
    simp [execOp, h1, Instr.extract, List.getElem?_eq_getElem hlt, List.getD_eq_getElem?_getD]

section
variable {src dst : TypeId}
end
end
end Go.Proofs.Ytipchpbcjkhnaaa.Fw
