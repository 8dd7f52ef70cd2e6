/- Steps in the form in which the printed walks take them. -/
import Derived.Test.YtlkofkegbkkhbaaFl
namespace Go.Proofs.Ytlkofkegbkkhbaa.Fw
open Go Go.RowKit
set_option linter.unusedVariables false
set_option linter.unusedSimpArgs false

section
variable {M : HM} {P : Program} {Bs : Base} {st st' : St M} {d : Nat} {ty t t' el : TypeId} {pos : String} {af : Array Edge} {g : Option (Nat × Bool)} {x y z : Operand} {Q : Exit → Act → World → Prop} {l : List Oper} {ops : Array Oper}
theorem bnd_inv {α β : Type} {x : Option α} {K : α → Option β} {r : β} (h : Option.bind x K = some r) : ∃ v, x = some v ∧ K v = some r := Option.bind_eq_some_iff.1 h
theorem JC.at {c : Code} (st : St M) (h : JC P Bs c st Q) : JC P Bs c st Q := h
theorem JL.at {os : List Oper} (st : St M) (h : JL P Bs ops os st Q) : JL P Bs ops os st Q := h
theorem JQ.at {ex : Exit} (st : St M) (h : JQ Bs ex st Q) : JQ Bs ex st Q := h
theorem op_indexAddrIF {n sz j o : Nat} {k : IntKind} {i : Int} {f : Fin n} (hd : d < Bs.N) (ht : tyAr P t n sz = true) (hx : HasO st x (.one (.ptr j o))) (hy : HasO st y (.one (.val (S (rI k) i)))) (h : inV n i = some f) :
    OpStep P Bs ⟨some d, .indexAddr t x y, ty, pos, af, g⟩ st (st.set d (.one (.ptr j (o + f.1 * sz)))) := by
  obtain ⟨h0, h1, h2⟩ := inV_some h
  rw [← h2]
  exact op_indexAddrI hd ht hx hy h0 (by omega)
theorem op_indexAddrUF {U : Type} [UK U] {n sz j o : Nat} {i : U} {f : Fin n} (hd : d < Bs.N) (ht : tyAr P t n sz = true) (hx : HasO st x (.one (.ptr j o))) (hy : HasO st y (.one (.val (S (rU U) i)))) (h : inN n (UN.toN i) = some f) :
    OpStep P Bs ⟨some d, .indexAddr t x y, ty, pos, af, g⟩ st (st.set d (.one (.ptr j (o + f.1 * sz)))) := by
  obtain ⟨h1, h2⟩ := inN_some h
  rw [← h2]
  exact op_indexAddrU hd ht hx hy h1
theorem op_indexAddrOF {T : Type} {r : Rep T} {xs : List T} {fz j : Nat} {k : IntKind} {i : Int} {n : Nat} (hd : d < Bs.N) (hu : P.underlying t = some (.slice el)) (hs : tySz P el r.sz = true) (hX : st.X[j]? = some (.own T r xs fz))
    (hx : HasO st x (.one (.own j))) (hy : HasO st y (.one (.val (S (rI k) i)))) (h : inO xs i = some n) :
    OpStep P Bs ⟨some d, .indexAddr t x y, ty, pos, af, g⟩ st (st.set d (.one (.ptr j (n * r.sz)))) := by
  obtain ⟨h0, h1, h2⟩ := inO_some h
  subst h2
  exact op_indexAddrO hd hu hs hX hx hy h0 h1
theorem op_loadOSg {T : Type} {r : Rep T} {xs : List T} {fz j i : Nat} {u : T} (hd : d < Bs.N) (ht : tyS P t = true) (hs : r.sz = 1) (hX : st.X[j]? = some (.own T r xs fz)) (hx : HasO st x (.one (.ptr j (i * r.sz)))) (h : xs[i]? = some u) :
    OpStep P Bs ⟨some d, .load t x, ty, pos, af, g⟩ st (st.set d (.one (.val (S r u)))) := by
  obtain ⟨hi, hr⟩ := List.getElem?_eq_some_iff.1 h
  exact op_loadOS hd ht hs hX hx hi hr
theorem op_loadOAg {T : Type} {r : Rep T} {xs : List T} {fz j i : Nat} {u : T} (hd : d < Bs.N) (ht : tyA P t r.sz = true) (hX : st.X[j]? = some (.own T r xs fz)) (hx : HasO st x (.one (.ptr j (i * r.sz)))) (h : xs[i]? = some u) :
    OpStep P Bs ⟨some d, .load t x, ty, pos, af, g⟩ st (st.set d (.one (.val (A r u)))) := by
  obtain ⟨hi, hr⟩ := List.getElem?_eq_some_iff.1 h
  exact op_loadOA hd ht hX hx hi hr
theorem op_storeOSg {T : Type} {r : Rep T} {xs ys : List T} {j i : Nat} {u : T} (ht : tyS P t = true) (hs : r.sz = 1) (hX : st.X[j]? = some (.own T r xs 0)) (hx : HasO st x (.one (.ptr j (i * r.sz)))) (hy : HasO st y (.one (.val (S r u)))) (h : setO' xs i u = some ys) :
    OpStep P Bs ⟨none, .store t x y, ty, pos, af, g⟩ st { st with X := st.X.set j (.own T r ys 0) } := by
  obtain ⟨hi, rfl⟩ := setO'_some h
  exact op_storeOS ht hs hx hy hX hi (Nat.zero_le _)
theorem op_storeOAg {T : Type} {r : Rep T} {xs ys : List T} {j i : Nat} {u : T} (ht : tyA P t r.sz = true) (hX : st.X[j]? = some (.own T r xs 0)) (hx : HasO st x (.one (.ptr j (i * r.sz)))) (hy : HasO st y (.one (.val (A r u)))) (h : setO' xs i u = some ys) :
    OpStep P Bs ⟨none, .store t x y, ty, pos, af, g⟩ st { st with X := st.X.set j (.own T r ys 0) } := by
  obtain ⟨hi, rfl⟩ := setO'_some h
  exact op_storeOA ht hx hy hX hi (Nat.zero_le _)
theorem op_indexAddrLg {T : Type} {r : Rep T} {xs : List T} {k : IntKind} {i : Int} {u : T} (hd : d < Bs.N) (hu : P.underlying t = some (.slice el)) (hs : tySz P el r.sz = true)
    (hx : HasO st x (.one (.val (S (rL r) xs)))) (hy : HasO st y (.one (.val (S (rI k) i)))) (h : idxL xs i = some u) :
    OpStep P Bs ⟨some d, .indexAddr t x y, ty, pos, af, g⟩ st (st.set d (.one (.val (PT r u)))) := by
  obtain ⟨h0, h1, h2⟩ := idxL_some h
  exact op_indexAddrL hd hu hs hx hy h0 h1 h2
theorem op_indexStrg {s : List UInt8} {k : IntKind} {i : Int} {u : UInt8} (hd : d < Bs.N) (hu : P.underlying t = some .string) (hx : HasO st x (.one (.val (S rS s)))) (hy : HasO st y (.one (.val (S (rI k) i)))) (h : idxL s i = some u) :
    OpStep P Bs ⟨some d, .index t x y, ty, pos, af, g⟩ st (st.set d (.one (.val (S (rU UInt8) u)))) := by
  obtain ⟨h0, h1, h2⟩ := idxL_some h
  exact op_indexStr hd hu hx hy h0 h1 h2
theorem op_indexSg {T : Type} {r : Rep T} {n : Nat} {v : Vector T n} {k : IntKind} {i : Int} {el : TypeId} {u : T} (hd : d < Bs.N) (hu : P.underlying t = some (.array n el)) (ht : tyS P el = true) (hs : r.sz = 1)
    (hx : HasO st x (.one (.val (A (rV n r) v)))) (hy : HasO st y (.one (.val (S (rI k) i)))) (h : idxV v i = some u) : OpStep P Bs ⟨some d, .index t x y, ty, pos, af, g⟩ st (st.set d (.one (.val (S r u)))) := by
  obtain ⟨h0, h1, h2⟩ := idxV_some h
  exact op_indexS hd hu ht hs hx hy h0 h1 h2
theorem op_indexSUg {T U : Type} [UK U] {r : Rep T} {n : Nat} {v : Vector T n} {i : U} {el : TypeId} {u : T} (hd : d < Bs.N) (hu : P.underlying t = some (.array n el)) (ht : tyS P el = true) (hs : r.sz = 1)
    (hx : HasO st x (.one (.val (A (rV n r) v)))) (hy : HasO st y (.one (.val (S (rU U) i)))) (h : idxN v (UN.toN i) = some u) : OpStep P Bs ⟨some d, .index t x y, ty, pos, af, g⟩ st (st.set d (.one (.val (S r u)))) := by
  obtain ⟨h1, h2⟩ := idxN_some h
  exact op_indexSU hd hu ht hs hx hy h1 h2
theorem op_indexAg {T : Type} {r : Rep T} {n : Nat} {v : Vector T n} {k : IntKind} {i : Int} {el : TypeId} {u : T} (hd : d < Bs.N) (hu : P.underlying t = some (.array n el)) (ht : tyA P el r.sz = true)
    (hx : HasO st x (.one (.val (A (rV n r) v)))) (hy : HasO st y (.one (.val (S (rI k) i)))) (h : idxV v i = some u) : OpStep P Bs ⟨some d, .index t x y, ty, pos, af, g⟩ st (st.set d (.one (.val (A r u)))) := by
  obtain ⟨h0, h1, h2⟩ := idxV_some h
  exact op_indexA hd hu ht hx hy h0 h1 h2
theorem op_shlUU {U V : Type} [UK U] [UK V] {m r : U} {n : V} (hd : d < Bs.N) (hx : HasO st x (.one (.val (S (rU U) m)))) (hy : HasO st y (.one (.val (S (rU V) n)))) (hr : UN.shl m (UN.toN n) = r) :
    OpStep P Bs ⟨some d, .binOp .shl t x y t', ty, pos, af, g⟩ st (st.set d (.one (.val (S (rU U) r)))) := op_shUU hd hx hy (by subst hr; simp [shU])
theorem op_shrUU {U V : Type} [UK U] [UK V] {m r : U} {n : V} (hd : d < Bs.N) (hx : HasO st x (.one (.val (S (rU U) m)))) (hy : HasO st y (.one (.val (S (rU V) n)))) (hr : UN.shr m (UN.toN n) = r) :
    OpStep P Bs ⟨some d, .binOp .shr t x y t', ty, pos, af, g⟩ st (st.set d (.one (.val (S (rU U) r)))) := op_shUU hd hx hy (by subst hr; simp [shU])
theorem op_shlUI {U : Type} [UK U] {m r : U} {k : IntKind} {n : Int} (hd : d < Bs.N) (hx : HasO st x (.one (.val (S (rU U) m)))) (hy : HasO st y (.one (.val (S (rI k) n)))) (hr : shlU m n = some r) :
    OpStep P Bs ⟨some d, .binOp .shl t x y t', ty, pos, af, g⟩ st (st.set d (.one (.val (S (rU U) r)))) := op_shUI hd hx hy hr
theorem op_shrUI {U : Type} [UK U] {m r : U} {k : IntKind} {n : Int} (hd : d < Bs.N) (hx : HasO st x (.one (.val (S (rU U) m)))) (hy : HasO st y (.one (.val (S (rI k) n)))) (hr : shrU m n = some r) :
    OpStep P Bs ⟨some d, .binOp .shr t x y t', ty, pos, af, g⟩ st (st.set d (.one (.val (S (rU U) r)))) := op_shUI hd hx hy hr
theorem op_shlII {m n r : Int} {k : IntKind} (hd : d < Bs.N) (hx : HasO st x (.one (.val (S (rI .i64) m)))) (hy : HasO st y (.one (.val (S (rI k) n)))) (hr : shlI m n = some r) :
    OpStep P Bs ⟨some d, .binOp .shl t x y t', ty, pos, af, g⟩ st (st.set d (.one (.val (S (rI .i64) r)))) := op_shII hd hx hy hr
theorem op_shrII {m n r : Int} {k : IntKind} (hd : d < Bs.N) (hx : HasO st x (.one (.val (S (rI .i64) m)))) (hy : HasO st y (.one (.val (S (rI k) n)))) (hr : shrI m n = some r) :
    OpStep P Bs ⟨some d, .binOp .shr t x y t', ty, pos, af, g⟩ st (st.set d (.one (.val (S (rI .i64) r)))) := op_shII hd hx hy hr
theorem op_shlIU {V : Type} [UK V] {m r : Int} {n : V} (hd : d < Bs.N) (hx : HasO st x (.one (.val (S (rI .i64) m)))) (hy : HasO st y (.one (.val (S (rU V) n)))) (hr : shlI m (UN.toN n) = some r) :
    OpStep P Bs ⟨some d, .binOp .shl t x y t', ty, pos, af, g⟩ st (st.set d (.one (.val (S (rI .i64) r)))) := op_shIU hd hx hy hr
theorem op_shrIU {V : Type} [UK V] {m r : Int} {n : V} (hd : d < Bs.N) (hx : HasO st x (.one (.val (S (rI .i64) m)))) (hy : HasO st y (.one (.val (S (rU V) n)))) (hr : shrI m (UN.toN n) = some r) :
    OpStep P Bs ⟨some d, .binOp .shr t x y t', ty, pos, af, g⟩ st (st.set d (.one (.val (S (rI .i64) r)))) := op_shIU hd hx hy hr
theorem op_catSg {m n r : List UInt8} (hd : d < Bs.N) (hx : HasO st x (.one (.val (S rS m)))) (hy : HasO st y (.one (.val (S rS n)))) (h : catS m n = some r) :
    OpStep P Bs ⟨some d, .binOp .add t x y t', ty, pos, af, g⟩ st (st.set d (.one (.val (S rS r)))) := op_catS hd hx hy (catS_some h).1 (catS_some h).2
theorem op_pickT {c : Operand} {b : Bool} {sv : SV1} (hd : d < Bs.N) (hc : HasO st c (.one (.val (S rB b)))) (hb : b = true) (hx : HasO st x sv) : OpStep P Bs ⟨some d, .pick c x y, ty, pos, af, g⟩ st (st.set d sv) :=
  op_pick (sv2 := sv) (sv3 := sv) hd hc (fun _ => hx) (fun h => by rw [hb] at h; cases h)
theorem op_pickF {c : Operand} {b : Bool} {sv : SV1} (hd : d < Bs.N) (hc : HasO st c (.one (.val (S rB b)))) (hb : b = false) (hy : HasO st y sv) : OpStep P Bs ⟨some d, .pick c x y, ty, pos, af, g⟩ st (st.set d sv) :=
  op_pick (sv2 := sv) (sv3 := sv) hd hc (fun h => by rw [hb] at h; cases h) (fun _ => hy)
theorem op_appendL {T : Type} {r : Rep T} {xs ys zs : List T} {fz j bytes : Nat} {zv : Value} {dy : TypeDesc} (hd : d < Bs.N) (hu : P.underlying t = some (.slice el)) (hu' : P.underlying t' = some dy) (hni : notInt dy = true) (hel : tyB P el r.sz bytes zv) (hz : zv.cells.size = r.sz) (hsz : 0 < r.sz) (hb0 : 0 < bytes)
    (hX : st.X[j]? = some (.own T r xs fz)) (hx : HasO st x (.one (.own j))) (hy : HasO st y (.one (.val (S (rL r) ys)))) (h : apL bytes xs ys = some zs) :
    OpStep P Bs ⟨some d, .call { callee := .builtin .append, args := #[x, y], argTypes := #[t, t'] }, ty, pos, af, g⟩ st (St.set { st with X := st.X.set j (.own T r zs fz), ρ := clr j st.ρ } d (.one (.own j))) :=
  op_append hd hu hu' hni hel hz hsz hb0 hX hx (fun e β F a w hst => Src.list hst hy) (apL_some h)
theorem op_appendS {xs ys zs : List UInt8} {fz j bytes : Nat} {zv : Value} {dy : TypeDesc} (hd : d < Bs.N) (hu : P.underlying t = some (.slice el)) (hu' : P.underlying t' = some dy) (hni : notInt dy = true) (hel : tyB P el (rU UInt8).sz bytes zv) (hz : zv.cells.size = (rU UInt8).sz) (hb0 : 0 < bytes)
    (hX : st.X[j]? = some (.own UInt8 (rU UInt8) xs fz)) (hx : HasO st x (.one (.own j))) (hy : HasO st y (.one (.val (S rS ys)))) (h : apL bytes xs ys = some zs) :
    OpStep P Bs ⟨some d, .call { callee := .builtin .append, args := #[x, y], argTypes := #[t, t'] }, ty, pos, af, g⟩ st (St.set { st with X := st.X.set j (.own UInt8 (rU UInt8) zs fz), ρ := clr j st.ρ } d (.one (.own j))) :=
  op_append hd hu hu' hni hel hz Nat.one_pos hb0 hX hx (fun e β F a w hst => Src.str hst hy) (apL_some h)
theorem op_appendNL {T : Type} {r : Rep T} {ys zs : List T} {bytes : Nat} {zv : Value} {dy : TypeDesc} (hd : d < Bs.N) (hu : P.underlying t = some (.slice el)) (hu' : P.underlying t' = some dy) (hni : notInt dy = true) (hel : tyB P el r.sz bytes zv) (hz : zv.cells.size = r.sz) (hsz : 0 < r.sz) (hb0 : 0 < bytes)
    (hy : HasO st y (.one (.val (S (rL r) ys)))) (h : apL bytes [] ys = some zs) :
    OpStep P Bs ⟨some d, .call { callee := .builtin .append, args := #[.const (.slice none 0 0), y], argTypes := #[t, t'] }, ty, pos, af, g⟩ st (St.set { st with X := List.set (st.X ++ [BX.own T r [] 0]) st.X.length (BX.own T r zs 0), ρ := clr st.X.length st.ρ } d (.one (.own st.X.length))) :=
  op_appendN hd hu hu' hni hel hz hsz hb0 (fun e β F a w hst => Src.list hst hy) (apL_some h)
theorem op_appendNS {ys zs : List UInt8} {bytes : Nat} {zv : Value} {dy : TypeDesc} (hd : d < Bs.N) (hu : P.underlying t = some (.slice el)) (hu' : P.underlying t' = some dy) (hni : notInt dy = true) (hel : tyB P el (rU UInt8).sz bytes zv) (hz : zv.cells.size = (rU UInt8).sz) (hb0 : 0 < bytes)
    (hy : HasO st y (.one (.val (S rS ys)))) (h : apL bytes [] ys = some zs) :
    OpStep P Bs ⟨some d, .call { callee := .builtin .append, args := #[.const (.slice none 0 0), y], argTypes := #[t, t'] }, ty, pos, af, g⟩ st (St.set { st with X := List.set (st.X ++ [BX.own UInt8 (rU UInt8) [] 0]) st.X.length (BX.own UInt8 (rU UInt8) zs 0), ρ := clr st.X.length st.ρ } d (.one (.own st.X.length))) :=
  op_appendN hd hu hu' hni hel hz Nat.one_pos hb0 (fun e β F a w hst => Src.str hst hy) (apL_some h)
theorem op_makeOg {T : Type} {r : Rep T} {x0 : T} {n : Int} {zv : Value} {bytes : Nat} {ys : List T} (hd : d < Bs.N) (hu : P.underlying t = some (.slice el)) (hel : tyB P el r.sz bytes zv) (hz : Zr r x0 zv.cells.toList) (hx : HasO st x (.one (.val (S (rI .i64) n)))) (hy : HasO st y (.one (.val (S (rI .i64) n))))
    (h : mkL bytes n x0 = some ys) : OpStep P Bs ⟨some d, .makeSlice t x y, ty, pos, af, g⟩ st (St.set { st with X := st.X ++ [BX.own T r ys 0] } d (.one (.own st.X.length))) := by
  obtain ⟨⟨h0, h1, h2⟩, rfl⟩ := mkL_some h
  exact op_makeO hd hu hel hz rfl hx hy h0 h1 h2
theorem op_sliceLg {T : Type} {r : Rep T} {xs ys : List T} {lo hi : Option Operand} {l h : Int} (hd : d < Bs.N) (hu : P.underlying t = some (.slice el)) (hs : tySz P el r.sz = true) (hx : HasO st x (.one (.val (S (rL r) xs))))
    (hl : OptN st lo 0 l) (hh : OptN st hi xs.length h) (k : subL xs l h = some ys) :
    OpStep P Bs ⟨some d, .slice t x lo hi none, ty, pos, af, g⟩ st (st.set d (.one (.val (S (rL r) ys)))) := by
  obtain ⟨⟨h0, h1, h2⟩, h3⟩ := subL_some k
  exact op_sliceL (m := 0) hd hu hs hx hl hh (.inl rfl) h0 h1 h2 h3
theorem op_sliceSg {s ys : List UInt8} {lo hi : Option Operand} {l h : Int} (hd : d < Bs.N) (hu : P.underlying t = some .string) (hx : HasO st x (.one (.val (S rS s))))
    (hl : OptN st lo 0 l) (hh : OptN st hi s.length h) (k : subL s l h = some ys) :
    OpStep P Bs ⟨some d, .slice t x lo hi none, ty, pos, af, g⟩ st (st.set d (.one (.val (S rS ys)))) := by
  obtain ⟨⟨h0, h1, h2⟩, h3⟩ := subL_some k
  exact op_sliceS hd hu hx hl hh h0 h1 h2 h3
/-! lists of things -/
theorem ArgsO.cons {x : Operand} {p : VP} {xs : List Operand} {ps : List VP} (h : HasO st x (.one (.val p))) (k : ArgsO st xs ps) : ArgsO st (x :: xs) (p :: ps) := ⟨h, k⟩
theorem SubR.nil {ρ : List (Nat × SV1)} {n : Nat} : SubR ρ n [] := trivial
theorem SubR.cons {ρ l : List (Nat × SV1)} {n s : Nat} {sv : SV1} (h : look ρ s = some sv) (h2 : refLt1 n sv = true) (k : SubR ρ n l) : SubR ρ n ((s, sv) :: l) := ⟨h, h2, k⟩
theorem AllLook.nil {ρ : List (Nat × SV1)} : AllLook ρ [] := trivial
theorem AllLook.cons {ρ l : List (Nat × SV1)} {s : Nat} {sv : SV1} (h : look ρ s = some sv) (k : AllLook ρ l) : AllLook ρ ((s, sv) :: l) := ⟨h, k⟩
theorem AllSteps.nil {base : List (Nat × SV1)} {all : List Fact} {X : List BX} {h : M.H} : AllSteps P Bs ops base all X h [] [] := trivial
theorem AllSteps.cons {base : List (Nat × SV1)} {all fs : List Fact} {X : List BX} {h : M.H} {o : Oper} {os : List Oper} {f : Fact} (hd : f.d = o.dst) (hs : FStep P Bs ops base all X h o f) (k : AllSteps P Bs ops base all X h os fs) : AllSteps P Bs ops base all X h (o :: os) (f :: fs) := ⟨⟨hd, hs⟩, k⟩
theorem ResO.nil : ResO P st [] [] := trivial
theorem ResO.cons {x : ResultVar} {s : SW} {xs : List ResultVar} {ss : List SW} (h : HasR P st x s) (k : ResO P st xs ss) : ResO P st (x :: xs) (s :: ss) := ⟨h, k⟩
/-! ways out -/
theorem JQ.outX {N : Act → World → Prop} {i : Nat} (h : JQ Bs (.exit i) st Q) : JQ Bs (.exit i) st (Exit.then N Q) := JQ.out (fun h => by cases h) h
theorem JQ.outR {N : Act → World → Prop} (h : JQ Bs .ret st Q) : JQ Bs .ret st (Exit.then N Q) := JQ.out (fun h => by cases h) h
theorem JQ.outRB {id : Nat} (h : JQ Bs .ret st Q) : JQ Bs .ret st (Exit.inBlock id Q) := JQ.outB (fun _ h => by cases h) h
theorem JQ.outNB {id : Nat} (h : JQ Bs .normal st Q) : JQ Bs .normal st (Exit.inBlock id Q) := JQ.outB (fun _ h => by cases h) h
/-- The end of a body whose results are values. -/
theorem JQ.doneV {fn : Func} {xs : List ResultVar} {ss : List SW} {ex : Exit} (hex : ex = .ret ∨ ex = .normal) (hF : Bs.F0 = noF) (hr : fn.results = xs.toArray) (h : ResO P st xs ss) (hk : ss.all isVal = true) : JQ Bs ex st (bodyPost P fn (Back Bs.e0 Bs.w0 [] (mkR ss))) := by
  have hv : ∀ s ∈ ss, ∃ p, s = .val p := fun s hs => by
    have := List.all_eq_true.1 hk s hs
    cases s <;> simp [isVal] at this
    exact ⟨_, rfl⟩
  have e : ss.map (renW []) = ss := by
    have : ∀ s ∈ ss, renW [] s = s := fun s hs => by obtain ⟨p, rfl⟩ := hv s hs; rfl
    conv => rhs; rw [← List.map_id ss]
    exact List.map_congr_left this
  exact JQ.done (js := []) (bx := []) hex hF hr (by rw [e]; exact h) (fun s hs => by obtain ⟨p, rfl⟩ := hv s hs; exact trivial) (fun k j h => by simp at h) rfl List.nodup_nil
/-- The same, one row of the call's own among them, of which the caller may turn every place. -/
theorem JQ.doneO {fn : Func} {xs : List ResultVar} {ss : List SW} {T : Type} {r : Rep T} {ys : List T} {fz j : Nat} {ex : Exit} (hex : ex = .ret ∨ ex = .normal) (hF : Bs.F0 = noF) (hr : fn.results = xs.toArray) (hX : st.X[j]? = some (.own T r ys fz)) (hfl : r.Flat)
    (h : ResO P st xs (ss.map (renW [j]))) (hk : ∀ s ∈ ss, ResK [j] s) (hw : ∀ s ∈ ss, FlatW s) : JQ Bs ex st (bodyPost P fn (Back Bs.e0 Bs.w0 [.own T r ys 0] (mkR ss))) := by
  refine JQ.doneF (js := [j]) hex hF hr h hk hw (fun k i hki => ?_) (fun k i b hki hb => ?_) rfl (by simp)
  · obtain _ | k := k
    · simp at hki; subst hki
      exact ⟨(List.getElem?_eq_some_iff.1 hX).1, by rw [hX]; rfl⟩
    · simp at hki
  · obtain _ | k := k
    · simp at hki; subst hki
      rw [hX] at hb; cases hb; exact hfl
    · simp at hki
end
end Go.Proofs.Ytlkofkegbkkhbaa.Fw
