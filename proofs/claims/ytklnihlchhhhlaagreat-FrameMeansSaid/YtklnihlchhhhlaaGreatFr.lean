/- Functions of the library that have no code: what they compute. -/
import Derived.Test.YtklnihlchhhhlaaGreatFo
namespace Go.Proofs.YtklnihlchhhhlaaGreat.Fw
open Go Go.RowKit
set_option linter.unusedVariables false
set_option linter.unusedSimpArgs false

section
variable {P : Program} {Bs : Base} {st st' : St} {d : Nat} {ty t t' el : TypeId} {pos : String} {af : Array Edge} {g : Option (Nat × Bool)} {x y z : Operand} {Q : Exit → Act → World → Prop} {l : List Oper} {ops : Array Oper}
variable {e : Env} {a : Act} {w : World}
structure SrcN (P : Program) (e : Env) (a : Act) (w : World) {T : Type} (r : Rep T) (ys : List T) (y : Operand) (fl : List Value) : Prop where
  len : fl.length = ys.length * r.sz
  one : ∀ v ∈ fl, one1 v = true
  rel : ∀ i (h : i < ys.length), r.rel e ys[i] ((fl.drop (i * r.sz)).take r.sz)
  lenOf : ∀ w, (Builtin.lenOf (a.eval y)).run P w = .ok ys.length w
  cells : ∀ m, m ≤ ys.length → (Builtin.firstCells r.sz m (a.eval y)).run P w = .ok (fl.take (m * r.sz)).toArray w
theorem SrcN.list {T : Type} {r : Rep T} {ys : List T} (hy : HasO st y (.one (.val (S (rL r) ys)))) (hst : StE Bs st e a w) : ∃ fl, SrcN P e a w r ys y fl := by
  obtain ⟨v, hv0, hL⟩ := hy.get hst
  have hv0 : a.eval y = v := by simpa using hv0
  obtain ⟨aa, c, fl, hv, hc, hn, hl, hr, hm⟩ := hL.flat
  refine ⟨fl, hl, ZgW hl hr, hr, fun w => by simp [hv0, hv, Builtin.lenOf], fun m hm' => ?_⟩
  rw [hv0, hv]
  rcases Nat.eq_zero_or_pos m with h0 | h0
  · subst h0
    cases aa with
    | none => simp [Builtin.firstCells]
    | some ad => simp [Builtin.firstCells, loadCells, loadCellsFrom]
  · obtain ⟨b, off, haa, hm2⟩ := hm (by omega)
    subst haa
    simp only [Builtin.firstCells]
    have hms : m * r.sz ≤ ys.length * r.sz := Nat.mul_le_mul_right _ hm'
    refine ZdS P (by simp; omega) fun j u hj => ?_
    have hjl : j < m * r.sz := by
      rcases Nat.lt_or_ge j (m * r.sz) with h | h
      · exact h
      · rw [List.getElem?_eq_none (by simp; omega)] at hj; cases hj
    rw [List.getElem?_take_of_lt hjl] at hj
    rw [Zcr]
    exact hst.frz _ _ (hm2 j u hj)
theorem SrcN.own {T : Type} {r : Rep T} {xs : List T} {ob : Option Nat} {fz cap j : Nat} (hX : st.X[j]? = some (cown ob r xs fz cap)) (hy : HasO st y (.one (.val (HDR ob 0 xs.length cap)))) (hst : StE Bs st e a w) : ∃ fl, SrcN P e a w r xs y fl := by
  have hv : a.eval y = .slice (ob.map fun b => ⟨b, 0, none⟩) xs.length cap := hy.get hst
  rcases hst.xs _ (List.mem_of_getElem? hX) with ⟨h1, h2, h3, h4⟩ | ⟨b, cs, el, fr, hb, h5, h6, h0, h7, h8, h9, h10, h11⟩
  · subst h1; subst h2
    exact ⟨[], by simp, by simp, fun i hi => by simp at hi, fun w => by rw [hv]; simp [Builtin.lenOf], fun m hm => by rw [hv]; simp [Builtin.firstCells]⟩
  · subst hb
    have hxl : xs.length * r.sz ≤ cs.length := Nat.le_trans (Nat.mul_le_mul_right _ h0) h7
    have hl : (cs.take (xs.length * r.sz)).length = xs.length * r.sz := by simp; omega
    have hrel : ∀ i (h : i < xs.length), r.rel e xs[i] (((cs.take (xs.length * r.sz)).drop (i * r.sz)).take r.sz) := fun i hi => by
      have hle2 : i * r.sz + r.sz ≤ xs.length * r.sz := by
        have := Nat.mul_le_mul_right r.sz (show i + 1 ≤ xs.length by omega)
        rw [Nat.add_mul] at this; omega
      rw [List.drop_take, List.take_take, Nat.min_eq_left (by omega)]
      exact h8 i hi
    refine ⟨cs.take (xs.length * r.sz), hl, ZgW hl hrel, hrel, fun w => by rw [hv]; simp [Builtin.lenOf], fun m hm => ?_⟩
    have hms : m * r.sz ≤ xs.length * r.sz := Nat.mul_le_mul_right _ hm
    rw [hv, List.take_take, Nat.min_eq_left hms]
    simp only [Builtin.firstCells, Option.map_some]
    exact ZdS P (n := m * r.sz) (by simp; omega) (Zg5 (n := m * r.sz) h5 (by simp))
theorem Znq {T : Type} {q : Rep T} {n l m k : Nat} {y : Vector T n} {ys : List T} {e : Env} {cs fl : List Value} (h : (rV n q).rel e y cs) (hl : fl.length = ys.length * q.sz) (hr : ∀ i (h : i < ys.length), q.rel e ys[i] ((fl.drop (i * q.sz)).take q.sz)) (h1 : ∀ v ∈ fl, one1 v = true) (hk : k = min ys.length m) (hn : l + m ≤ n) :
    (rV n q).rel e (cpV y l m ys) (lay cs (l * q.sz) (fl.take (k * q.sz))) := by
  obtain ⟨a1, a2, a3⟩ := h
  have hkl : k * q.sz ≤ ys.length * q.sz := Nat.mul_le_mul_right _ (by omega)
  have hft : (fl.take (k * q.sz)).length = k * q.sz := by simp; omega
  have hle : l * q.sz + k * q.sz ≤ n * q.sz := by rw [← Nat.add_mul]; exact Nat.mul_le_mul_right _ (by omega)
  refine ⟨by rw [Zdc (by omega)]; exact a1, fun v hv => ?_, fun i hi => ?_⟩
  · unfold lay at hv
    rcases List.mem_append.1 hv with hv | hv
    · rcases List.mem_append.1 hv with hv | hv
      · exact a2 v (List.mem_of_mem_take hv)
      · exact h1 v (List.mem_of_mem_take hv)
    · exact a2 v (List.mem_of_mem_drop hv)
  · simp only [cpV, Vector.getElem_ofFn]
    have hin : i * q.sz + q.sz ≤ n * q.sz := by
      have := Nat.mul_le_mul_right q.sz (show i + 1 ≤ n by omega)
      rw [Nat.add_mul] at this; omega
    by_cases hc : l ≤ i ∧ i < l + k
    · obtain ⟨o, rfl⟩ : ∃ o, i = l + o := ⟨i - l, by omega⟩
      have ho : o < ys.length := by omega
      rw [dif_pos ⟨by omega, by omega, by omega⟩]
      have e1 : l + o - l = o := by omega
      have hok : o * q.sz + q.sz ≤ k * q.sz := by
        have := Nat.mul_le_mul_right q.sz (show o + 1 ≤ k by omega)
        rw [Nat.add_mul] at this; omega
      have : ((lay cs (l * q.sz) (fl.take (k * q.sz))).drop ((l + o) * q.sz)).take q.sz = (fl.drop (o * q.sz)).take q.sz := by
        apply List.ext_getElem?
        intro z
        by_cases hz : z < q.sz
        · rw [List.getElem?_take_of_lt hz, List.getElem?_take_of_lt hz, List.getElem?_drop, List.getElem?_drop, Nat.add_mul, Nat.add_assoc, Zcb (by omega) (by omega), List.getElem?_take_of_lt (by omega)]
        · rw [List.getElem?_eq_none (by simp; omega), List.getElem?_eq_none (by simp; omega)]
      rw [this]
      have h2 := hr o ho
      simp only [e1]
      exact h2
    · rw [dif_neg (by omega)]
      have : ((lay cs (l * q.sz) (fl.take (k * q.sz))).drop (i * q.sz)).take q.sz = (cs.drop (i * q.sz)).take q.sz := by
        apply List.ext_getElem?
        intro z
        by_cases hz : z < q.sz
        · rw [List.getElem?_take_of_lt hz, List.getElem?_take_of_lt hz, List.getElem?_drop, List.getElem?_drop]
          rcases Nat.lt_or_ge i l with hil | hil
          · have := Nat.mul_le_mul_right q.sz (show i + 1 ≤ l by omega)
            rw [Nat.add_mul] at this
            rw [Zb0 (by omega) (by omega)]
          · have hkk : (l + k) * q.sz ≤ i * q.sz := Nat.mul_le_mul_right _ (by omega)
            rw [Nat.add_mul] at hkk
            rw [ZcV (by omega) (by omega)]
        · rw [List.getElem?_eq_none (by simp; omega), List.getElem?_eq_none (by simp; omega)]
      rw [this]
      exact a3 i hi
theorem ZkE {n sz b o : Nat} {lo hi : Option Operand} {l h : Nat} (hd : d < Bs.N) (hu : P.underlying t = some (.array n el)) (hs : tySz P el sz = true) (hx : HasO st x (.one (.val (PTR b o))))
    (hl : OptN st lo 0 (l : Int)) (hh : OptN st hi n (h : Int)) (h1 : l ≤ h) (h2 : h ≤ n) (h3 : l < n) : Zao P Bs ⟨some d, .slice t x lo hi none, ty, pos, af, g⟩ st (st.set d (.one (.val (HDR (some b) (o + l * sz) (h - l) (n - l))))) :=
  .value hd fun e a w hst => by
    have hv : a.eval x = .pointer (some ⟨b, o, none⟩) := hx.get hst
    have hb := ZjY (P := P) hst (isSl := false) (cap := n) (m := n) hl hh (mx := none) rfl (fun h => absurd rfl h) (by omega) (by omega) (by omega) (Int.le_refl _) (Nat.le_refl _)
    refine ⟨.slice (some ⟨b, o + l * sz, none⟩) (h - l) (n - l), ?_, rfl⟩
    simp only [execOp, hv, Instr.sliceAt, Instr.sureAddr, Sem.run_bind, run_underlying hu, Result.andThen, Sem.run_pure]
    rw [show (none : Option Operand).map a.eval = none from rfl] at hb
    rw [show (Option.map a.eval none) = none from rfl, hb]
    simp only [ZgX hs, Result.andThen, Sem.run_bind, Sem.run_pure, Int.toNat_natCast]
    rw [if_neg (by omega), Zcr]
theorem ZlQ {T T' U : Type} {r : Rep T} {v : T} {r' : Rep T'} {v' v'' : T'} {q : Rep U} {n l m c j b o : Nat} {y0 y1 : Vector U n} {ys : List U} {dst : Option Nat} {k : Int} (hd : ∀ d, dst = some d → d < Bs.N) (hu : P.underlying t = some (.slice el)) (hs : tySz P el q.sz = true)
    (hx : HasO st x (.one (.val (HDR (some b) (o + l * q.sz) m c)))) (hX : st.X[j]? = some (cvar b r v)) (hc : Comp r v o (rV n q) y0) (hU : UpdR r v o (rV n q) y1 r' v') (hsrc : ∀ e a w, StE Bs st e a w → ∃ fl, SrcN P e a w q ys y fl) (hm : l + m ≤ n) (he : cpV y0 l m ys = y1) (hv : v' = v'') (hk : min (ys.length : Int) m = k) :
    Zao P Bs ⟨dst, .call { callee := .builtin .copy, args := #[x, y], argTypes := #[t, t'] }, ty, pos, af, g⟩ st (setO { st with X := st.X.set j (cvar b r' v'') } dst (.one (.val (S (rI .i64) k)))) := fun a w ⟨e, h⟩ K Q hK => by
  subst hv; subst he; subst hk
  have hvx : a.eval x = .slice (some ⟨b, o + l * q.sz, none⟩) m c := hx.get h
  obtain ⟨fl, s⟩ := hsrc e a w h
  obtain ⟨cs, el', fr, h1, h2, h3, h4⟩ := h.xs _ (List.mem_of_getElem? hX)
  have hcl := r.len h3
  have hu1 := hU.1
  have hsz : (rV n q).sz = n * q.sz := rfl
  have hfl : (fl.take (min ys.length m * q.sz)).length = min ys.length m * q.sz := by
    have : min ys.length m * q.sz ≤ ys.length * q.sz := Nat.mul_le_mul_right _ (by omega)
    rw [List.length_take, s.len]; omega
  have hle : l * q.sz + min ys.length m * q.sz ≤ n * q.sz := by rw [← Nat.add_mul]; exact Nat.mul_le_mul_right _ (by omega)
  have hlay : (lay cs (o + l * q.sz) (fl.take (min ys.length m * q.sz))).length = cs.length := Zdc (by omega)
  have hlt := Zbg h1
  have hone : ∀ v ∈ fl.take (min ys.length m * q.sz), one1 v = true := fun v hv => s.one v (List.mem_of_mem_take hv)
  have hst := Zfh P (fl.take (min ys.length m * q.sz)) w b (o + l * q.sz) 0 cs el' fr hone h1 (by omega) h2
  refine Zeo (w' := setB w b (lay cs (o + l * q.sz) (fl.take (min ys.length m * q.sz))) el' fr) (v := goInt (min ys.length m : Nat)) (fun _ _ => trivial) (ZcU rfl) ?_ (hK _ _ ⟨e, StE.putO ?_ hd ?_⟩)
  · simp only [execOp, resolve, invoke, builtin, Sem.run_bind, Sem.run_pure, Result.andThen]
    have hcells := s.cells (min ys.length m) (by omega)
    have hcopy : (Builtin.copy_ #[t, t'] ty (Array.map a.eval #[x, y])).run P w = .ok (goInt (min ys.length m : Nat)) (setB w b (lay cs (o + l * q.sz) (fl.take (min ys.length m * q.sz))) el' fr) := by
      have e1 : Nat.min ys.length m = min ys.length m := rfl
      simp only [Nat.add_zero] at hst
      simp [Builtin.copy_, hvx, run_underlying hu, Result.andThen, s.lenOf w, ZgX hs, e1, hcells, hst]
    rw [hcopy]
  · refine h.turn1 hX (Env.le.refl e) (fun ad v hm => .inl hm) Zgk.setB (fun ad v hm => ?_) ⟨_, el', fr, Zgo hlt, by rw [hlay]; exact h2, ?_, h4⟩ fun c hc => .inl hc
    · rw [World.cell?_of_block (Zgs (h4 ad v hm))]
      exact h.frz ad v hm
    · have h5 := Znq (l := l) (m := m) (hc e cs h3) s.len s.rel s.one rfl hm
      have h6 := hU.2.2 e cs _ h3 h5
      rwa [ZjW (by omega) (by rw [hfl, hsz]; exact hle)] at h6
  · show [goInt ((min ys.length m : Nat) : Int)] = [Value.int .i64 (min (ys.length : Int) (m : Int))]
    have e3 : ((min ys.length m : Nat) : Int) = min (ys.length : Int) (m : Int) := by omega
    rw [e3]
    rfl
theorem nilK {α : Type} {x y r : α} (h : x = r) (k : x = y) : y = r := k ▸ h
theorem Zkj {T : Type} {r : Rep T} {xs : List T} {neg : Bool} (hd : d < Bs.N) (hu : P.underlying t = some (.slice el)) (hx : HasO st x (.one (.val (S (rL r) xs)))) (hy : HasO st y (.one (.val (HDR none 0 0 0)))) :
    OpX P Bs ⟨some d, .binOp (if neg then .neq else .eql) t x y t', ty, pos, af, g⟩ st (fun q : { b : Bool // b = true → xs = [] } => st.set d (.one (.val (S rB (if neg then !q.1 else q.1))))) := fun a w hst K Q hK => by
  obtain ⟨e, h⟩ := hst
  obtain ⟨v, hv0, aa, c, hv, hc, hn, hm⟩ := hx.get h
  have hv0 : a.eval x = v := by simpa using hv0
  have hvy : a.eval y = .slice none 0 0 := hy.get h
  have heq : ∀ d, (Op.equalIn (d + 1) t (.slice aa xs.length c) (.slice none 0 0)).run P w = .ok aa.isNone w := fun d => by cases aa <;> simp [Op.equalIn, run_underlying hu]
  have heq' : (Op.equal t (.slice aa xs.length c) (.slice none 0 0)).run P w = .ok aa.isNone w := heq 9999
  refine Zeo (w' := w) (v := .bool (if neg then !aa.isNone else aa.isNone)) (fun _ _ => trivial) (ZcU rfl) ?_ (hK ⟨aa.isNone, fun ha => ?_⟩ _ _ ⟨e, h.put hd (by cases neg <;> rfl)⟩)
  · have hg : (eqGuard (if neg then .neq else .eql) t x y (.slice aa xs.length c) (.slice none 0 0)).run P w = .ok () w := by
      unfold eqGuard
      cases neg <;> simp
    have e4 : binOp .eql t (.slice aa xs.length c) (.slice none 0 0) = (do let r ← Op.equal t (.slice aa xs.length c) (.slice none 0 0); pure (.bool r)) := rfl
    have e5 : binOp .neq t (.slice aa xs.length c) (.slice none 0 0) = (do let r ← Op.equal t (.slice aa xs.length c) (.slice none 0 0); pure (.bool !r)) := rfl
    rw [← hv] at hg e4 e5 heq'
    cases neg
    · simp only [Bool.false_eq_true, if_false] at hg ⊢
      simp only [execOp, hv0, hvy, Sem.run_bind, hg, Result.andThen, e4, heq', Sem.run_pure]
    · simp only [if_true] at hg ⊢
      simp only [execOp, hv0, hvy, Sem.run_bind, hg, Result.andThen, e5, heq', Sem.run_pure]
  · cases aa with
    | none => have := hn rfl; exact List.eq_nil_of_length_eq_zero (by omega)
    | some ad => simp at ha
theorem ZlX {T : Type} {xs ys : List T} {i : Nat} {x : T} (h : ZkB xs i x = some ys) : xs.length = ys.length := by rw [← (Zir h).2]; simp
theorem Zpp {ob : Option Nat} {n m c : Nat} (h : n = m) : ∀ e v, (HDR ob 0 n c).p e v → (HDR ob 0 m c).p e v := fun e v k => h ▸ k
theorem Wk.len {K : Env → Prop} {ob : Option Nat} {n m c : Nat} (h : n = m) : Wk K (rW (HDR ob 0 n c)) () (rW (HDR ob 0 m c)) () := fun e vs _ k => h ▸ k
structure AppSrc (P : Program) (e : Env) (a : Act) (w : World) {T : Type} (r : Rep T) (ys : List T) (y : Operand) (fl : List Value) (t t' el ty : TypeId) : Prop where
  len : fl.length = ys.length * r.sz
  one : ∀ v ∈ fl, one1 v = true
  rel : ∀ i (h : i < ys.length), r.rel e ys[i] ((fl.drop (i * r.sz)).take r.sz)
  none : ∀ cap, 0 + ys.length ≤ cap → (Builtin.append_ #[t, t'] ty #[.slice none 0 cap, a.eval y]).run P w = .ok (.slice none (0 + ys.length) cap) w
  room : ∀ (ad : Addr) sl cap w', sl + ys.length ≤ cap → (storeCells (ad.add (sl * r.sz)) fl).run P w = .ok () w' → (Builtin.append_ #[t, t'] ty #[.slice (some ad) sl cap, a.eval y]).run P w = .ok (.slice (some ad) (sl + ys.length) cap) w'
  grow : ∀ (i : TypeInfo) (zv : Value) sl cap nc (base : Option Addr) (old : Array Value), P.info? el = some i → i.zero = some zv → 0 < i.bytes → ¬ (sl + ys.length ≤ cap) → Builtin.nextslicecap (sl + ys.length) cap * i.bytes ≤ 281474976710656 → (sl + ys.length) ≤ 281474976710656 →
    (Question.appendCap (sl + ys.length) cap el).cut (w.tape w.drawn (Question.appendCap (sl + ys.length) cap el)) = nc → (Builtin.firstCells i.size sl (.slice base sl cap)).run P w.drew = .ok old w.drew →
    (Builtin.append_ #[t, t'] ty #[.slice base sl cap, a.eval y]).run P w = .ok (.slice (some ⟨w.heap.size, 0, Option.none⟩) (sl + ys.length) nc) (w.drew.alloc (.cells (old ++ fl.toArray ++ Builtin.zeroCells zv.cells (nc - (sl + ys.length))) el (0, 0)))
end
end Go.Proofs.YtklnihlchhhhlaaGreat.Fw
