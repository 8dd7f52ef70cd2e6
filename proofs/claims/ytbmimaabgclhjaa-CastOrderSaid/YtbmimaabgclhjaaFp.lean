/- Plain functions on numbers and lists, as Go computes: no program and no memory here. -/
namespace Go.Proofs.Ytbmimaabgclhjaa.Fw
set_option linter.unusedVariables false

/-- A whole number as sixty-four bits hold it; told by its law alone, so that nobody computes it where it need not be. -/
theorem w64_ex : ∃ f : Int → Int, ∀ n, f n = (n + 9223372036854775808) % 18446744073709551616 - 9223372036854775808 := ⟨_, fun _ => rfl⟩
noncomputable def w64 : Int → Int := Classical.choose w64_ex
theorem w64_eq (n : Int) : w64 n = (n + 9223372036854775808) % 18446744073709551616 - 9223372036854775808 := Classical.choose_spec w64_ex n
theorem w64_id {n : Int} (h : -9223372036854775808 ≤ n) (h' : n ≤ 9223372036854775807) : w64 n = n := by rw [w64_eq]; omega
/-- An unsigned number kind. -/
class UN (U : Type) where
  bits : Nat
  toN : U → Nat
  ofN : Nat → U
  lt : ∀ u, toN u < 2 ^ bits
  toN_ofN : ∀ n, toN (ofN n) = n % 2 ^ bits
  ofN_toN : ∀ u, ofN (toN u) = u
  add : ∀ a b : U, U
  sub : ∀ a b : U, U
  mul : ∀ a b : U, U
  and : ∀ a b : U, U
  or : ∀ a b : U, U
  xor : ∀ a b : U, U
  div : ∀ a b : U, U
  mod : ∀ a b : U, U
  eq : ∀ a b : U, Bool
  ltb : ∀ a b : U, Bool
  leb : ∀ a b : U, Bool
  h_add : ∀ a b, toN (add a b) = (toN a + toN b) % 2 ^ bits
  h_sub : ∀ a b, toN (sub a b) = (2 ^ bits - toN b + toN a) % 2 ^ bits
  h_mul : ∀ a b, toN (mul a b) = (toN a * toN b) % 2 ^ bits
  h_and : ∀ a b, toN (and a b) = toN a &&& toN b
  h_or : ∀ a b, toN (or a b) = toN a ||| toN b
  h_xor : ∀ a b, toN (xor a b) = toN a ^^^ toN b
  h_div : ∀ a b, toN (div a b) = toN a / toN b
  h_mod : ∀ a b, toN (mod a b) = toN a % toN b
  h_eq : ∀ a b, eq a b = (toN a == toN b)
  h_lt : ∀ a b, ltb a b = decide (toN a < toN b)
  h_le : ∀ a b, leb a b = decide (toN a ≤ toN b)

instance : UN UInt8 where
  bits := 8
  toN := UInt8.toNat
  ofN := UInt8.ofNat
  lt := fun u => u.toNat_lt
  toN_ofN := fun n => by simp
  ofN_toN := fun u => by simp
  add := (· + ·)
  sub := (· - ·)
  mul := (· * ·)
  and := (· &&& ·)
  or := (· ||| ·)
  xor := (· ^^^ ·)
  div := (· / ·)
  mod := (· % ·)
  eq := fun a b => a == b
  ltb := fun a b => decide (a < b)
  leb := fun a b => decide (a ≤ b)
  h_add := fun a b => by simp
  h_sub := fun a b => by simp [UInt8.toNat_sub]
  h_mul := fun a b => by simp
  h_and := fun a b => by simp
  h_or := fun a b => by simp
  h_xor := fun a b => by simp
  h_div := fun a b => by simp
  h_mod := fun a b => by simp
  h_eq := fun a b => by rw [Bool.eq_iff_iff]; simp [← UInt8.toNat_inj]
  h_lt := fun a b => by simp [UInt8.lt_iff_toNat_lt]
  h_le := fun a b => by simp [UInt8.le_iff_toNat_le]

instance : UN UInt16 where
  bits := 16
  toN := UInt16.toNat
  ofN := UInt16.ofNat
  lt := fun u => u.toNat_lt
  toN_ofN := fun n => by simp
  ofN_toN := fun u => by simp
  add := (· + ·)
  sub := (· - ·)
  mul := (· * ·)
  and := (· &&& ·)
  or := (· ||| ·)
  xor := (· ^^^ ·)
  div := (· / ·)
  mod := (· % ·)
  eq := fun a b => a == b
  ltb := fun a b => decide (a < b)
  leb := fun a b => decide (a ≤ b)
  h_add := fun a b => by simp
  h_sub := fun a b => by simp [UInt16.toNat_sub]
  h_mul := fun a b => by simp
  h_and := fun a b => by simp
  h_or := fun a b => by simp
  h_xor := fun a b => by simp
  h_div := fun a b => by simp
  h_mod := fun a b => by simp
  h_eq := fun a b => by rw [Bool.eq_iff_iff]; simp [← UInt16.toNat_inj]
  h_lt := fun a b => by simp [UInt16.lt_iff_toNat_lt]
  h_le := fun a b => by simp [UInt16.le_iff_toNat_le]

instance : UN UInt32 where
  bits := 32
  toN := UInt32.toNat
  ofN := UInt32.ofNat
  lt := fun u => u.toNat_lt
  toN_ofN := fun n => by simp
  ofN_toN := fun u => by simp
  add := (· + ·)
  sub := (· - ·)
  mul := (· * ·)
  and := (· &&& ·)
  or := (· ||| ·)
  xor := (· ^^^ ·)
  div := (· / ·)
  mod := (· % ·)
  eq := fun a b => a == b
  ltb := fun a b => decide (a < b)
  leb := fun a b => decide (a ≤ b)
  h_add := fun a b => by simp
  h_sub := fun a b => by simp [UInt32.toNat_sub]
  h_mul := fun a b => by simp
  h_and := fun a b => by simp
  h_or := fun a b => by simp
  h_xor := fun a b => by simp
  h_div := fun a b => by simp
  h_mod := fun a b => by simp
  h_eq := fun a b => by rw [Bool.eq_iff_iff]; simp [← UInt32.toNat_inj]
  h_lt := fun a b => by simp [UInt32.lt_iff_toNat_lt]
  h_le := fun a b => by simp [UInt32.le_iff_toNat_le]

instance : UN UInt64 where
  bits := 64
  toN := UInt64.toNat
  ofN := UInt64.ofNat
  lt := fun u => u.toNat_lt
  toN_ofN := fun n => by simp
  ofN_toN := fun u => by simp
  add := (· + ·)
  sub := (· - ·)
  mul := (· * ·)
  and := (· &&& ·)
  or := (· ||| ·)
  xor := (· ^^^ ·)
  div := (· / ·)
  mod := (· % ·)
  eq := fun a b => a == b
  ltb := fun a b => decide (a < b)
  leb := fun a b => decide (a ≤ b)
  h_add := fun a b => by simp
  h_sub := fun a b => by simp [UInt64.toNat_sub]
  h_mul := fun a b => by simp
  h_and := fun a b => by simp
  h_or := fun a b => by simp
  h_xor := fun a b => by simp
  h_div := fun a b => by simp
  h_mod := fun a b => by simp
  h_eq := fun a b => by rw [Bool.eq_iff_iff]; simp [← UInt64.toNat_inj]
  h_lt := fun a b => by simp [UInt64.lt_iff_toNat_lt]
  h_le := fun a b => by simp [UInt64.le_iff_toNat_le]

theorem UN.inj {U : Type} [UN U] {a b : U} (h : UN.toN a = UN.toN b) : a = b := by rw [← UN.ofN_toN a, h, UN.ofN_toN]
/-- Shifts: how far is told as a number. -/
def UN.shl {U : Type} [UN U] (x : U) (n : Nat) : U := UN.ofN (UN.toN x * 2 ^ (min n (UN.bits U)))
def UN.shr {U : Type} [UN U] (x : U) (n : Nat) : U := UN.ofN (UN.toN x / 2 ^ (min n (UN.bits U)))
def UN.not {U : Type} [UN U] (x : U) : U := UN.ofN (2 ^ UN.bits U - 1 - UN.toN x)
/-- A number of a kind, out of a whole number; out of another kind's. -/
def UN.ofI {U : Type} [UN U] (n : Int) : U := UN.ofN (n % (2 ^ UN.bits U : Nat)).toNat
def UN.to {U V : Type} [UN U] [UN V] (x : U) : V := UN.ofN (UN.toN x)

abbrev lt1 {α β : Type} (e : α) (K : α → Option β) : Option β := K e
theorem lt1_inv {α β : Type} {e : α} {K : α → Option β} {r : β} (h : lt1 e K = some r) : ∃ v, e = v ∧ K v = some r := ⟨_, rfl, h⟩
def idxL {T : Type} (xs : List T) (i : Int) : Option T := if 0 ≤ i then xs[i.toNat]? else none
theorem idxL_some {T : Type} {xs : List T} {i : Int} {u : T} (h : idxL xs i = some u) : 0 ≤ i ∧ ∃ h : i.toNat < xs.length, xs[i.toNat] = u := by
  unfold idxL at h
  split at h
  · exact ⟨by assumption, List.getElem?_eq_some_iff.1 h⟩
  · cases h
def idxV {T : Type} {n : Nat} (v : Vector T n) (i : Int) : Option T := if 0 ≤ i then v[i.toNat]? else none
theorem idxV_some {T : Type} {n : Nat} {v : Vector T n} {i : Int} {u : T} (h : idxV v i = some u) : 0 ≤ i ∧ ∃ h : i.toNat < n, v[i.toNat] = u := by
  unfold idxV at h
  split at h
  · exact ⟨by assumption, by simpa [getElem?_def] using h⟩
  · cases h
def subL {T : Type} (xs : List T) (l h : Int) : Option (List T) := if 0 ≤ l ∧ l ≤ h ∧ h ≤ xs.length then some ((xs.drop l.toNat).take (h.toNat - l.toNat)) else none
theorem subL_some {T : Type} {xs u : List T} {l h : Int} (k : subL xs l h = some u) : (0 ≤ l ∧ l ≤ h ∧ h ≤ xs.length) ∧ (xs.drop l.toNat).take (h.toNat - l.toNat) = u := by
  unfold subL at k
  split at k
  · rename_i hc; exact ⟨hc, by simpa using k⟩
  · cases k
def apL {T : Type} (bytes : Nat) (xs ys : List T) : Option (List T) := if (xs.length + ys.length) * bytes ≤ 140737488355328 then some (xs ++ ys) else none
theorem apL_some {T : Type} {bytes : Nat} {xs ys u : List T} (h : apL bytes xs ys = some u) : (xs.length + ys.length) * bytes ≤ 140737488355328 ∧ xs ++ ys = u := by
  unfold apL at h
  split at h
  · rename_i hc; exact ⟨hc, by simpa using h⟩
  · cases h
/-! ### places in arrays and rows -/
def inV (n : Nat) (i : Int) : Option (Fin n) := if h : 0 ≤ i ∧ i.toNat < n then some ⟨i.toNat, h.2⟩ else none
theorem inV_some {n : Nat} {i : Int} {f : Fin n} (h : inV n i = some f) : 0 ≤ i ∧ i.toNat < n ∧ i.toNat = f.1 := by
  unfold inV at h
  split at h
  · rename_i h'; cases h; exact ⟨h'.1, h'.2, rfl⟩
  · cases h
def getV {T : Type} {n : Nat} (v : Vector T n) (f : Fin n) : T := v[f.1]'f.2
def putV {T : Type} {n : Nat} (v : Vector T n) (f : Fin n) (x : T) : Vector T n := v.set f.1 x f.2
def inO {T : Type} (xs : List T) (i : Int) : Option Nat := if 0 ≤ i ∧ i.toNat < xs.length then some i.toNat else none
theorem inO_some {T : Type} {xs : List T} {i : Int} {n : Nat} (h : inO xs i = some n) : 0 ≤ i ∧ i.toNat < xs.length ∧ i.toNat = n := by
  unfold inO at h
  split at h
  · rename_i h'; cases h; exact ⟨h'.1, h'.2, rfl⟩
  · cases h
def setO' {T : Type} (xs : List T) (i : Nat) (x : T) : Option (List T) := if i < xs.length then some (xs.set i x) else none
theorem setO'_some {T : Type} {xs ys : List T} {i : Nat} {x : T} (h : setO' xs i x = some ys) : i < xs.length ∧ xs.set i x = ys := by
  unfold setO' at h
  split at h
  · rename_i h'; cases h; exact ⟨h', rfl⟩
  · cases h
/-! ### comparing -/
def eqV {T : Type} {n : Nat} (f : T → T → Bool) (x y : Vector T n) : Bool := (List.range n).all fun i => if h : i < n then f x[i] y[i] else true
def maxU {U : Type} [UN U] (x y : U) : U := if UN.toN y > UN.toN x then y else x
/-! ### functions of the library that have no code -/
/-! ### loops -/
def loopO {σ τ : Type} (body : σ → Option (σ ⊕ τ)) : Nat → σ → Option τ
  | 0, _ => none
  | k + 1, s => match body s with
    | none => none
    | some (.inl s') => loopO body k s'
    | some (.inr t) => some t
theorem loopO_step {σ τ : Type} {body : σ → Option (σ ⊕ τ)} {k : Nat} {s s' : σ} (h : body s = some (.inl s')) : loopO body (k + 1) s = loopO body k s' := by simp [loopO, h]
theorem loopO_out {σ τ : Type} {body : σ → Option (σ ⊕ τ)} {k : Nat} {s : σ} {t : τ} (h : body s = some (.inr t)) : loopO body (k + 1) s = some t := by simp [loopO, h]
/-! ### maps -/
def mpos {K V : Type} [DecidableEq K] (k : K) : List (K × V) → Option Nat
  | [] => none
  | p :: r => if k = p.1 then some 0 else (mpos k r).map (· + 1)
def mget {K V : Type} [DecidableEq K] (k : K) (l : List (K × V)) : Option V := (mpos k l).bind fun i => (l[i]?).map (·.2)
def mput {K V : Type} [DecidableEq K] (k : K) (v : V) (l : List (K × V)) : List (K × V) := match mpos k l with | some i => l.set i (k, v) | none => l ++ [(k, v)]
def mdel {K V : Type} [DecidableEq K] (k : K) (l : List (K × V)) : List (K × V) := match mpos k l with | some i => l.eraseIdx i | none => l
def mgetO {K V : Type} [DecidableEq K] (x : Option (List (K × V))) (k : K) : Option V := x.bind (mget k)
def mputO {K V : Type} [DecidableEq K] (x : Option (List (K × V))) (k : K) (v : V) : Option (Option (List (K × V))) := match x with | some l => some (some (mput k v l)) | none => none
def mdelO {K V : Type} [DecidableEq K] (x : Option (List (K × V))) (k : K) : Option (List (K × V)) := x.map (mdel k)
def mgetC {K V : Type} [DecidableEq K] (x : Option (List (K × V))) (k : K) (z : V) : Option (V × Bool) := some ((mgetO x k).getD z, (mgetO x k).isSome)
/-- A course over a list that the program does not order: by any order of it. -/
def foldO {E σ τ : Type} (body : σ → E → Option (σ ⊕ τ)) (fin : σ → Option τ) : List E → σ → Option τ
  | [], s => fin s
  | e :: l, s => match body s e with
    | none => none
    | some (.inl s') => foldO body fin l s'
    | some (.inr t) => some t
theorem rangeM_ex {E σ τ : Type} (l0 : List E) (body : σ → E → Option (σ ⊕ τ)) (fin : σ → Option τ) (s : σ) : ∃ o : Option τ, (∀ r, o = some r → ∀ l, l.Perm l0 → foldO body fin l s = some r) ∧ (∀ r, (∀ l, l.Perm l0 → foldO body fin l s = some r) → o = some r) := by
  by_cases h : ∃ r, ∀ l, l.Perm l0 → foldO body fin l s = some r
  · obtain ⟨r, hr⟩ := h
    exact ⟨some r, fun r' e => (by cases e; exact hr), fun r' h' => by rw [← hr l0 (List.Perm.refl _), h' l0 (List.Perm.refl _)]⟩
  · exact ⟨none, ⟨fun r e => (by cases e), fun r h' => absurd ⟨r, h'⟩ h⟩⟩
noncomputable def rangeM {E σ τ : Type} (l0 : List E) (body : σ → E → Option (σ ⊕ τ)) (fin : σ → Option τ) (s : σ) : Option τ := Classical.choose (rangeM_ex l0 body fin s)
theorem rangeM_some {E σ τ : Type} {l0 : List E} {body : σ → E → Option (σ ⊕ τ)} {fin : σ → Option τ} {s : σ} {r : τ} (h : rangeM l0 body fin s = some r) : ∀ l, l.Perm l0 → foldO body fin l s = some r := (Classical.choose_spec (rangeM_ex l0 body fin s)).1 r h
theorem rangeM_of {E σ τ : Type} {l0 : List E} {body : σ → E → Option (σ ⊕ τ)} {fin : σ → Option τ} {s : σ} {r : τ} (h : ∀ l, l.Perm l0 → foldO body fin l s = some r) : rangeM l0 body fin s = some r := (Classical.choose_spec (rangeM_ex l0 body fin s)).2 r h
/-- A round, where the loop has not stopped. -/
def yldO {σ τ α : Type} (Y : σ → α → Option (σ ⊕ τ)) : σ ⊕ τ → α → Option (σ ⊕ τ)
  | .inl s, a => Y s a
  | .inr _, _ => none
end Go.Proofs.Ytbmimaabgclhjaa.Fw
