/- Plain functions on numbers and lists, as Go computes: no program and no memory here. -/
namespace Go.Proofs.YtklnihlchhhhlaaGreat.Fw
set_option linter.unusedVariables false

theorem ZmX : ∃ f : Int → Int, ∀ n, f n = (n + 9223372036854775808) % 18446744073709551616 - 9223372036854775808 := ⟨_, fun _ => rfl⟩
noncomputable def w64 : Int → Int := Classical.choose ZmX
theorem ZmH (n : Int) : w64 n = (n + 9223372036854775808) % 18446744073709551616 - 9223372036854775808 := Classical.choose_spec ZmX n
theorem ZdI {n : Int} (h : -9223372036854775808 ≤ n) (h' : n ≤ 9223372036854775807) : w64 n = n := by rw [ZmH]; omega
class UN (U : Type) where
  bits : Nat
  toN : U → Nat
  ofN : Nat → U
  lt : ∀ u, toN u < 2 ^ bits
  toN_ofN : ∀ n, toN (ofN n) = n % 2 ^ bits
  ofN_toN : ∀ u, ofN (toN u) = u
  add : ∀ a b : U, U
  sub : ∀ a b : U, U
  mul : ∀ a b : U, U
  and : ∀ a b : U, U
  or : ∀ a b : U, U
  xor : ∀ a b : U, U
  div : ∀ a b : U, U
  mod : ∀ a b : U, U
  eq : ∀ a b : U, Bool
  ltb : ∀ a b : U, Bool
  leb : ∀ a b : U, Bool
  h_add : ∀ a b, toN (add a b) = (toN a + toN b) % 2 ^ bits
  h_sub : ∀ a b, toN (sub a b) = (2 ^ bits - toN b + toN a) % 2 ^ bits
  h_mul : ∀ a b, toN (mul a b) = (toN a * toN b) % 2 ^ bits
  h_and : ∀ a b, toN (and a b) = toN a &&& toN b
  h_or : ∀ a b, toN (or a b) = toN a ||| toN b
  h_xor : ∀ a b, toN (xor a b) = toN a ^^^ toN b
  h_div : ∀ a b, toN (div a b) = toN a / toN b
  h_mod : ∀ a b, toN (mod a b) = toN a % toN b
  h_eq : ∀ a b, eq a b = (toN a == toN b)
  h_lt : ∀ a b, ltb a b = decide (toN a < toN b)
  h_le : ∀ a b, leb a b = decide (toN a ≤ toN b)

instance : UN UInt8 where
  bits := 8
  toN := UInt8.toNat
  ofN := UInt8.ofNat
  lt := fun u => u.toNat_lt
  toN_ofN := fun n => by simp
  ofN_toN := fun u => by simp
  add := (· + ·)
  sub := (· - ·)
  mul := (· * ·)
  and := (· &&& ·)
  or := (· ||| ·)
  xor := (· ^^^ ·)
  div := (· / ·)
  mod := (· % ·)
  eq := fun a b => a == b
  ltb := fun a b => decide (a < b)
  leb := fun a b => decide (a ≤ b)
  h_add := fun a b => by simp
  h_sub := fun a b => by simp [UInt8.toNat_sub]
  h_mul := fun a b => by simp
  h_and := fun a b => by simp
  h_or := fun a b => by simp
  h_xor := fun a b => by simp
  h_div := fun a b => by simp
  h_mod := fun a b => by simp
  h_eq := fun a b => by rw [Bool.eq_iff_iff]; simp [← UInt8.toNat_inj]
  h_lt := fun a b => by simp [UInt8.lt_iff_toNat_lt]
  h_le := fun a b => by simp [UInt8.le_iff_toNat_le]

instance : UN UInt16 where
  bits := 16
  toN := UInt16.toNat
  ofN := UInt16.ofNat
  lt := fun u => u.toNat_lt
  toN_ofN := fun n => by simp
  ofN_toN := fun u => by simp
  add := (· + ·)
  sub := (· - ·)
  mul := (· * ·)
  and := (· &&& ·)
  or := (· ||| ·)
  xor := (· ^^^ ·)
  div := (· / ·)
  mod := (· % ·)
  eq := fun a b => a == b
  ltb := fun a b => decide (a < b)
  leb := fun a b => decide (a ≤ b)
  h_add := fun a b => by simp
  h_sub := fun a b => by simp [UInt16.toNat_sub]
  h_mul := fun a b => by simp
  h_and := fun a b => by simp
  h_or := fun a b => by simp
  h_xor := fun a b => by simp
  h_div := fun a b => by simp
  h_mod := fun a b => by simp
  h_eq := fun a b => by rw [Bool.eq_iff_iff]; simp [← UInt16.toNat_inj]
  h_lt := fun a b => by simp [UInt16.lt_iff_toNat_lt]
  h_le := fun a b => by simp [UInt16.le_iff_toNat_le]

instance : UN UInt32 where
  bits := 32
  toN := UInt32.toNat
  ofN := UInt32.ofNat
  lt := fun u => u.toNat_lt
  toN_ofN := fun n => by simp
  ofN_toN := fun u => by simp
  add := (· + ·)
  sub := (· - ·)
  mul := (· * ·)
  and := (· &&& ·)
  or := (· ||| ·)
  xor := (· ^^^ ·)
  div := (· / ·)
  mod := (· % ·)
  eq := fun a b => a == b
  ltb := fun a b => decide (a < b)
  leb := fun a b => decide (a ≤ b)
  h_add := fun a b => by simp
  h_sub := fun a b => by simp [UInt32.toNat_sub]
  h_mul := fun a b => by simp
  h_and := fun a b => by simp
  h_or := fun a b => by simp
  h_xor := fun a b => by simp
  h_div := fun a b => by simp
  h_mod := fun a b => by simp
  h_eq := fun a b => by rw [Bool.eq_iff_iff]; simp [← UInt32.toNat_inj]
  h_lt := fun a b => by simp [UInt32.lt_iff_toNat_lt]
  h_le := fun a b => by simp [UInt32.le_iff_toNat_le]

instance : UN UInt64 where
  bits := 64
  toN := UInt64.toNat
  ofN := UInt64.ofNat
  lt := fun u => u.toNat_lt
  toN_ofN := fun n => by simp
  ofN_toN := fun u => by simp
  add := (· + ·)
  sub := (· - ·)
  mul := (· * ·)
  and := (· &&& ·)
  or := (· ||| ·)
  xor := (· ^^^ ·)
  div := (· / ·)
  mod := (· % ·)
  eq := fun a b => a == b
  ltb := fun a b => decide (a < b)
  leb := fun a b => decide (a ≤ b)
  h_add := fun a b => by simp
  h_sub := fun a b => by simp [UInt64.toNat_sub]
  h_mul := fun a b => by simp
  h_and := fun a b => by simp
  h_or := fun a b => by simp
  h_xor := fun a b => by simp
  h_div := fun a b => by simp
  h_mod := fun a b => by simp
  h_eq := fun a b => by rw [Bool.eq_iff_iff]; simp [← UInt64.toNat_inj]
  h_lt := fun a b => by simp [UInt64.lt_iff_toNat_lt]
  h_le := fun a b => by simp [UInt64.le_iff_toNat_le]

theorem UN.inj {U : Type} [UN U] {a b : U} (h : UN.toN a = UN.toN b) : a = b := by rw [← UN.ofN_toN a, h, UN.ofN_toN]
def UN.shl {U : Type} [UN U] (x : U) (n : Nat) : U := UN.ofN (UN.toN x * 2 ^ (min n (UN.bits U)))
def UN.shr {U : Type} [UN U] (x : U) (n : Nat) : U := UN.ofN (UN.toN x / 2 ^ (min n (UN.bits U)))
def UN.not {U : Type} [UN U] (x : U) : U := UN.ofN (2 ^ UN.bits U - 1 - UN.toN x)
def UN.ofI {U : Type} [UN U] (n : Int) : U := UN.ofN (n % (2 ^ UN.bits U : Nat)).toNat
def UN.to {U V : Type} [UN U] [UN V] (x : U) : V := UN.ofN (UN.toN x)

abbrev lt1 {α β : Type} (e : α) (K : α → Option β) : Option β := K e
theorem ZaT {α β : Type} {e : α} {K : α → Option β} {r : β} (h : lt1 e K = some r) : ∃ v, e = v ∧ K v = some r := ⟨_, rfl, h⟩
noncomputable def divI (m n : Int) : Option Int := if n = 0 then none else some (w64 (m.tdiv n))
def modI (m n : Int) : Option Int := if n = 0 then none else some (m.tmod n)
def shrU {U : Type} [UN U] (m : U) (n : Int) : Option U := if n < 0 then none else some (UN.shr m n.toNat)
def idxL {T : Type} (xs : List T) (i : Int) : Option T := if 0 ≤ i then xs[i.toNat]? else none
theorem ZlK {T : Type} {xs : List T} {i : Int} {u : T} (h : idxL xs i = some u) : 0 ≤ i ∧ ∃ h : i.toNat < xs.length, xs[i.toNat] = u := by
  unfold idxL at h
  split at h
  · exact ⟨by assumption, List.getElem?_eq_some_iff.1 h⟩
  · cases h
def idxV {T : Type} {n : Nat} (v : Vector T n) (i : Int) : Option T := if 0 ≤ i then v[i.toNat]? else none
theorem Zlz {T : Type} {n : Nat} {v : Vector T n} {i : Int} {u : T} (h : idxV v i = some u) : 0 ≤ i ∧ ∃ h : i.toNat < n, v[i.toNat] = u := by
  unfold idxV at h
  split at h
  · exact ⟨by assumption, by simpa [getElem?_def] using h⟩
  · cases h
def subL {T : Type} (xs : List T) (l h : Int) : Option (List T) := if 0 ≤ l ∧ l ≤ h ∧ h ≤ xs.length then some ((xs.drop l.toNat).take (h.toNat - l.toNat)) else none
theorem ZhB {T : Type} {xs u : List T} {l h : Int} (k : subL xs l h = some u) : (0 ≤ l ∧ l ≤ h ∧ h ≤ xs.length) ∧ (xs.drop l.toNat).take (h.toNat - l.toNat) = u := by
  unfold subL at k
  split at k
  · rename_i hc; exact ⟨hc, by simpa using k⟩
  · cases k
def apL {T : Type} (bytes : Nat) (xs ys : List T) : Option (List T) := if (xs.length + ys.length) * bytes ≤ 140737488355328 then some (xs ++ ys) else none
theorem Zj4 {T : Type} {bytes : Nat} {xs ys u : List T} (h : apL bytes xs ys = some u) : (xs.length + ys.length) * bytes ≤ 140737488355328 ∧ xs ++ ys = u := by
  unfold apL at h
  split at h
  · rename_i hc; exact ⟨hc, by simpa using h⟩
  · cases h
def inV (n : Nat) (i : Int) : Option (Fin n) := if h : 0 ≤ i ∧ i.toNat < n then some ⟨i.toNat, h.2⟩ else none
theorem Zmf {n : Nat} {i : Int} {f : Fin n} (h : inV n i = some f) : 0 ≤ i ∧ i.toNat < n ∧ i.toNat = f.1 := by
  unfold inV at h
  split at h
  · rename_i h'; cases h; exact ⟨h'.1, h'.2, rfl⟩
  · cases h
def inN (n i : Nat) : Option (Fin n) := if h : i < n then some ⟨i, h⟩ else none
theorem Zmu {n i : Nat} {f : Fin n} (h : inN n i = some f) : i < n ∧ i = f.1 := by
  unfold inN at h
  split at h
  · rename_i h'; cases h; exact ⟨h', rfl⟩
  · cases h
def getV {T : Type} {n : Nat} (v : Vector T n) (f : Fin n) : T := v[f.1]'f.2
def putV {T : Type} {n : Nat} (v : Vector T n) (f : Fin n) (x : T) : Vector T n := v.set f.1 x f.2
def inO {T : Type} (xs : List T) (i : Int) : Option Nat := if 0 ≤ i ∧ i.toNat < xs.length then some i.toNat else none
theorem Zmd {T : Type} {xs : List T} {i : Int} {n : Nat} (h : inO xs i = some n) : 0 ≤ i ∧ i.toNat < xs.length ∧ i.toNat = n := by
  unfold inO at h
  split at h
  · rename_i h'; cases h; exact ⟨h'.1, h'.2, rfl⟩
  · cases h
def ZkB {T : Type} (xs : List T) (i : Nat) (x : T) : Option (List T) := if i < xs.length then some (xs.set i x) else none
theorem Zir {T : Type} {xs ys : List T} {i : Nat} {x : T} (h : ZkB xs i x = some ys) : i < xs.length ∧ xs.set i x = ys := by
  unfold ZkB at h
  split at h
  · rename_i h'; cases h; exact ⟨h', rfl⟩
  · cases h
def eqV {T : Type} {n : Nat} (f : T → T → Bool) (x y : Vector T n) : Bool := (List.range n).all fun i => if h : i < n then f x[i] y[i] else true
theorem Zld {T : Type} {n : Nat} {f : T → T → Bool} (hf : ∀ a b, f a b = true ↔ a = b) {x y : Vector T n} : eqV f x y = true ↔ x = y := by
  simp only [eqV, List.all_eq_true, List.mem_range]
  constructor
  · intro h
    apply Vector.ext
    intro i hi
    have := h i hi
    rw [dif_pos hi] at this
    exact (hf _ _).1 this
  · rintro rfl i hi
    rw [dif_pos hi]
    exact (hf _ _).2 rfl
def minI (x y : Int) : Int := if y < x then y else x
def cpV {T : Type} {n : Nat} (y : Vector T n) (l m : Nat) (ys : List T) : Vector T n := Vector.ofFn fun i => if h : l ≤ i.1 ∧ i.1 < l + m ∧ i.1 - l < ys.length then ys[i.1 - l]'h.2.2 else y[i.1]
def Zbc {σ τ : Type} (body : σ → Option (σ ⊕ τ)) : Nat → σ → Option τ
  | 0, _ => none
  | k + 1, s => match body s with
    | none => none
    | some (.inl s') => Zbc body k s'
    | some (.inr t) => some t
theorem Zfa {σ τ : Type} {body : σ → Option (σ ⊕ τ)} {k : Nat} {s s' : σ} (h : body s = some (.inl s')) : Zbc body (k + 1) s = Zbc body k s' := by simp [Zbc, h]
theorem ZhE {σ τ : Type} {body : σ → Option (σ ⊕ τ)} {k : Nat} {s : σ} {t : τ} (h : body s = some (.inr t)) : Zbc body (k + 1) s = some t := by simp [Zbc, h]
def mpos {K V : Type} [DecidableEq K] (k : K) : List (K × V) → Option Nat
  | [] => none
  | p :: r => if k = p.1 then some 0 else (mpos k r).map (· + 1)
def mget {K V : Type} [DecidableEq K] (k : K) (l : List (K × V)) : Option V := (mpos k l).bind fun i => (l[i]?).map (·.2)
def mput {K V : Type} [DecidableEq K] (k : K) (v : V) (l : List (K × V)) : List (K × V) := match mpos k l with | some i => l.set i (k, v) | none => l ++ [(k, v)]
def Zen {K V : Type} [DecidableEq K] (x : Option (List (K × V))) (k : K) : Option V := x.bind (mget k)
def Zol {K V : Type} [DecidableEq K] (x : Option (List (K × V))) (k : K) (v : V) : Option (Option (List (K × V))) := match x with | some l => some (some (mput k v l)) | none => none
def ZeS {K V : Type} [DecidableEq K] (x : Option (List (K × V))) (k : K) (z : V) : Option (V × Bool) := some ((Zen x k).getD z, (Zen x k).isSome)
end Go.Proofs.YtklnihlchhhhlaaGreat.Fw
