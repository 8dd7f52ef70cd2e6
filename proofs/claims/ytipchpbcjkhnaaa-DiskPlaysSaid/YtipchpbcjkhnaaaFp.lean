/- Plain functions on numbers and lists, as Go computes: no program and no memory here. -/
namespace Go.Proofs.Ytipchpbcjkhnaaa.Fw
set_option linter.unusedVariables false

theorem Zke : ∃ f : Int → Int, ∀ n, f n = (n + 9223372036854775808) % 18446744073709551616 - 9223372036854775808 := ⟨_, fun _ => rfl⟩
noncomputable def w64 : Int → Int := Classical.choose Zke
theorem Zj9 (n : Int) : w64 n = (n + 9223372036854775808) % 18446744073709551616 - 9223372036854775808 := Classical.choose_spec Zke n
theorem Zch {n : Int} (h : -9223372036854775808 ≤ n) (h' : n ≤ 9223372036854775807) : w64 n = n := by rw [Zj9]; omega
class UN (U : Type) where
  bits : Nat
  toN : U → Nat
  ofN : Nat → U
  lt : ∀ u, toN u < 2 ^ bits
  toN_ofN : ∀ n, toN (ofN n) = n % 2 ^ bits
  ofN_toN : ∀ u, ofN (toN u) = u
  add : ∀ a b : U, U
  sub : ∀ a b : U, U
  mul : ∀ a b : U, U
  and : ∀ a b : U, U
  or : ∀ a b : U, U
  xor : ∀ a b : U, U
  div : ∀ a b : U, U
  mod : ∀ a b : U, U
  eq : ∀ a b : U, Bool
  ltb : ∀ a b : U, Bool
  leb : ∀ a b : U, Bool
  h_add : ∀ a b, toN (add a b) = (toN a + toN b) % 2 ^ bits
  h_sub : ∀ a b, toN (sub a b) = (2 ^ bits - toN b + toN a) % 2 ^ bits
  h_mul : ∀ a b, toN (mul a b) = (toN a * toN b) % 2 ^ bits
  h_and : ∀ a b, toN (and a b) = toN a &&& toN b
  h_or : ∀ a b, toN (or a b) = toN a ||| toN b
  h_xor : ∀ a b, toN (xor a b) = toN a ^^^ toN b
  h_div : ∀ a b, toN (div a b) = toN a / toN b
  h_mod : ∀ a b, toN (mod a b) = toN a % toN b
  h_eq : ∀ a b, eq a b = (toN a == toN b)
  h_lt : ∀ a b, ltb a b = decide (toN a < toN b)
  h_le : ∀ a b, leb a b = decide (toN a ≤ toN b)

instance : UN UInt8 where
  bits := 8
  toN := UInt8.toNat
  ofN := UInt8.ofNat
  lt := fun u => u.toNat_lt
  toN_ofN := fun n => by simp
  ofN_toN := fun u => by simp
  add := (· + ·)
  sub := (· - ·)
  mul := (· * ·)
  and := (· &&& ·)
  or := (· ||| ·)
  xor := (· ^^^ ·)
  div := (· / ·)
  mod := (· % ·)
  eq := fun a b => a == b
  ltb := fun a b => decide (a < b)
  leb := fun a b => decide (a ≤ b)
  h_add := fun a b => by simp
  h_sub := fun a b => by simp [UInt8.toNat_sub]
  h_mul := fun a b => by simp
  h_and := fun a b => by simp
  h_or := fun a b => by simp
  h_xor := fun a b => by simp
  h_div := fun a b => by simp
  h_mod := fun a b => by simp
  h_eq := fun a b => by rw [Bool.eq_iff_iff]; simp [← UInt8.toNat_inj]
  h_lt := fun a b => by simp [UInt8.lt_iff_toNat_lt]
  h_le := fun a b => by simp [UInt8.le_iff_toNat_le]

instance : UN UInt16 where
  bits := 16
  toN := UInt16.toNat
  ofN := UInt16.ofNat
  lt := fun u => u.toNat_lt
  toN_ofN := fun n => by simp
  ofN_toN := fun u => by simp
  add := (· + ·)
  sub := (· - ·)
  mul := (· * ·)
  and := (· &&& ·)
  or := (· ||| ·)
  xor := (· ^^^ ·)
  div := (· / ·)
  mod := (· % ·)
  eq := fun a b => a == b
  ltb := fun a b => decide (a < b)
  leb := fun a b => decide (a ≤ b)
  h_add := fun a b => by simp
  h_sub := fun a b => by simp [UInt16.toNat_sub]
  h_mul := fun a b => by simp
  h_and := fun a b => by simp
  h_or := fun a b => by simp
  h_xor := fun a b => by simp
  h_div := fun a b => by simp
  h_mod := fun a b => by simp
  h_eq := fun a b => by rw [Bool.eq_iff_iff]; simp [← UInt16.toNat_inj]
  h_lt := fun a b => by simp [UInt16.lt_iff_toNat_lt]
  h_le := fun a b => by simp [UInt16.le_iff_toNat_le]

instance : UN UInt32 where
  bits := 32
  toN := UInt32.toNat
  ofN := UInt32.ofNat
  lt := fun u => u.toNat_lt
  toN_ofN := fun n => by simp
  ofN_toN := fun u => by simp
  add := (· + ·)
  sub := (· - ·)
  mul := (· * ·)
  and := (· &&& ·)
  or := (· ||| ·)
  xor := (· ^^^ ·)
  div := (· / ·)
  mod := (· % ·)
  eq := fun a b => a == b
  ltb := fun a b => decide (a < b)
  leb := fun a b => decide (a ≤ b)
  h_add := fun a b => by simp
  h_sub := fun a b => by simp [UInt32.toNat_sub]
  h_mul := fun a b => by simp
  h_and := fun a b => by simp
  h_or := fun a b => by simp
  h_xor := fun a b => by simp
  h_div := fun a b => by simp
  h_mod := fun a b => by simp
  h_eq := fun a b => by rw [Bool.eq_iff_iff]; simp [← UInt32.toNat_inj]
  h_lt := fun a b => by simp [UInt32.lt_iff_toNat_lt]
  h_le := fun a b => by simp [UInt32.le_iff_toNat_le]

instance : UN UInt64 where
  bits := 64
  toN := UInt64.toNat
  ofN := UInt64.ofNat
  lt := fun u => u.toNat_lt
  toN_ofN := fun n => by simp
  ofN_toN := fun u => by simp
  add := (· + ·)
  sub := (· - ·)
  mul := (· * ·)
  and := (· &&& ·)
  or := (· ||| ·)
  xor := (· ^^^ ·)
  div := (· / ·)
  mod := (· % ·)
  eq := fun a b => a == b
  ltb := fun a b => decide (a < b)
  leb := fun a b => decide (a ≤ b)
  h_add := fun a b => by simp
  h_sub := fun a b => by simp [UInt64.toNat_sub]
  h_mul := fun a b => by simp
  h_and := fun a b => by simp
  h_or := fun a b => by simp
  h_xor := fun a b => by simp
  h_div := fun a b => by simp
  h_mod := fun a b => by simp
  h_eq := fun a b => by rw [Bool.eq_iff_iff]; simp [← UInt64.toNat_inj]
  h_lt := fun a b => by simp [UInt64.lt_iff_toNat_lt]
  h_le := fun a b => by simp [UInt64.le_iff_toNat_le]

theorem UN.inj {U : Type} [UN U] {a b : U} (h : UN.toN a = UN.toN b) : a = b := by rw [← UN.ofN_toN a, h, UN.ofN_toN]
def UN.not {U : Type} [UN U] (x : U) : U := UN.ofN (2 ^ UN.bits U - 1 - UN.toN x)
abbrev lt1 {α β : Type} (e : α) (K : α → Option β) : Option β := K e
theorem Za2 {α β : Type} {e : α} {K : α → Option β} {r : β} (h : lt1 e K = some r) : ∃ v, e = v ∧ K v = some r := ⟨_, rfl, h⟩
def modI (m n : Int) : Option Int := if n = 0 then none else some (m.tmod n)
def idxL {T : Type} (xs : List T) (i : Int) : Option T := if 0 ≤ i then xs[i.toNat]? else none
theorem Zg5 {T : Type} {xs : List T} {i : Int} {u : T} (h : idxL xs i = some u) : 0 ≤ i ∧ ∃ h : i.toNat < xs.length, xs[i.toNat] = u := by
  unfold idxL at h
  split at h
  · exact ⟨by assumption, List.getElem?_eq_some_iff.1 h⟩
  · cases h
def subL {T : Type} (xs : List T) (l h : Int) : Option (List T) := if 0 ≤ l ∧ l ≤ h ∧ h ≤ xs.length then some ((xs.drop l.toNat).take (h.toNat - l.toNat)) else none
theorem Zg4 {T : Type} {xs u : List T} {l h : Int} (k : subL xs l h = some u) : (0 ≤ l ∧ l ≤ h ∧ h ≤ xs.length) ∧ (xs.drop l.toNat).take (h.toNat - l.toNat) = u := by
  unfold subL at k
  split at k
  · rename_i hc; exact ⟨hc, by simpa using k⟩
  · cases k
def apL {T : Type} (bytes : Nat) (xs ys : List T) : Option (List T) := if (xs.length + ys.length) * bytes ≤ 140737488355328 then some (xs ++ ys) else none
theorem Zek {T : Type} {bytes : Nat} {xs ys u : List T} (h : apL bytes xs ys = some u) : (xs.length + ys.length) * bytes ≤ 140737488355328 ∧ xs ++ ys = u := by
  unfold apL at h
  split at h
  · rename_i hc; exact ⟨hc, by simpa using h⟩
  · cases h
def mkL {T : Type} (bytes : Nat) (n : Int) (x0 : T) : Option (List T) := if 0 ≤ n ∧ n.toNat * bytes ≤ 281474976710656 ∧ n ≤ 9223372036854775807 then some (List.replicate n.toNat x0) else none
theorem ZjG {T : Type} {bytes : Nat} {n : Int} {x0 : T} {u : List T} (h : mkL bytes n x0 = some u) : (0 ≤ n ∧ n.toNat * bytes ≤ 281474976710656 ∧ n ≤ 9223372036854775807) ∧ List.replicate n.toNat x0 = u := by
  unfold mkL at h
  split at h
  · rename_i hc; exact ⟨hc, by simpa using h⟩
  · cases h
def inO {T : Type} (xs : List T) (i : Int) : Option Nat := if 0 ≤ i ∧ i.toNat < xs.length then some i.toNat else none
theorem ZjX {T : Type} {xs : List T} {i : Int} {n : Nat} (h : inO xs i = some n) : 0 ≤ i ∧ i.toNat < xs.length ∧ i.toNat = n := by
  unfold inO at h
  split at h
  · rename_i h'; cases h; exact ⟨h'.1, h'.2, rfl⟩
  · cases h
def ZfP {T : Type} (xs : List T) (i : Nat) (x : T) : Option (List T) := if i < xs.length then some (xs.set i x) else none
theorem Zfj {T : Type} {xs ys : List T} {i : Nat} {x : T} (h : ZfP xs i x = some ys) : i < xs.length ∧ xs.set i x = ys := by
  unfold ZfP at h
  split at h
  · rename_i h'; cases h; exact ⟨h', rfl⟩
  · cases h
def minI (x y : Int) : Int := if y < x then y else x
def maxI (x y : Int) : Int := if y > x then y else x
def Zcl {σ τ : Type} (body : σ → Option (σ ⊕ τ)) : Nat → σ → Option τ
  | 0, _ => none
  | k + 1, s => match body s with
    | none => none
    | some (.inl s') => Zcl body k s'
    | some (.inr t) => some t
theorem ZdO {σ τ : Type} {body : σ → Option (σ ⊕ τ)} {k : Nat} {s s' : σ} (h : body s = some (.inl s')) : Zcl body (k + 1) s = Zcl body k s' := by simp [Zcl, h]
theorem ZdR {σ τ : Type} {body : σ → Option (σ ⊕ τ)} {k : Nat} {s : σ} {t : τ} (h : body s = some (.inr t)) : Zcl body (k + 1) s = some t := by simp [Zcl, h]
def mpos {K V : Type} [DecidableEq K] (k : K) : List (K × V) → Option Nat
  | [] => none
  | p :: r => if k = p.1 then some 0 else (mpos k r).map (· + 1)
def mget {K V : Type} [DecidableEq K] (k : K) (l : List (K × V)) : Option V := (mpos k l).bind fun i => (l[i]?).map (·.2)
def mput {K V : Type} [DecidableEq K] (k : K) (v : V) (l : List (K × V)) : List (K × V) := match mpos k l with | some i => l.set i (k, v) | none => l ++ [(k, v)]
def mdel {K V : Type} [DecidableEq K] (k : K) (l : List (K × V)) : List (K × V) := match mpos k l with | some i => l.eraseIdx i | none => l
def ZbF {K V : Type} [DecidableEq K] (x : Option (List (K × V))) (k : K) : Option V := x.bind (mget k)
def ZfF {K V : Type} [DecidableEq K] (x : Option (List (K × V))) (k : K) (v : V) : Option (Option (List (K × V))) := match x with | some l => some (some (mput k v l)) | none => none
def Zgw {K V : Type} [DecidableEq K] (x : Option (List (K × V))) (k : K) : Option (List (K × V)) := x.map (mdel k)
def ZdX {E σ τ : Type} (body : σ → E → Option (σ ⊕ τ)) (fin : σ → Option τ) : List E → σ → Option τ
  | [], s => fin s
  | e :: l, s => match body s e with
    | none => none
    | some (.inl s') => ZdX body fin l s'
    | some (.inr t) => some t
theorem ZfG {E σ τ : Type} (l0 : List E) (body : σ → E → Option (σ ⊕ τ)) (fin : σ → Option τ) (s : σ) : ∃ o : Option τ, (∀ r, o = some r → ∀ l, l.Perm l0 → ZdX body fin l s = some r) ∧ (∀ r, (∀ l, l.Perm l0 → ZdX body fin l s = some r) → o = some r) := by
  by_cases h : ∃ r, ∀ l, l.Perm l0 → ZdX body fin l s = some r
  · obtain ⟨r, hr⟩ := h
    exact ⟨some r, fun r' e => (by cases e; exact hr), fun r' h' => by rw [← hr l0 (List.Perm.refl _), h' l0 (List.Perm.refl _)]⟩
  · exact ⟨none, ⟨fun r e => (by cases e), fun r h' => absurd ⟨r, h'⟩ h⟩⟩
noncomputable def ZfQ {E σ τ : Type} (l0 : List E) (body : σ → E → Option (σ ⊕ τ)) (fin : σ → Option τ) (s : σ) : Option τ := Classical.choose (ZfG l0 body fin s)
theorem Zhr {E σ τ : Type} {l0 : List E} {body : σ → E → Option (σ ⊕ τ)} {fin : σ → Option τ} {s : σ} {r : τ} (h : ZfQ l0 body fin s = some r) : ∀ l, l.Perm l0 → ZdX body fin l s = some r := (Classical.choose_spec (ZfG l0 body fin s)).1 r h
theorem Zhl {E σ τ : Type} {l0 : List E} {body : σ → E → Option (σ ⊕ τ)} {fin : σ → Option τ} {s : σ} {r : τ} (h : ∀ l, l.Perm l0 → ZdX body fin l s = some r) : ZfQ l0 body fin s = some r := (Classical.choose_spec (ZfG l0 body fin s)).2 r h
noncomputable def Zec {α : Type} (l : List α) : List α := @Classical.epsilon (List α) ⟨[]⟩ fun m => l.Perm m
theorem ZdN {α : Type} (l : List α) : l.Perm (Zec l) := @Classical.epsilon_spec_aux (List α) ⟨[]⟩ (fun m => l.Perm m) ⟨l, List.Perm.refl l⟩
theorem ZjV {α : Type} {l m : List α} (h : l.Perm m) : Zec l = Zec m := by
  have : (fun x => l.Perm x) = fun x => m.Perm x := funext fun x => propext ⟨fun k => h.symm.trans k, fun k => h.trans k⟩
  unfold Zec
  rw [this]
def yldO {σ τ α : Type} (Y : σ → α → Option (σ ⊕ τ)) : σ ⊕ τ → α → Option (σ ⊕ τ)
  | .inl s, a => Y s a
  | .inr _, _ => none
def Zhx (o n : Nat) (l h : Int) : Option (Nat × Nat) := if 0 ≤ l ∧ l ≤ h ∧ h ≤ n then some (o + l.toNat, h.toNat - l.toNat) else none
def ZhF {T : Type} (xs : List T) (o n : Nat) : Option (List T) := if n = 0 then some [] else if o + n ≤ xs.length then some ((xs.drop o).take n) else none
def apV {T : Type} (bytes : Nat) (xs vs : List T) (o n : Nat) : Option (List T) := Option.bind (ZhF vs o n) fun ys => apL bytes xs ys
end Go.Proofs.Ytipchpbcjkhnaaa.Fw
