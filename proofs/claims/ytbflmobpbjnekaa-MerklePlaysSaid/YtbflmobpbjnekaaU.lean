/- A code by a secret, alike; hashes and codes, computed. -/
import Derived.Test.YtbflmobpbjnekaaH
namespace Go.Proofs.Ytbflmobpbjnekaa
open Go Fw
set_option linter.unusedVariables false
set_option linter.unusedSimpArgs false

theorem subL_all {T : Type} {n : Nat} (v : Vector T n) : subL v.toList 0 (n : Int) = some v.toList := by
  rw [subL_ok (by omega) (by omega) (by simp)]
  simp only [Int.toNat_zero, List.drop_zero, Int.toNat_natCast, Nat.sub_zero]
  rw [List.take_of_length_le (by simp)]
theorem refSumK {k : Nat} (hk : k = 4000) (m : List UInt8) (h : m.length ≤ 200000) : ref03_Sum k m = some (SHA m) := by rw [hk]; exact refSum m h
/-- A secret as a key of 64 bytes. -/
noncomputable def key0 (s : List UInt8) : List UInt8 := if s.length > 64 then (SHA s).toList else s
noncomputable def key (s : List UInt8) : List UInt8 := key0 s ++ List.replicate (64 - (key0 s).length) 0
/-- A number, computed first. -/
def frc {α : Type} (n : Nat) (f : Nat → α) : α := match n with
  | 0 => f 0
  | .succ m => f (.succ m)
theorem frc_eq {α : Type} (n : Nat) (f : Nat → α) : frc n f = f n := by cases n <;> rfl
def rrN (x n : Nat) : Nat := Nat.lor (Nat.div x (Nat.pow 2 n)) (Nat.mod (Nat.mul x (Nat.pow 2 (Nat.sub 32 n))) 4294967296)
def x3N (x a b c : Nat) : Nat := Nat.xor (Nat.xor (rrN x a) (rrN x b)) (rrN x c)
def s3N (x a b c : Nat) : Nat := Nat.xor (Nat.xor (rrN x a) (rrN x b)) (Nat.div x (Nat.pow 2 c))
def ad (a b : Nat) : Nat := Nat.mod (Nat.add a b) 4294967296
def rnN : List Nat → List Nat → Nat → Nat → Nat → Nat → Nat → Nat → Nat → Nat → List Nat
  | k :: ks, w :: ws, a, b, c, d, e, f, g, h =>
    frc (ad (ad (ad (ad h (x3N e 6 11 25)) (Nat.xor (Nat.land e f) (Nat.land (Nat.sub 4294967295 e) g))) k) w) fun t =>
    frc (ad t (ad (x3N a 2 13 22) (Nat.xor (Nat.xor (Nat.land a b) (Nat.land a c)) (Nat.land b c)))) fun a' =>
    frc (ad d t) fun e' => rnN ks ws a' a b c e' e f g
  | _, _, a, b, c, d, e, f, g, h => [a, b, c, d, e, f, g, h]
def wN : Nat → List Nat → List Nat
  | 0, l => l
  | .succ n, l => frc (ad (ad (ad (l.getD 15 0) (s3N (l.getD 14 0) 7 18 3)) (l.getD 6 0)) (s3N (l.getD 1 0) 17 19 10)) fun x => wN n (x :: l)

theorem toNat32 (n : Nat) (h : n < 4294967296) : (UInt32.ofNat n).toNat = n := UInt32.toNat_ofNat_of_lt' h
theorem shr_toNat (x : UInt32) (n : Nat) (h : n ≤ 32) : (UN.shr x n).toNat = x.toNat / 2 ^ n := by
  show (UInt32.ofNat (x.toNat / 2 ^ (min n 32))).toNat = _
  rw [Nat.min_eq_left h, toNat32 _ (Nat.lt_of_le_of_lt (Nat.div_le_self _ _) x.toNat_lt)]
theorem shl_toNat (x : UInt32) (n : Nat) (h : n ≤ 32) : (UN.shl x n).toNat = x.toNat * 2 ^ n % 4294967296 := by
  show (UInt32.ofNat (x.toNat * 2 ^ (min n 32))).toNat = _
  rw [Nat.min_eq_left h, UInt32.toNat_ofNat']
theorem rr_toNat (x : UInt32) (n : Nat) (h : n ≤ 32) : (rr x n).toNat = rrN x.toNat n := by
  show (UN.shr x n ||| UN.shl x (32 - n)).toNat = _
  rw [UInt32.toNat_or, shr_toNat x n h, shl_toNat x _ (by omega)]
  rfl
theorem ad_toNat (x y : UInt32) : (x + y).toNat = ad x.toNat y.toNat := UInt32.toNat_add x y
theorem not_toNat (x : UInt32) : (UN.not x).toNat = 4294967295 - x.toNat := by
  show (UInt32.ofNat (2 ^ 32 - 1 - x.toNat)).toNat = _
  rw [toNat32 _ (by omega)]
theorem x3_toNat (x : UInt32) (a b c : Nat) (ha : a ≤ 32) (hb : b ≤ 32) (hc : c ≤ 32) : (rr x a ^^^ rr x b ^^^ rr x c).toNat = x3N x.toNat a b c := by
  rw [UInt32.toNat_xor, UInt32.toNat_xor, rr_toNat x a ha, rr_toNat x b hb, rr_toNat x c hc]; rfl
theorem s3_toNat (x : UInt32) (a b c : Nat) (ha : a ≤ 32) (hb : b ≤ 32) (hc : c ≤ 32) : (rr x a ^^^ rr x b ^^^ UN.shr x c).toNat = s3N x.toNat a b c := by
  rw [UInt32.toNat_xor, UInt32.toNat_xor, rr_toNat x a ha, rr_toNat x b hb, shr_toNat x c hc]; rfl
def l8 (s : H8) : List Nat := [s.1.toNat, s.2.1.toNat, s.2.2.1.toNat, s.2.2.2.1.toNat, s.2.2.2.2.1.toNat, s.2.2.2.2.2.1.toNat, s.2.2.2.2.2.2.1.toNat, s.2.2.2.2.2.2.2.toNat]
def rnNS (ks ws : List Nat) (s : H8) : List Nat := rnN ks ws s.1.toNat s.2.1.toNat s.2.2.1.toNat s.2.2.2.1.toNat s.2.2.2.2.1.toNat s.2.2.2.2.2.1.toNat s.2.2.2.2.2.2.1.toNat s.2.2.2.2.2.2.2.toNat
theorem rnNS_cons (k w : UInt32) (ks ws : List Nat) (s : H8) : rnNS (k.toNat :: ks) (w.toNat :: ws) s = rnNS ks ws (rnd k w s) := by
  obtain ⟨a, b, c, d, e, f, g, h⟩ := s
  simp only [rnNS, rnN, frc_eq, rnd, ad_toNat, x3_toNat _ 6 11 25 (by omega) (by omega) (by omega), x3_toNat _ 2 13 22 (by omega) (by omega) (by omega), UInt32.toNat_xor, UInt32.toNat_and, not_toNat]
  rfl
theorem rnNS_all (kc w : List UInt32) (s0 : H8) (n : Nat) (hk : kc.length = n) (hw : w.length = n) : rnNS (kc.map UInt32.toNat) (w.map UInt32.toNat) s0 = l8 (rn kc w s0 n) := by
  have key : ∀ m i, i + m = n → rnNS ((kc.drop i).map UInt32.toNat) ((w.drop i).map UInt32.toNat) (rn kc w s0 i) = l8 (rn kc w s0 n) := by
    intro m
    induction m with
    | zero =>
      intro i hi
      rw [List.drop_of_length_le (by omega), List.drop_of_length_le (by omega), show i = n by omega]
      rfl
    | succ m ih =>
      intro i hi
      rw [List.drop_eq_getElem_cons (show i < kc.length by omega), List.drop_eq_getElem_cons (show i < w.length by omega), List.map_cons, List.map_cons, rnNS_cons]
      have h1 := rn_succ kc w s0 i
      rw [List.getD_eq_getElem?_getD, List.getD_eq_getElem?_getD, List.getElem?_eq_getElem (show i < kc.length by omega), List.getElem?_eq_getElem (show i < w.length by omega)] at h1
      rw [← ih (i + 1) (by omega), h1]
      rfl
  have := key n 0 (by omega)
  rw [rn_zero] at this
  exact this
theorem getD_rev (l : List UInt32) (j : Nat) (h : j < l.length) : ((l.map UInt32.toNat).reverse).getD j 0 = (l.getD (l.length - 1 - j) 0).toNat := by
  have h1 : l.length - 1 - j < l.length := by omega
  rw [List.getD_eq_getElem?_getD, List.getD_eq_getElem?_getD, List.getElem?_reverse (by simpa using h), List.length_map, List.getElem?_map, List.getElem?_eq_getElem h1]
  rfl
theorem wN_all (b : List UInt8) : ∀ n i, 16 ≤ i → wN n (((wl b i).map UInt32.toNat).reverse) = ((wl b (i + n)).map UInt32.toNat).reverse := by
  intro n
  induction n with
  | zero => intro i _; rfl
  | succ n ih =>
    intro i hi
    have hl := wl_len b i
    have hs := wl_succ b i
    rw [if_neg (by omega)] at hs
    simp only [wN, frc_eq]
    rw [getD_rev _ 15 (by omega), getD_rev _ 14 (by omega), getD_rev _ 6 (by omega), getD_rev _ 1 (by omega), hl, ← s3_toNat _ 7 18 3 (by omega) (by omega) (by omega), ← s3_toNat _ 17 19 10 (by omega) (by omega) (by omega), ← ad_toNat, ← ad_toNat, ← ad_toNat]
    rw [show i + (n + 1) = i + 1 + n by omega, ← ih (i + 1) (by omega), hs]
    simp only [List.map_append, List.map_cons, List.map_nil, List.reverse_append, List.reverse_cons, List.reverse_nil, List.nil_append, List.cons_append]
    unfold nextw
    rw [show i - 1 - 15 = i - 16 by omega, show i - 1 - 14 = i - 15 by omega, show i - 1 - 6 = i - 7 by omega, show i - 1 - 1 = i - 2 by omega]

/-- The sixteen words of a block, the last one first. -/
def wdsN : Nat → List Nat → List Nat → List Nat
  | .succ n, a :: b :: c :: d :: r, l => frc (Nat.add (Nat.mul (Nat.add (Nat.mul (Nat.add (Nat.mul a 256) b) 256) c) 256) d) fun x => wdsN n r (x :: l)
  | _, _, l => l
theorem wdsN_all (b : List UInt8) (hb : b.length = 64) : ∀ n i, i + n = 16 → wdsN n ((b.drop (4 * i)).map UInt8.toNat) (((wl b i).map UInt32.toNat).reverse) = ((wl b 16).map UInt32.toNat).reverse := by
  intro n
  induction n with
  | zero => intro i hi; rw [show i = 16 by omega]; simp [wdsN]
  | succ n ih =>
    intro i hi
    have hs := wl_succ b i
    rw [if_pos (by omega)] at hs
    have e : b.drop (4 * i) = b[4 * i] :: b[4 * i + 1] :: b[4 * i + 2] :: b[4 * i + 3] :: b.drop (4 * (i + 1)) := by
      rw [List.drop_eq_getElem_cons (by omega), List.drop_eq_getElem_cons (by omega), List.drop_eq_getElem_cons (by omega), List.drop_eq_getElem_cons (by omega)]
      rfl
    have hw : word b i = UInt32.ofNat (((b[4 * i].toNat * 256 + b[4 * i + 1].toNat) * 256 + b[4 * i + 2].toNat) * 256 + b[4 * i + 3].toNat) := by
      unfold word
      rw [e]
      simp [getB]
    have h1 := b[4 * i].toNat_lt
    have h2 := b[4 * i + 1].toNat_lt
    have h3 := b[4 * i + 2].toNat_lt
    have h4 := b[4 * i + 3].toNat_lt
    have h5 : (word b i).toNat = ((b[4 * i].toNat * 256 + b[4 * i + 1].toNat) * 256 + b[4 * i + 2].toNat) * 256 + b[4 * i + 3].toNat := by rw [hw, toNat32 _ (by omega)]
    rw [← ih (i + 1) (by omega), hs, e]
    simp only [List.map_cons, wdsN, frc_eq, List.map_append, List.map_nil, List.reverse_append, List.reverse_cons, List.reverse_nil, List.nil_append, List.cons_append, h5]
    rfl
def add8 : List Nat → List Nat → List Nat
  | a :: l, b :: r => frc (ad a b) fun x => x :: add8 l r
  | _, _ => []
def rn8 (kc w : List Nat) : List Nat → List Nat
  | [a, b, c, d, e, f, g, h] => rnN kc w a b c d e f g h
  | _ => []
/-- A block, pressed. -/
def prsN (kc h blk : List Nat) : List Nat := add8 h (rn8 kc (wN 48 (wdsN 16 blk [])).reverse h)
def nat8 (h : Vector UInt32 8) : List Nat := h.toList.map UInt32.toNat
theorem nat8_eq (h : Vector UInt32 8) : nat8 h = l8 (h8 h) := by
  obtain ⟨⟨l⟩, hl⟩ := h
  match l, hl with
  | [a, b, c, d, e, f, g, x], _ => rfl
theorem add8_eq (s t : H8) : add8 (l8 s) (l8 t) = l8 (s.1 + t.1, s.2.1 + t.2.1, s.2.2.1 + t.2.2.1, s.2.2.2.1 + t.2.2.2.1, s.2.2.2.2.1 + t.2.2.2.2.1, s.2.2.2.2.2.1 + t.2.2.2.2.2.1, s.2.2.2.2.2.2.1 + t.2.2.2.2.2.2.1, s.2.2.2.2.2.2.2 + t.2.2.2.2.2.2.2) := by
  simp only [l8, add8, frc_eq, ad_toNat]
theorem nat8_add (h : Vector UInt32 8) (t : H8) : add8 (nat8 h) (l8 t) = nat8 (addV h (v8 t)) := by
  rw [nat8_eq, nat8_eq, add8_eq]
  simp only [h8, addV, Vector.getElem_ofFn]
  rfl
theorem prsN_eq (kc : List UInt32) (hkc : kc.length = 64) (h : Vector UInt32 8) (a : List UInt8) (ha : a.length = 64) : prsN (kc.map UInt32.toNat) (nat8 h) (a.map UInt8.toNat) = nat8 (prs kc h a) := by
  have h1 := wdsN_all a ha 16 0 (by omega)
  rw [wl_zero] at h1
  have h1 : wdsN 16 (a.map UInt8.toNat) [] = ((wl a 16).map UInt32.toNat).reverse := h1
  have h2 := wN_all a 48 16 (by omega)
  have h3 := rnNS_all kc (wl a 64) (h8 h) 64 hkc (wl_len a 64)
  unfold prsN
  rw [h1, h2, List.reverse_reverse]
  have h4 : rn8 (kc.map UInt32.toNat) ((wl a (16 + 48)).map UInt32.toNat) (nat8 h) = l8 (rn kc (wl a 64) (h8 h) 64) := by
    rw [nat8_eq, ← h3]
    rfl
  rw [h4]
  exact nat8_add h _
/-- The bytes of eight words. -/
def byN : List Nat → List Nat
  | [] => []
  | a :: l => Nat.mod (Nat.div a 16777216) 256 :: Nat.mod (Nat.div a 65536) 256 :: Nat.mod (Nat.div a 256) 256 :: Nat.mod a 256 :: byN l
/-- Blocks, pressed. -/
def bkN (kc : List Nat) : Nat → List Nat → List Nat → List Nat
  | 0, h, _ => h
  | .succ n, h, m => bkN kc n (prsN kc h (m.take 64)) (m.drop 64)
theorem bkN_eq (kc : List UInt32) (hkc : kc.length = 64) (m : List UInt8) (h : Vector UInt32 8) (q : Nat) (hm : m.length = 64 * q) : bkN (kc.map UInt32.toNat) q (nat8 h) (m.map UInt8.toNat) = nat8 (bk kc m h q) := by
  have key : ∀ n i, i + n = q → bkN (kc.map UInt32.toNat) n (nat8 (bk kc m h i)) ((m.drop (64 * i)).map UInt8.toNat) = nat8 (bk kc m h q) := by
    intro n
    induction n with
    | zero => intro i hi; rw [show i = q by omega]; rfl
    | succ n ih =>
      intro i hi
      have h1 := prsN_eq kc hkc (bk kc m h i) ((m.drop (64 * i)).take 64) (by rw [List.length_take, List.length_drop, hm]; omega)
      rw [← ih (i + 1) (by omega), bk_succ, ← h1]
      show bkN _ n _ _ = _
      rw [← List.map_take, ← List.map_drop, List.drop_drop]
      rfl
  have := key q 0 (by omega)
  rw [bk_zero] at this
  exact this
/-- A message's padding. -/
def padN (m : List Nat) (n : Nat) : List Nat := m ++ (128 :: List.replicate (padZ n) 0) ++ [0, 0, 0, 0, Nat.mod (Nat.div n 2097152) 256, Nat.mod (Nat.div n 8192) 256, Nat.mod (Nat.div n 32) 256, Nat.mod (Nat.mul n 8) 256]
theorem padN_eq (m : List UInt8) (h : m.length ≤ 1000000) : padN (m.map UInt8.toNat) m.length = (padded m).map UInt8.toNat := by
  have hp : (put (m.length * 8) 8).map UInt8.toNat = [0, 0, 0, 0, m.length / 2097152 % 256, m.length / 8192 % 256, m.length / 32 % 256, m.length * 8 % 256] := by
    have e : List.range 8 = [0, 1, 2, 3, 4, 5, 6, 7] := by decide
    have z : ∀ d, 1099511627776 ≤ d * 256 * 256 → (m.length * 8 / d % 256 = 0 → True) := fun _ _ _ => trivial
    simp only [put, e, List.map_cons, List.map_nil, UInt8.toNat_ofNat', Nat.reducePow, Nat.reduceSub, List.cons.injEq, and_true]
    omega
  simp only [padN, padded, List.map_append, hp, List.map_replicate]
  simp
  exact ⟨rfl, rfl, rfl, rfl⟩
def shaW (h kc : List Nat) (m : List Nat) (n : Nat) : List Nat := byN (bkN kc (Nat.div (Nat.add (Nat.add (Nat.add n 1) (padZ n)) 8) 64) h (padN m n))
theorem byN_eq (h : Vector UInt32 8) : byN (nat8 h) = (outV h).toList.map UInt8.toNat := by
  have key : ∀ (x : UInt32), (UN.to (UN.shr x 24) : UInt8).toNat = x.toNat / 16777216 % 256 ∧ (UN.to (UN.shr x 16) : UInt8).toNat = x.toNat / 65536 % 256 ∧ (UN.to (UN.shr x 8) : UInt8).toNat = x.toNat / 256 % 256 ∧ (UN.to (UN.shr x 0) : UInt8).toNat = x.toNat % 256 := by
    intro x
    have k1 : ∀ n, n ≤ 32 → (UN.to (UN.shr x n) : UInt8).toNat = x.toNat / 2 ^ n % 256 := fun n hn => by
      show (UInt8.ofNat (UN.shr x n).toNat).toNat = _
      rw [UInt8.toNat_ofNat', shr_toNat x n hn]
    refine ⟨k1 24 (by omega), k1 16 (by omega), k1 8 (by omega), ?_⟩
    have := k1 0 (by omega)
    rwa [Nat.pow_zero, Nat.div_one] at this
  obtain ⟨⟨l⟩, hl⟩ := h
  match l, hl with
  | [a, b, c, d, e, f, g, x], _ =>
    have ka := key a; have kb := key b; have kc := key c; have kd := key d; have ke := key e; have kf := key f; have kg := key g; have kx := key x
    have e1 : byN (nat8 ⟨⟨[a, b, c, d, e, f, g, x]⟩, by assumption⟩) = [a.toNat / 16777216 % 256, a.toNat / 65536 % 256, a.toNat / 256 % 256, a.toNat % 256, b.toNat / 16777216 % 256, b.toNat / 65536 % 256, b.toNat / 256 % 256, b.toNat % 256, c.toNat / 16777216 % 256, c.toNat / 65536 % 256, c.toNat / 256 % 256, c.toNat % 256, d.toNat / 16777216 % 256, d.toNat / 65536 % 256, d.toNat / 256 % 256, d.toNat % 256, e.toNat / 16777216 % 256, e.toNat / 65536 % 256, e.toNat / 256 % 256, e.toNat % 256, f.toNat / 16777216 % 256, f.toNat / 65536 % 256, f.toNat / 256 % 256, f.toNat % 256, g.toNat / 16777216 % 256, g.toNat / 65536 % 256, g.toNat / 256 % 256, g.toNat % 256, x.toNat / 16777216 % 256, x.toNat / 65536 % 256, x.toNat / 256 % 256, x.toNat % 256] := rfl
    have e2 : [(UN.to (UN.shr a 24) : UInt8).toNat, (UN.to (UN.shr a 16) : UInt8).toNat, (UN.to (UN.shr a 8) : UInt8).toNat, (UN.to (UN.shr a 0) : UInt8).toNat, (UN.to (UN.shr b 24) : UInt8).toNat, (UN.to (UN.shr b 16) : UInt8).toNat, (UN.to (UN.shr b 8) : UInt8).toNat, (UN.to (UN.shr b 0) : UInt8).toNat, (UN.to (UN.shr c 24) : UInt8).toNat, (UN.to (UN.shr c 16) : UInt8).toNat, (UN.to (UN.shr c 8) : UInt8).toNat, (UN.to (UN.shr c 0) : UInt8).toNat, (UN.to (UN.shr d 24) : UInt8).toNat, (UN.to (UN.shr d 16) : UInt8).toNat, (UN.to (UN.shr d 8) : UInt8).toNat, (UN.to (UN.shr d 0) : UInt8).toNat, (UN.to (UN.shr e 24) : UInt8).toNat, (UN.to (UN.shr e 16) : UInt8).toNat, (UN.to (UN.shr e 8) : UInt8).toNat, (UN.to (UN.shr e 0) : UInt8).toNat, (UN.to (UN.shr f 24) : UInt8).toNat, (UN.to (UN.shr f 16) : UInt8).toNat, (UN.to (UN.shr f 8) : UInt8).toNat, (UN.to (UN.shr f 0) : UInt8).toNat, (UN.to (UN.shr g 24) : UInt8).toNat, (UN.to (UN.shr g 16) : UInt8).toNat, (UN.to (UN.shr g 8) : UInt8).toNat, (UN.to (UN.shr g 0) : UInt8).toNat, (UN.to (UN.shr x 24) : UInt8).toNat, (UN.to (UN.shr x 16) : UInt8).toNat, (UN.to (UN.shr x 8) : UInt8).toNat, (UN.to (UN.shr x 0) : UInt8).toNat] = [a.toNat / 16777216 % 256, a.toNat / 65536 % 256, a.toNat / 256 % 256, a.toNat % 256, b.toNat / 16777216 % 256, b.toNat / 65536 % 256, b.toNat / 256 % 256, b.toNat % 256, c.toNat / 16777216 % 256, c.toNat / 65536 % 256, c.toNat / 256 % 256, c.toNat % 256, d.toNat / 16777216 % 256, d.toNat / 65536 % 256, d.toNat / 256 % 256, d.toNat % 256, e.toNat / 16777216 % 256, e.toNat / 65536 % 256, e.toNat / 256 % 256, e.toNat % 256, f.toNat / 16777216 % 256, f.toNat / 65536 % 256, f.toNat / 256 % 256, f.toNat % 256, g.toNat / 16777216 % 256, g.toNat / 65536 % 256, g.toNat / 256 % 256, g.toNat % 256, x.toNat / 16777216 % 256, x.toNat / 65536 % 256, x.toNat / 256 % 256, x.toNat % 256] := by simp only [ka.1, ka.2.1, ka.2.2.1, ka.2.2.2, kb.1, kb.2.1, kb.2.2.1, kb.2.2.2, kc.1, kc.2.1, kc.2.2.1, kc.2.2.2, kd.1, kd.2.1, kd.2.2.1, kd.2.2.2, ke.1, ke.2.1, ke.2.2.1, ke.2.2.2, kf.1, kf.2.1, kf.2.2.1, kf.2.2.2, kg.1, kg.2.1, kg.2.2.1, kg.2.2.2, kx.1, kx.2.1, kx.2.2.1, kx.2.2.2]
    rw [e1, ← e2]
    simp only [outV, Vector.toList_ofFn, List.ofFn_succ, List.ofFn_zero, outB, List.map_cons, List.map_nil]
    rfl
theorem SHA_eq (m : List UInt8) (h : m.length ≤ 200000) : (SHA m).toList.map UInt8.toNat = shaW (nat8 bg.h) (bg.k.toList.map UInt32.toNat) (m.map UInt8.toNat) m.length := by
  have h1 := bkN_eq bg.k.toList (by simp) (padded m) bg.h _ (padded_q m)
  unfold SHA shaW
  rw [← byN_eq, ← h1, padN_eq m (by omega)]
  have h2 : (padded m).length = m.length + 1 + padZ m.length + 8 := padded_len m
  rw [h2]
  rfl

theorem bg_lit : nat8 bg.h = hN ∧ bg.k.toList.map UInt32.toNat = kN := by
  have h := begun_lit
  rw [bg_sha] at h
  simp only [Option.map_some, Option.some.injEq, Prod.mk.injEq] at h
  exact h
def shaN (m : List Nat) (n : Nat) : List Nat := shaW hN kN m n
theorem SHA_lit (m : List UInt8) (h : m.length ≤ 200000) : (SHA m).toList.map UInt8.toNat = shaN (m.map UInt8.toNat) m.length := by
  rw [SHA_eq m h, bg_lit.1, bg_lit.2]; rfl
end Go.Proofs.Ytbflmobpbjnekaa
