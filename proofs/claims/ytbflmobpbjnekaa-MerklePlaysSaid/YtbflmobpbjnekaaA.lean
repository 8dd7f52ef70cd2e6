/- The start and the constants: two ways to the same. -/
import Derived.Test.YtbflmobpbjnekaaFa
import Derived.Test.YtbflmobpbjnekaaFq
import Derived.Test.YtbflmobpbjnekaaS
namespace Go.Proofs.Ytbflmobpbjnekaa
open Go Fw
set_option linter.unusedVariables false
set_option linter.unusedSimpArgs false

def w64c (n : Int) : Int := (n + 9223372036854775808) % 18446744073709551616 - 9223372036854775808
theorem w64_fun : w64 = w64c := funext w64_eq
set_option maxRecDepth 100000 in
set_option maxHeartbeats 4000000 in
theorem primes_eq : sha_primes 4000 = some [2, 3, 5, 7, 11, 13, 17, 19, 23, 29, 31, 37, 41, 43, 47, 53, 59, 61, 67, 71, 73, 79, 83, 89, 97, 101, 103, 107, 109, 113, 127, 131, 137, 139, 149, 151, 157, 163, 167, 173, 179, 181, 191, 193, 197, 199, 211, 223, 227, 229, 233, 239, 241, 251, 257, 263, 269, 271, 277, 281, 283, 293, 307, 311] := by
  unfold sha_primes
  simp only [sha_primes.b1, slices_ContainsFuncuint64_uint64, slices_IndexFuncuint64_uint64, slices_IndexFuncuint64_uint64.b1, sha_primes_1, w64_fun]
  decide +kernel
set_option maxRecDepth 100000 in
set_option maxHeartbeats 4000000 in
theorem begun_same : ((sha_begun 4000).map fun s => (s.h, s.k.toList)) = ref03_begun 4000 ∧ (ref03_begun 4000).isSome = true := by
  unfold sha_begun ref03_begun
  rw [primes_eq]
  simp only [sha_begun.b1, sha_constant, sha_root, sha_root.b1, sha_constant_1, sha_cube, sha_square, math_bits_Mul64, sha_above, sha_start, sha_root'2, sha_root'2.b1, sha_start_1, ref03_begun.b1, ref03_begun.b2, ref03_root, ref03_root.b1, ref03_power, shlI, shrI, divI, w64_fun]
  decide +kernel
def hN : List Nat := [1779033703, 3144134277, 1013904242, 2773480762, 1359893119, 2600822924, 528734635, 1541459225]
def kN : List Nat := [1116352408, 1899447441, 3049323471, 3921009573, 961987163, 1508970993, 2453635748, 2870763221, 3624381080, 310598401, 607225278, 1426881987, 1925078388, 2162078206, 2614888103, 3248222580, 3835390401, 4022224774, 264347078, 604807628, 770255983, 1249150122, 1555081692, 1996064986, 2554220882, 2821834349, 2952996808, 3210313671, 3336571891, 3584528711, 113926993, 338241895, 666307205, 773529912, 1294757372, 1396182291, 1695183700, 1986661051, 2177026350, 2456956037, 2730485921, 2820302411, 3259730800, 3345764771, 3516065817, 3600352804, 4094571909, 275423344, 430227734, 506948616, 659060556, 883997877, 958139571, 1322822218, 1537002063, 1747873779, 1955562222, 2024104815, 2227730452, 2361852424, 2428436474, 2756734187, 3204031479, 3329325298]
set_option maxRecDepth 100000 in
set_option maxHeartbeats 4000000 in
theorem begun_lit : ((sha_begun 4000).map fun s => (s.h.toList.map UInt32.toNat, s.k.toList.map UInt32.toNat)) = some (hN, kN) := by
  unfold sha_begun
  rw [primes_eq]
  simp only [sha_begun.b1, sha_constant, sha_root, sha_root.b1, sha_constant_1, sha_cube, sha_square, math_bits_Mul64, sha_above, sha_start, sha_root'2, sha_root'2.b1, sha_start_1, shlU, w64_fun]
  decide +kernel
end Go.Proofs.Ytbflmobpbjnekaa
