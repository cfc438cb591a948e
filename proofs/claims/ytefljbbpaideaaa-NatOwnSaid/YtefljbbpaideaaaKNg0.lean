/- Plain laws: how many bytes numbers have. No condition. -/
import Derived.Test.YtefljbbpaideaaaKNw
namespace Go.Proofs.Ytefljbbpaideaaa
set_option linter.unusedVariables false
set_option linter.unusedSimpArgs false
theorem bytes_mono {A B : Nat} (h : A ≤ B) : (bytesOf A).length ≤ (bytesOf B).length := by
  rw [length_bytesOf, length_bytesOf]
  have := bitLen_mono h
  omega
theorem bytes_lt {X n : Nat} (h : (bytesOf X).length ≤ n) : X < 256 ^ n := byteLen_le.1 (by rw [← length_bytesOf]; exact h)
theorem bytes_be (l : List UInt8) : (bytesOf (be l)).length ≤ l.length := bytesOf_le (be_lt l)
theorem bytes_add {X Y n : Nat} (hx : (bytesOf X).length ≤ n) (hy : (bytesOf Y).length ≤ n) : (bytesOf (X + Y)).length ≤ n + 1 := by
  have h1 := bytes_lt hx
  have h2 := bytes_lt hy
  refine bytesOf_le ?_
  rw [Nat.pow_succ]
  omega
theorem bytes_mul {X Y n : Nat} (hx : (bytesOf X).length ≤ n) (hy : (bytesOf Y).length ≤ n) : (bytesOf (X * Y)).length ≤ 2 * n := by
  have h1 := bytes_lt hx
  have h2 := bytes_lt hy
  refine bytesOf_le ?_
  rw [show 2 * n = n + n by omega, Nat.pow_add]
  exact Nat.mul_lt_mul'' h1 h2
end Go.Proofs.Ytefljbbpaideaaa
