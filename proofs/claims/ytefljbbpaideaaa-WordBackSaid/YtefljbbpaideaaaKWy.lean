/- Plain laws: shifts by bytes move bytes. No condition. -/
import Derived.Test.YtefljbbpaideaaaKWx
namespace Go.Proofs.Ytefljbbpaideaaa
set_option linter.unusedVariables false
set_option linter.unusedSimpArgs false
open Go Go.RowKit
theorem byte_mod {a j : Nat} (hj : j < 32) : a % WW / 256 ^ j % 256 = a / 256 ^ j % 256 := by
  have e : WW = 256 ^ j * 256 ^ (32 - j) := by
    rw [← Nat.pow_add, show j + (32 - j) = 32 by omega]; rfl
  rw [e, Nat.mod_mul_right_div_self, Nat.mod_mod_of_dvd]
  rw [show 32 - j = (31 - j) + 1 by omega, Nat.pow_succ]
  exact Nat.dvd_mul_left _ _
theorem getD_byte {x i : Nat} (hi : i < 32) : ((bytesN 32 x).getD i 0).toNat = x / 256 ^ (31 - i) % 256 := by
  rw [getD_bytesN hi, UInt8.toNat_ofNat', show 32 - 1 - i = 31 - i by omega]
theorem pow8 (k : Nat) : 2 ^ (8 * k) = 256 ^ k := by rw [Nat.pow_mul]
theorem shl_bytes {x k i : Nat} (hi : i < 32) : (bytesN 32 (x * 2 ^ (8 * k) % WW)).getD i 0 = if i + k < 32 then (bytesN 32 x).getD (i + k) 0 else 0 := by
  apply UInt8.toNat_inj.1
  rw [getD_byte hi, byte_mod (by omega), pow8]
  split
  · rename_i h
    rw [getD_byte h, show 31 - i = (31 - (i + k)) + k by omega, Nat.pow_add, Nat.mul_div_mul_right _ _ (Nat.pow_pos (by decide))]
  · rename_i h
    rw [show 256 ^ k = 256 * 256 ^ (k - (31 - i) - 1) * 256 ^ (31 - i) from by rw [Nat.mul_comm 256, ← Nat.pow_succ, ← Nat.pow_add]; congr 1; omega, ← Nat.mul_assoc, Nat.mul_div_cancel _ (Nat.pow_pos (by decide)), Nat.mul_left_comm, Nat.mul_mod_right]
    rfl
theorem shr_bytes {x k i : Nat} (hx : x < WW) (hi : i < 32) : (bytesN 32 (x / 2 ^ (8 * k))).getD i 0 = if k ≤ i then (bytesN 32 x).getD (i - k) 0 else 0 := by
  apply UInt8.toNat_inj.1
  rw [getD_byte hi, pow8, Nat.div_div_eq_div_mul, ← Nat.pow_add]
  split
  · rename_i h
    rw [getD_byte (by omega), show k + (31 - i) = 31 - (i - k) by omega]
  · rename_i h
    have hW : WW = 256 ^ 32 := rfl
    rw [Nat.div_eq_of_lt (Nat.lt_of_lt_of_le (hW ▸ hx) (Nat.pow_le_pow_right (by decide) (by omega)))]
    rfl
end Go.Proofs.Ytefljbbpaideaaa
