/- Plain laws: the bytes of a number in limbs; the head of a payload. No condition. -/
import Derived.Test.YtohmmgggaegbbaaYFromMath
namespace Go.Proofs.Ytohmmgggaegbbaa
set_option linter.unusedVariables false
set_option linter.unusedSimpArgs false
theorem bitLen_div (N m : Nat) : bitLen (N / 2 ^ m) = bitLen N - m := by
  have h : ∀ j, bitLen (N / 2 ^ m) ≤ j ↔ bitLen N - m ≤ j := by
    intro j
    rw [bitLen_le, Nat.div_lt_iff_lt_mul (Nat.pow_pos (by decide)), ← Nat.pow_add, ← bitLen_le]; omega
  have h1 := (h (bitLen N - m)).2 (Nat.le_refl _)
  have h2 := (h (bitLen (N / 2 ^ m))).1 (Nat.le_refl _)
  omega
theorem limbsOf_get {N i : Nat} (h : i < (limbsOf N).length) : (limbsOf N)[i] = UInt64.ofNat (N / 2 ^ (64 * i)) := by
  simp [limbsOf, limbsN]
theorem limbsOf_top {N : Nat} (h : 0 < (limbsOf N).length) : (64 * ((limbsOf N).length - 1) + bitLen (limbsOf N)[(limbsOf N).length - 1].toNat) = bitLen N := by
  rw [limbsOf_get, UInt64.toNat_ofNat']
  have hk := length_limbsOf N
  have hN : N < 2 ^ (64 * (limbsOf N).length) := by rw [hk]; exact limbLen_le.1 (Nat.le_refl _)
  have : N / 2 ^ (64 * ((limbsOf N).length - 1)) < 2 ^ 64 := by
    rw [Nat.div_lt_iff_lt_mul (Nat.pow_pos (by decide)), ← Nat.pow_add]
    rwa [show 64 + 64 * ((limbsOf N).length - 1) = 64 * (limbsOf N).length from by omega]
  rw [Nat.mod_eq_of_lt this, bitLen_div]
  omega

theorem limbsOf_top' {N : Nat} {x : UInt64} (h : (limbsOf N)[(limbsOf N).length - 1]? = some x) : 64 * ((limbsOf N).length - 1) + bitLen x.toNat = bitLen N := by
  obtain ⟨h1, h2⟩ := List.getElem?_eq_some_iff.1 h
  rw [← h2]
  exact limbsOf_top (by omega)

/-- What has been written of so many bytes of N after k rounds. -/
def bytesSt (m N k : Nat) : List UInt8 := (bytesN m N).take k ++ List.replicate (m - k) 0
theorem length_bytesSt {m N k : Nat} (h : k ≤ m) : (bytesSt m N k).length = m := by simp [bytesSt]; omega
theorem bytesSt_succ {m N k : Nat} (h : k < m) : bytesSt m N (k + 1) = (bytesSt m N k).set k (UInt8.ofNat (N / 256 ^ (m - 1 - k))) := by
  apply List.ext_getElem
  · rw [length_bytesSt (by omega), List.length_set, length_bytesSt (by omega)]
  · intro i h1 h2
    rw [length_bytesSt (by omega)] at h1
    rw [List.getElem_set]
    by_cases hi : k = i
    · subst hi
      rw [if_pos rfl]
      simp only [bytesSt]
      rw [List.getElem_append_left (by simp; omega)]
      simp [bytesN]
    · rw [if_neg hi]
      simp only [bytesSt, List.getElem_append]
      by_cases hlt : i < k
      · simp; rw [dif_pos (by omega), dif_pos (by omega)]
      · simp; rw [dif_neg (by omega), dif_neg (by omega)]
theorem bytesSt_zero (m N : Nat) : bytesSt m N 0 = List.replicate m 0 := by simp [bytesSt]
theorem bytesSt_all (m N : Nat) : bytesSt m N m = bytesN m N := by
  simp only [bytesSt, Nat.sub_self, List.replicate_zero, List.append_nil]
  exact List.take_of_length_le (by simp)
theorem byte_of_limb {l : List UInt64} {at_ : Nat} (hq : at_ / 8 < l.length) : UInt8.ofNat (l[at_ / 8].toNat / 2 ^ (at_ % 8 * 8)) = UInt8.ofNat (v64 l / 256 ^ at_) := by
  have hlimb := limb_v64 hq
  rw [← hlimb]
  apply UInt8.toNat_inj.1
  rw [UInt8.toNat_ofNat', UInt8.toNat_ofNat']
  obtain ⟨q, r, hqr, hr⟩ : ∃ q r, at_ = 8 * q + r ∧ r < 8 := ⟨at_ / 8, at_ % 8, by omega, Nat.mod_lt _ (by decide)⟩
  have e1 : at_ / 8 = q := by omega
  have e2 : at_ % 8 = r := by omega
  rw [e1, e2, hqr, show (256 : Nat) = 2 ^ 8 from rfl, ← Nat.pow_mul, show 8 * (8 * q + r) = 64 * q + r * 8 from by omega, Nat.pow_add, ← Nat.div_div_eq_div_mul]
  generalize v64 l / 2 ^ (64 * q) = X
  have : r * 8 + 8 ≤ 64 := by omega
  rw [show (2 : Nat) ^ 64 = 2 ^ (r * 8) * 2 ^ (64 - r * 8) from by rw [← Nat.pow_add]; congr 1; omega, Nat.mod_mul_right_div_self]
  exact Nat.mod_mod_of_dvd _ (Nat.pow_dvd_pow 2 (by omega))
/-- The head of a payload of n bytes. -/
def rlpHead (base n : Nat) : List UInt8 := if n ≤ 55 then [UInt8.ofNat (base + n)] else UInt8.ofNat (base + 55 + (bytesOf n).length) :: bytesOf n
theorem v64_one (n : Nat) (h : n < 2 ^ 64) : v64 [UInt64.ofNat n] = n := by
  simp only [v64, n64, val, List.map_cons, List.map_nil, Nat.mul_zero, Nat.add_zero, UInt64.toNat_ofNat']
  exact Nat.mod_eq_of_lt h
theorem byteLen8 {n : Nat} (h : n < 2 ^ 64) : (bytesOf n).length ≤ 8 := by
  rw [length_bytesOf]; exact byteLen_le.2 (by simpa using h)

end Go.Proofs.Ytohmmgggaegbbaa
