/- Plain laws: words of four limbs, their bytes and bits. No condition. -/
import Derived.Test.YtohmmgggaegbbaaYA2
import Derived.Test.YtohmmgggaegbbaaYM1
namespace Go.Proofs.Ytohmmgggaegbbaa
set_option linter.unusedVariables false
set_option linter.unusedSimpArgs false
/-- A byte is laid below what stands. -/
theorem or_low64 {a : List UInt64} {q s w x : Nat} (hq : q < a.length) (hs : v64 a % 2 ^ (64 * q + s + w) = 0) (hx : x < 2 ^ w) (hw : s + w ≤ 64) :
    v64 (a.set q (a.getD q 0 ||| UInt64.ofNat (x * 2 ^ s))) = v64 a + x * 2 ^ (64 * q + s) := by
  have hset := v64_set (a := a) (i := q) (y := a.getD q 0 ||| UInt64.ofNat (x * 2 ^ s)) hq
  have hdig := limb_v64 hq
  have hc : x * 2 ^ s < 2 ^ (s + w) := by
    rw [Nat.pow_add, Nat.mul_comm]
    exact Nat.mul_lt_mul_of_pos_left hx (Nat.pow_pos (by decide))
  have hc64 : x * 2 ^ s < 2 ^ 64 := Nat.lt_of_lt_of_le hc (Nat.pow_le_pow_right (by decide) hw)
  have hL : a[q].toNat % 2 ^ (s + w) = 0 := by
    rw [← hdig]
    obtain ⟨m, hm⟩ := Nat.dvd_of_mod_eq_zero hs
    rw [hm, show 64 * q + s + w = 64 * q + (s + w) by omega, Nat.pow_add, Nat.mul_assoc, Nat.mul_div_cancel_left _ (Nat.pow_pos (by decide)),
      show (2 : Nat) ^ 64 = 2 ^ (s + w) * 2 ^ (64 - (s + w)) from by rw [← Nat.pow_add]; congr 1; omega, Nat.mul_mod_mul_left, Nat.mul_mod_right]
  have hor : (a.getD q 0 ||| UInt64.ofNat (x * 2 ^ s)).toNat = a[q].toNat + x * 2 ^ s := by
    rw [List.getD_eq_getElem?_getD, List.getElem?_eq_getElem hq, Option.getD_some, UInt64.toNat_or, UInt64.toNat_ofNat', Nat.mod_eq_of_lt hc64, nat_join (s + w) _ _ hL hc]
  rw [hor, Nat.add_mul, Nat.mul_assoc, ← Nat.pow_add, Nat.add_comm s] at hset
  omega
theorem be_take_succD {l : List UInt8} {k : Nat} (h : k < l.length) : be (l.take (k + 1)) = be (l.take k) * 256 + (l.getD k 0).toNat := by
  rw [List.take_succ_eq_append_getElem h, be_snoc, List.getD_eq_getElem?_getD, List.getElem?_eq_getElem h]; rfl
/-- One round of word.From. -/
theorem wfrom_step {m : List UInt64} {l : List UInt8} {k : Nat} (hm : m.length = 4) (hl : l.length ≤ 32) (hk : k < l.length) (hv : v64 m = be (l.take k) * 256 ^ (l.length - k)) :
    v64 (m.set ((l.length - 1 - k) / 8) (m.getD ((l.length - 1 - k) / 8) 0 ||| UInt64.ofNat ((l.getD k 0).toNat * 2 ^ ((l.length - 1 - k) % 8 * 8)))) = be (l.take (k + 1)) * 256 ^ (l.length - (k + 1)) := by
  have hx := (l.getD k 0).toNat_lt
  have e : 64 * ((l.length - 1 - k) / 8) + (l.length - 1 - k) % 8 * 8 = 8 * (l.length - 1 - k) := by omega
  have e2 : 8 * (l.length - 1 - k) + 8 = 8 * (l.length - k) := by omega
  have p : ∀ j, (256 : Nat) ^ j = 2 ^ (8 * j) := fun j => by rw [show (256 : Nat) = 2 ^ 8 from rfl, ← Nat.pow_mul]
  rw [or_low64 (w := 8) (by omega) (by rw [hv, p, e, e2, Nat.mul_mod_left]) hx (by omega), e, hv, be_take_succD hk, Nat.add_mul, Nat.mul_assoc, ← p]
  congr 2
  · rw [show l.length - k = (l.length - (k + 1)) + 1 by omega, Nat.pow_succ, Nat.mul_comm]
  · congr 1; omega
theorem v64_take_succ {l : List UInt64} {k : Nat} (h : k < l.length) : v64 (l.take (k + 1)) = v64 (l.take k) + 2 ^ (64 * k) * (l.getD k 0).toNat := by
  rw [List.take_succ_eq_append_getElem h, v64_append, List.length_take, Nat.min_eq_left (by omega), List.getD_eq_getElem?_getD, List.getElem?_eq_getElem h]
  simp only [v64, n64, val, List.map_cons, List.map_nil, Option.getD_some, Nat.mul_zero, Nat.add_zero]
theorem v64_take_lt (l : List UInt64) (k : Nat) : v64 (l.take k) < 2 ^ (64 * k) := by
  refine Nat.lt_of_lt_of_le (v64_lt _) (Nat.pow_le_pow_right (by decide) ?_)
  have := List.length_take_le k l
  omega
theorem bitLen_join {L x k : Nat} (hL : L < 2 ^ k) (hx : x ≠ 0) : bitLen (L + 2 ^ k * x) = k + bitLen x := by
  have h1 := lt_bitLen x
  have h0 := bitLen_pos (Nat.pos_of_ne_zero hx)
  have hp : 0 < 2 ^ k := Nat.pow_pos (by decide)
  refine bitLen_eq ?_ (.inr ?_)
  · rw [Nat.pow_add]
    have : 2 ^ k * (x + 1) ≤ 2 ^ k * 2 ^ bitLen x := Nat.mul_le_mul_left _ h1
    rw [Nat.mul_add, Nat.mul_one] at this
    omega
  · have h2 : 2 ^ (bitLen x - 1) ≤ x := by
      rcases Nat.lt_or_ge x (2 ^ (bitLen x - 1)) with h | h
      · have := bitLen_le.2 h; omega
      · exact h
    rw [show k + bitLen x - 1 = k + (bitLen x - 1) by omega, Nat.pow_add]
    have := Nat.mul_le_mul_left (2 ^ k) h2
    omega
/-- The highest limb that is not naught tells the bits. -/
theorem bits_at {l : List UInt64} {k : Nat} (h : k < l.length) (hx : (l.getD k 0).toNat ≠ 0) (hv : v64 l = v64 (l.take (k + 1))) : bitLen (v64 l) = 64 * k + bitLen (l.getD k 0).toNat := by
  rw [hv, v64_take_succ h, bitLen_join (v64_take_lt l k) hx]
theorem v64_take_zero {l : List UInt64} {k : Nat} (h : k < l.length) (hx : (l.getD k 0).toNat = 0) (hv : v64 l = v64 (l.take (k + 1))) : v64 l = v64 (l.take k) := by
  rw [hv, v64_take_succ h, hx, Nat.mul_zero, Nat.add_zero]
theorem be_bytes32 {N : Nat} (h : N < 2 ^ 256) : be (bytesN 32 N) = N := by rw [be_bytesN]; exact Nat.mod_eq_of_lt (by simpa using h)
theorem bytesN_drop {n k N : Nat} (hk : k ≤ n) (h : N < 256 ^ k) : (bytesN n N).drop (n - k) = bytesN k N := by
  apply List.ext_getElem
  · rw [List.length_drop, length_bytesN, length_bytesN]; omega
  · intro i h1 h2
    rw [length_bytesN] at h2
    rw [List.getElem_drop]
    simp only [bytesN, List.getElem_map, List.getElem_range]
    congr 3
    omega
theorem bytes_drop32 {N : Nat} (h : N < 2 ^ 256) : (bytesN 32 N).drop (32 - (bitLen N + 7) / 8) = bytesOf N := by
  have h1 : (bitLen N + 7) / 8 ≤ 32 := byteLen_le.2 (by simpa using h)
  exact bytesN_drop h1 (byteLen_le.1 (Nat.le_refl _))
theorem v64_four_lt (a b c d : UInt64) : v64 [a, b, c, d] < 2 ^ 256 := v64_lt [a, b, c, d]
theorem bytesN_take_succ {n N k : Nat} (h : k < n) : (bytesN n N).take (k + 1) = (bytesN n N).take k ++ [UInt8.ofNat (N / 256 ^ (n - 1 - k))] := by
  rw [List.take_succ_eq_append_getElem (by rw [length_bytesN]; exact h)]
  simp [bytesN]
end Go.Proofs.Ytohmmgggaegbbaa
