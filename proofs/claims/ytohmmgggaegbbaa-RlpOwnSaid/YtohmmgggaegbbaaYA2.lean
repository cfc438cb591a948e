/- Plain laws: words built by or, place by place. No condition. -/
import Derived.Test.YtohmmgggaegbbaaYFromMath
import Derived.Test.YtohmmgggaegbbaaYRefFromMath
import Derived.Test.YtohmmgggaegbbaaYA1
namespace Go.Proofs.Ytohmmgggaegbbaa
set_option linter.unusedVariables false
set_option linter.unusedSimpArgs false
theorem or_set64 {a : List UInt64} {q s w x : Nat} (hq : q < a.length) (hs : v64 a < 2 ^ (64 * q + s)) (hx : x < 2 ^ w) (hw : s + w ≤ 64) :
    v64 (a.set q (a.getD q 0 ||| UInt64.ofNat (x * 2 ^ s))) = v64 a + x * 2 ^ (64 * q + s) := by
  have hset := v64_set (a := a) (i := q) (y := a.getD q 0 ||| UInt64.ofNat (x * 2 ^ s)) hq
  have hdig := limb_v64 hq
  have hL : a[q].toNat < 2 ^ s := by
    rw [← hdig]
    refine Nat.lt_of_le_of_lt (Nat.mod_le _ _) ?_
    rw [Nat.div_lt_iff_lt_mul (Nat.pow_pos (by decide)), ← Nat.pow_add]
    rwa [Nat.add_comm s]
  have hc : x * 2 ^ s < 2 ^ 64 := by
    refine Nat.lt_of_lt_of_le (Nat.mul_lt_mul_of_pos_right hx (Nat.pow_pos (by decide))) ?_
    rw [← Nat.pow_add]
    exact Nat.pow_le_pow_right (by decide) (by omega)
  have hor : (a.getD q 0 ||| UInt64.ofNat (x * 2 ^ s)).toNat = a[q].toNat + x * 2 ^ s := by
    rw [List.getD_eq_getElem?_getD, List.getElem?_eq_getElem hq, Option.getD_some, UInt64.toNat_or, UInt64.toNat_ofNat', Nat.mod_eq_of_lt hc, Nat.or_comm, nat_join s _ _ (Nat.mul_mod_left _ _) hL, Nat.add_comm]
  rw [hor, Nat.add_mul, Nat.mul_assoc, ← Nat.pow_add, Nat.add_comm s] at hset
  omega
theorem v32_take_succ {l : List UInt32} {k : Nat} (h : k < l.length) : v32 (l.take (k + 1)) = v32 (l.take k) + (l.getD k 0).toNat * 2 ^ (32 * k) := by
  rw [List.take_succ_eq_append_getElem h, v32_append, List.length_take, Nat.min_eq_left (by omega), List.getD_eq_getElem?_getD, List.getElem?_eq_getElem h]
  simp only [v32, n32, val, List.map_cons, List.map_nil, Option.getD_some, Nat.mul_zero, Nat.add_zero]
  rw [Nat.mul_comm (2 ^ (32 * k))]
theorem v32_take_lt (l : List UInt32) (k : Nat) : v32 (l.take k) < 2 ^ (32 * k) := by
  refine Nat.lt_of_lt_of_le (v32_lt _) (Nat.pow_le_pow_right (by decide) ?_)
  have := List.length_take_le k l
  omega
theorem v32_take_mod (l : List UInt32) (k : Nat) : v32 (l.take k) = v32 l % 2 ^ (32 * k) := by
  have h := v32_take_lt l k
  by_cases hk : k ≤ l.length
  · have e : v32 l = v32 (l.take k) + 2 ^ (32 * k) * v32 (l.drop k) := by
      conv => lhs; rw [← List.take_append_drop k l]
      rw [v32_append, List.length_take, Nat.min_eq_left hk]
    rw [e, Nat.add_mul_mod_self_left, Nat.mod_eq_of_lt h]
  · rw [List.take_of_length_le (by omega)] at h ⊢
    rw [Nat.mod_eq_of_lt h]
/-- One round of W: the digit's place. -/
theorem w_step {m : List UInt64} {l : List UInt32} {k : Nat} (hm : m.length = 4) (hv : v64 m = v32 (l.take k)) (hk : k < 8) (hl : k < l.length) :
    v64 (m.set (k / 2) (m.getD (k / 2) 0 ||| UInt64.ofNat ((l.getD k 0).toNat * 2 ^ (32 * (k % 2))))) = v32 (l.take (k + 1)) := by
  have hx := (l.getD k 0).toNat_lt
  have e : 64 * (k / 2) + 32 * (k % 2) = 32 * k := by omega
  rw [or_set64 (w := 32) (by omega) (by rw [hv, e]; exact v32_take_lt l k) hx (by omega), e, hv, v32_take_succ hl]
theorem shl64_of (x : Nat) (hx : x < 2 ^ 64) (m : Nat) : shl64 (UInt64.ofNat x) m = UInt64.ofNat (x * 2 ^ m) := by
  unfold shl64
  rw [UInt64.toNat_ofNat', Nat.mod_eq_of_lt hx]
theorem shl32_of (x : Nat) (hx : x < 2 ^ 32) (m : Nat) : shl32 (UInt32.ofNat x) m = UInt32.ofNat (x * 2 ^ m) := by
  unfold shl32
  rw [UInt32.toNat_ofNat', Nat.mod_eq_of_lt hx]
end Go.Proofs.Ytohmmgggaegbbaa
