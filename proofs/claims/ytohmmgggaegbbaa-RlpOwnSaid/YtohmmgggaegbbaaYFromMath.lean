/- Plain law: what limb.From's loop builds. No condition. -/
import Derived.Test.YtohmmgggaegbbaaY1
namespace Go.Proofs.Ytohmmgggaegbbaa
set_option linter.unusedVariables false
set_option linter.unusedSimpArgs false
/-- One round of limb.From. -/
def fromStep (l : List UInt8) (k : Nat) (a : List UInt64) : List UInt64 :=
  a.set ((l.length - 1 - k) / 8) (a.getD ((l.length - 1 - k) / 8) 0 ||| (UInt64.ofNat ((l.getD k 0).toNat * 2 ^ ((l.length - 1 - k) % 8 * 8))))
def fromSt (l : List UInt8) : Nat → List UInt64
  | 0 => List.replicate ((l.length + 7) / 8) 0
  | k+1 => fromStep l k (fromSt l k)
theorem length_fromSt (l : List UInt8) (k : Nat) : (fromSt l k).length = (l.length + 7) / 8 := by
  induction k with
  | zero => simp [fromSt]
  | succ k ih => simp [fromSt, fromStep, ih]
theorem v64_set {a : List UInt64} {i : Nat} {y : UInt64} (h : i < a.length) : v64 (a.set i y) + a[i].toNat * 2 ^ (64 * i) = v64 a + y.toNat * 2 ^ (64 * i) := by
  have := val_set (2 ^ 64) (n64 a) i y.toNat (by simpa using h)
  simp only [v64, n64, List.map_set, List.getElem_map] at this ⊢
  rw [← Nat.pow_mul] at this
  exact this
theorem limb_v64 {a : List UInt64} {i : Nat} (h : i < a.length) : v64 a / 2 ^ (64 * i) % 2 ^ 64 = a[i].toNat := by
  have := val_div_mod (B := 2 ^ 64) (by decide) (n64_lt a) i (by simpa using h)
  rw [← Nat.pow_mul] at this
  simpa [v64, n64] using this
theorem be_take_succ (l : List UInt8) (k : Nat) (h : k < l.length) : be (l.take (k + 1)) = be (l.take k) * 256 + l[k].toNat := by
  rw [List.take_succ_eq_append_getElem h, be_snoc]
theorem v64_fromSt (l : List UInt8) (k : Nat) (hk : k ≤ l.length) : v64 (fromSt l k) = be (l.take k) * 256 ^ (l.length - k) := by
  induction k with
  | zero => simp [fromSt, v64_replicate, be]
  | succ k ih =>
    have hlt : k < l.length := by omega
    have ih := ih (by omega)
    have hat : (l.length - 1 - k) / 8 < (fromSt l k).length := by rw [length_fromSt]; omega
    have hs := v64_set (a := fromSt l k) (i := (l.length - 1 - k) / 8) (y := (fromSt l k)[(l.length - 1 - k) / 8] ||| UInt64.ofNat (l[k].toNat * 2 ^ ((l.length - 1 - k) % 8 * 8))) hat
    have hd : fromSt l (k + 1) = (fromSt l k).set ((l.length - 1 - k) / 8) ((fromSt l k)[(l.length - 1 - k) / 8] ||| UInt64.ofNat (l[k].toNat * 2 ^ ((l.length - 1 - k) % 8 * 8))) := by
      simp [fromSt, fromStep, hat, hlt]
    rw [← hd] at hs
    have hx := l[k].toNat_lt
    have hlimb := limb_v64 hat
    generalize hq : (fromSt l k)[(l.length - 1 - k) / 8] = L at hs hlimb
    -- the exponent of the byte
    obtain ⟨q, r, hqr, hr⟩ : ∃ q r, l.length - 1 - k = 8 * q + r ∧ r < 8 := ⟨(l.length - 1 - k) / 8, (l.length - 1 - k) % 8, by omega, Nat.mod_lt _ (by decide)⟩
    have e1 : (l.length - 1 - k) / 8 = q := by omega
    have e2 : (l.length - 1 - k) % 8 = r := by omega
    rw [e1] at hs hlimb
    rw [e2] at hs
    have e3 : l.length - k = 8 * q + r + 1 := by omega
    have e4 : l.length - (k + 1) = 8 * q + r := by omega
    rw [e3] at ih
    rw [e4, be_take_succ l k hlt]
    have p256 : ∀ m : Nat, (256 : Nat) ^ m = 2 ^ (8 * m) := fun m => by rw [show (256 : Nat) = 2 ^ 8 from rfl, ← Nat.pow_mul]
    rw [p256] at ih ⊢
    have hdiv : L.toNat % 2 ^ (r * 8 + 8) = 0 := by
      rw [← hlimb, ih]
      have : be (l.take k) * 2 ^ (8 * (8 * q + r + 1)) = 2 ^ (64 * q) * (2 ^ (r * 8 + 8) * be (l.take k)) := by
        rw [← Nat.mul_assoc, ← Nat.pow_add, Nat.mul_comm]; congr 2; omega
      rw [this, Nat.mul_div_cancel_left _ (Nat.pow_pos (by decide)), Nat.mod_mod_of_dvd _ (Nat.pow_dvd_pow 2 (by omega)), Nat.mul_mod_right]
    have hc : l[k].toNat * 2 ^ (r * 8) < 2 ^ (r * 8 + 8) := by
      rw [Nat.pow_add, Nat.mul_comm]
      exact Nat.mul_lt_mul_of_pos_left hx (Nat.pow_pos (by decide))
    have hc64 : l[k].toNat * 2 ^ (r * 8) < 2 ^ 64 := Nat.lt_of_lt_of_le hc (Nat.pow_le_pow_right (by decide) (by omega))
    have hor : (L ||| UInt64.ofNat (l[k].toNat * 2 ^ (r * 8))).toNat = L.toNat + l[k].toNat * 2 ^ (r * 8) := by
      rw [UInt64.toNat_or, UInt64.toNat_ofNat', Nat.mod_eq_of_lt hc64]
      exact nat_join _ _ _ hdiv hc
    rw [hor, ih, Nat.add_mul] at hs
    have h5 : l[k].toNat * 2 ^ (r * 8) * 2 ^ (64 * q) = l[k].toNat * 2 ^ (8 * (8 * q + r)) := by
      rw [Nat.mul_assoc, ← Nat.pow_add]; congr 2; omega
    have h6 : be (l.take k) * 2 ^ (8 * (8 * q + r + 1)) = be (l.take k) * 256 * 2 ^ (8 * (8 * q + r)) := by
      rw [Nat.mul_assoc, show (256 : Nat) = 2 ^ 8 from rfl, ← Nat.pow_add]; congr 2; omega
    rw [h5, h6] at hs
    rw [Nat.add_mul]
    omega
theorem fromSt_all (l : List UInt8) : v64 (fromSt l l.length) = be l := by
  rw [v64_fromSt l l.length (Nat.le_refl _)]; simp
theorem bound_limb (x : UInt64) : (x.toNat : Int) ≤ 18446744073709551615 := by have := x.toNat_lt; omega
end Go.Proofs.Ytohmmgggaegbbaa
