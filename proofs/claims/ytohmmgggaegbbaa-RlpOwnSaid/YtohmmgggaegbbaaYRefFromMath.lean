/- Plain law: what the reference's From builds. No condition. -/
import Derived.Test.YtohmmgggaegbbaaYNum32
namespace Go.Proofs.Ytohmmgggaegbbaa
set_option linter.unusedVariables false
set_option linter.unusedSimpArgs false
def rfromStep (l : List UInt8) (i : Nat) (a : List UInt32) : List UInt32 :=
  a.set (i / 4) (a.getD (i / 4) 0 ||| (UInt32.ofNat ((l.getD (l.length - 1 - i) 0).toNat * 2 ^ (8 * (i % 4)))))
def rfromSt (l : List UInt8) : Nat → List UInt32
  | 0 => List.replicate ((l.length + 3) / 4) 0
  | k+1 => rfromStep l k (rfromSt l k)
theorem length_rfromSt (l : List UInt8) (k : Nat) : (rfromSt l k).length = (l.length + 3) / 4 := by
  induction k with
  | zero => simp [rfromSt]
  | succ k ih => simp [rfromSt, rfromStep, ih]
theorem v32_rfromSt (l : List UInt8) (k : Nat) (hk : k ≤ l.length) : v32 (rfromSt l k) = be (l.drop (l.length - k)) := by
  induction k with
  | zero => simp [rfromSt, v32_replicate, be]
  | succ k ih =>
    have ih := ih (by omega)
    have hat : k / 4 < (rfromSt l k).length := by rw [length_rfromSt]; omega
    have hlt : l.length - 1 - k < l.length := by omega
    have hs := v32_set (a := rfromSt l k) (i := k / 4) (y := (rfromSt l k)[k / 4] ||| UInt32.ofNat (l[l.length - 1 - k].toNat * 2 ^ (8 * (k % 4)))) hat
    have hd : rfromSt l (k + 1) = (rfromSt l k).set (k / 4) ((rfromSt l k)[k / 4] ||| UInt32.ofNat (l[l.length - 1 - k].toNat * 2 ^ (8 * (k % 4)))) := by
      simp [rfromSt, rfromStep, hat, hlt]
    rw [← hd] at hs
    have hx := l[l.length - 1 - k].toNat_lt
    have hdig := dig_v32 hat
    generalize hq : (rfromSt l k)[k / 4] = L at hs hdig
    have hdr : l.drop (l.length - (k + 1)) = l[l.length - 1 - k] :: l.drop (l.length - k) := by
      rw [show l.length - (k + 1) = l.length - 1 - k from by omega, List.drop_eq_getElem_cons hlt]
      congr 2; omega
    have hlen : (l.drop (l.length - k)).length = k := by simp; omega
    have hv : v32 (rfromSt l k) < 2 ^ (8 * k) := by
      rw [ih, show (2 : Nat) ^ (8 * k) = 256 ^ k from by rw [show (256 : Nat) = 2 ^ 8 from rfl, ← Nat.pow_mul]]
      have := be_lt (l.drop (l.length - k)); rwa [hlen] at this
    rw [hdr, be_cons, hlen, ← ih]
    obtain ⟨q, r, hqr, hr⟩ : ∃ q r, k = 4 * q + r ∧ r < 4 := ⟨k / 4, k % 4, by omega, Nat.mod_lt _ (by decide)⟩
    have e1 : k / 4 = q := by omega
    have e2 : k % 4 = r := by omega
    rw [e1] at hs hdig
    rw [e2] at hs
    have hL : L.toNat < 2 ^ (8 * r) := by
      rw [← hdig]
      refine Nat.lt_of_le_of_lt (Nat.mod_le _ _) ?_
      rw [Nat.div_lt_iff_lt_mul (Nat.pow_pos (by decide)), ← Nat.pow_add]
      rwa [show 8 * r + 32 * q = 8 * k from by omega]
    have hc : l[l.length - 1 - k].toNat * 2 ^ (8 * r) < 2 ^ 32 := by
      refine Nat.lt_of_lt_of_le (Nat.mul_lt_mul_of_pos_right hx (Nat.pow_pos (by decide))) ?_
      rw [show (2 : Nat) ^ 8 * 2 ^ (8 * r) = 2 ^ (8 + 8 * r) from by rw [← Nat.pow_add]]
      exact Nat.pow_le_pow_right (by decide) (by omega)
    have hor : (L ||| UInt32.ofNat (l[l.length - 1 - k].toNat * 2 ^ (8 * r))).toNat = L.toNat + l[l.length - 1 - k].toNat * 2 ^ (8 * r) := by
      rw [UInt32.toNat_or, UInt32.toNat_ofNat', Nat.mod_eq_of_lt hc, Nat.or_comm, nat_join (8 * r) _ _ (Nat.mul_mod_left _ _) hL, Nat.add_comm]
    rw [hor, Nat.add_mul, Nat.mul_assoc, ← Nat.pow_add, show 8 * r + 32 * q = 8 * k from by omega] at hs
    have e256 : (256 : Nat) ^ k = 2 ^ (8 * k) := by rw [show (256 : Nat) = 2 ^ 8 from rfl, ← Nat.pow_mul]
    rw [e256]
    omega
theorem rfromSt_all (l : List UInt8) : v32 (rfromSt l l.length) = be l := by
  rw [v32_rfromSt l l.length (Nat.le_refl _)]; simp
end Go.Proofs.Ytohmmgggaegbbaa
