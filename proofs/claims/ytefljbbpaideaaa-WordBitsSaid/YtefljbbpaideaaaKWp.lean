/- Plain laws: words. No condition. -/
import Derived.Test.YtefljbbpaideaaaK4
import Derived.Test.YtefljbbpaideaaaKT8
namespace Go.Proofs.Ytefljbbpaideaaa
set_option linter.unusedVariables false
set_option linter.unusedSimpArgs false
open Go Go.RowKit
/-- How many words there are. -/
def WW : Nat := 2 ^ 256
theorem WW_eq : WW = 2 ^ (64 * 4) := rfl
theorem WW_pos : 0 < WW := Nat.pow_pos (by decide)
/-- The word of a number modulo 2^256, as limbs and as a value. -/
def wl (x : Nat) : List UInt64 := limbsN 4 x
def wo (x : Nat) : Value := .agg (u64s (wl x)).toArray
@[simp] theorem length_wl (x : Nat) : (wl x).length = 4 := rfl
theorem v64_wl (x : Nat) : v64 (wl x) = x % WW := v64_limbsN 4 x
theorem v64_wl_lt {x : Nat} (h : x < WW) : v64 (wl x) = x := by rw [v64_wl, Nat.mod_eq_of_lt h]
theorem v64_lt4 {w : List UInt64} (h : w.length = 4) : v64 w < WW := by have := v64_lt w; rwa [h] at this
theorem wl_of {w : List UInt64} {N : Nat} (hw : w.length = 4) (h : v64 w = N % WW) : w = wl N := eq_words4 hw rfl (h.trans (v64_wl N).symm)
theorem wl_self {w : List UInt64} (hw : w.length = 4) : w = wl (v64 w) := wl_of hw (Nat.mod_eq_of_lt (v64_lt4 hw)).symm
theorem wl_mod (x : Nat) : wl (x % WW) = wl x := wl_of (w := wl (x % WW)) rfl (by rw [v64_wl, Nat.mod_mod])
theorem wl_inj {x y : Nat} (hx : x < WW) (hy : y < WW) (h : wl x = wl y) : x = y := by
  have := congrArg v64 h
  rwa [v64_wl_lt hx, v64_wl_lt hy] at this
theorem wl_congr {x y : Nat} (h : x % WW = y % WW) : wl x = wl y := by rw [← wl_mod x, h, wl_mod]
theorem wo_mod (x : Nat) : wo (x % WW) = wo x := by rw [wo, wl_mod]; rfl
theorem wo_congr {x y : Nat} (h : x % WW = y % WW) : wo x = wo y := by rw [wo, wl_congr h]; rfl
theorem wo_list {w : List UInt64} (hw : w.length = 4) : Value.agg (u64s w).toArray = wo (v64 w) := by rw [wo, ← wl_self hw]
theorem wl_small (n : UInt64) : wl n.toNat = [n, 0, 0, 0] := by
  have h := n.toNat_lt
  refine (wl_of rfl ?_).symm
  have e : v64 [n, 0, 0, 0] = n.toNat := by simp [v64, n64, val]
  rw [e]
  exact (Nat.mod_eq_of_lt (Nat.lt_trans h (Nat.pow_lt_pow_right (by decide) (by decide)))).symm
theorem wl_zero : wl 0 = [0, 0, 0, 0] := wl_small 0
theorem wo_zero : wo 0 = .agg #[.int .u64 0, .int .u64 0, .int .u64 0, .int .u64 0] := by rw [wo, wl_zero]; rfl
theorem wo_small (n : UInt64) : wo n.toNat = .agg #[.int .u64 (n.toNat : Int), .int .u64 0, .int .u64 0, .int .u64 0] := by rw [wo, wl_small]; rfl
/-- The limbs behind the first are naught just for small numbers. -/
theorem small_iff {x : Nat} (hx : x < WW) : (wl x).getD 1 0 ||| (wl x).getD 2 0 ||| (wl x).getD 3 0 = 0 ↔ x < 2 ^ 64 := by
  have hv := v64_wl_lt hx
  obtain ⟨a, b, c, d, h⟩ := four (length_wl x)
  rw [h] at hv ⊢
  have e : v64 [a, b, c, d] = a.toNat + 18446744073709551616 * (b.toNat + 18446744073709551616 * (c.toNat + 18446744073709551616 * d.toNat)) := by simp [v64, n64, val]
  rw [e] at hv
  have ha := a.toNat_lt
  show b ||| c ||| d = 0 ↔ x < 2 ^ 64
  constructor
  · intro h0
    have h1 := congrArg UInt64.toNat h0
    rw [UInt64.toNat_or, UInt64.toNat_or] at h1
    have h2 : (b.toNat ||| c.toNat) = 0 ∧ d.toNat = 0 := Nat.or_eq_zero_iff.1 h1
    have h3 : b.toNat = 0 ∧ c.toNat = 0 := Nat.or_eq_zero_iff.1 h2.1
    rw [h2.2, h3.1, h3.2] at hv
    omega
  · intro h0
    have h1 : b.toNat = 0 ∧ c.toNat = 0 ∧ d.toNat = 0 := by omega
    apply UInt64.toNat_inj.1
    rw [UInt64.toNat_or, UInt64.toNat_or, h1.1, h1.2.1, h1.2.2]; rfl
theorem small_val {x : Nat} (h : x < 2 ^ 64) : ((wl x).getD 0 0).toNat = x := by
  have e : wl x = [UInt64.ofNat x, 0, 0, 0] := by
    have := wl_small (UInt64.ofNat x)
    rwa [UInt64.toNat_ofNat', Nat.mod_eq_of_lt h] at this
  rw [e]
  show (UInt64.ofNat x).toNat = x
  rw [UInt64.toNat_ofNat', Nat.mod_eq_of_lt h]
end Go.Proofs.Ytefljbbpaideaaa
