/- Words' bits joined: plain laws. No condition. -/
import Derived.Test.YtefljbbpaideaaaKWx
namespace Go.Proofs.Ytefljbbpaideaaa
set_option linter.unusedVariables false
set_option linter.unusedSimpArgs false
open Go Go.RowKit
theorem wl_limb {T i : Nat} (h : i < 4) : (wl T).getD i 0 = UInt64.ofNat (T / 2 ^ (64 * i)) := getD_limbsN h
theorem and_limb (x y : Nat) {i : Nat} (h : i < 4) : (wl (x &&& y)).getD i 0 = (wl x).getD i 0 &&& (wl y).getD i 0 := by
  rw [wl_limb h, wl_limb h, wl_limb h]
  apply UInt64.toNat_inj.1
  rw [UInt64.toNat_and, UInt64.toNat_ofNat', UInt64.toNat_ofNat', UInt64.toNat_ofNat']
  apply Nat.eq_of_testBit_eq
  intro j
  simp only [Nat.testBit_mod_two_pow, Nat.testBit_div_two_pow, Nat.testBit_and]
  by_cases hj : j < 64 <;> simp [hj]
theorem or_limb (x y : Nat) {i : Nat} (h : i < 4) : (wl (x ||| y)).getD i 0 = (wl x).getD i 0 ||| (wl y).getD i 0 := by
  rw [wl_limb h, wl_limb h, wl_limb h]
  apply UInt64.toNat_inj.1
  rw [UInt64.toNat_or, UInt64.toNat_ofNat', UInt64.toNat_ofNat', UInt64.toNat_ofNat']
  apply Nat.eq_of_testBit_eq
  intro j
  simp only [Nat.testBit_mod_two_pow, Nat.testBit_div_two_pow, Nat.testBit_or]
  by_cases hj : j < 64 <;> simp [hj]
theorem xor_limb (x y : Nat) {i : Nat} (h : i < 4) : (wl (x ^^^ y)).getD i 0 = (wl x).getD i 0 ^^^ (wl y).getD i 0 := by
  rw [wl_limb h, wl_limb h, wl_limb h]
  apply UInt64.toNat_inj.1
  rw [UInt64.toNat_xor, UInt64.toNat_ofNat', UInt64.toNat_ofNat', UInt64.toNat_ofNat']
  apply Nat.eq_of_testBit_eq
  intro j
  simp only [Nat.testBit_mod_two_pow, Nat.testBit_div_two_pow, Nat.testBit_xor]
  by_cases hj : j < 64 <;> simp [hj]
/-- The first limbs are the new ones, the others the old ones. -/
def pSt (T x k : Nat) : List UInt64 := (wl T).take k ++ (wl x).drop k
theorem length_pSt {T x k : Nat} (h : k ≤ 4) : (pSt T x k).length = 4 := by
  rw [pSt, List.length_append, List.length_take, List.length_drop, length_wl, length_wl]; omega
theorem pSt_zero (T x : Nat) : pSt T x 0 = wl x := rfl
theorem pSt_all (T x : Nat) : pSt T x 4 = wl T := by
  rw [pSt, List.take_of_length_le (by rw [length_wl]; omega), List.drop_of_length_le (by rw [length_wl]; omega), List.append_nil]
theorem pSt_getD {T x k : Nat} (h : k < 4) : (pSt T x k).getD k 0 = (wl x).getD k 0 :=
  getD_drop (by rw [List.length_take, length_wl]; omega) (by rw [length_wl]; exact h)
theorem pSt_succ {T x k : Nat} {z : UInt64} (h : k < 4) (hz : (wl T).getD k 0 = z) : pSt T x (k + 1) = (pSt T x k).set k z := by
  subst hz
  have hT : k < (wl T).length := by rw [length_wl]; exact h
  rw [pSt, pSt, set_drop (by rw [List.length_take, length_wl]; omega) (by rw [length_wl]; exact h), List.take_succ_eq_append_getElem hT, List.getD_eq_getElem?_getD, List.getElem?_eq_getElem hT]
  rfl
theorem and_lt {x y : Nat} (hx : x < WW) : x &&& y < WW := Nat.lt_of_le_of_lt Nat.and_le_left hx
theorem or_lt {x y : Nat} (hx : x < WW) (hy : y < WW) : x ||| y < WW := Nat.or_lt_two_pow (n := 256) hx hy
theorem xor_lt {x y : Nat} (hx : x < WW) (hy : y < WW) : x ^^^ y < WW := Nat.xor_lt_two_pow (n := 256) hx hy
/-- A shift to the right that keeps the sign. -/
def sarN (s x : Nat) : Nat := if negB x = true then WW - 1 - (WW - 1 - x) / 2 ^ s else x / 2 ^ s
/-- A word whose lower bits are told, the sign spread. -/
def sextN (b x : Nat) : Nat := if x % 2 ^ b / 2 ^ (b - 1) % 2 = 0 then x % 2 ^ b else WW - 2 ^ b + x % 2 ^ b
theorem sext_sar {s b x : Nat} (hb : 1 ≤ b) (hs : s + b = 256) : sarN s (x * 2 ^ s % WW) = sextN b x := by
  have hW : WW = 2 ^ b * 2 ^ s := by rw [← Nat.pow_add, Nat.add_comm b s, hs]; rfl
  have hH : HW = 2 ^ (b - 1) * 2 ^ s := by rw [← Nat.pow_add, show b - 1 + s = 255 by omega]; rfl
  have hlow : x % 2 ^ b < 2 ^ b := Nat.mod_lt _ (Nat.pow_pos (by decide))
  have hP : 0 < 2 ^ s := Nat.pow_pos (by decide)
  have hbb : 2 ^ b = 2 * 2 ^ (b - 1) := by rw [← Nat.pow_succ']; congr 1; omega
  have hQ : 0 < 2 ^ (b - 1) := Nat.pow_pos (by decide)
  have e : x * 2 ^ s % WW = x % 2 ^ b * 2 ^ s := by rw [hW, Nat.mul_mod_mul_right]
  rw [e, sarN, sextN, negB]
  generalize x % 2 ^ b = l at *
  have hd : l / 2 ^ (b - 1) % 2 = 0 ↔ ¬ 2 ^ (b - 1) ≤ l := by
    generalize 2 ^ (b - 1) = Q at *
    rcases Nat.lt_or_ge l Q with h | h
    · rw [Nat.div_eq_of_lt h]; simp; omega
    · have : l / Q = 1 := by
        have h1 : 1 ≤ l / Q := (Nat.le_div_iff_mul_le hQ).2 (by omega)
        have h2 : l / Q < 2 := (Nat.div_lt_iff_lt_mul hQ).2 (by omega)
        omega
      rw [this]; simp; exact h
  have hn : HW ≤ l * 2 ^ s ↔ 2 ^ (b - 1) ≤ l := by
    rw [hH]
    exact ⟨fun h => Nat.le_of_mul_le_mul_right h hP, fun h => Nat.mul_le_mul_right _ h⟩
  by_cases h : 2 ^ (b - 1) ≤ l
  · rw [decide_eq_true (hn.2 h), if_pos rfl, if_neg (fun h0 => hd.1 h0 h)]
    have e2 : WW - 1 - l * 2 ^ s = (2 ^ b - 1 - l) * 2 ^ s + (2 ^ s - 1) := by
      rw [hW]
      have h3 : 2 ^ b = (2 ^ b - 1 - l) + l + 1 := by omega
      have h4 : 2 ^ b * 2 ^ s = (2 ^ b - 1 - l) * 2 ^ s + l * 2 ^ s + 2 ^ s := by
        rw [← Nat.add_mul]
        conv => lhs; rw [h3]
        rw [Nat.add_mul, Nat.one_mul]
      omega
    have e3 : ((2 ^ b - 1 - l) * 2 ^ s + (2 ^ s - 1)) / 2 ^ s = 2 ^ b - 1 - l := by
      rw [Nat.mul_comm, Nat.mul_add_div hP, Nat.div_eq_of_lt (by omega), Nat.add_zero]
    rw [e2, e3]
    have h5 : 2 ^ b ≤ WW := by rw [hW]; exact Nat.le_mul_of_pos_right _ hP
    omega
  · rw [decide_eq_false (fun h0 => h (hn.1 h0)), if_neg (by decide), if_pos (hd.2 h), Nat.mul_div_cancel _ hP]
theorem sarN_lt {s x : Nat} (hx : x < WW) : sarN s x < WW := by
  unfold sarN
  split
  · have := WW_pos
    exact Nat.lt_of_le_of_lt (Nat.sub_le (WW - 1) _) (by omega)
  · exact Nat.lt_of_le_of_lt (Nat.div_le_self _ _) hx
end Go.Proofs.Ytefljbbpaideaaa
