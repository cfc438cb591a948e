/- Several texts in one: see the remarks ahead of each part. No condition but those told there. -/
import Derived.Test.YtljacjjeinmfnaaU10
import Derived.Test.YtljacjjeinmfnaaU7
import Derived.Test.YtljacjjeinmfnaaU4
import Derived.Test.YtljacjjeinmfnaaU5
import Derived.Stop.BytesEq
/- math/bits.Div64: a number of two limbs by one limb. Condition: the upper limb is below the divisor. -/
namespace Go.Proofs.Ytljacjjeinmfnaa
set_option linter.unusedVariables false
set_option linter.unusedSimpArgs false
open Go Go.RowKit
theorem and32 (z : UInt64) : (z &&& 4294967295).toNat = z.toNat % 4294967296 := by
  rw [UInt64.toNat_and]; exact Nat.and_two_pow_sub_one_eq_mod z.toNat 32
theorem shr32n (z : UInt64) : (shr64 z 32).toNat = z.toNat / 4294967296 := by rw [shr64_nat]
theorem div_pos64 {y : UInt64} (h : 0 < y.toNat) : y.toNat * 2 ^ (64 - bitLen y.toNat) < 18446744073709551616 ∧ 9223372036854775808 ≤ y.toNat * 2 ^ (64 - bitLen y.toNat) := by
  have h1 := lt_bitLen y.toNat
  have h2 := bitLen64 y
  have h3 := bitLen_pos h
  have h4 : 2 ^ (bitLen y.toNat - 1) ≤ y.toNat := by
    rcases Nat.lt_or_ge y.toNat (2 ^ (bitLen y.toNat - 1)) with h5 | h5
    · have := bitLen_le.2 h5; omega
    · exact h5
  constructor
  · have e : (18446744073709551616 : Nat) = 2 ^ bitLen y.toNat * 2 ^ (64 - bitLen y.toNat) := by rw [← Nat.pow_add, show bitLen y.toNat + (64 - bitLen y.toNat) = 64 by omega]
    rw [e]
    exact Nat.mul_lt_mul_of_pos_right h1 (Nat.pow_pos (by decide))
  · have e : (9223372036854775808 : Nat) = 2 ^ (bitLen y.toNat - 1) * 2 ^ (64 - bitLen y.toNat) := by rw [← Nat.pow_add, show bitLen y.toNat - 1 + (64 - bitLen y.toNat) = 63 by omega]
    rw [e]
    exact Nat.mul_le_mul_right _ h4
/-- The number's upper and lower limb, shifted. -/
theorem un_shift {hi lo y : UInt64} {s : Nat} (hs : s ≤ 64) (h : hi.toNat < y.toNat) (hy : y.toNat * 2 ^ s < 18446744073709551616) :
    (shl64 hi s ||| shr64 lo (64 - s)).toNat < y.toNat * 2 ^ s ∧ (shl64 hi s ||| shr64 lo (64 - s)).toNat * 18446744073709551616 + (shl64 lo s).toNat = (hi.toNat * 18446744073709551616 + lo.toNat) * 2 ^ s := by
  have hlo := lo.toNat_lt
  have e1 : (2 : Nat) ^ 64 = 2 ^ (64 - s) * 2 ^ s := by rw [← Nat.pow_add]; congr 1; omega
  have hp : 0 < 2 ^ s := Nat.pow_pos (by decide)
  have hq : 0 < 2 ^ (64 - s) := Nat.pow_pos (by decide)
  have h1 : hi.toNat * 2 ^ s + 2 ^ s ≤ y.toNat * 2 ^ s := by
    have := Nat.mul_le_mul_right (2 ^ s) (show hi.toNat + 1 ≤ y.toNat by omega)
    rwa [Nat.add_mul, Nat.one_mul] at this
  have hhi : hi.toNat * 2 ^ s % 2 ^ 64 = hi.toNat * 2 ^ s := Nat.mod_eq_of_lt (by omega)
  have hlt : lo.toNat / 2 ^ (64 - s) < 2 ^ s := by
    rw [Nat.div_lt_iff_lt_mul hq, Nat.mul_comm, ← e1]; exact hlo
  have hor : (shl64 hi s ||| shr64 lo (64 - s)).toNat = hi.toNat * 2 ^ s + lo.toNat / 2 ^ (64 - s) := by
    rw [UInt64.toNat_or, shl64_nat, shr64_nat, hhi, Nat.mul_comm, Nat.two_pow_add_eq_or_of_lt hlt]
  have hl : (shl64 lo s).toNat = lo.toNat % 2 ^ (64 - s) * 2 ^ s := by
    rw [shl64_nat, e1, Nat.mul_mod_mul_right]
  rw [hor, hl]
  refine ⟨by omega, ?_⟩
  have e2 : (18446744073709551616 : Nat) = 2 ^ (64 - s) * 2 ^ s := e1
  have e3 := Nat.div_add_mod lo.toNat (2 ^ (64 - s))
  rw [Nat.add_mul, Nat.add_mul, Nat.mul_right_comm hi.toNat, e2]
  have e4 : lo.toNat * 2 ^ s = lo.toNat / 2 ^ (64 - s) * (2 ^ (64 - s) * 2 ^ s) + lo.toNat % 2 ^ (64 - s) * 2 ^ s := by
    conv => lhs; rw [← e3]
    rw [Nat.add_mul, Nat.mul_comm (2 ^ (64 - s)), Nat.mul_assoc]
  rw [e4, Nat.add_assoc]
theorem back_shift {X y Y q r : Nat} {s : Nat} (hY : Y = y * 2 ^ s) (hq : q = X * 2 ^ s / Y) (hr : r = X * 2 ^ s % Y) : q = X / y ∧ r / 2 ^ s = X % y := by
  have hp : 0 < 2 ^ s := Nat.pow_pos (by decide)
  subst hY
  constructor
  · rw [hq, Nat.mul_div_mul_right _ _ hp]
  · rw [hr, Nat.mul_mod_mul_right, Nat.mul_div_cancel _ hp]
/-- What the loop's test tells. -/
theorem d_test {Q RH y0 u1 : UInt64} (hq : Q.toNat < 4294967296) (h0 : y0.toNat < 4294967296) (hr : RH.toNat < 4294967296) (hu : u1.toNat < 4294967296) :
    (4294967296 * RH + u1).toNat = RH.toNat * 4294967296 + u1.toNat ∧ (Q * y0).toNat = Q.toNat * y0.toNat := by
  have h1 := Nat.mul_le_mul (show Q.toNat ≤ 4294967295 by omega) (show y0.toNat ≤ 4294967295 by omega)
  have e : (4294967296 : UInt64).toNat = 4294967296 := rfl
  constructor
  · rw [UInt64.toNat_add, UInt64.toNat_mul, e, Nat.mul_comm, Nat.mod_eq_of_lt (show RH.toNat * 4294967296 < 2 ^ 64 by omega), Nat.mod_eq_of_lt (show RH.toNat * 4294967296 + u1.toNat < 2 ^ 64 by omega)]
  · rw [UInt64.toNat_mul, Nat.mod_eq_of_lt (Nat.lt_of_le_of_lt h1 (by decide))]
theorem d_first {R y1 : UInt64} (_h : 0 < y1.toNat) : (R / y1).toNat = R.toNat / y1.toNat ∧ (R - R / y1 * y1).toNat = R.toNat - R.toNat / y1.toNat * y1.toNat := by
  have e1 : (R / y1).toNat = R.toNat / y1.toNat := UInt64.toNat_div ..
  have hle : R.toNat / y1.toNat * y1.toNat ≤ R.toNat := Nat.div_mul_le_self _ _
  have hR := R.toNat_lt
  have e2 : (R / y1 * y1).toNat = R.toNat / y1.toNat * y1.toNat := by rw [UInt64.toNat_mul, e1, Nat.mod_eq_of_lt (Nat.lt_of_le_of_lt hle hR)]
  refine ⟨e1, ?_⟩
  rw [UInt64.toNat_sub_of_le _ _ (by rw [UInt64.le_iff_toNat_le, e2]; exact hle), e2]
theorem sub_one64 {Q : UInt64} (h : 0 < Q.toNat) : (Q - 1).toNat = Q.toNat - 1 := by
  rw [UInt64.toNat_sub_of_le _ _ (by rw [UInt64.le_iff_toNat_le]; exact h)]; rfl
/-- What is left when the digit is taken away. -/
theorem d_rest {R u1 Q Y : UInt64} (hY : 0 < Y.toNat) (hQ : Q.toNat = (R.toNat * 4294967296 + u1.toNat) / Y.toNat) (hu : u1.toNat < 4294967296) : (R * 4294967296 + u1 - Q * Y).toNat = (R.toNat * 4294967296 + u1.toNat) % Y.toNat := by
  have e : (4294967296 : UInt64).toNat = 4294967296 := rfl
  have h := d_low (T := R.toNat * 4294967296 + u1.toNat) (Y := Y.toNat) (q := Q.toNat) (B := 2 ^ 64) hQ hY (Nat.le_of_lt Y.toNat_lt) (R * 4294967296 + u1).toNat (Q * Y).toNat (by
    rw [UInt64.toNat_add, UInt64.toNat_mul, e, Nat.mod_mod, Nat.mod_add_mod]) (by rw [UInt64.toNat_mul, Nat.mod_mod])
  rw [← h, UInt64.toNat_sub, Nat.mod_eq_of_lt (R * 4294967296 + u1).toNat_lt, Nat.mod_eq_of_lt (Q * Y).toNat_lt]
  have := (R * 4294967296 + u1).toNat_lt
  have := (Q * Y).toNat_lt
  congr 1
  omega
def DivP (hi lo y : UInt64) (v : Value) (L : List Heaplet) : Prop :=
  ∃ q r : UInt64, v = .tuple #[.int .u64 (q.toNat : Int), .int .u64 (r.toNat : Int)] ∧ L = [] ∧ q.toNat = (hi.toNat * 18446744073709551616 + lo.toNat) / y.toNat ∧ r.toNat = (hi.toNat * 18446744073709551616 + lo.toNat) % y.toNat
theorem div_end {hi lo y S Y un32 un10 u1 u0 un21 Q1 Q0 : UInt64} (hY : Y.toNat = y.toNat * 2 ^ S.toNat) (hun : un32.toNat * 18446744073709551616 + un10.toNat = (hi.toNat * 18446744073709551616 + lo.toNat) * 2 ^ S.toNat)
    (hU : un10.toNat = u1.toNat * 4294967296 + u0.toNat) (hr21 : un21.toNat = (un32.toNat * 4294967296 + u1.toNat) % Y.toNat) (hQ1 : Q1.toNat = (un32.toNat * 4294967296 + u1.toNat) / Y.toNat)
    (hQ0 : Q0.toNat = (un21.toNat * 4294967296 + u0.toNat) / Y.toNat) (hr : (un21 * 4294967296 + u0 - Q0 * Y).toNat = (un21.toNat * 4294967296 + u0.toNat) % Y.toNat) (hYp : 0 < Y.toNat) (hlt : hi.toNat < y.toNat) :
    DivP hi lo y (.tuple #[.int .u64 ((Q1 * 4294967296 + Q0).toNat : Int), .int .u64 ((shr64 (un21 * 4294967296 + u0 - Q0 * Y) S.toNat).toNat : Int)]) [] := by
  have e : (4294967296 : UInt64).toNat = 4294967296 := rfl
  obtain ⟨k1, k2⟩ := d_two (R := un32.toNat) (u1 := u1.toNat) (u0 := u0.toNat) hYp
  rw [← hr21] at k1 k2
  have hX : (un32.toNat * 4294967296 + u1.toNat) * 4294967296 + u0.toNat = (hi.toNat * 18446744073709551616 + lo.toNat) * 2 ^ S.toNat := by
    rw [← hun, hU, Nat.add_mul, Nat.mul_assoc, Nat.add_assoc]
  rw [hX] at k1 k2
  rw [← hQ1, ← hQ0] at k1
  obtain ⟨j1, j2⟩ := back_shift hY k1 k2
  have hq : (Q1 * 4294967296 + Q0).toNat = (hi.toNat * 18446744073709551616 + lo.toNat) / y.toNat := by
    rw [UInt64.toNat_add, UInt64.toNat_mul, e, Nat.mod_add_mod, j1]
    refine Nat.mod_eq_of_lt ?_
    have hl := lo.toNat_lt
    rw [Nat.div_lt_iff_lt_mul (by omega)]
    omega
  exact ⟨_, _, rfl, rfl, hq, by rw [shr64_nat, hr, j2]⟩
end Go.Proofs.Ytljacjjeinmfnaa
/- math/bits.Div64: a number of two limbs by one limb. Condition: the upper limb is below the divisor. -/
namespace Go.Proofs.Ytljacjjeinmfnaa
set_option linter.unusedVariables false
set_option linter.unusedSimpArgs false
open Go Go.RowKit
end Go.Proofs.Ytljacjjeinmfnaa
/- limb.Add, limb.Sub: sums and differences of numbers in limbs. Condition: numbers of at most 2^40 limbs; for Sub: the second is no greater. -/
namespace Go.Proofs.Ytljacjjeinmfnaa
set_option linter.unusedVariables false
set_option linter.unusedSimpArgs false
open Go Go.RowKit
theorem bytesN_pad {w V : Nat} (h : V < 256 ^ w) : List.replicate (w - (bytesOf V).length) 0 ++ bytesOf V = bytesN w V := by
  have hl := length_bytesOf V
  have h1 := byteLen_le.2 h
  have h2 : (List.replicate (w - (bytesOf V).length) (0 : UInt8) ++ bytesOf V).length = w := by rw [List.length_append, List.length_replicate]; omega
  have hz : be (List.replicate (w - (bytesOf V).length) (0 : UInt8)) = 0 := by
    generalize w - (bytesOf V).length = m
    induction m with
    | zero => rfl
    | succ m ih => rw [List.replicate_succ, be_cons, ih]; simp
  have h3 : be (List.replicate (w - (bytesOf V).length) (0 : UInt8) ++ bytesOf V) = be (bytesN w V) := by
    rw [be_append, be_bytesOf, hz, be_bytesN, Nat.mod_eq_of_lt h]; simp
  exact be_inj (by rw [h2, length_bytesN]) h3
/-- Limbs in new memory: a number without zeros at its upper end. -/
def LimbsP (V : Nat) (v : Value) (L : List Heaplet) : Prop :=
  ∃ M a c, v = .slice a (limbsOf V).length c ∧ L = [M] ∧ RSl M 1 a (limbsOf V).length c (u64s (limbsOf V))
theorem RSl.trimmed {N : Heaplet} {ao : Option Addr} {n cap : Nat} {l : List UInt64} (h : RSl N 1 ao n cap (u64s l)) (ht : l.take (limbsOf (v64 l)).length = limbsOf (v64 l)) (hle : (limbsOf (v64 l)).length ≤ n) :
    RSl N 1 ao (limbsOf (v64 l)).length (limbsOf (v64 l)).length (u64s (limbsOf (v64 l))) := by
  have := h.take (hi := (limbsOf (v64 l)).length) (m := (limbsOf (v64 l)).length) (Nat.le_refl _) (Nat.le_trans hle h.2.1) hle
  rwa [Nat.mul_one, u64s_takeR, ht] at this
theorem getD_big {α : Type} {l : List α} {k : Nat} {z : α} (h : l.length ≤ k) : l.getD k z = z := by
  rw [List.getD_eq_getElem?_getD, List.getElem?_eq_none h]; rfl
theorem set_rep {α : Type} {w : List α} {j m : Nat} {z y : α} (hw : w.length = j) (h : 0 < m) : (w ++ List.replicate m z).set j y = (w ++ [y]) ++ List.replicate (m - 1) z := by
  obtain ⟨k, rfl⟩ : ∃ k, m = k + 1 := ⟨m - 1, by omega⟩
  rw [List.replicate_succ, set_mid hw]; rfl
theorem getD_app {α : Type} {p r : List α} {j : Nat} {z : α} (h : j < p.length) : (p ++ r).getD j z = p.getD j z := by
  rw [List.getD_eq_getElem?_getD, List.getD_eq_getElem?_getD, List.getElem?_append_left h]
theorem limbs_mono {A B : Nat} (h : A ≤ B) : (limbsOf A).length ≤ (limbsOf B).length := by
  rw [length_limbsOf, length_limbsOf]
  have := bitLen_mono h
  omega
end Go.Proofs.Ytljacjjeinmfnaa
/- Plain laws: numbers in limbs compared, their bits, shifted. No condition. -/
namespace Go.Proofs.Ytljacjjeinmfnaa
set_option linter.unusedVariables false
set_option linter.unusedSimpArgs false
/-- The order of two numbers. -/
def cmpN (a b : Nat) : Int := if a < b then -1 else if b < a then 1 else 0
theorem cmpN_lt {a b : Nat} (h : a < b) : cmpN a b = -1 := by rw [cmpN, if_pos h]
theorem cmpN_gt {a b : Nat} (h : b < a) : cmpN a b = 1 := by rw [cmpN, if_neg (by omega), if_pos h]
theorem cmpN_eq (a : Nat) : cmpN a a = 0 := by rw [cmpN, if_neg (Nat.lt_irrefl _), if_neg (Nat.lt_irrefl _)]
theorem limbs_len_lt {A B : Nat} (h : (limbsOf A).length < (limbsOf B).length) : A < B := by
  rcases Nat.lt_or_ge A B with h1 | h1
  · exact h1
  · have := limbs_mono h1; omega
theorem v64_split {l : List UInt64} {j : Nat} (h : j < l.length) : v64 l = v64 (l.take j) + 2 ^ (64 * j) * ((l.getD j 0).toNat + 18446744073709551616 * v64 (l.drop (j + 1))) := by
  have e : l = l.take (j + 1) ++ l.drop (j + 1) := (List.take_append_drop _ _).symm
  conv => lhs; rw [e]
  rw [v64_append, List.length_take, Nat.min_eq_left (by omega), v64_take_succD, pow64, Nat.mul_add, Nat.mul_assoc, Nat.add_assoc]
theorem cmp_at {x y : List UInt64} {j : Nat} (hl : x.length = y.length) (hj : j < x.length) (hd : x.drop (j + 1) = y.drop (j + 1)) (hlt : (x.getD j 0).toNat < (y.getD j 0).toNat) : v64 x < v64 y := by
  rw [v64_split hj, v64_split (l := y) (j := j) (by omega), hd]
  have h1 := v64_take_lt x j
  have h2 := Nat.mul_le_mul_left (2 ^ (64 * j)) (show (x.getD j 0).toNat + 18446744073709551616 * v64 (y.drop (j + 1)) + 1 ≤ (y.getD j 0).toNat + 18446744073709551616 * v64 (y.drop (j + 1)) by omega)
  rw [Nat.mul_add _ _ 1, Nat.mul_one] at h2
  omega
theorem drop_eq_succ {α : Type} {x y : List α} {j : Nat} {z : α} (hx : j < x.length) (hy : j < y.length) (he : x.getD j z = y.getD j z) (hd : x.drop (j + 1) = y.drop (j + 1)) : x.drop j = y.drop j := by
  rw [List.drop_eq_getElem_cons hx, List.drop_eq_getElem_cons hy, hd]
  rw [List.getD_eq_getElem?_getD, List.getD_eq_getElem?_getD, List.getElem?_eq_getElem hx, List.getElem?_eq_getElem hy] at he
  simp only [Option.getD_some] at he
  rw [he]
theorem limb_at (l : List UInt64) (i : Nat) : v64 l / 2 ^ (64 * i) % 2 ^ 64 = (l.getD i 0).toNat := by
  rcases Nat.lt_or_ge i l.length with h | h
  · rw [limb_v64 h, List.getD_eq_getElem?_getD, List.getElem?_eq_getElem h]; rfl
  · rw [getD_big h, Nat.div_eq_of_lt (Nat.lt_of_lt_of_le (v64_lt l) (Nat.pow_le_pow_right (by decide) (by omega)))]; rfl
theorem bit_at (l : List UInt64) (i : Nat) : (shr64 (l.getD (i / 64) 0) (i % 64) &&& 1).toNat = v64 l / 2 ^ i % 2 := by
  rw [UInt64.toNat_and, shr64_nat, ← limb_at]
  have e : (2 : Nat) ^ i = 2 ^ (64 * (i / 64)) * 2 ^ (i % 64) := by rw [← Nat.pow_add]; congr 1; omega
  rw [e, ← Nat.div_div_eq_div_mul]
  generalize v64 l / 2 ^ (64 * (i / 64)) = W
  have hr : i % 64 < 64 := Nat.mod_lt _ (by decide)
  generalize i % 64 = r at *
  rw [show ((1 : UInt64).toNat) = 2 ^ 1 - 1 from rfl, Nat.and_two_pow_sub_one_eq_mod]
  rw [show (2 : Nat) ^ 64 = 2 ^ r * 2 ^ (64 - r) from by rw [← Nat.pow_add]; congr 1; omega, Nat.mod_mul_right_div_self]
  exact Nat.mod_mod_of_dvd _ (Nat.pow_dvd_pow 2 (by omega))
theorem bit_big {l : List UInt64} {i : Nat} (h : l.length ≤ i / 64) : v64 l / 2 ^ i % 2 = 0 := by
  rw [Nat.div_eq_of_lt (Nat.lt_of_lt_of_le (v64_lt l) (Nat.pow_le_pow_right (by decide) (by omega)))]
/-! Shifts. -/
/-- The limbs of V shifted to the left, so many. -/
def shlN (L V s : Nat) : List UInt64 := limbsN L (V * 2 ^ s)
theorem length_shlN (L V s : Nat) : (shlN L V s).length = L := by simp [shlN, limbsN]
theorem getD_limbsN {L V i : Nat} (h : i < L) : (limbsN L V).getD i 0 = UInt64.ofNat (V / 2 ^ (64 * i)) := by
  rw [List.getD_eq_getElem?_getD, List.getElem?_eq_getElem (by simp [limbsN]; exact h)]
  simp [limbsN]
theorem shl_low {l : List UInt64} {s : Nat} (_hs : s < 64) : UInt64.ofNat (v64 l * 2 ^ s / 2 ^ (64 * 0)) = shl64 (l.getD 0 0) s := by
  apply UInt64.toNat_inj.1
  have h := limb_at l 0
  rw [UInt64.toNat_ofNat', shl64_nat, ← h, Nat.mul_zero, Nat.pow_zero, Nat.div_one, Nat.div_one, Nat.mod_mul_mod]
theorem mid_at {l : List UInt64} {i r : Nat} (hr : r ≤ 64) : v64 l / 2 ^ (64 * i + r) % 2 ^ 64 = (shr64 (l.getD i 0) r ||| shl64 (l.getD (i + 1) 0) (64 - r)).toNat := by
  rw [Nat.pow_add, ← Nat.div_div_eq_div_mul]
  have e : v64 l / 2 ^ (64 * i) = (l.getD i 0).toNat + 2 ^ 64 * (v64 l / 2 ^ (64 * (i + 1))) := by
    rw [← limb_at, pow64, ← Nat.div_div_eq_div_mul]
    exact (Nat.mod_add_div _ _).symm
  rw [e, limb_mid hr (limb_at l (i + 1))]
theorem shl_at {l : List UInt64} {s i : Nat} (h0 : 0 < i) (hs : s < 64) : UInt64.ofNat (v64 l * 2 ^ s / 2 ^ (64 * i)) = (shl64 (l.getD i 0) s ||| shr64 (l.getD (i - 1) 0) (64 - s)) := by
  apply UInt64.toNat_inj.1
  have h := mid_at (l := l) (i := i - 1) (r := 64 - s) (by omega)
  rw [show i - 1 + 1 = i by omega, show 64 - (64 - s) = s by omega] at h
  rw [UInt64.toNat_ofNat', UInt64.toNat_or, Nat.or_comm, ← UInt64.toNat_or, ← h]
  have e : (2 : Nat) ^ (64 * i) = 2 ^ (64 * (i - 1) + (64 - s)) * 2 ^ s := by rw [← Nat.pow_add]; congr 1; omega
  rw [e, Nat.mul_div_mul_right _ _ (Nat.pow_pos (by decide))]
/-- What stands when the places from i on are shifted. -/
def shSt (o : List UInt64) (L s i : Nat) : List UInt64 := o.take i ++ (shlN L (v64 o) s).drop i
theorem length_shSt {o : List UInt64} {L s i : Nat} (ho : o.length = L) (hi : i ≤ L) : (shSt o L s i).length = L := by
  rw [shSt, List.length_append, List.length_take, List.length_drop, length_shlN]; omega
theorem shSt_getD {o : List UInt64} {L s i j : Nat} (ho : o.length = L) (hi : i ≤ L) (hj : j < i) : (shSt o L s i).getD j 0 = o.getD j 0 := by
  rw [shSt, getD_app (by rw [List.length_take]; omega), List.getD_eq_getElem?_getD, List.getD_eq_getElem?_getD, List.getElem?_take, if_pos hj]
theorem shSt_set {o : List UInt64} {L s i : Nat} (ho : o.length = L) (hi : i < L) : (shSt o L s (i + 1)).set i (UInt64.ofNat (v64 o * 2 ^ s / 2 ^ (64 * i))) = shSt o L s i := by
  apply List.ext_getElem
  · rw [List.length_set, length_shSt ho (by omega), length_shSt ho (by omega)]
  · intro j h1 h2
    rw [length_shSt ho (by omega)] at h2
    rw [List.getElem_set]
    by_cases e : i = j
    · subst e
      rw [if_pos rfl]
      simp only [shSt]
      rw [List.getElem_append_right (by rw [List.length_take]; omega)]
      simp [shlN, limbsN, ho, Nat.min_eq_left (Nat.le_of_lt hi)]
    · rw [if_neg e]
      simp only [shSt, List.getElem_append, List.length_take]
      by_cases hlt : j < i
      · rw [dif_pos (by omega), dif_pos (by omega)]; simp
      · rw [dif_neg (by omega), dif_neg (by omega)]
        simp only [List.getElem_drop]
        congr 1
        omega
theorem shSt_all {o : List UInt64} {L s : Nat} (ho : o.length = L) : shSt o L s L = o := by
  rw [shSt, List.drop_of_length_le (by rw [length_shlN]; omega), List.append_nil, List.take_of_length_le (by omega)]
theorem shSt_none (o : List UInt64) (L s : Nat) : shSt o L s 0 = limbsN L (v64 o * 2 ^ s) := by simp [shSt, shlN]
theorem v64_pad (a : List UInt64) (m : Nat) : v64 (a ++ List.replicate m 0) = v64 a := by rw [v64_append, v64_replicate]; simp
end Go.Proofs.Ytljacjjeinmfnaa
/- Plain laws: one step of the division of numbers in limbs, and the whole. No condition. -/
namespace Go.Proofs.Ytljacjjeinmfnaa
set_option linter.unusedVariables false
set_option linter.unusedSimpArgs false
theorem v64_cons (x : UInt64) (l : List UInt64) : v64 (x :: l) = x.toNat + 18446744073709551616 * v64 l := by simp [v64, n64, val]
theorem shSt_set' {o : List UInt64} {L s I : Nat} (ho : o.length = L) (h0 : 0 < I) (hi : I ≤ L) : (shSt o L s I).set (I - 1) (UInt64.ofNat (v64 o * 2 ^ s / 2 ^ (64 * (I - 1)))) = shSt o L s (I - 1) := by
  have h := shSt_set (s := s) ho (show I - 1 < L by omega)
  rwa [show I - 1 + 1 = I by omega] at h
theorem getD_set_self {α : Type} {l : List α} {j : Nat} {y z : α} (h : j < l.length) : (l.set j y).getD j z = y := by
  rw [List.getD_eq_getElem?_getD, List.getElem?_set_self h]; rfl
theorem getD_set_ne {α : Type} {l : List α} {i j : Nat} {y z : α} (h : i ≠ j) : (l.set i y).getD j z = l.getD j z := by
  rw [List.getD_eq_getElem?_getD, List.getD_eq_getElem?_getD, List.getElem?_set_ne h]
theorem win_set {α : Type} {pre x post : List α} {o k : Nat} {d : α} (hp : pre.length = o) (hk : k < x.length) : (pre ++ x ++ post).set (o + k) d = pre ++ x.set k d ++ post := by
  subst hp
  rw [List.append_assoc, List.set_append_right _ _ (by omega), Nat.add_sub_cancel_left, List.set_append_left _ _ hk, List.append_assoc]
theorem set_drop {α : Type} {w u : List α} {k : Nat} {d : α} (hw : w.length = k) (hk : k < u.length) : (w ++ u.drop k).set k d = (w ++ [d]) ++ u.drop (k + 1) := by
  rw [List.drop_eq_getElem_cons hk, set_mid hw]
theorem getD_drop {α : Type} {w u : List α} {k : Nat} {z : α} (hw : w.length = k) (hk : k < u.length) : (w ++ u.drop k).getD k z = u.getD k z := by
  rw [List.drop_eq_getElem_cons hk, getD_mid hw, List.getD_eq_getElem?_getD, List.getElem?_eq_getElem hk]; rfl
/-- The two upper limbs. -/
theorem v64_top2 {u : List UInt64} {n : Nat} (hu : u.length = n + 1) (hn : 1 ≤ n) : v64 u = v64 (u.take (n - 1)) + 2 ^ (64 * (n - 1)) * ((u.getD n 0).toNat * 18446744073709551616 + (u.getD (n - 1) 0).toNat) := by
  have h := v64_split (l := u) (j := n - 1) (by omega)
  rw [show n - 1 + 1 = n by omega] at h
  have e : v64 (u.drop n) = (u.getD n 0).toNat := by
    rw [List.drop_eq_getElem_cons (by omega), List.drop_of_length_le (by omega), List.getD_eq_getElem?_getD, List.getElem?_eq_getElem (by omega)]
    simp [v64, n64, val]
  rw [h, e]
  congr 2
  omega
theorem v64_top1 {v : List UInt64} {n : Nat} (hv : v.length = n) (hn : 1 ≤ n) : v64 v = v64 (v.take (n - 1)) + 2 ^ (64 * (n - 1)) * (v.getD (n - 1) 0).toNat := by
  have h := v64_take_succD v (n - 1)
  rw [show n - 1 + 1 = n by omega, v64_take_all (by omega)] at h
  exact h
/-- The guess is not too small. -/
theorem qhat_ge {u v : List UInt64} {n Q : Nat} (hu : u.length = n + 1) (hv : v.length = n) (hn : 1 ≤ n) (hQ : Q * v64 v ≤ v64 u) (h0 : 0 < (v.getD (n - 1) 0).toNat) :
    Q ≤ ((u.getD n 0).toNat * 18446744073709551616 + (u.getD (n - 1) 0).toNat) / (v.getD (n - 1) 0).toNat := by
  rw [Nat.le_div_iff_mul_le h0]
  have h1 := v64_top2 hu hn
  have h2 := v64_top1 hv hn
  have h3 : v64 (u.take (n - 1)) < 2 ^ (64 * (n - 1)) := v64_take_lt _ _
  generalize (u.getD n 0).toNat * 18446744073709551616 + (u.getD (n - 1) 0).toNat = T at *
  generalize (v.getD (n - 1) 0).toNat = y at *
  generalize 2 ^ (64 * (n - 1)) = P at *
  have h4 : P * (Q * y) ≤ Q * v64 v := by
    rw [h2, Nat.mul_add, Nat.mul_left_comm Q]; omega
  have h5 : P * (Q * y) < P * (T + 1) := by rw [Nat.mul_add P T, Nat.mul_one]; omega
  have h6 := Nat.lt_of_mul_lt_mul_left h5
  omega
/-- One round of the step's second loop, and its end. -/
theorem step_end {U V x q : Nat} (h : x + q * V = U) (hx : x < V) : q = U / V ∧ x = U % V := by
  subst h
  have hV : 0 < V := by omega
  rw [Nat.add_mul_div_right _ _ hV, Nat.add_mul_mod_self_right, Nat.div_eq_of_lt hx, Nat.mod_eq_of_lt hx]
  exact ⟨by omega, rfl⟩
theorem step_start {U V x q Q bw P : Nat} (hV : 0 < V) (h : x + q * V = U + bw * P) (hQ : U / V ≤ q) (hb : bw = 0) : x < V := by
  rw [hb, Nat.zero_mul, Nat.add_zero] at h
  have h1 : U < (q + 1) * V := by
    exact Nat.lt_mul_of_div_lt (show U / V < q + 1 by omega) hV
  rw [Nat.add_mul, Nat.one_mul] at h1
  omega
theorem step_back {U V x x' q c P : Nat} (hx : x + q * V = U + 1 * P) (hU : U < P + V) (hP : x < P) (h : x' + c * P = x + V) (hc : c ≤ 1) (hx' : x' < P) :
    0 < q ∧ x' + (q - 1) * V = U + (1 - c) * P ∧ (1 - c = 0 → x' < V) := by
  have hq : 0 < q := by
    rcases Nat.eq_zero_or_pos q with h0 | h0
    · rw [h0, Nat.zero_mul] at hx; omega
    · exact h0
  obtain ⟨p, rfl⟩ : ∃ p, q = p + 1 := ⟨q - 1, by omega⟩
  rw [Nat.add_sub_cancel]
  rw [Nat.add_mul, Nat.one_mul] at hx
  have hc2 : c = 0 ∨ c = 1 := by omega
  rcases hc2 with rfl | rfl
  · rw [Nat.zero_mul, Nat.add_zero] at h
    refine ⟨hq, ?_, fun h => absurd h (by decide)⟩
    rw [h]; simp only [Nat.sub_zero, Nat.one_mul] at *; omega
  · rw [Nat.one_mul] at h
    refine ⟨hq, ?_, fun _ => by omega⟩
    rw [Nat.sub_self, Nat.zero_mul]; omega
/-! The whole division. -/
theorem v64_drop_zero {G : List UInt64} {k n : Nat} (h : v64 (G.drop k) < 2 ^ (64 * n)) : v64 (G.drop (k + n)) = 0 := by
  have e : G.drop k = (G.drop k).take n ++ G.drop (k + n) := by
    conv => lhs; rw [← List.take_append_drop n (G.drop k)]
    rw [List.drop_drop]
  rcases Nat.lt_or_ge (G.drop k).length n with h1 | h1
  · rw [List.drop_of_length_le (by rw [List.length_drop] at h1; omega)]; rfl
  · rw [e, v64_append, List.length_take, Nat.min_eq_left h1] at h
    rcases Nat.eq_zero_or_pos (v64 (G.drop (k + n))) with h2 | h2
    · exact h2
    · have := Nat.mul_le_mul_left (2 ^ (64 * n)) h2
      omega
theorem v64_take_drop (G : List UInt64) {k : Nat} (h : k ≤ G.length) : v64 G = v64 (G.take k) + 2 ^ (64 * k) * v64 (G.drop k) := by
  conv => lhs; rw [← List.take_append_drop k G]
  rw [v64_append, List.length_take, Nat.min_eq_left h]
/-- The window of the next step. -/
theorem win_lt {G : List UInt64} {j n V : Nat} (hj : j < G.length) (hV : v64 (G.drop (j + 1)) < V) (hVn : V ≤ 2 ^ (64 * n)) :
    v64 ((G.drop j).take (n + 1)) < V * 18446744073709551616 ∧ v64 (G.drop (j + (n + 1))) = 0 ∧ v64 ((G.drop j).take (n + 1)) = v64 (G.drop j) := by
  have hz : v64 (G.drop (j + (n + 1))) = 0 := by
    rw [show j + (n + 1) = (j + 1) + n by omega]
    exact v64_drop_zero (Nat.lt_of_lt_of_le hV hVn)
  have e1 : v64 ((G.drop j).take (n + 1)) = v64 (G.drop j) := by
    have h := congrArg v64 (List.take_append_drop (n + 1) (G.drop j))
    rw [v64_append, List.drop_drop, hz, Nat.mul_zero, Nat.add_zero] at h
    exact h
  refine ⟨?_, hz, e1⟩
  have e2 : v64 (G.drop j) = (G.getD j 0).toNat + 18446744073709551616 * v64 (G.drop (j + 1)) := by
    rw [List.drop_eq_getElem_cons hj, v64_cons, List.getD_eq_getElem?_getD, List.getElem?_eq_getElem hj]
    rfl
  have h1 := (G.getD j 0).toNat_lt
  rw [e1, e2]
  omega
theorem div_round {G u' qs h : List UInt64} {j n V U : Nat} {q : UInt64} (hj : j + (n + 1) ≤ G.length) (hqs : qs = List.replicate (j + 1) 0 ++ h) (hv : v64 G + v64 qs * V = U) (hw : v64 ((G.drop j).take (n + 1)) = v64 (G.drop j)) (hz : v64 (G.drop (j + (n + 1))) = 0)
    (hu : u'.length = n + 1) (hq : q.toNat = v64 ((G.drop j).take (n + 1)) / V) (hr : v64 u' = v64 ((G.drop j).take (n + 1)) % V) (hV : 0 < V) :
    v64 (G.take j ++ u' ++ G.drop (j + (n + 1))) + v64 (qs.set j q) * V = U ∧ v64 ((G.take j ++ u' ++ G.drop (j + (n + 1))).drop j) < V ∧ qs.set j q = List.replicate j 0 ++ (q :: h) := by
  have e0 : qs.set j q = List.replicate j 0 ++ (q :: h) := by
    rw [hqs, List.replicate_succ', List.append_assoc, List.cons_append, List.nil_append, set_mid (by simp)]
    simp
  have e1 : v64 (qs.set j q) = v64 qs + 2 ^ (64 * j) * q.toNat := by
    rw [e0, hqs, v64_append, v64_append, v64_replicate, v64_replicate, List.length_replicate, List.length_replicate, pow64]
    have : v64 (q :: h) = q.toNat + 18446744073709551616 * v64 h := by simp [v64, n64, val]
    rw [this, Nat.mul_add, Nat.mul_assoc]
    omega
  have e2 : v64 (G.take j ++ u' ++ G.drop (j + (n + 1))) = v64 (G.take j) + 2 ^ (64 * j) * v64 u' := by
    rw [v64_append, hz, v64_append, List.length_take, Nat.min_eq_left (by omega)]; simp
  have e3 := v64_take_drop G (k := j) (by omega)
  rw [← hw] at e3
  have e4 := Nat.div_add_mod (v64 ((G.drop j).take (n + 1))) V
  rw [← hr, ← hq] at e4
  refine ⟨?_, ?_, e0⟩
  · rw [e2, e1, Nat.add_mul, ← hv, e3, ← e4, Nat.mul_add (2 ^ (64 * j)), Nat.mul_comm V, Nat.mul_assoc]
    omega
  · rw [List.append_assoc, List.drop_append_of_le_length (by rw [List.length_take]; omega), List.drop_of_length_le (by rw [List.length_take]; omega), List.nil_append, v64_append, hz, hr]
    simp only [Nat.mul_zero, Nat.add_zero]
    exact Nat.mod_lt _ hV
theorem limbsN_succ (k N : Nat) : limbsN (k + 1) N = limbsN k N ++ [UInt64.ofNat (N / 2 ^ (64 * k))] := by
  simp [limbsN, List.range_succ]
theorem shl64_64 (x : UInt64) : shl64 x 64 = 0 := by
  apply UInt64.toNat_inj.1
  rw [shl64_nat, Nat.mul_mod_left]; rfl
theorem rest_at {l : List UInt64} {i r : Nat} (hr : r ≤ 64) : UInt64.ofNat (v64 l / 2 ^ r / 2 ^ (64 * i)) = (shr64 (l.getD i 0) r ||| shl64 (l.getD (i + 1) 0) (64 - r)) := by
  apply UInt64.toNat_inj.1
  rw [UInt64.toNat_ofNat', ← mid_at hr, Nat.div_div_eq_div_mul, ← Nat.pow_add, Nat.add_comm r]
theorem rest_at0 {l : List UInt64} {i : Nat} : UInt64.ofNat (v64 l / 2 ^ 0 / 2 ^ (64 * i)) = shr64 (l.getD i 0) 0 := by
  rw [rest_at (by omega), shl64_64]
  apply UInt64.toNat_inj.1
  rw [UInt64.toNat_or]; simp
/-- The divisor's upper bit is set when it is shifted. -/
theorem norm_ge {b : List UInt64} {n : Nat} (hb : b.length = n) (hn : 1 ≤ n) (h0 : 0 < (b.getD (n - 1) 0).toNat) :
    2 ^ (64 * (n - 1)) * 9223372036854775808 ≤ v64 b * 2 ^ (64 - bitLen (b.getD (n - 1) 0).toNat) ∧ v64 b * 2 ^ (64 - bitLen (b.getD (n - 1) 0).toNat) < 2 ^ (64 * n) := by
  have h1 := v64_top1 hb hn
  obtain ⟨h2, h3⟩ := div_pos64 h0
  have h4 : v64 (b.take (n - 1)) < 2 ^ (64 * (n - 1)) := v64_take_lt _ _
  have e : 2 ^ (64 * n) = 2 ^ (64 * (n - 1)) * 18446744073709551616 := by
    have := pow64 (n - 1); rwa [show n - 1 + 1 = n by omega] at this
  have hb64 := bitLen64 (b.getD (n - 1) 0)
  have hbl := lt_bitLen (b.getD (n - 1) 0).toNat
  have e2 : 2 ^ bitLen (b.getD (n - 1) 0).toNat * 2 ^ (64 - bitLen (b.getD (n - 1) 0).toNat) = 18446744073709551616 := by
    rw [← Nat.pow_add, show bitLen (b.getD (n - 1) 0).toNat + (64 - bitLen (b.getD (n - 1) 0).toNat) = 64 by omega]
  generalize (b.getD (n - 1) 0).toNat = y at *
  generalize 2 ^ (64 * (n - 1)) = P at *
  generalize 2 ^ (64 - bitLen y) = S at *
  constructor
  · rw [h1, Nat.add_mul, Nat.mul_assoc]
    have := Nat.mul_le_mul_left P h3
    omega
  · rw [e, h1]
    have h5 : v64 (b.take (n - 1)) + P * y < P * 2 ^ bitLen y := by
      have := Nat.mul_le_mul_left P (show y + 1 ≤ 2 ^ bitLen y by omega)
      rw [Nat.mul_add, Nat.mul_one] at this
      omega
    have hS : 0 < S := by
      rcases Nat.eq_zero_or_pos S with h | h
      · rw [h, Nat.mul_zero] at e2; omega
      · exact h
    have h6 := Nat.mul_lt_mul_of_pos_right h5 hS
    rwa [Nat.mul_assoc, e2] at h6
end Go.Proofs.Ytljacjjeinmfnaa
/- limb.Mul, limb.Cmp, limb.Bit, limb.shifted. Condition: numbers of at most 2^40 limbs. -/
namespace Go.Proofs.Ytljacjjeinmfnaa
set_option linter.unusedVariables false
set_option linter.unusedSimpArgs false
open Go Go.RowKit
end Go.Proofs.Ytljacjjeinmfnaa
/- limb.shifted, limb.step: the parts of a division of numbers in limbs. Condition: numbers of at most 2^40 limbs. -/
namespace Go.Proofs.Ytljacjjeinmfnaa
set_option linter.unusedVariables false
set_option linter.unusedSimpArgs false
open Go Go.RowKit
theorem Blk.win {N : Heaplet} {b o cu : Nat} {e : TypeId} {pre x post : List UInt64} (h : Blk N b e (u64s (pre ++ x ++ post))) (hp : pre.length = o) (hx : x.length ≤ cu) (hc : cu ≤ 9223372036854775807) :
    RSl N 1 (some ⟨b, o, none⟩) x.length cu (u64s x) := by
  refine ⟨by simp, hx, hc, fun _ => ⟨b, o, rfl, ?_⟩⟩
  have := h.rng.sub (o := o) (ds := u64s x) fun i hi => by
    rw [length_u64s] at hi
    subst hp
    simp only [u64s, List.map_append, List.append_assoc]
    rw [List.getElem?_append_right (by simp), List.getElem?_append_left (by simpa using hi)]
    simp [hi]
  rwa [Nat.zero_add] at this
end Go.Proofs.Ytljacjjeinmfnaa
/- limb.step: the upper limbs divided. Condition: at most 2^40 limbs; the quotient is one limb. -/
namespace Go.Proofs.Ytljacjjeinmfnaa
set_option linter.unusedVariables false
set_option linter.unusedSimpArgs false
open Go Go.RowKit
def StepP (b : Nat) (e : TypeId) (pre u v post : List UInt64) (r : Value) (L : List Heaplet) : Prop :=
  ∃ M x, ∃ q : UInt64, r = .int .u64 (q.toNat : Int) ∧ L = [M] ∧ Blk M b e (u64s (pre ++ x ++ post)) ∧ x.length = u.length ∧ q.toNat = v64 u / v64 v ∧ v64 x = v64 u % v64 v
end Go.Proofs.Ytljacjjeinmfnaa
/- limb.DivMod: a number in limbs divided by one that is not 0. Condition: numbers of at most 2^40 limbs. -/
namespace Go.Proofs.Ytljacjjeinmfnaa
set_option linter.unusedVariables false
set_option linter.unusedSimpArgs false
open Go Go.RowKit
theorem Row.blk {N : Heaplet} {e : TypeId} {ao : Option Addr} {n : Nat} {xs : List Value} (h : Row N e 1 ao n n xs) (h0 : 0 < n) : ∃ b, ao = some ⟨b, 0, none⟩ ∧ Blk N b e xs := by
  obtain ⟨h1, h2, h3, h4⟩ := h
  rcases h4 with ⟨_, h5, _⟩ | ⟨b, cur, rfl, hN, hs, ht⟩
  · omega
  · refine ⟨b, rfl, ?_⟩
    have hl : cur.toList.length = n := by simpa using hs
    rw [List.take_of_length_le (by omega)] at ht
    rw [Blk, hN, ← ht]
theorem sadr_in (b o j cap : Nat) (h : cap ≠ j) : sadr (some ⟨b, o, none⟩) j cap 1 = some ⟨b, o + j, none⟩ := by
  rw [sadr, if_neg h, Option.map_some, addr_add, Nat.mul_one]
/-- Two numbers in limbs, in new memory. -/
def LimbsP2 (A B : Nat) (v : Value) (L : List Heaplet) : Prop :=
  ∃ M1 a1 c1 M2 a2 c2, v = .tuple #[.slice a1 (limbsOf A).length c1, .slice a2 (limbsOf B).length c2] ∧ L = [M1, M2] ∧ RSl M1 1 a1 (limbsOf A).length c1 (u64s (limbsOf A)) ∧ RSl M2 1 a2 (limbsOf B).length c2 (u64s (limbsOf B))
theorem limbs_top {V : Nat} (h : 0 < V) : 1 ≤ (limbsOf V).length ∧ 0 < ((limbsOf V).getD ((limbsOf V).length - 1) 0).toNat := by
  have hl := length_limbsOf V
  have hb := bitLen_pos h
  have h1 : 1 ≤ (limbsOf V).length := by omega
  refine ⟨h1, ?_⟩
  rcases Nat.eq_zero_or_pos ((limbsOf V).getD ((limbsOf V).length - 1) 0).toNat with h0 | h0
  · exfalso
    have e := v64_top1 (v := limbsOf V) rfl h1
    rw [h0, Nat.mul_zero, Nat.add_zero, v64_limbsOf] at e
    have hlt := v64_take_lt (limbsOf V) ((limbsOf V).length - 1)
    rw [← e] at hlt
    have := limbLen_le.2 hlt
    omega
  · exact h0
theorem div_fin {A B s G Q : Nat} (h : G + Q * (B * 2 ^ s) = A * 2 ^ s) (hG : G < B * 2 ^ s) : Q = A / B ∧ G / 2 ^ s = A % B := by
  have hp : 0 < 2 ^ s := Nat.pow_pos (by decide)
  obtain ⟨h1, h2⟩ := step_end h hG
  rw [Nat.mul_div_mul_right _ _ hp] at h1
  rw [Nat.mul_mod_mul_right] at h2
  exact ⟨h1, by rw [h2, Nat.mul_div_cancel _ hp]⟩
/-- What the loop begins with. -/
theorem top_small {A n m s V : Nat} (hA : A < 2 ^ (64 * m)) (hs : s < 64) (hV : 2 ^ (64 * (n - 1)) * 9223372036854775808 ≤ V) (hn : 1 ≤ n) (hnm : n ≤ m) : v64 ((limbsN (m + 1) (A * 2 ^ s)).drop (m - n + 1)) < V ∧ v64 (limbsN (m + 1) (A * 2 ^ s)) = A * 2 ^ s := by
  have h2s : 2 ^ s ≤ 9223372036854775808 := by rw [show (9223372036854775808 : Nat) = 2 ^ 63 from rfl]; exact Nat.pow_le_pow_right (by decide) (by omega)
  have hp : 0 < 2 ^ s := Nat.pow_pos (by decide)
  have hlt : A * 2 ^ s < 2 ^ (64 * m) * 2 ^ s := Nat.mul_lt_mul_of_pos_right hA hp
  have e : v64 (limbsN (m + 1) (A * 2 ^ s)) = A * 2 ^ s := by
    rw [v64_limbsN, Nat.mod_eq_of_lt]
    refine Nat.lt_of_lt_of_le hlt ?_
    rw [← Nat.pow_add]
    exact Nat.pow_le_pow_right (by decide) (by omega)
  refine ⟨?_, e⟩
  have hl : (limbsN (m + 1) (A * 2 ^ s)).length = m + 1 := by simp [limbsN]
  have h := v64_take_drop (limbsN (m + 1) (A * 2 ^ s)) (k := m - n + 1) (by omega)
  rw [e] at h
  have h3 : 2 ^ (64 * m) * 2 ^ s ≤ 2 ^ (64 * (m - n + 1)) * V := by
    have e2 : (2 : Nat) ^ (64 * m) = 2 ^ (64 * (m - n + 1)) * 2 ^ (64 * (n - 1)) := by rw [← Nat.pow_add]; congr 1; omega
    rw [e2, Nat.mul_assoc]
    refine Nat.mul_le_mul_left _ (Nat.le_trans ?_ hV)
    exact Nat.mul_le_mul_left _ h2s
  have h4 : 2 ^ (64 * (m - n + 1)) * v64 ((limbsN (m + 1) (A * 2 ^ s)).drop (m - n + 1)) < 2 ^ (64 * (m - n + 1)) * V := by omega
  exact Nat.lt_of_mul_lt_mul_left h4
theorem win_split {α : Type} (G : List α) (j n : Nat) : G = G.take j ++ (G.drop j).take n ++ G.drop (j + n) := by
  rw [← List.drop_drop, List.append_assoc, List.take_append_drop, List.take_append_drop]
end Go.Proofs.Ytljacjjeinmfnaa
/- Plain laws: words. No condition. -/
namespace Go.Proofs.Ytljacjjeinmfnaa
set_option linter.unusedVariables false
set_option linter.unusedSimpArgs false
open Go Go.RowKit
/-- How many words there are. -/
def WW : Nat := 2 ^ 256
theorem WW_eq : WW = 2 ^ (64 * 4) := rfl
theorem WW_pos : 0 < WW := Nat.pow_pos (by decide)
/-- The word of a number modulo 2^256, as limbs and as a value. -/
def wl (x : Nat) : List UInt64 := limbsN 4 x
def wo (x : Nat) : Value := .agg (u64s (wl x)).toArray
@[simp] theorem length_wl (x : Nat) : (wl x).length = 4 := rfl
theorem v64_wl (x : Nat) : v64 (wl x) = x % WW := v64_limbsN 4 x
theorem v64_wl_lt {x : Nat} (h : x < WW) : v64 (wl x) = x := by rw [v64_wl, Nat.mod_eq_of_lt h]
theorem v64_lt4 {w : List UInt64} (h : w.length = 4) : v64 w < WW := by have := v64_lt w; rwa [h] at this
theorem wl_of {w : List UInt64} {N : Nat} (hw : w.length = 4) (h : v64 w = N % WW) : w = wl N := eq_words4 hw rfl (h.trans (v64_wl N).symm)
theorem wl_self {w : List UInt64} (hw : w.length = 4) : w = wl (v64 w) := wl_of hw (Nat.mod_eq_of_lt (v64_lt4 hw)).symm
theorem wl_mod (x : Nat) : wl (x % WW) = wl x := wl_of (w := wl (x % WW)) rfl (by rw [v64_wl, Nat.mod_mod])
theorem wl_inj {x y : Nat} (hx : x < WW) (hy : y < WW) (h : wl x = wl y) : x = y := by
  have := congrArg v64 h
  rwa [v64_wl_lt hx, v64_wl_lt hy] at this
theorem wl_congr {x y : Nat} (h : x % WW = y % WW) : wl x = wl y := by rw [← wl_mod x, h, wl_mod]
theorem wo_mod (x : Nat) : wo (x % WW) = wo x := by rw [wo, wl_mod]; rfl
theorem wo_congr {x y : Nat} (h : x % WW = y % WW) : wo x = wo y := by rw [wo, wl_congr h]; rfl
theorem wo_list {w : List UInt64} (hw : w.length = 4) : Value.agg (u64s w).toArray = wo (v64 w) := by rw [wo, ← wl_self hw]
theorem wl_small (n : UInt64) : wl n.toNat = [n, 0, 0, 0] := by
  have h := n.toNat_lt
  refine (wl_of rfl ?_).symm
  have e : v64 [n, 0, 0, 0] = n.toNat := by simp [v64, n64, val]
  rw [e]
  exact (Nat.mod_eq_of_lt (Nat.lt_trans h (Nat.pow_lt_pow_right (by decide) (by decide)))).symm
theorem wl_zero : wl 0 = [0, 0, 0, 0] := wl_small 0
theorem wo_zero : wo 0 = .agg #[.int .u64 0, .int .u64 0, .int .u64 0, .int .u64 0] := by rw [wo, wl_zero]; rfl
theorem wo_small (n : UInt64) : wo n.toNat = .agg #[.int .u64 (n.toNat : Int), .int .u64 0, .int .u64 0, .int .u64 0] := by rw [wo, wl_small]; rfl
/-- The limbs behind the first are naught just for small numbers. -/
theorem small_iff {x : Nat} (hx : x < WW) : (wl x).getD 1 0 ||| (wl x).getD 2 0 ||| (wl x).getD 3 0 = 0 ↔ x < 2 ^ 64 := by
  have hv := v64_wl_lt hx
  obtain ⟨a, b, c, d, h⟩ := four (length_wl x)
  rw [h] at hv ⊢
  have e : v64 [a, b, c, d] = a.toNat + 18446744073709551616 * (b.toNat + 18446744073709551616 * (c.toNat + 18446744073709551616 * d.toNat)) := by simp [v64, n64, val]
  rw [e] at hv
  have ha := a.toNat_lt
  show b ||| c ||| d = 0 ↔ x < 2 ^ 64
  constructor
  · intro h0
    have h1 := congrArg UInt64.toNat h0
    rw [UInt64.toNat_or, UInt64.toNat_or] at h1
    have h2 : (b.toNat ||| c.toNat) = 0 ∧ d.toNat = 0 := Nat.or_eq_zero_iff.1 h1
    have h3 : b.toNat = 0 ∧ c.toNat = 0 := Nat.or_eq_zero_iff.1 h2.1
    rw [h2.2, h3.1, h3.2] at hv
    omega
  · intro h0
    have h1 : b.toNat = 0 ∧ c.toNat = 0 ∧ d.toNat = 0 := by omega
    apply UInt64.toNat_inj.1
    rw [UInt64.toNat_or, UInt64.toNat_or, h1.1, h1.2.1, h1.2.2]; rfl
theorem small_val {x : Nat} (h : x < 2 ^ 64) : ((wl x).getD 0 0).toNat = x := by
  have e : wl x = [UInt64.ofNat x, 0, 0, 0] := by
    have := wl_small (UInt64.ofNat x)
    rwa [UInt64.toNat_ofNat', Nat.mod_eq_of_lt h] at this
  rw [e]
  show (UInt64.ofNat x).toNat = x
  rw [UInt64.toNat_ofNat', Nat.mod_eq_of_lt h]
end Go.Proofs.Ytljacjjeinmfnaa
/- Package word: Of, Small, sums, differences, products. No condition. -/
namespace Go.Proofs.Ytljacjjeinmfnaa
set_option linter.unusedVariables false
set_option linter.unusedSimpArgs false
open Go Go.RowKit
theorem arr_part {N : Heaplet} {b lo hi c : Nat} {e : TypeId} {L : List UInt64} (h : Blk N b e (u64s L)) (hl : lo ≤ hi) (hh : hi ≤ L.length) (hc : hi - lo ≤ c) (hm : c ≤ 9223372036854775807) : RSl N 1 (some ⟨b, 0 + lo * 1, none⟩) (hi - lo) c (u64s ((L.drop lo).take (hi - lo))) := by
  refine ⟨by simp [u64s]; omega, hc, hm, fun h0 => ⟨b, lo, by rw [Nat.zero_add, Nat.mul_one], ?_⟩⟩
  have e := h.rng.sub (o := lo) (ds := u64s ((L.drop lo).take (hi - lo))) fun i hi' => by
    rw [List.getElem?_eq_getElem (by simp [u64s] at hi' ⊢; omega)]
    simp [u64s]
  rwa [Nat.zero_add] at e
theorem copy_all {zs : List Value} {l : List UInt64} {o k : Nat} (ho : o = 0) (hl : l.length ≤ k) (hz : zs.length ≤ k) : zs.take o ++ (u64s l).take k ++ zs.drop (o + k) = u64s l := by
  subst ho
  rw [List.take_zero, List.nil_append, List.take_of_length_le (by simpa using hl), List.drop_of_length_le (by omega), List.append_nil]
theorem WOf_f (n : UInt64) : Fn Try.prog 87 #[.int .u64 (n.toNat : Int)] [] [] (fun v L => v = wo n.toNat ∧ L = []) := by
  refine Fn.enter (vs := [.int .u64 (n.toNat : Int)]) Try.func87 rfl rfl rfl ?_
  intro E R hR
  change At _ _ E [R] _
  refine At.seq fun K1 hk_1 => ?_
  refine At.region ?_
  refine op_alloc (nxla rfl) ze26 rfl (fun N2 b2 B2 => ?_)
  change Blk N2 b2 _ [.int .u64 0, .int .u64 0, .int .u64 0, .int .u64 0] at B2
  refine At.opsNil ?_
  refine At.norm (hk_1 ?_)
  refine At.seq fun K2 hk_2 => ?_
  refine At.region ?_
  refine op_move (nxlf rfl) rfl rfl ?_
  refine op_buildA (out := [_, .int .u64 0, .int .u64 0, .int .u64 0]) (nxlf rfl) ze26 ae26 (.cons rfl .nil) rfl rfl ?_
  refine op_store (nxl rfl) sz26 rfl rfl rfl rfl rfl B2 (by simp) sel0 (fun N2 B2 => ?_)
  simp only [setL, List.set] at B2
  refine At.opsNil ?_
  refine At.norm (hk_2 ?_)
  refine At.ret (?_)
  refine At.ret1 (L1 := []) rfl (.cell rfl (res_agg (ds := [_, _, _, _]) ag26 B2 rfl rfl mem0) .nil) (.cons _ (.refl _)) (.refl _) ?_
  exact ⟨(wo_small n).symm, rfl⟩
theorem WSmall_no {x : Nat} (hx : x < WW) (h : ¬ x < 2 ^ 64) : Fn Try.prog 113 #[wo x] [] [] (fun v L => v = .tuple #[.int .u64 0, .bool false] ∧ L = []) := by
  have hl := length_wl x
  have hs := small_iff hx
  refine Fn.enter (vs := [wo x]) Try.func113 rfl rfl rfl ?_
  intro E R hR
  change At _ _ E [R] _
  refine At.seq fun K1 hk_1 => ?_
  refine At.region ?_
  refine op_box (nxla rfl) rfl rfl rfl (fun N1 b1 B1 => ?_)
  change Blk N1 b1 _ (u64s (wl x)) at B1
  refine op_assign (nxlf rfl) rfl rfl ?_
  refine op_assign (nxlf rfl) rfl rfl ?_
  refine At.opsNil ?_
  refine At.norm (hk_1 ?_)
  refine At.seq fun K2 hk_2 => ?_
  refine At.seq fun K3 hk_3 => ?_
  refine At.region ?_
  refine op_idxA (nxlf rfl) ae26 rfl rfl (show _ = ((1 : Nat) : Int) from rfl) (by omega) rfl ?_
  refine op_loadB (nxlf rfl) sc24 rfl B1 (by first | exact get64A (by omega) | rfl) mem0 rfl ?_
  refine op_idxA (nxlf rfl) ae26 rfl rfl (show _ = ((2 : Nat) : Int) from rfl) (by omega) rfl ?_
  refine op_loadB (nxlf rfl) sc24 rfl B1 (by first | exact get64A (by omega) | rfl) mem0 rfl ?_
  refine op_orU (nxlf rfl) rfl rfl rfl ?_
  refine op_idxA (nxlf rfl) ae26 rfl rfl (show _ = ((3 : Nat) : Int) from rfl) (by omega) rfl ?_
  refine op_loadB (nxlf rfl) sc24 rfl B1 (by first | exact get64A (by omega) | rfl) mem0 rfl ?_
  refine op_orU (nxlf rfl) rfl rfl rfl ?_
  refine op_neq (nxlf rfl) rfl rfl rfl ?_
  refine At.opsNil ?_
  refine At.norm (hk_3 ?_)
  refine At.condP rfl (fun c12 => ?_) (fun c12 => ?_)
  · refine At.seq fun K4 hk_4 => ?_
    refine At.region ?_
    refine op_assign (nxlf rfl) rfl rfl ?_
    refine op_assign (nxlf rfl) rfl rfl ?_
    refine At.opsNil ?_
    refine At.norm (hk_4 ?_)
    refine At.ret (At.thenRet (?_))
    refine At.sub (L' := [R]) (.cons _ (.cons_cons _ (.slnil))) ?_
    refine At.retN (L1 := []) rfl (.tmp rfl (.tmp rfl .nil)) rfl (.refl _) (.refl _) ?_
    exact ⟨rfl, rfl⟩
  · exact absurd (hs.1 (by apply UInt64.toNat_inj.1; show _ = 0; omega)) h
theorem WSmall_f {x : Nat} (hx : x < WW) (h : x < 2 ^ 64) : Fn Try.prog 113 #[wo x] [] [] (fun v L => v = .tuple #[.int .u64 (x : Int), .bool true] ∧ L = []) := by
  have hl := length_wl x
  have hs := (small_iff hx).2 h
  have hv := small_val h
  refine Fn.enter (vs := [wo x]) Try.func113 rfl rfl rfl ?_
  intro E R hR
  change At _ _ E [R] _
  refine At.seq fun K1 hk_1 => ?_
  refine At.region ?_
  refine op_box (nxla rfl) rfl rfl rfl (fun N1 b1 B1 => ?_)
  change Blk N1 b1 _ (u64s (wl x)) at B1
  refine op_assign (nxlf rfl) rfl rfl ?_
  refine op_assign (nxlf rfl) rfl rfl ?_
  refine At.opsNil ?_
  refine At.norm (hk_1 ?_)
  refine At.seq fun K2 hk_2 => ?_
  refine At.seq fun K3 hk_3 => ?_
  refine At.region ?_
  refine op_idxA (nxlf rfl) ae26 rfl rfl (show _ = ((1 : Nat) : Int) from rfl) (by omega) rfl ?_
  refine op_loadB (nxlf rfl) sc24 rfl B1 (by first | exact get64A (by omega) | rfl) mem0 rfl ?_
  refine op_idxA (nxlf rfl) ae26 rfl rfl (show _ = ((2 : Nat) : Int) from rfl) (by omega) rfl ?_
  refine op_loadB (nxlf rfl) sc24 rfl B1 (by first | exact get64A (by omega) | rfl) mem0 rfl ?_
  refine op_orU (nxlf rfl) rfl rfl rfl ?_
  refine op_idxA (nxlf rfl) ae26 rfl rfl (show _ = ((3 : Nat) : Int) from rfl) (by omega) rfl ?_
  refine op_loadB (nxlf rfl) sc24 rfl B1 (by first | exact get64A (by omega) | rfl) mem0 rfl ?_
  refine op_orU (nxlf rfl) rfl rfl rfl ?_
  refine op_neq (nxlf rfl) rfl rfl rfl ?_
  refine At.opsNil ?_
  refine At.norm (hk_3 ?_)
  refine At.condP rfl (fun c12 => ?_) (fun c12 => ?_)
  · exfalso; apply c12; rw [hs]; rfl
  · refine At.skip ?_
    refine At.norm (hk_2 ?_)
    refine At.seq fun K4 hk_4 => ?_
    refine At.region ?_
    refine op_idxA (nxlf rfl) ae26 rfl rfl (show _ = ((0 : Nat) : Int) from rfl) (by omega) rfl ?_
    refine op_loadB (nxlf rfl) sc24 rfl B1 (by first | exact get64A (by omega) | rfl) mem0 rfl ?_
    rw [hv]
    refine op_assign (nxlf rfl) rfl rfl ?_
    refine op_assign (nxlf rfl) rfl rfl ?_
    refine At.opsNil ?_
    refine At.norm (hk_4 ?_)
    refine At.ret (?_)
    refine At.sub (L' := [R]) (.cons _ (.cons_cons _ (.slnil))) ?_
    refine At.retN (L1 := []) rfl (.tmp rfl (.tmp rfl .nil)) rfl (.refl _) (.refl _) ?_
    exact ⟨rfl, rfl⟩
set_option maxRecDepth 100000 in
theorem added_f {x y : Nat} (hx : x < WW) (hy : y < WW) : Fn Try.prog 122 #[wo x, wo y] [] [] (fun v L => ∃ c : UInt64, v = .tuple #[wo (x + y), .int .u64 (c.toNat : Int)] ∧ L = [] ∧ (x + y) % WW + c.toNat * WW = x + y) := by
  have hlx := length_wl x
  have hly := length_wl y
  have hvx := v64_wl_lt hx
  have hvy := v64_wl_lt hy
  refine Fn.enter (vs := [wo x, wo y]) Try.func122 rfl rfl rfl ?_
  intro E R hR
  change At _ _ E [R] _
  refine At.seq fun K1 hk_1 => ?_
  refine At.region ?_
  refine op_box (nxla rfl) rfl rfl rfl (fun N2 b2 B2 => ?_)
  change Blk N2 b2 _ (u64s (wl x)) at B2
  refine op_box (nxla rfl) rfl rfl rfl (fun N3 b3 B3 => ?_)
  change Blk N3 b3 _ (u64s (wl y)) at B3
  refine op_alloc (nxla rfl) ze26 rfl (fun N4 b4 B4 => ?_)
  change Blk N4 b4 _ [.int .u64 0, .int .u64 0, .int .u64 0, .int .u64 0] at B4
  refine op_assign (nxlf rfl) rfl rfl ?_
  refine At.opsNil ?_
  refine At.norm (hk_1 ?_)
  refine At.seq fun K2 hk_2 => ?_
  refine At.region ?_
  refine op_assign (nxlf rfl) rfl rfl ?_
  refine At.opsNil ?_
  refine At.norm (hk_2 ?_)
  refine At.seq fun K3 hk_3 => ?_
  refine At.seq fun K4 hk_4 => ?_
  refine At.region ?_
  refine op_move (nxlf rfl) rfl rfl ?_
  refine At.opsNil ?_
  refine At.norm (hk_4 ?_)
  refine At.block ?_
  refine At.perm sel3 ?_
  refine At.perm sel1 ?_
  refine At.perm sel2 ?_
  refine At.perm sel3 ?_
  refine At.loop (fun fr_ hp_ ms_ => ∃ (k : Nat) (c : UInt64) (w : List UInt64) (N2 : Heaplet), fr_ = [(2, .pointer (some ⟨b2, 0, none⟩)), (3, .pointer (some ⟨b3, 0, none⟩)), (4, .pointer (some ⟨b4, 0, none⟩)), (6, .int .u64 (c.toNat : Int)), (8, .int .i64 (k : Int))] ∧ hp_ = [N2, N3, N4, R] ∧ 4 - k = ms_ ∧ (k ≤ 4) ∧ (w.length = k) ∧ (c.toNat ≤ 1) ∧ (v64 w + c.toNat * 2 ^ (64 * k) = v64 ((wl x).take k) + v64 ((wl y).take k)) ∧ (Blk N2 b2 26 (u64s (w ++ (wl x).drop k)))) ?_ (.refl _) ⟨0, 0, [], N2, rfl, rfl, rfl, by omega, rfl, by decide, by simp; rfl, by simpa using B2⟩ ?_
  · exact .cons (by first | exact lkI rfl (by omega) | rfl) (.cons (by first | exact lkI rfl (by omega) | rfl) (.cons (by first | exact lkI rfl (by omega) | rfl) (.cons (by first | exact lkI rfl (by omega) | rfl) (.cons (by first | exact lkI rfl (by omega) | rfl) .nil))))
  rintro _ _ _ ⟨k, c, w, N2, rfl, rfl, rfl, hk, hw, hc, hv, B2⟩
  have hwl : (w ++ (wl x).drop k).length = 4 := by rw [List.length_append, List.length_drop]; omega
  refine At.seq fun K5 hk_5 => ?_
  refine At.region ?_
  refine op_lss (nxlf rfl) rfl rfl rfl ?_
  refine At.opsNil ?_
  refine At.norm (hk_5 ?_)
  refine At.seq fun K6 hk_6 => ?_
  refine At.condP rfl (fun c9 => ?_) (fun c9 => ?_)
  · refine At.skip ?_
    refine At.norm (hk_6 ?_)
    refine At.seq fun K7 hk_7 => ?_
    refine At.block ?_
    refine At.seq fun K8 hk_8 => ?_
    refine At.region ?_
    refine op_move (nxlf rfl) rfl rfl ?_
    refine op_assign (nxlf rfl) rfl rfl ?_
    refine At.opsNil ?_
    refine At.norm (hk_8 ?_)
    refine At.perm sel3 ?_
    refine At.perm sel2 ?_
    refine At.perm sel2 ?_
    refine At.perm sel3 ?_
    refine At.drawnS [N2, N3, R] [8,13] [0,11] [0,1,2,3,4,5,6,7,8,9,10,11,12,13,14] (by kernel_rfl) (by kernel_rfl) (.cons _ (.refl _)) ?_
    refine op_move (nxsf rfl rfl rfl) rfl rfl ?_
    refine op_move (nxsf rfl rfl rfl) rfl rfl ?_
    refine op_idxA (nxsf rfl rfl rfl) ae26 rfl rfl (show _ = (((k : Nat)) : Int) from by omega) (by omega) rfl ?_
    refine op_loadB (nxsf rfl rfl rfl) sc24 rfl B2 (by first | exact get64A (by omega) | rfl) mem0 rfl ?_
    rw [getD_drop hw (show k < (wl x).length by omega)]
    refine op_move (nxsf rfl rfl rfl) rfl rfl ?_
    refine op_idxA (nxsf rfl rfl rfl) ae26 rfl rfl (show _ = (((k : Nat)) : Int) from by omega) (by omega) rfl ?_
    refine op_loadB (nxsf rfl rfl rfl) sc24 rfl B3 (by first | exact get64A (by omega) | rfl) mem1 rfl ?_
    refine op_move (nxsf rfl rfl rfl) rfl rfl ?_
    refine op_ext (Nx.agree (nxss rfl rfl rfl rfl)) (.cons rfl (.cons rfl (.cons rfl .nil))) (Add64_x ((wl x).getD k 0) ((wl y).getD k 0) c hc) rfl ?_
    refine At.anyS (.refl _) ?_
    refine op_move (nxsf rfl rfl rfl) rfl rfl ?_
    refine op_extract (nxsf rfl rfl rfl) rfl rfl rfl ?_
    refine op_extract (nxsf rfl rfl rfl) rfl rfl rfl ?_
    refine op_idxA (nxsf rfl rfl rfl) ae26 rfl rfl (show _ = (((k : Nat)) : Int) from by omega) (by omega) rfl ?_
    refine op_store (nxss rfl rfl rfl rfl) sz24 rfl rfl rfl rfl rfl B2 (by simp <;> omega) sel1 (fun N2 B2 => ?_)
    rw [set64A, set_drop hw (show k < (wl x).length by omega)] at B2
    refine At.anyS (.refl _) ?_
    refine op_assign (nxsf rfl rfl rfl) rfl rfl ?_
    refine At.sNil ?_
    refine At.inNorm ?_
    refine At.norm (hk_7 ?_)
    refine At.region ?_
    refine op_addI (nxlf rfl) rfl rfl (by omega) (by omega) rfl ?_
    refine op_move (nxlf rfl) rfl rfl ?_
    refine At.opsNil ?_
    refine At.norm ?_
    refine At.perm sel3 ?_
    refine At.perm sel2 ?_
    refine At.perm sel3 ?_
    refine At.perm sel3 ?_
    refine At.back ?_ (.refl _) ⟨k + 1, addC ((wl x).getD k 0) ((wl y).getD k 0) c, w ++ [addS ((wl x).getD k 0) ((wl y).getD k 0) c], N2, rfl, rfl, rfl, by omega, by simp; omega, (add64_law _ _ _ hc).2, add_round hw hc hv, B2⟩ ?_
    · exact .cons (by first | exact lkI rfl (by omega) | rfl) (.cons (by first | exact lkI rfl (by omega) | rfl) (.cons (by first | exact lkI rfl (by omega) | rfl) (.cons (by first | exact lkI rfl (by omega) | rfl) (.cons (by first | exact lkI rfl (by omega) | rfl) .nil))))
    · omega
  · refine At.exit (At.thenExit (At.thenExit (At.inHit ?_)))
    refine At.norm (hk_3 ?_)
    refine At.seq fun K9 hk_9 => ?_
    refine At.region ?_
    have hk4 : k = 4 := by omega
    rw [hk4, v64_take_all (by omega), v64_take_all (by omega), hvx, hvy] at hv
    rw [hk4, List.drop_of_length_le (by omega), List.append_nil] at B2
    have hw4 : w.length = 4 := by omega
    have hvw := v64_lt4 hw4
    have hsum : v64 w = (x + y) % WW := by
      rw [← WW_eq] at hv
      rw [← hv, Nat.add_mul_mod_self_right, Nat.mod_eq_of_lt hvw]
    have hwe := wl_of hw4 hsum
    rw [hwe] at B2
    refine op_loadAggB (ds := u64s (wl (x + y))) (nxlf rfl) ag26 rfl B2 (by first | (rw [List.drop_zero, List.take_of_length_le (by first | (simp; done) | (simp; omega))]; done) | rfl) (by first | (simp; done) | (simp; omega)) mem0 rfl ?_
    refine op_move (nxlf rfl) rfl rfl ?_
    refine op_store (nxl rfl) sz26 rfl rfl rfl rfl rfl B4 (by simp) sel2 (fun N4 B4 => ?_)
    rw [setL_whole (by simp)] at B4
    refine op_assign (nxlf rfl) rfl rfl ?_
    refine At.opsNil ?_
    refine At.norm (hk_9 ?_)
    refine At.ret (?_)
    refine At.sub (L' := [N4, R]) (.cons_cons _ (.cons _ (.cons _ (.cons_cons _ (.slnil))))) ?_
    refine At.retN (L1 := []) rfl (.cell rfl (res_agg (ds := u64s (wl (x + y))) ag26 B4 (by first | (rw [List.drop_zero, List.take_of_length_le (by first | (simp; done) | (simp; omega))]; done) | rfl) (by first | (simp; done) | (simp; omega)) mem0) (.tmp rfl .nil)) rfl (.cons _ (.refl _)) (.refl _) ?_
    exact ⟨c, rfl, rfl, by rw [← hsum]; rw [← WW_eq] at hv; exact hv⟩
set_option maxRecDepth 100000 in
theorem WAdd_f {x y : Nat} (hx : x < WW) (hy : y < WW) : Fn Try.prog 102 #[wo x, wo y] [] [] (fun v L => v = wo (x + y) ∧ L = []) := by
  refine Fn.enter (vs := [wo x, wo y]) Try.func102 rfl rfl rfl ?_
  intro E R hR
  change At _ _ E [R] _
  refine At.seq fun K1 hk_1 => ?_
  refine At.region ?_
  refine op_box (nxla rfl) rfl rfl rfl (fun N2 b2 B2 => ?_)
  change Blk N2 b2 _ (u64s (wl x)) at B2
  refine op_box (nxla rfl) rfl rfl rfl (fun N3 b3 B3 => ?_)
  change Blk N3 b3 _ (u64s (wl y)) at B3
  refine op_alloc (nxla rfl) ze26 rfl (fun N4 b4 B4 => ?_)
  change Blk N4 b4 _ [.int .u64 0, .int .u64 0, .int .u64 0, .int .u64 0] at B4
  refine At.opsNil ?_
  refine At.norm (hk_1 ?_)
  refine At.seq fun K2 hk_2 => ?_
  refine At.region ?_
  refine op_loadAggB (ds := u64s (wl x)) (nxlf rfl) ag26 rfl B2 (by first | (rw [List.drop_zero, List.take_of_length_le (by first | (simp; done) | (simp; omega))]; done) | rfl) (by first | (simp; done) | (simp; omega)) mem2 rfl ?_
  refine op_loadAggB (ds := u64s (wl y)) (nxlf rfl) ag26 rfl B3 (by first | (rw [List.drop_zero, List.take_of_length_le (by first | (simp; done) | (simp; omega))]; done) | rfl) (by first | (simp; done) | (simp; omega)) mem1 rfl ?_
  refine op_callA (nxla rfl) (.cons rfl (.cons rfl .nil)) (added_f hx hy) Try.func122 rfl rfl (by simp) rfl ?_
  rintro v10 L10 ⟨c, rfl, rfl, hs⟩
  change At _ _ _ [N4, N3, N2, R] _
  refine op_move (nxlf rfl) rfl rfl ?_
  refine op_extract (nxlf rfl) rfl rfl rfl ?_
  refine op_extract (nxlf rfl) rfl rfl rfl ?_
  refine op_alloc (nxla rfl) ze26 rfl (fun N5 b5 B5 => ?_)
  change Blk N5 b5 _ [.int .u64 0, .int .u64 0, .int .u64 0, .int .u64 0] at B5
  refine op_store (nxl rfl) sz26 rfl rfl rfl rfl rfl B5 (by simp) sel0 (fun N5 B5 => ?_)
  rw [setL_whole (by simp)] at B5
  refine op_assign (nxlf rfl) rfl rfl ?_
  refine At.opsNil ?_
  refine At.norm (hk_2 ?_)
  refine At.seq fun K3 hk_3 => ?_
  refine At.region ?_
  refine op_loadAggB (ds := u64s (wl (x + y))) (nxlf rfl) ag26 rfl B5 (by first | (rw [List.drop_zero, List.take_of_length_le (by first | (simp; done) | (simp; omega))]; done) | rfl) (by first | (simp; done) | (simp; omega)) mem0 rfl ?_
  refine op_store (nxl rfl) sz26 rfl rfl rfl rfl rfl B4 (by simp) sel1 (fun N4 B4 => ?_)
  rw [setL_whole (by simp)] at B4
  refine At.opsNil ?_
  refine At.norm (hk_3 ?_)
  refine At.ret (?_)
  refine At.sub (L' := [N4, R]) (.cons_cons _ (.cons _ (.cons _ (.cons _ (.cons_cons _ (.slnil)))))) ?_
  refine At.ret1 (L1 := []) rfl (.cell rfl (res_agg (ds := u64s (wl (x + y))) ag26 B4 (by first | (rw [List.drop_zero, List.take_of_length_le (by first | (simp; done) | (simp; omega))]; done) | rfl) (by first | (simp; done) | (simp; omega)) mem0) .nil) (.cons _ (.refl _)) (.refl _) ?_
  exact ⟨rfl, rfl⟩
set_option maxRecDepth 100000 in
theorem WSub_f {x y : Nat} (hx : x < WW) (hy : y < WW) : Fn Try.prog 129 #[wo x, wo y] [] [] (fun v L => v = wo (x + WW - y) ∧ L = []) := by
  have hlx := length_wl x
  have hly := length_wl y
  have hvx := v64_wl_lt hx
  have hvy := v64_wl_lt hy
  refine Fn.enter (vs := [wo x, wo y]) Try.func129 rfl rfl rfl ?_
  intro E R hR
  change At _ _ E [R] _
  refine At.seq fun K1 hk_1 => ?_
  refine At.region ?_
  refine op_box (nxla rfl) rfl rfl rfl (fun N2 b2 B2 => ?_)
  change Blk N2 b2 _ (u64s (wl x)) at B2
  refine op_box (nxla rfl) rfl rfl rfl (fun N3 b3 B3 => ?_)
  change Blk N3 b3 _ (u64s (wl y)) at B3
  refine op_alloc (nxla rfl) ze26 rfl (fun N4 b4 B4 => ?_)
  change Blk N4 b4 _ [.int .u64 0, .int .u64 0, .int .u64 0, .int .u64 0] at B4
  refine At.opsNil ?_
  refine At.norm (hk_1 ?_)
  refine At.seq fun K2 hk_2 => ?_
  refine At.region ?_
  refine op_assign (nxlf rfl) rfl rfl ?_
  refine At.opsNil ?_
  refine At.norm (hk_2 ?_)
  refine At.seq fun K3 hk_3 => ?_
  refine At.seq fun K4 hk_4 => ?_
  refine At.region ?_
  refine op_move (nxlf rfl) rfl rfl ?_
  refine At.opsNil ?_
  refine At.norm (hk_4 ?_)
  refine At.block ?_
  refine At.perm sel3 ?_
  refine At.perm sel1 ?_
  refine At.perm sel2 ?_
  refine At.perm sel3 ?_
  refine At.loop (fun fr_ hp_ ms_ => ∃ (k : Nat) (c : UInt64) (w : List UInt64) (N2 : Heaplet), fr_ = [(2, .pointer (some ⟨b2, 0, none⟩)), (3, .pointer (some ⟨b3, 0, none⟩)), (4, .pointer (some ⟨b4, 0, none⟩)), (5, .int .u64 (c.toNat : Int)), (7, .int .i64 (k : Int))] ∧ hp_ = [N2, N3, N4, R] ∧ 4 - k = ms_ ∧ (k ≤ 4) ∧ (w.length = k) ∧ (c.toNat ≤ 1) ∧ (v64 w + v64 ((wl y).take k) = v64 ((wl x).take k) + c.toNat * 2 ^ (64 * k)) ∧ (Blk N2 b2 26 (u64s (w ++ (wl x).drop k)))) ?_ (.refl _) ⟨0, 0, [], N2, rfl, rfl, rfl, by omega, rfl, by decide, by simp; rfl, by simpa using B2⟩ ?_
  · exact .cons (by first | exact lkI rfl (by omega) | rfl) (.cons (by first | exact lkI rfl (by omega) | rfl) (.cons (by first | exact lkI rfl (by omega) | rfl) (.cons (by first | exact lkI rfl (by omega) | rfl) (.cons (by first | exact lkI rfl (by omega) | rfl) .nil))))
  rintro _ _ _ ⟨k, c, w, N2, rfl, rfl, rfl, hk, hw, hc, hv, B2⟩
  have hwl : (w ++ (wl x).drop k).length = 4 := by rw [List.length_append, List.length_drop]; omega
  refine At.seq fun K5 hk_5 => ?_
  refine At.region ?_
  refine op_lss (nxlf rfl) rfl rfl rfl ?_
  refine At.opsNil ?_
  refine At.norm (hk_5 ?_)
  refine At.seq fun K6 hk_6 => ?_
  refine At.condP rfl (fun c8 => ?_) (fun c8 => ?_)
  · refine At.skip ?_
    refine At.norm (hk_6 ?_)
    refine At.seq fun K7 hk_7 => ?_
    refine At.block ?_
    refine At.seq fun K8 hk_8 => ?_
    refine At.region ?_
    refine op_move (nxlf rfl) rfl rfl ?_
    refine op_assign (nxlf rfl) rfl rfl ?_
    refine At.opsNil ?_
    refine At.norm (hk_8 ?_)
    refine At.perm sel3 ?_
    refine At.perm sel2 ?_
    refine At.perm sel2 ?_
    refine At.perm sel3 ?_
    refine At.drawnS [N2, N3, R] [8,13] [0,11] [0,1,2,3,4,5,6,7,8,9,10,11,12,13,14] (by kernel_rfl) (by kernel_rfl) (.cons _ (.refl _)) ?_
    refine op_move (nxsf rfl rfl rfl) rfl rfl ?_
    refine op_move (nxsf rfl rfl rfl) rfl rfl ?_
    refine op_idxA (nxsf rfl rfl rfl) ae26 rfl rfl (show _ = (((k : Nat)) : Int) from by omega) (by omega) rfl ?_
    refine op_loadB (nxsf rfl rfl rfl) sc24 rfl B2 (by first | exact get64A (by omega) | rfl) mem0 rfl ?_
    rw [getD_drop hw (show k < (wl x).length by omega)]
    refine op_move (nxsf rfl rfl rfl) rfl rfl ?_
    refine op_idxA (nxsf rfl rfl rfl) ae26 rfl rfl (show _ = (((k : Nat)) : Int) from by omega) (by omega) rfl ?_
    refine op_loadB (nxsf rfl rfl rfl) sc24 rfl B3 (by first | exact get64A (by omega) | rfl) mem1 rfl ?_
    refine op_move (nxsf rfl rfl rfl) rfl rfl ?_
    refine op_ext (Nx.agree (nxss rfl rfl rfl rfl)) (.cons rfl (.cons rfl (.cons rfl .nil))) (Sub64_x ((wl x).getD k 0) ((wl y).getD k 0) c hc) rfl ?_
    refine At.anyS (.refl _) ?_
    refine op_move (nxsf rfl rfl rfl) rfl rfl ?_
    refine op_extract (nxsf rfl rfl rfl) rfl rfl rfl ?_
    refine op_extract (nxsf rfl rfl rfl) rfl rfl rfl ?_
    refine op_idxA (nxsf rfl rfl rfl) ae26 rfl rfl (show _ = (((k : Nat)) : Int) from by omega) (by omega) rfl ?_
    refine op_store (nxss rfl rfl rfl rfl) sz24 rfl rfl rfl rfl rfl B2 (by simp <;> omega) sel1 (fun N2 B2 => ?_)
    rw [set64A, set_drop hw (show k < (wl x).length by omega)] at B2
    refine At.anyS (.refl _) ?_
    refine op_assign (nxsf rfl rfl rfl) rfl rfl ?_
    refine At.sNil ?_
    refine At.inNorm ?_
    refine At.norm (hk_7 ?_)
    refine At.region ?_
    refine op_addI (nxlf rfl) rfl rfl (by omega) (by omega) rfl ?_
    refine op_move (nxlf rfl) rfl rfl ?_
    refine At.opsNil ?_
    refine At.norm ?_
    refine At.perm sel3 ?_
    refine At.perm sel2 ?_
    refine At.perm sel3 ?_
    refine At.perm sel3 ?_
    refine At.back ?_ (.refl _) ⟨k + 1, subC ((wl x).getD k 0) ((wl y).getD k 0) c, w ++ [subS ((wl x).getD k 0) ((wl y).getD k 0) c], N2, rfl, rfl, rfl, by omega, by simp; omega, (sub64_law _ _ _ hc).2, sub_round hw hc hv, B2⟩ ?_
    · exact .cons (by first | exact lkI rfl (by omega) | rfl) (.cons (by first | exact lkI rfl (by omega) | rfl) (.cons (by first | exact lkI rfl (by omega) | rfl) (.cons (by first | exact lkI rfl (by omega) | rfl) (.cons (by first | exact lkI rfl (by omega) | rfl) .nil))))
    · omega
  · refine At.exit (At.thenExit (At.thenExit (At.inHit ?_)))
    refine At.norm (hk_3 ?_)
    refine At.seq fun K9 hk_9 => ?_
    refine At.region ?_
    have hk4 : k = 4 := by omega
    rw [hk4, v64_take_all (by omega), v64_take_all (by omega), hvx, hvy] at hv
    rw [hk4, List.drop_of_length_le (by omega), List.append_nil] at B2
    have hw4 : w.length = 4 := by omega
    have hvw := v64_lt4 hw4
    have hsum : v64 w = (x + WW - y) % WW := by
      rw [← WW_eq] at hv
      have hc2 : c.toNat = 0 ∨ c.toNat = 1 := by omega
      rcases hc2 with h | h
      · rw [h, Nat.zero_mul] at hv
        rw [show x + WW - y = v64 w + WW by omega, Nat.add_mod_right, Nat.mod_eq_of_lt hvw]
      · rw [h, Nat.one_mul] at hv
        rw [show x + WW - y = v64 w by omega, Nat.mod_eq_of_lt hvw]
    have hwe := wl_of hw4 hsum
    rw [hwe] at B2
    refine op_loadAggB (ds := u64s (wl (x + WW - y))) (nxlf rfl) ag26 rfl B2 (by first | (rw [List.drop_zero, List.take_of_length_le (by first | (simp; done) | (simp; omega))]; done) | rfl) (by first | (simp; done) | (simp; omega)) mem0 rfl ?_
    refine op_store (nxl rfl) sz26 rfl rfl rfl rfl rfl B4 (by simp) sel2 (fun N4 B4 => ?_)
    rw [setL_whole (by simp)] at B4
    refine At.opsNil ?_
    refine At.norm (hk_9 ?_)
    refine At.ret (?_)
    refine At.sub (L' := [N4, R]) (.cons_cons _ (.cons _ (.cons _ (.cons_cons _ (.slnil))))) ?_
    refine At.ret1 (L1 := []) rfl (.cell rfl (res_agg (ds := u64s (wl (x + WW - y))) ag26 B4 (by first | (rw [List.drop_zero, List.take_of_length_le (by first | (simp; done) | (simp; omega))]; done) | rfl) (by first | (simp; done) | (simp; omega)) mem0) .nil) (.cons _ (.refl _)) (.refl _) ?_
    exact ⟨rfl, rfl⟩
set_option maxRecDepth 100000 in
theorem Wide_f {x y : Nat} (hx : x < WW) (hy : y < WW) : Fn Try.prog 123 #[wo x, wo y] [] [] (fun v L => v = .tuple #[wo (x * y / WW), wo (x * y)] ∧ L = []) := by
  have hlx := length_wl x
  have hly := length_wl y
  have hvx := v64_wl_lt hx
  have hvy := v64_wl_lt hy
  refine Fn.enter (vs := [wo x, wo y]) Try.func123 rfl rfl rfl ?_
  intro E R hR
  change At _ _ E [R] _
  refine At.seq fun K1 hk_1 => ?_
  refine At.region ?_
  refine op_box (nxla rfl) rfl rfl rfl (fun N2 b2 B2 => ?_)
  change Blk N2 b2 _ (u64s (wl x)) at B2
  refine op_box (nxla rfl) rfl rfl rfl (fun N3 b3 B3 => ?_)
  change Blk N3 b3 _ (u64s (wl y)) at B3
  refine op_alloc (nxla rfl) ze26 rfl (fun N4 b4 B4 => ?_)
  change Blk N4 b4 _ [.int .u64 0, .int .u64 0, .int .u64 0, .int .u64 0] at B4
  refine op_alloc (nxla rfl) ze26 rfl (fun N5 b5 B5 => ?_)
  change Blk N5 b5 _ [.int .u64 0, .int .u64 0, .int .u64 0, .int .u64 0] at B5
  refine At.opsNil ?_
  refine At.norm (hk_1 ?_)
  refine At.seq fun K2 hk_2 => ?_
  refine At.region ?_
  refine op_alloc (nxla rfl) ze198 rfl (fun N6 b6 B6 => ?_)
  change Blk N6 b6 _ [.int .u64 0, .int .u64 0, .int .u64 0, .int .u64 0, .int .u64 0, .int .u64 0, .int .u64 0, .int .u64 0] at B6
  change Blk N6 b6 _ (u64s (List.replicate 8 0)) at B6
  refine At.opsNil ?_
  refine At.norm (hk_2 ?_)
  refine At.seq fun K3 hk_3 => ?_
  refine At.seq fun K4 hk_4 => ?_
  refine At.region ?_
  refine op_loadAggB (ds := u64s (wl x)) (nxlf rfl) ag26 rfl B2 (by first | (rw [List.drop_zero, List.take_of_length_le (by first | (simp; done) | (simp; omega))]; done) | rfl) (by first | (simp; done) | (simp; omega)) mem4 rfl ?_
  refine op_move (nxlf rfl) rfl rfl ?_
  refine At.opsNil ?_
  refine At.norm (hk_4 ?_)
  refine At.block ?_
  refine At.sub (L' := [N6, N5, N4, N3, R]) (.cons_cons _ (.cons_cons _ (.cons_cons _ (.cons_cons _ (.cons _ (.cons_cons _ (.slnil))))))) ?_
  refine At.perm sel4 ?_
  refine At.perm sel2 ?_
  refine At.perm sel3 ?_
  refine At.perm sel4 ?_
  refine At.perm sel4 ?_
  refine At.loop (fun fr_ hp_ ms_ => ∃ (i : Nat) (p : List UInt64) (N6 : Heaplet), fr_ = [(3, .pointer (some ⟨b3, 0, none⟩)), (4, .pointer (some ⟨b4, 0, none⟩)), (5, .pointer (some ⟨b5, 0, none⟩)), (6, .pointer (some ⟨b6, 0, none⟩)), (15, .agg (u64s (wl x)).toArray), (16, .int .i64 (i : Int))] ∧ hp_ = [N6, N3, N4, N5, R] ∧ 4 - i = ms_ ∧ (i ≤ 4) ∧ (p.length = i + 4) ∧ (v64 p = v64 ((wl x).take i) * v64 (wl y)) ∧ (Blk N6 b6 198 (u64s (p ++ List.replicate (4 - i) 0)))) ?_ (.refl _) ⟨0, List.replicate 4 0, N6, rfl, rfl, rfl, by omega, by simp, by rw [v64_replicate]; simp [v64, n64, val], B6⟩ ?_
  · exact .cons (by first | exact lkI rfl (by omega) | rfl) (.cons (by first | exact lkI rfl (by omega) | rfl) (.cons (by first | exact lkI rfl (by omega) | rfl) (.cons (by first | exact lkI rfl (by omega) | rfl) (.cons (by first | exact lkI rfl (by omega) | rfl) (.cons (by first | exact lkI rfl (by omega) | rfl) .nil)))))
  rintro _ _ _ ⟨i, p, N6, rfl, rfl, rfl, hi, hp, hv, B6⟩
  have hpl : (p ++ List.replicate (4 - i) (0 : UInt64)).length = 8 := by simp; omega
  refine At.seq fun K5 hk_5 => ?_
  refine At.region ?_
  refine op_lss (nxlf rfl) rfl rfl rfl ?_
  refine At.opsNil ?_
  refine At.norm (hk_5 ?_)
  refine At.seq fun K6 hk_6 => ?_
  refine At.condP rfl (fun c17 => ?_) (fun c17 => ?_)
  · refine At.skip ?_
    refine At.norm (hk_6 ?_)
    refine At.seq fun K7 hk_7 => ?_
    refine At.block ?_
    refine At.seq fun K8 hk_8 => ?_
    refine At.region ?_
    refine op_move (nxlf rfl) rfl rfl ?_
    refine op_idxV (nxlf rfl) ae26 sc24 rfl rfl (show _ = (((i : Nat)) : Int) from by omega) (by omega) (by simpa using get64 (bs := wl x) (j := i) (by omega)) rfl ?_
    refine op_assign (nxlf rfl) rfl rfl ?_
    refine op_assign (nxlf rfl) rfl rfl ?_
    refine At.opsNil ?_
    refine At.norm (hk_8 ?_)
    refine At.seq fun K9 hk_9 => ?_
    refine At.region ?_
    refine op_assign (nxlf rfl) rfl rfl ?_
    refine At.opsNil ?_
    refine At.norm (hk_9 ?_)
    refine At.seq fun K10 hk_10 => ?_
    refine At.seq fun K11 hk_11 => ?_
    refine At.region ?_
    refine op_loadAggB (ds := u64s (wl y)) (nxlf rfl) ag26 rfl B3 (by first | (rw [List.drop_zero, List.take_of_length_le (by first | (simp; done) | (simp; omega))]; done) | rfl) (by first | (simp; done) | (simp; omega)) mem1 rfl ?_
    refine op_move (nxlf rfl) rfl rfl ?_
    refine At.opsNil ?_
    refine At.norm (hk_11 ?_)
    refine At.block ?_
    refine At.loop (fun fr_ hp_ ms_ => ∃ (k : Nat) (c : UInt64) (p : List UInt64) (N6 : Heaplet), fr_ = [(3, .pointer (some ⟨b3, 0, none⟩)), (4, .pointer (some ⟨b4, 0, none⟩)), (5, .pointer (some ⟨b5, 0, none⟩)), (6, .pointer (some ⟨b6, 0, none⟩)), (7, .int .i64 (i : Int)), (8, .int .u64 (((wl x).getD i 0).toNat : Int)), (9, .int .u64 (c.toNat : Int)), (15, .agg (u64s (wl x)).toArray), (16, .int .i64 (i : Int)), (20, .agg (u64s (wl y)).toArray), (21, .int .i64 (k : Int))] ∧ hp_ = [N6, N3, N4, N5, R] ∧ 4 - k = ms_ ∧ (k ≤ 4) ∧ (p.length = i + 4) ∧ (v64 p + c.toNat * 2 ^ (64 * (i + k)) = v64 ((wl x).take i) * v64 (wl y) + 2 ^ (64 * i) * (((wl x).getD i 0).toNat * v64 ((wl y).take k))) ∧ (Blk N6 b6 198 (u64s (p ++ List.replicate (4 - i) 0)))) ?_ (.refl _) ⟨0, 0, p, N6, rfl, rfl, rfl, by omega, hp, by rw [hv]; simp [v64, n64, val], B6⟩ ?_
    · exact .cons (by first | exact lkI rfl (by omega) | rfl) (.cons (by first | exact lkI rfl (by omega) | rfl) (.cons (by first | exact lkI rfl (by omega) | rfl) (.cons (by first | exact lkI rfl (by omega) | rfl) (.cons (by first | exact lkI rfl (by omega) | rfl) (.cons (by first | exact lkI rfl (by omega) | rfl) (.cons (by first | exact lkI rfl (by omega) | rfl) (.cons (by first | exact lkI rfl (by omega) | rfl) (.cons (by first | exact lkI rfl (by omega) | rfl) (.cons (by first | exact lkI rfl (by omega) | rfl) (.cons (by first | exact lkI rfl (by omega) | rfl) .nil))))))))))
    rintro _ _ _ ⟨k, c, p, N6, rfl, rfl, rfl, hk, hp, hv, B6⟩
    have hpl : (p ++ List.replicate (4 - i) (0 : UInt64)).length = 8 := by simp; omega
    refine At.seq fun K12 hk_12 => ?_
    refine At.region ?_
    refine op_lss (nxlf rfl) rfl rfl rfl ?_
    refine At.opsNil ?_
    refine At.norm (hk_12 ?_)
    refine At.seq fun K13 hk_13 => ?_
    refine At.condP rfl (fun c22 => ?_) (fun c22 => ?_)
    · refine At.skip ?_
      refine At.norm (hk_13 ?_)
      refine At.seq fun K14 hk_14 => ?_
      refine At.block ?_
      refine At.seq fun K15 hk_15 => ?_
      refine At.region ?_
      refine op_move (nxlf rfl) rfl rfl ?_
      refine op_idxV (nxlf rfl) ae26 sc24 rfl rfl (show _ = (((k : Nat)) : Int) from by omega) (by omega) (by simpa using get64 (bs := wl y) (j := k) (by omega)) rfl ?_
      refine op_assign (nxlf rfl) rfl rfl ?_
      refine op_assign (nxlf rfl) rfl rfl ?_
      refine At.opsNil ?_
      refine At.norm (hk_15 ?_)
      refine At.seq fun K16 hk_16 => ?_
      refine At.region ?_
      refine op_move (nxlf rfl) rfl rfl ?_
      refine op_move (nxlf rfl) rfl rfl ?_
      refine op_callA (nxla rfl) (.cons rfl (.cons rfl .nil)) (Mul64_f ((wl x).getD i 0) ((wl y).getD k 0)) Try.func140 rfl rfl (by simp) rfl ?_
      rintro v28 L28 ⟨rfl, rfl⟩
      change At _ _ _ [N6, N3, N4, N5, R] _
      refine op_move (nxlf rfl) rfl rfl ?_
      refine op_extract (nxlf rfl) rfl rfl rfl ?_
      refine op_extract (nxlf rfl) rfl rfl rfl ?_
      refine op_assign (nxlf rfl) rfl rfl ?_
      refine op_assign (nxlf rfl) rfl rfl ?_
      refine At.opsNil ?_
      refine At.norm (hk_16 ?_)
      refine At.seq fun K17 hk_17 => ?_
      refine At.region ?_
      refine op_assign (nxlf rfl) rfl rfl ?_
      refine At.opsNil ?_
      refine At.norm (hk_17 ?_)
      refine At.seq fun K18 hk_18 => ?_
      refine At.region ?_
      refine op_move (nxlf rfl) rfl rfl ?_
      refine op_move (nxlf rfl) rfl rfl ?_
      refine op_move (nxlf rfl) rfl rfl ?_
      refine op_addI (nxlf rfl) rfl rfl (by omega) (by omega) rfl ?_
      refine op_idxA (nxlf rfl) ae198 rfl rfl (show _ = (((i + k : Nat)) : Int) from by omega) (by omega) rfl ?_
      refine op_loadB (nxlf rfl) sc24 rfl B6 (by first | exact get64A (by omega) | rfl) mem0 rfl ?_
      rw [getD_app (p := p) (j := i + k) (by omega)]
      refine op_ext (nxla rfl) (.cons rfl (.cons rfl (.cons rfl .nil))) (Add64_x ((wl x).getD i 0 * (wl y).getD k 0) (p.getD (i + k) 0) 0 (by decide)) rfl ?_
      refine op_move (nxlf rfl) rfl rfl ?_
      refine op_extract (nxlf rfl) rfl rfl rfl ?_
      refine op_extract (nxlf rfl) rfl rfl rfl ?_
      refine op_assign (nxlf rfl) rfl rfl ?_
      refine op_assign (nxlf rfl) rfl rfl ?_
      refine At.opsNil ?_
      refine At.norm (hk_18 ?_)
      refine At.seq fun K19 hk_19 => ?_
      refine At.region ?_
      refine op_move (nxlf rfl) rfl rfl ?_
      refine op_move (nxlf rfl) rfl rfl ?_
      refine op_addU (nxlf rfl) rfl rfl rfl ?_
      refine op_assign (nxlf rfl) rfl rfl ?_
      refine At.opsNil ?_
      refine At.norm (hk_19 ?_)
      refine At.seq fun K20 hk_20 => ?_
      refine At.region ?_
      refine op_move (nxlf rfl) rfl rfl ?_
      refine op_move (nxlf rfl) rfl rfl ?_
      refine op_ext (nxla rfl) (.cons rfl (.cons rfl (.cons rfl .nil))) (Add64_x (addS ((wl x).getD i 0 * (wl y).getD k 0) (p.getD (i + k) 0) 0) c 0 (by decide)) rfl ?_
      refine op_move (nxlf rfl) rfl rfl ?_
      refine op_extract (nxlf rfl) rfl rfl rfl ?_
      refine op_extract (nxlf rfl) rfl rfl rfl ?_
      refine op_assign (nxlf rfl) rfl rfl ?_
      refine op_assign (nxlf rfl) rfl rfl ?_
      refine At.opsNil ?_
      refine At.norm (hk_20 ?_)
      refine At.region ?_
      refine op_move (nxlf rfl) rfl rfl ?_
      refine op_move (nxlf rfl) rfl rfl ?_
      refine op_addI (nxlf rfl) rfl rfl (by omega) (by omega) rfl ?_
      refine op_move (nxlf rfl) rfl rfl ?_
      refine op_move (nxlf rfl) rfl rfl ?_
      refine op_move (nxlf rfl) rfl rfl ?_
      refine op_addU (nxlf rfl) rfl rfl rfl ?_
      refine op_idxA (nxlf rfl) ae198 rfl rfl (show _ = (((i + k : Nat)) : Int) from by omega) (by omega) rfl ?_
      refine op_store (nxl rfl) sz24 rfl rfl rfl rfl rfl B6 (by simp <;> omega) sel0 (fun N6 B6 => ?_)
      rw [set64A, List.set_append_left (i + k) _ (show i + k < p.length by omega)] at B6
      refine op_assign (nxlf rfl) rfl rfl ?_
      refine At.opsNil ?_
      refine At.inNorm ?_
      refine At.norm (hk_14 ?_)
      refine At.region ?_
      refine op_addI (nxlf rfl) rfl rfl (by omega) (by omega) rfl ?_
      refine op_move (nxlf rfl) rfl rfl ?_
      refine At.opsNil ?_
      refine At.norm ?_
      refine At.back ?_ (.refl _) ⟨k + 1, mulH ((wl x).getD i 0) ((wl y).getD k 0) + addC ((wl x).getD i 0 * (wl y).getD k 0) (p.getD (i + k) 0) 0 + addC (addS ((wl x).getD i 0 * (wl y).getD k 0) (p.getD (i + k) 0) 0) c 0, p.set (i + k) (addS (addS ((wl x).getD i 0 * (wl y).getD k 0) (p.getD (i + k) 0) 0) c 0), N6, rfl, rfl, rfl, by omega, by simp; omega, mul_round (by omega) hv, B6⟩ ?_
      · exact .cons (by first | exact lkI rfl (by omega) | rfl) (.cons (by first | exact lkI rfl (by omega) | rfl) (.cons (by first | exact lkI rfl (by omega) | rfl) (.cons (by first | exact lkI rfl (by omega) | rfl) (.cons (by first | exact lkI rfl (by omega) | rfl) (.cons (by first | exact lkI rfl (by omega) | rfl) (.cons (by first | exact lkI rfl (by omega) | rfl) (.cons (by first | exact lkI rfl (by omega) | rfl) (.cons (by first | exact lkI rfl (by omega) | rfl) (.cons (by first | exact lkI rfl (by omega) | rfl) (.cons (by first | exact lkI rfl (by omega) | rfl) .nil))))))))))
      · omega
    · refine At.exit (At.thenExit (At.thenExit (At.inHit ?_)))
      refine At.norm (hk_10 ?_)
      refine At.region ?_
      have hk4 : k = 4 := by omega
      refine op_move (nxlf rfl) rfl rfl ?_
      refine op_addI (nxlf rfl) rfl rfl (by omega) (by omega) rfl ?_
      refine op_move (nxlf rfl) rfl rfl ?_
      refine op_idxA (nxlf rfl) ae198 rfl rfl (show _ = (((i + 4 : Nat)) : Int) from by omega) (by omega) rfl ?_
      refine op_store (nxl rfl) sz24 rfl rfl rfl rfl rfl B6 (by simp <;> omega) sel0 (fun N6 B6 => ?_)
      rw [set64A, set_rep hp (by omega)] at B6
      refine At.opsNil ?_
      refine At.inNorm ?_
      refine At.norm (hk_7 ?_)
      refine At.region ?_
      refine op_addI (nxlf rfl) rfl rfl (by omega) (by omega) rfl ?_
      refine op_move (nxlf rfl) rfl rfl ?_
      refine At.opsNil ?_
      refine At.norm ?_
      refine At.back ?_ (.refl _) ⟨i + 1, p ++ [c], N6, rfl, rfl, rfl, by omega, by simp; omega, by subst hk4; exact mul_outer (by rw [hly]; exact hp) (by rw [hly]; exact hv), by rw [show 4 - (i + 1) = 4 - i - 1 by omega]; exact B6⟩ ?_
      · exact .cons (by first | exact lkI rfl (by omega) | rfl) (.cons (by first | exact lkI rfl (by omega) | rfl) (.cons (by first | exact lkI rfl (by omega) | rfl) (.cons (by first | exact lkI rfl (by omega) | rfl) (.cons (by first | exact lkI rfl (by omega) | rfl) (.cons (by first | exact lkI rfl (by omega) | rfl) .nil)))))
      · omega
  · refine At.exit (At.thenExit (At.thenExit (At.inHit ?_)))
    refine At.norm (hk_3 ?_)
    refine At.seq fun K21 hk_21 => ?_
    refine At.drawnS [R] [2] [] [0,1,2] (by kernel_rfl) (by kernel_rfl) (.cons _ (.cons _ (.cons _ (.cons _ (.refl _))))) ?_
    have hi4 : i = 4 := by omega
    subst hi4
    rw [Nat.sub_self, List.replicate_zero, List.append_nil] at B6
    rw [v64_take_all (by omega), hvx, hvy] at hv
    have hp8 : p.length = 8 := by omega
    have s6 := arr_part B6 (lo := 0) (hi := 4) (c := 8) (by omega) (by omega) (by omega) (by omega)
    have s6b := arr_part B6 (lo := 4) (hi := 8) (c := 4) (by omega) (by omega) (by omega) (by omega)
    have e := v64_take_drop p (k := 4) (by omega)
    rw [hv, ← WW_eq] at e
    have hlo4 : (p.take 4).length = 4 := by rw [List.length_take]; omega
    have hhi4 : (p.drop 4).length = 4 := by rw [List.length_drop]; omega
    have hl1 := v64_lt4 hlo4
    have elo : p.take 4 = wl (x * y) := wl_of hlo4 (by rw [e, Nat.add_mul_mod_self_left, Nat.mod_eq_of_lt hl1])
    have ehi : p.drop 4 = wl (x * y / WW) := wl_of hhi4 (by
      rw [e, Nat.add_mul_div_left _ _ WW_pos, Nat.div_eq_of_lt hl1, Nat.zero_add, Nat.mod_eq_of_lt (v64_lt4 hhi4)])
    refine op_sliceA (nxsf rfl rfl rfl) ae26 rfl .none .none .none (by omega) (by omega) (by omega) (by simp) rfl ?_
    refine op_sliceA (nxsf rfl rfl rfl) ae198 rfl .none (.some rfl (show _ = ((4 : Nat) : Int) from rfl)) .none (by omega) (by omega) (by omega) (by simp) rfl ?_
    refine op_copyB (nxsl rfl rfl rfl rfl) se200 rfl rfl B5 s6 (by first | exact mem0 | exact mem1 | exact mem2 | exact mem3 | exact mem4 | exact mem5 | exact mem6 | exact mem7 | exact mem8 | exact mem9) (by first | exact one_u8s _ | exact one_u64s _ | exact one_u32s _ | (intro u hu; simp at hu; subst hu; rfl)) (by simp <;> omega) sel3 rfl (fun N5 B5 => ?_)
    rw [copy_all rfl (by rw [List.length_take]; omega) (by simp), show List.take (4 - 0) (List.drop 0 p) = wl (x * y) from elo] at B5
    refine At.sNil ?_
    refine At.norm (hk_21 ?_)
    refine At.seq fun K22 hk_22 => ?_
    refine At.drawnS [R] [2] [] [0,1,2] (by kernel_rfl) (by kernel_rfl) (.cons _ (.cons _ (.cons _ (.cons _ (.refl _))))) ?_
    refine op_sliceA (nxsf rfl rfl rfl) ae26 rfl .none .none .none (by omega) (by omega) (by omega) (by simp) rfl ?_
    refine op_sliceA (nxsf rfl rfl rfl) ae198 rfl (.some rfl (show _ = ((4 : Nat) : Int) from rfl)) .none .none (by omega) (by omega) (by omega) (by simp) rfl ?_
    refine op_copyB (nxsl rfl rfl rfl rfl) se200 rfl rfl B4 s6b (by first | exact mem0 | exact mem1 | exact mem2 | exact mem3 | exact mem4 | exact mem5 | exact mem6 | exact mem7 | exact mem8 | exact mem9) (by first | exact one_u8s _ | exact one_u64s _ | exact one_u32s _ | (intro u hu; simp at hu; subst hu; rfl)) (by simp <;> omega) sel3 rfl (fun N4 B4 => ?_)
    rw [copy_all rfl (by rw [List.length_take]; omega) (by simp), List.take_of_length_le (by omega), ehi] at B4
    refine At.sNil ?_
    refine At.norm (hk_22 ?_)
    refine At.seq fun K23 hk_23 => ?_
    refine At.region ?_
    refine op_loadAggB (ds := u64s (wl (x * y / WW))) (nxlf rfl) ag26 rfl B4 (by first | (rw [List.drop_zero, List.take_of_length_le (by first | (simp; done) | (simp; omega))]; done) | rfl) (by first | (simp; done) | (simp; omega)) mem0 rfl ?_
    refine op_loadAggB (ds := u64s (wl (x * y))) (nxlf rfl) ag26 rfl B5 (by first | (rw [List.drop_zero, List.take_of_length_le (by first | (simp; done) | (simp; omega))]; done) | rfl) (by first | (simp; done) | (simp; omega)) mem1 rfl ?_
    refine op_store (nxl rfl) sz26 rfl rfl rfl rfl rfl B4 (by simp) sel0 (fun N4 B4 => ?_)
    rw [setL_whole (by simp)] at B4
    refine op_store (nxl rfl) sz26 rfl rfl rfl rfl rfl B5 (by simp) sel1 (fun N5 B5 => ?_)
    rw [setL_whole (by simp)] at B5
    refine At.opsNil ?_
    refine At.norm (hk_23 ?_)
    refine At.ret (?_)
    refine At.sub (L' := [N5, N4, R]) (.cons_cons _ (.cons_cons _ (.cons _ (.cons _ (.cons_cons _ (.slnil)))))) ?_
    refine At.perm sel2 ?_
    refine At.perm sel1 ?_
    refine At.perm sel2 ?_
    refine At.retN (L1 := []) rfl (.cell rfl (res_agg (ds := u64s (wl (x * y / WW))) ag26 B4 (by first | (rw [List.drop_zero, List.take_of_length_le (by first | (simp; done) | (simp; omega))]; done) | rfl) (by first | (simp; done) | (simp; omega)) mem0) (.cell rfl (res_agg (ds := u64s (wl (x * y))) ag26 B5 (by first | (rw [List.drop_zero, List.take_of_length_le (by first | (simp; done) | (simp; omega))]; done) | rfl) (by first | (simp; done) | (simp; omega)) mem1) .nil)) rfl (.cons _ (.cons _ (.refl _))) (.refl _) ?_
    exact ⟨rfl, rfl⟩
end Go.Proofs.Ytljacjjeinmfnaa
/- The engine, words compared. For whatever program. No condition. -/
namespace Go.Proofs.Ytljacjjeinmfnaa
set_option linter.unusedVariables false
set_option linter.unusedSimpArgs false
open Go Go.RowKit
theorem all_range64 : ∀ (xs ys : List UInt64), xs.length = ys.length → ((List.range xs.length).all fun i => xs.getD i 0 == ys.getD i 0) = (xs == ys)
  | [], [], _ => rfl
  | x :: xs, y :: ys, h => by
    have ih := all_range64 xs ys (by simpa using h)
    rw [List.length_cons, List.range_succ_eq_map, List.all_cons, List.all_map]
    simp only [List.getD_cons_zero, Function.comp_def, List.getD_cons_succ, ih]
    simp [List.cons_beq_cons]
  | [], _ :: _, h => by simp at h
  | _ :: _, [], h => by simp at h
section
variable {P : Program}
theorem run_equalIn_words (w : World) (d : Nat) (t e : TypeId) (n : Nat) (ht : P.underlying t = some (.array n e)) (he : P.underlying e = some (.int .u64)) (hsz : ∀ w, (sizeOf e).run P w = .ok 1 w)
    (xs ys : List UInt64) (hx : xs.length = n) (hy : ys.length = n) :
    (Op.equalIn (d + 2) t (.agg (u64s xs).toArray) (.agg (u64s ys).toArray)).run P w = .ok (xs == ys) w := by
  rw [← all_range64 xs ys (hx.trans hy.symm), hx, List.range_eq_range', Op.equalIn]
  simp only [Sem.run_bind, Go.run_underlying ht, Result.andThen_ok, hsz, Std.Legacy.Range.forIn_eq_forIn_range', Std.Legacy.Range.size, Nat.sub_zero, Nat.add_sub_cancel, Nat.div_one]
  have hl : ∀ i ∈ List.range' 0 n 1, i < n := fun i hi => by simpa using (List.mem_range'_1.1 hi).2
  generalize List.range' 0 n 1 = l at hl ⊢
  induction l with
  | nil => simp
  | cons i l ih =>
    have hi : i < n := hl i (by simp)
    have px : (part e (u64s xs).toArray (i * 1)).run P w = .ok (.int .u64 ((xs.getD i 0).toNat : Int)) w := by
      simp [part, isAgg, Go.run_underlying he, u64s, vl, List.getD, List.getElem?_eq_getElem (show i < xs.length by omega)]
    have py : (part e (u64s ys).toArray (i * 1)).run P w = .ok (.int .u64 ((ys.getD i 0).toNat : Int)) w := by
      simp [part, isAgg, Go.run_underlying he, u64s, vl, List.getD, List.getElem?_eq_getElem (show i < ys.length by omega)]
    have pe : (Op.equalIn (d + 1) e (.int .u64 ((xs.getD i 0).toNat : Int)) (.int .u64 ((ys.getD i 0).toNat : Int))).run P w = .ok (xs.getD i 0 == ys.getD i 0) w := by
      rw [run_equalIn_int w d e .u64 .u64 _ _ he]
      congr 1
      rw [Bool.eq_iff_iff]
      simp [← UInt64.toNat_inj]
      omega
    simp only [List.forIn_cons, Sem.run_bind, px, py, pe, Result.andThen_ok, List.all_cons]
    cases hb : (xs.getD i 0 == ys.getD i 0)
    · simp
    · simp only [Bool.not_true, Bool.false_eq_true, if_false, Sem.run_pure, Result.andThen_ok, Bool.true_and]
      exact ih fun j hj => hl j (by simp [hj])
theorem eqGuard_agg {op : BinOp} {t : TypeId} {x y : Operand} {a b : Array Value} (h : P.eqGuardType P.depth t = false) (w : World) : (eqGuard op t x y (.agg a) (.agg b)).run P w = .ok () w := by
  unfold eqGuard
  by_cases ho : (!(op matches .eql | .neq)) = true <;> simp [ho, h]
variable {n : Nat} {l : List (Nat × Value)} {E : World} {L Ls : List Heaplet} {X Y : Act → World → Prop} {d : Nat} {t t' ty e : TypeId} {x y : Operand}
theorem op_eqW {a b : List UInt64} {k : Nat} {pos : _} {aft : _} {g : _} (s : NxF P n l E L Ls ⟨some d, .binOp .eql t x y t', ty, pos, aft, g⟩ X Y) (ht : aelt P t = some (k, e, 1)) (he : P.underlying e = some (.int .u64)) (hg : P.eqGuardType P.depth t = false) (hx : ev l x = some (.agg (u64s a).toArray)) (hy : ev l y = some (.agg (u64s b).toArray)) (ha : a.length = k) (hb : b.length = k) (hn : Nat.ble (d + 1) n = true) (h : At n ((d, .bool (decide (a = b))) :: l) E L Y) : At n l E L X := by
  obtain ⟨hu, i, hi, hsz⟩ := aelt_spec ht
  exact op_bin s hx hy (fun w => eqGuard_agg hg w) (fun w => by
    rw [run_eql_struct, run_equalIn_words w 9998 t e k hu he (fun w => by rw [run_sizeOf hi, hsz]) a b ha hb]
    simp only [Result.andThen_ok, show (a == b) = decide (a = b) from by rw [Bool.eq_iff_iff]; simp]) hn h
end
end Go.Proofs.Ytljacjjeinmfnaa
/- Package word: products, quotients, with signs and without. No condition. -/
namespace Go.Proofs.Ytljacjjeinmfnaa
set_option linter.unusedVariables false
set_option linter.unusedSimpArgs false
open Go Go.RowKit
theorem wl_eq_zero {y : Nat} (hy : y < WW) : wl y = [0, 0, 0, 0] ↔ y = 0 := by
  rw [← wl_zero]
  exact ⟨fun h => wl_inj hy WW_pos h, fun h => by rw [h]⟩
/-- What is left; 0 by 0. -/
def modZ (x y : Nat) : Nat := if y = 0 then 0 else x % y
def HW : Nat := 2 ^ 255
theorem WW_HW : WW = 2 * HW := rfl
/-- Is the signed value below 0? -/
def negB (x : Nat) : Bool := decide (HW ≤ x)
/-- A word, or less it. -/
def sgn (m : Bool) (x : Nat) : Nat := if m then WW - x else x
def absW (x : Nat) : Nat := sgn (negB x) x
theorem absW_lt {x : Nat} (hx : x < WW) : absW x < WW := by
  unfold absW sgn negB
  have := WW_HW
  have h0 : 0 < HW := Nat.pow_pos (by decide)
  split
  · rename_i h; have := of_decide_eq_true h; omega
  · exact hx
theorem absW_zero {y : Nat} (hy : y < WW) : absW y = 0 ↔ y = 0 := by
  unfold absW sgn negB
  have := WW_HW
  have h0 : 0 < HW := Nat.pow_pos (by decide)
  split
  · rename_i h; have := of_decide_eq_true h; omega
  · exact Iff.rfl
theorem copy_limbs {Q o k : Nat} (ho : o = 0) (hk : k = min (limbsOf Q).length 4) : ([Value.int .u64 0, .int .u64 0, .int .u64 0, .int .u64 0] : List Value).take o ++ (u64s (limbsOf Q)).take k ++ ([Value.int .u64 0, .int .u64 0, .int .u64 0, .int .u64 0] : List Value).drop (o + k) = u64s (wl Q) := by
  subst ho
  have e0 : ([Value.int .u64 0, .int .u64 0, .int .u64 0, .int .u64 0] : List Value) = u64s (List.replicate 4 0) := rfl
  have hk2 : (limbsOf Q).take k = (limbsOf Q).take 4 := by
    rcases Nat.lt_or_ge (limbsOf Q).length 4 with h | h
    · rw [List.take_of_length_le (by omega), List.take_of_length_le (by omega)]
    · rw [show k = 4 by omega]
  have hk4 : k ≤ 4 := by omega
  rw [e0, List.take_zero, List.nil_append, Nat.zero_add, u64s_takeR, u64s_drop, hk2, List.drop_replicate]
  have e1 : u64s ((limbsOf Q).take 4) ++ u64s (List.replicate (4 - k) 0) = u64s ((limbsOf Q).take 4 ++ List.replicate (4 - k) 0) := by simp [u64s]
  rw [e1]
  congr 1
  refine wl_of (by rw [List.length_append, List.length_take, List.length_replicate]; omega) ?_
  rw [v64_pad]
  have h := v64_take_lt (limbsOf Q) 4
  rcases Nat.lt_or_ge (limbsOf Q).length 4 with h4 | h4
  · rw [List.take_of_length_le (by omega), v64_limbsOf]
    have hlt := v64_lt (limbsOf Q)
    rw [v64_limbsOf] at hlt
    exact (Nat.mod_eq_of_lt (Nat.lt_of_lt_of_le hlt (Nat.pow_le_pow_right (by decide) (by omega : 64 * (limbsOf Q).length ≤ 256)))).symm
  · have e := v64_take_drop (limbsOf Q) h4
    rw [v64_limbsOf] at e
    conv => rhs; rw [e]
    rw [← WW_eq, Nat.add_mul_mod_self_left, Nat.mod_eq_of_lt (by rw [WW_eq]; exact h)]
set_option maxRecDepth 100000 in
theorem WMul_f {x y : Nat} (hx : x < WW) (hy : y < WW) : Fn Try.prog 103 #[wo x, wo y] [] [] (fun v L => v = wo (x * y) ∧ L = []) := by
  refine Fn.enter (vs := [wo x, wo y]) Try.func103 rfl rfl rfl ?_
  intro E R hR
  change At _ _ E [R] _
  refine At.seq fun K1 hk_1 => ?_
  refine At.region ?_
  refine op_box (nxla rfl) rfl rfl rfl (fun N2 b2 B2 => ?_)
  change Blk N2 b2 _ (u64s (wl x)) at B2
  refine op_box (nxla rfl) rfl rfl rfl (fun N3 b3 B3 => ?_)
  change Blk N3 b3 _ (u64s (wl y)) at B3
  refine op_alloc (nxla rfl) ze26 rfl (fun N4 b4 B4 => ?_)
  change Blk N4 b4 _ [.int .u64 0, .int .u64 0, .int .u64 0, .int .u64 0] at B4
  refine At.opsNil ?_
  refine At.norm (hk_1 ?_)
  refine At.seq fun K2 hk_2 => ?_
  refine At.region ?_
  refine op_loadAggB (ds := u64s (wl x)) (nxlf rfl) ag26 rfl B2 (by first | (rw [List.drop_zero, List.take_of_length_le (by first | (simp; done) | (simp; omega))]; done) | rfl) (by first | (simp; done) | (simp; omega)) mem2 rfl ?_
  refine op_loadAggB (ds := u64s (wl y)) (nxlf rfl) ag26 rfl B3 (by first | (rw [List.drop_zero, List.take_of_length_le (by first | (simp; done) | (simp; omega))]; done) | rfl) (by first | (simp; done) | (simp; omega)) mem1 rfl ?_
  refine op_callA (nxla rfl) (.cons rfl (.cons rfl .nil)) (Wide_f hx hy) Try.func123 rfl rfl (by simp) rfl ?_
  rintro v10 L10 ⟨rfl, rfl⟩
  change At _ _ _ [N4, N3, N2, R] _
  refine op_move (nxlf rfl) rfl rfl ?_
  refine op_extract (nxlf rfl) rfl rfl rfl ?_
  refine op_extract (nxlf rfl) rfl rfl rfl ?_
  refine op_alloc (nxla rfl) ze26 rfl (fun N5 b5 B5 => ?_)
  change Blk N5 b5 _ [.int .u64 0, .int .u64 0, .int .u64 0, .int .u64 0] at B5
  refine op_alloc (nxla rfl) ze26 rfl (fun N6 b6 B6 => ?_)
  change Blk N6 b6 _ [.int .u64 0, .int .u64 0, .int .u64 0, .int .u64 0] at B6
  refine op_store (nxl rfl) sz26 rfl rfl rfl rfl rfl B5 (by simp) sel1 (fun N5 B5 => ?_)
  rw [setL_whole (by simp)] at B5
  refine op_store (nxl rfl) sz26 rfl rfl rfl rfl rfl B6 (by simp) sel1 (fun N6 B6 => ?_)
  rw [setL_whole (by simp)] at B6
  refine At.opsNil ?_
  refine At.norm (hk_2 ?_)
  refine At.seq fun K3 hk_3 => ?_
  refine At.region ?_
  refine op_loadAggB (ds := u64s (wl (x * y))) (nxlf rfl) ag26 rfl B6 (by first | (rw [List.drop_zero, List.take_of_length_le (by first | (simp; done) | (simp; omega))]; done) | rfl) (by first | (simp; done) | (simp; omega)) mem0 rfl ?_
  refine op_store (nxl rfl) sz26 rfl rfl rfl rfl rfl B4 (by simp) sel2 (fun N4 B4 => ?_)
  rw [setL_whole (by simp)] at B4
  refine At.opsNil ?_
  refine At.norm (hk_3 ?_)
  refine At.ret (?_)
  refine At.sub (L' := [N4, R]) (.cons_cons _ (.cons _ (.cons _ (.cons _ (.cons _ (.cons_cons _ (.slnil))))))) ?_
  refine At.ret1 (L1 := []) rfl (.cell rfl (res_agg (ds := u64s (wl (x * y))) ag26 B4 (by first | (rw [List.drop_zero, List.take_of_length_le (by first | (simp; done) | (simp; omega))]; done) | rfl) (by first | (simp; done) | (simp; omega)) mem0) .nil) (.cons _ (.refl _)) (.refl _) ?_
  exact ⟨rfl, rfl⟩
theorem top_limb {x : Nat} (hx : x < WW) : (shr64 ((wl x).getD 3 0) 63).toNat = x / HW := by
  have h := limb_at (wl x) 3
  rw [v64_wl_lt hx] at h
  rw [shr64_nat, ← h]
  have h2 : x / 2 ^ (64 * 3) < 2 ^ 64 := by
    rw [Nat.div_lt_iff_lt_mul (Nat.pow_pos (by decide)), ← Nat.pow_add]; exact hx
  rw [Nat.mod_eq_of_lt h2, Nat.div_div_eq_div_mul, ← Nat.pow_add]
  rfl
theorem neg_iff {x : Nat} (hx : x < WW) : decide (((shr64 ((wl x).getD 3 0) 63).toNat : Int) = 1) = negB x := by
  rw [top_limb hx, negB, decide_eq_decide]
  have h1 := WW_HW
  have h0 : 0 < HW := Nat.pow_pos (by decide)
  have h2 : x / HW < 2 := by rw [Nat.div_lt_iff_lt_mul h0]; omega
  have h3 : 1 ≤ x / HW ↔ HW ≤ x := by rw [Nat.le_div_iff_mul_le h0, Nat.one_mul]
  generalize x / HW = z at *
  omega
theorem div_lt {x y : Nat} (hx : x < WW) : x / y < WW := Nat.lt_of_le_of_lt (Nat.div_le_self _ _) hx
theorem modZ_lt {x y : Nat} (hx : x < WW) : modZ x y < WW := by
  unfold modZ
  split
  · exact WW_pos
  · exact Nat.lt_of_le_of_lt (Nat.mod_le _ _) hx
end Go.Proofs.Ytljacjjeinmfnaa
/- Package nat: forms, orders, bits, sums, differences, products, quotients. Condition: numbers of at most 2^38 bytes. -/
namespace Go.Proofs.Ytljacjjeinmfnaa
set_option linter.unusedVariables false
set_option linter.unusedSimpArgs false
open Go Go.RowKit
/-- A number's bytes in new memory. -/
def BytesP (V : Nat) (v : Value) (L : List Heaplet) : Prop :=
  ∃ M a c, v = .slice a (bytesOf V).length c ∧ L = [M] ∧ Row M 5 1 a (bytesOf V).length c (u8s (bytesOf V))
theorem limbs_be_len (l : List UInt8) : (limbsOf (be l)).length ≤ l.length := by
  rw [length_limbsOf]
  have h := be_lt l
  have h2 : bitLen (be l) ≤ 8 * l.length := bitLen_le.2 (by rw [Nat.pow_mul]; exact h)
  omega
theorem limbs_zero {V : Nat} : (limbsOf V).length = 0 ↔ V = 0 := by
  rw [length_limbsOf]
  constructor
  · intro h
    rcases Nat.eq_zero_or_pos V with h0 | h0
    · exact h0
    · have := bitLen_pos h0; omega
  · rintro rfl; rfl
theorem limbs_le_of {V n : Nat} (h : V < 2 ^ (64 * n)) : (limbsOf V).length ≤ n := by rw [length_limbsOf]; exact limbLen_le.2 h
section
variable {N M : Heaplet} {ao bo : Option Addr} {n m ca cb : Nat} {a b : List UInt8}
def SubP (A B : Nat) (v : Value) (L : List Heaplet) : Prop :=
  ∃ M p c, v = .tuple #[.slice p (bytesOf (A - B)).length c, .bool (decide (B ≤ A))] ∧ L = [M] ∧ Row M 5 1 p (bytesOf (A - B)).length c (u8s (bytesOf (A - B)))
theorem cmpN_neg {x y : Nat} : cmpN x y < 0 ↔ x < y := by
  unfold cmpN
  split
  · omega
  · split <;> omega
def DivModP (A B : Nat) (v : Value) (L : List Heaplet) : Prop :=
  ∃ M1 p1 c1 M2 p2 c2, v = .tuple #[.slice p1 (bytesOf (A / B)).length c1, .slice p2 (bytesOf (A % B)).length c2, .bool true] ∧ L = [M1, M2] ∧ Row M1 5 1 p1 (bytesOf (A / B)).length c1 (u8s (bytesOf (A / B))) ∧ Row M2 5 1 p2 (bytesOf (A % B)).length c2 (u8s (bytesOf (A % B)))
end
end Go.Proofs.Ytljacjjeinmfnaa
/- nat.ModExp: powers modulo a number. Condition: numbers of at most 2^34 bytes. -/
namespace Go.Proofs.Ytljacjjeinmfnaa
set_option linter.unusedVariables false
set_option linter.unusedSimpArgs false
open Go Go.RowKit
theorem Blk.one {N : Heaplet} {b : Nat} {e : TypeId} {v : Value} (h : Blk N b e [v]) : RSl N 1 (some ⟨b, 0, none⟩) 1 1 [v] :=
  ⟨rfl, Nat.le_refl _, by decide, fun _ => ⟨b, 0, rfl, h.rng⟩⟩
section
variable {N M Nb Nm : Heaplet} {ao bo mo : Option Addr} {n m nm ca cb cm bb : Nat} {e : TypeId} {a b l : List UInt64}
end
/-- One bit more of the exponent. -/
theorem pow_bit {b E m j : Nat} (hj : 0 < j) : b ^ (E / 2 ^ (j - 1)) % m = (b ^ (E / 2 ^ j) % m * (b ^ (E / 2 ^ j) % m) % m) * (if E / 2 ^ (j - 1) % 2 = 1 then b % m else 1) % m := by
  have e : E / 2 ^ j = E / 2 ^ (j - 1) / 2 := by rw [Nat.div_div_eq_div_mul, ← Nat.pow_succ, show (j - 1).succ = j by omega]
  rw [e]
  generalize E / 2 ^ (j - 1) = q
  have h := Nat.div_add_mod q 2
  have h2 : q % 2 < 2 := Nat.mod_lt _ (by decide)
  split
  · rename_i h1
    conv => lhs; rw [← h, h1, Nat.pow_add, Nat.pow_mul, Nat.pow_one]
    rw [Nat.mul_mod_mod, Nat.mod_mul_mod, Nat.pow_right_comm, Nat.pow_two, Nat.mul_mod (b ^ (q / 2) * b ^ (q / 2)) b, Nat.mul_mod (b ^ (q / 2)) (b ^ (q / 2)), ← Nat.mul_mod _ b]
  · rename_i h1
    conv => lhs; rw [← h, show q % 2 = 0 by omega, Nat.add_zero, Nat.pow_mul, Nat.pow_right_comm, Nat.pow_two]
    rw [Nat.mul_one, Nat.mod_mod, ← Nat.mul_mod]
section
variable {N M Nm : Heaplet} {ao bo mo : Option Addr} {n m nm ca cb cm : Nat} {a b l : List UInt8}
end
end Go.Proofs.Ytljacjjeinmfnaa
/- Package word: powers. No condition. -/
namespace Go.Proofs.Ytljacjjeinmfnaa
set_option linter.unusedVariables false
set_option linter.unusedSimpArgs false
open Go Go.RowKit
theorem WBits_w {x : Nat} (hx : x < WW) : Fn Try.prog 121 #[wo x] [] [] (fun v L => v = .int .i64 (bitLen x : Nat) ∧ L = []) := by
  obtain ⟨a, b, c, d, h⟩ := four (length_wl x)
  have hv := v64_wl_lt hx
  rw [h] at hv
  have := WBits_f a b c d
  rw [hv] at this
  have e : wo x = .agg #[.int .u64 (a.toNat : Int), .int .u64 (b.toNat : Int), .int .u64 (c.toNat : Int), .int .u64 (d.toNat : Int)] := by rw [wo, h]; rfl
  rw [e]
  exact this
end Go.Proofs.Ytljacjjeinmfnaa
/- Package word: all bits turned, order. No condition. -/
namespace Go.Proofs.Ytljacjjeinmfnaa
set_option linter.unusedVariables false
set_option linter.unusedSimpArgs false
open Go Go.RowKit
theorem not_round {w a : List UInt64} {k : Nat} (hw : w.length = k) (hv : v64 w + v64 (a.take k) + 1 = 2 ^ (64 * k)) :
    v64 (w ++ [~~~(a.getD k 0)]) + v64 (a.take (k + 1)) + 1 = 2 ^ (64 * (k + 1)) := by
  have h : (~~~(a.getD k 0)).toNat + (a.getD k 0).toNat + 1 = 18446744073709551616 := by
    have h1 := UInt64.toNat_not (a.getD k 0)
    have h2 := (a.getD k 0).toNat_lt
    have h3 : UInt64.size = 18446744073709551616 := rfl
    omega
  rw [v64_snoc, hw, v64_take_succD, pow64]
  have h2 := congrArg (2 ^ (64 * k) * ·) h
  simp only [Nat.mul_add, Nat.mul_one] at h2
  generalize (~~~(a.getD k 0)).toNat = s at *
  generalize (a.getD k 0).toNat = t at *
  omega
set_option maxRecDepth 100000 in
theorem WCmp_f {x y : Nat} (hx : x < WW) (hy : y < WW) : Fn Try.prog 128 #[wo x, wo y] [] [] (fun v L => v = .int .i64 (cmpN x y) ∧ L = []) := by
  have hlx := length_wl x
  have hly := length_wl y
  have hvx := v64_wl_lt hx
  have hvy := v64_wl_lt hy
  refine Fn.enter (vs := [wo x, wo y]) Try.func128 rfl rfl rfl ?_
  intro E R hR
  change At _ _ E [R] _
  refine At.seq fun K1 hk_1 => ?_
  refine At.region ?_
  refine op_box (nxla rfl) rfl rfl rfl (fun N2 b2 B2 => ?_)
  change Blk N2 b2 _ (u64s (wl x)) at B2
  refine op_box (nxla rfl) rfl rfl rfl (fun N3 b3 B3 => ?_)
  change Blk N3 b3 _ (u64s (wl y)) at B3
  refine op_assign (nxlf rfl) rfl rfl ?_
  refine At.opsNil ?_
  refine At.norm (hk_1 ?_)
  refine At.seq fun K2 hk_2 => ?_
  refine At.seq fun K3 hk_3 => ?_
  refine At.region ?_
  refine op_assign (nxlf rfl) rfl rfl ?_
  refine At.opsNil ?_
  refine At.norm (hk_3 ?_)
  refine At.block ?_
  refine At.perm sel2 ?_
  refine At.perm sel1 ?_
  refine At.perm sel2 ?_
  refine At.loop (fun fr_ hp_ ms_ => ∃ (j : Nat), fr_ = [(2, .pointer (some ⟨b2, 0, none⟩)), (3, .pointer (some ⟨b3, 0, none⟩)), (5, .int .i64 ((j : Int) - 1))] ∧ hp_ = [N2, N3, R] ∧ j = ms_ ∧ (j ≤ 4) ∧ ((wl x).drop j = (wl y).drop j)) ?_ (.refl _) ⟨4, rfl, rfl, rfl, by omega, by rw [List.drop_of_length_le (by omega), List.drop_of_length_le (by omega)]⟩ ?_
  · exact .cons (by first | exact lkI rfl (by omega) | rfl) (.cons (by first | exact lkI rfl (by omega) | rfl) (.cons (by first | exact lkI rfl (by omega) | rfl) .nil))
  rintro _ _ _ ⟨j, rfl, rfl, rfl, hj, hd⟩
  refine At.seq fun K4 hk_4 => ?_
  refine At.seq fun K5 hk_5 => ?_
  refine At.region ?_
  refine op_move (nxlf rfl) rfl rfl ?_
  refine op_geq (nxlf rfl) rfl rfl rfl ?_
  refine At.opsNil ?_
  refine At.norm (hk_5 ?_)
  refine At.condP rfl (fun c7 => ?_) (fun c7 => ?_)
  · refine At.skip ?_
    refine At.norm (hk_4 ?_)
    refine At.seq fun K6 hk_6 => ?_
    refine At.block ?_
    refine At.block ?_
    refine At.seq fun K7 hk_7 => ?_
    refine At.drawnS [N2, N3, R] [] [] [0,1,2,3,4,5,6,7] (by kernel_rfl) (by kernel_rfl) (.refl _) ?_
    refine op_move (nxsf rfl rfl rfl) rfl rfl ?_
    refine op_idxA (nxsf rfl rfl rfl) ae26 rfl rfl (show _ = (((j - 1 : Nat)) : Int) from by omega) (by omega) rfl ?_
    refine op_loadB (nxsf rfl rfl rfl) sc24 rfl B2 (by first | exact get64A (by omega) | rfl) mem0 rfl ?_
    refine op_move (nxsf rfl rfl rfl) rfl rfl ?_
    refine op_idxA (nxsf rfl rfl rfl) ae26 rfl rfl (show _ = (((j - 1 : Nat)) : Int) from by omega) (by omega) rfl ?_
    refine op_loadB (nxsf rfl rfl rfl) sc24 rfl B3 (by first | exact get64A (by omega) | rfl) mem1 rfl ?_
    refine op_lss (nxsf rfl rfl rfl) rfl rfl rfl ?_
    refine op_assign (nxsf rfl rfl rfl) rfl rfl ?_
    refine At.sNil ?_
    refine At.norm (hk_7 ?_)
    refine At.condP rfl (fun c10 => ?_) (fun c10 => ?_)
    · refine At.seq fun K8 hk_8 => ?_
      refine At.region ?_
      refine op_assign (nxlf rfl) rfl rfl ?_
      refine At.opsNil ?_
      refine At.norm (hk_8 ?_)
      refine At.ret (At.inRet (At.inRet (At.thenRet (At.thenRet (At.inRet (At.thenRet (?_)))))))
      refine At.sub (L' := [R]) (.cons _ (.cons _ (.cons_cons _ (.slnil)))) ?_
      refine At.ret1 (L1 := []) rfl (.tmp rfl .nil) (.refl _) (.refl _) ?_
      have hd' : (wl x).drop (j - 1 + 1) = (wl y).drop (j - 1 + 1) := by rw [show j - 1 + 1 = j by omega]; exact hd
      have h := cmp_at (by omega) (by omega) hd' (by omega)
      rw [hvx, hvy] at h
      exact ⟨by rw [cmpN_lt h], rfl⟩
    · refine At.seq fun K9 hk_9 => ?_
      refine At.drawnS [N2, N3, R] [] [] [0,1,2,3,4,5,6,7] (by kernel_rfl) (by kernel_rfl) (.refl _) ?_
      refine op_move (nxsf rfl rfl rfl) rfl rfl ?_
      refine op_idxA (nxsf rfl rfl rfl) ae26 rfl rfl (show _ = (((j - 1 : Nat)) : Int) from by omega) (by omega) rfl ?_
      refine op_loadB (nxsf rfl rfl rfl) sc24 rfl B2 (by first | exact get64A (by omega) | rfl) mem0 rfl ?_
      refine op_move (nxsf rfl rfl rfl) rfl rfl ?_
      refine op_idxA (nxsf rfl rfl rfl) ae26 rfl rfl (show _ = (((j - 1 : Nat)) : Int) from by omega) (by omega) rfl ?_
      refine op_loadB (nxsf rfl rfl rfl) sc24 rfl B3 (by first | exact get64A (by omega) | rfl) mem1 rfl ?_
      refine op_gtr (nxsf rfl rfl rfl) rfl rfl rfl ?_
      refine op_assign (nxsf rfl rfl rfl) rfl rfl ?_
      refine At.sNil ?_
      refine At.norm (hk_9 ?_)
      refine At.condP rfl (fun c18 => ?_) (fun c18 => ?_)
      · refine At.seq fun K10 hk_10 => ?_
        refine At.region ?_
        refine op_assign (nxlf rfl) rfl rfl ?_
        refine At.opsNil ?_
        refine At.norm (hk_10 ?_)
        refine At.ret (At.inRet (At.inRet (At.thenRet (At.thenRet (At.inRet (At.thenRet (?_)))))))
        refine At.sub (L' := [R]) (.cons _ (.cons _ (.cons_cons _ (.slnil)))) ?_
        refine At.ret1 (L1 := []) rfl (.tmp rfl .nil) (.refl _) (.refl _) ?_
        have hd' : (wl x).drop (j - 1 + 1) = (wl y).drop (j - 1 + 1) := by rw [show j - 1 + 1 = j by omega]; exact hd
        have h := cmp_at (by omega) (by omega) hd'.symm (by omega)
        rw [hvx, hvy] at h
        exact ⟨by rw [cmpN_gt h], rfl⟩
      · refine At.skip ?_
        refine At.inNorm ?_
        refine At.inNorm ?_
        refine At.norm (hk_6 ?_)
        refine At.region ?_
        refine op_move (nxlf rfl) rfl rfl ?_
        refine op_subI (nxlf rfl) rfl rfl (by omega) (by omega) rfl ?_
        refine op_assign (nxlf rfl) rfl rfl ?_
        refine At.opsNil ?_
        refine At.norm ?_
        refine At.back ?_ (.refl _) ⟨j - 1, rfl, rfl, rfl, by omega, drop_eq_succ (z := 0) (by omega) (by omega) (UInt64.toNat_inj.1 (by omega)) (by rw [show j - 1 + 1 = j by omega]; exact hd)⟩ ?_
        · exact .cons (by first | exact lkI rfl (by omega) | rfl) (.cons (by first | exact lkI rfl (by omega) | rfl) (.cons (by first | exact lkI rfl (by omega) | rfl) .nil))
        · omega
  · refine At.exit (At.thenExit (At.thenExit (At.inHit ?_)))
    refine At.norm (hk_2 ?_)
    refine At.seq fun K11 hk_11 => ?_
    refine At.region ?_
    refine op_assign (nxlf rfl) rfl rfl ?_
    refine At.opsNil ?_
    refine At.norm (hk_11 ?_)
    refine At.ret (?_)
    refine At.sub (L' := [R]) (.cons _ (.cons _ (.cons_cons _ (.slnil)))) ?_
    refine At.ret1 (L1 := []) rfl (.tmp rfl .nil) (.refl _) (.refl _) ?_
    have e : x = y := by
      rw [show j = 0 by omega] at hd
      exact wl_inj hx hy (by simpa using hd)
    exact ⟨by rw [e, cmpN_eq], rfl⟩
end Go.Proofs.Ytljacjjeinmfnaa
