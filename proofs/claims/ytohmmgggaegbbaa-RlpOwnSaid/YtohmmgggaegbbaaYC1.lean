/- Plain law: the first item of bytes. No condition. -/
import Derived.Test.YtohmmgggaegbbaaY1
namespace Go.Proofs.Ytohmmgggaegbbaa
set_option linter.unusedVariables false
set_option linter.unusedSimpArgs false
/-- The payload of n bytes from place i on, and what is behind it. -/
def cutAt (b : List UInt8) (i n : Nat) : Option (Bool × List UInt8 × List UInt8) :=
  if b.length - i < n then none
  else if 192 ≤ (b.getD 0 0).toNat then some (true, (b.drop i).take n, b.drop (i + n))
  else if n = 1 ∧ (b.getD i 0).toNat < 128 then none
  else some (false, (b.drop i).take n, b.drop (i + n))
/-- What the head's first byte says of the length. -/
def hdr (b : List UInt8) : Nat := ((b.getD 0 0).toNat - 128) % 64
/-- The length that is written out. -/
def lng (b : List UInt8) : Nat := be ((b.drop 1).take (hdr b - 54 - 1))
/-- The first item's kind and payload, and what is behind it. -/
def cutF (b : List UInt8) : Option (Bool × List UInt8 × List UInt8) :=
  if b.length = 0 then none
  else if (b.getD 0 0).toNat < 128 then some (false, b.take 1, b.drop 1)
  else if hdr b ≤ 55 then cutAt b 1 (hdr b)
  else if b.length < hdr b - 54 ∨ (b.getD 1 0).toNat = 0 then none
  else if lng b ≤ 55 ∨ b.length < lng b then none
  else cutAt b (hdr b - 54) (lng b)
theorem limbs_one {B : Nat} (h0 : 0 < B) (h : B < 2 ^ 64) : limbsOf B = [UInt64.ofNat B] := by
  have h1 : (bitLen B + 63) / 64 ≤ 1 := limbLen_le.2 (by simpa using h)
  have h2 := bitLen_pos h0
  have h3 : (bitLen B + 63) / 64 = 1 := by omega
  rw [limbsOf, h3]; simp [limbsN]
theorem lng_pos {b : List UInt8} (h1 : hdr b - 54 ≤ b.length) (h2 : 56 ≤ hdr b) (h3 : (b.getD 1 0).toNat ≠ 0) : 0 < lng b ∧ lng b < 2 ^ 64 := by
  have h63 : hdr b < 64 := Nat.mod_lt _ (by decide)
  have hl : ((b.drop 1).take (hdr b - 54 - 1)).length = hdr b - 55 := by rw [List.length_take, List.length_drop]; omega
  constructor
  · unfold lng
    cases hb : (b.drop 1).take (hdr b - 54 - 1) with
    | nil => rw [hb] at hl; simp at hl; omega
    | cons x t =>
      rw [be_cons]
      have hx : x = b.getD 1 0 := by
        have e1 : ((b.drop 1).take (hdr b - 54 - 1))[0]? = some x := by rw [hb]; rfl
        rw [List.getElem?_take, if_pos (by omega), List.getElem?_drop] at e1
        rw [List.getD_eq_getElem?_getD, e1]; rfl
      have hx0 : 0 < x.toNat := by rw [hx]; omega
      have hp : 0 < 256 ^ t.length := Nat.pow_pos (by decide)
      have := Nat.mul_pos hx0 hp
      omega
  · have := be_lt ((b.drop 1).take (hdr b - 54 - 1))
    rw [hl] at this
    unfold lng
    refine Nat.lt_of_lt_of_le this ?_
    rw [show (2 : Nat) ^ 64 = 256 ^ 8 from by decide]
    exact Nat.pow_le_pow_right (by decide) (by omega)
theorem getD_part {b : List UInt8} {i k : Nat} (h : 0 < k) : ((b.drop i).take k).getD 0 0 = b.getD i 0 := by
  rw [List.getD_eq_getElem?_getD, List.getElem?_take, if_pos h, List.getElem?_drop, List.getD_eq_getElem?_getD, Nat.add_zero]
end Go.Proofs.Ytohmmgggaegbbaa
