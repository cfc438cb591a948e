/- Several texts in one: see the remarks ahead of each part. No condition but those told there. -/
import Derived.Test.YtnpcaplgkmlmoaaGreatDoorR7
import Derived.Test.YtnpcaplgkmlmoaaGreatDoorLen64
/- limb.Bits, limb.Bytes: how many bits a number has, and its bytes; rlp.head: a payload's head. No condition. -/
namespace Go.Proofs.YtnpcaplgkmlmoaaGreatDoor
set_option linter.unusedVariables false
set_option linter.unusedSimpArgs false
open Go Go.RowKit
theorem Fn.of_same {P : Program} {f : FuncId} {args : Array Value} {v : Value} (h : ∀ w, Calls P f args w fun e w' => e = .returned v ∧ w' = w) : Fn P f args [] [] (fun u L => u = v ∧ L = []) := fun E w R hw _ =>
  (h w).mono fun _ _ ⟨he, hw'⟩ => ⟨v, [], he, ⟨rfl, rfl⟩, by rw [hw']; exact hw⟩
theorem Len64_f (x : UInt64) : Fn Tryz.prog 68 #[.int .u64 (x.toNat : Int)] [] [] (fun u L => u = .int .i64 (bitLen x.toNat : Nat) ∧ L = []) := by
  have h := x.toNat_lt
  have e : Lib.bitLen x.toNat = bitLen x.toNat := libBitLen_eq (by omega)
  refine Fn.of_same fun w => (Len64_i (x.toNat : Int) w (by omega) (by omega)).mono ?_
  rintro e1 w' ⟨rfl, rfl⟩
  rw [Int.toNat_natCast, e]
  exact ⟨rfl, rfl⟩
theorem bitLen64 (x : UInt64) : bitLen x.toNat ≤ 64 := bitLen_le.2 x.toNat_lt
theorem byte_at {l : List UInt64} {i : Nat} (h : i / 8 < l.length) : UInt8.ofNat (shr64 (l.getD (i / 8) 0) (i % 8 * 8)).toNat = UInt8.ofNat (v64 l / 256 ^ i) := by
  rw [← byte_of_limb h, shr64, UInt64.toNat_ofNat', Nat.mod_eq_of_lt (Nat.lt_of_le_of_lt (Nat.div_le_self _ _) (UInt64.toNat_lt _)), List.getD_eq_getElem?_getD, List.getElem?_eq_getElem h]
  rfl
theorem bytesOf_le {n k : Nat} (h : n < 256 ^ k) : (bytesOf n).length ≤ k := by rw [length_bytesOf]; exact byteLen_le.2 h
end Go.Proofs.YtnpcaplgkmlmoaaGreatDoor
/- Package math/bits: sums, differences, products, quotients of limbs. No condition but what Go asks. -/
namespace Go.Proofs.YtnpcaplgkmlmoaaGreatDoor
set_option linter.unusedVariables false
set_option linter.unusedSimpArgs false
open Go Go.RowKit
theorem run_add64' {P : Program} (x y c : UInt64) (hc : c.toNat ≤ 1) (w : World) : (add64Entry #[.int .u64 (x.toNat : Int), .int .u64 (y.toNat : Int), .int .u64 (c.toNat : Int)]).run P w = .ok (.tuple #[.int .u64 ((addS x y c).toNat : Int), .int .u64 ((addC x y c).toNat : Int)]) w := by
  rw [run_add64 _ _ _ (by omega) (by omega) (by omega) (by omega), addS_nat, addC_nat _ _ _ hc]
  congr 5
theorem Add64_x (x y c : UInt64) (hc : c.toNat ≤ 1) (w : World) : (callFunc 99 #[.int .u64 (x.toNat : Int), .int .u64 (y.toNat : Int), .int .u64 (c.toNat : Int)]).run Tryz.prog w = .ok (.value (.tuple #[.int .u64 ((addS x y c).toNat : Int), .int .u64 ((addC x y c).toNat : Int)])) w := by
  rw [run_callFunc_extern Tryz.func99 (by kernel_rfl) (by kernel_rfl) (by kernel_rfl) (e := add64Entry) (by kernel_rfl), run_add64' x y c hc]
  rfl
def sub64E : Array Value → Sem Value := fun args => do
  let (x, y, b) ← Extern.MathBitsCarry.three "Sub64" args
  pure (Extern.MathBitsCarry.pair ((x + Extern.MathBitsCarry.m64 - y - b) % Extern.MathBitsCarry.m64) (if x < y + b then 1 else 0))
theorem run_sub64' {P : Program} (x y b : Nat) (hb : b ≤ 1) (w : World) : (sub64E #[.int .u64 x, .int .u64 y, .int .u64 b]).run P w =
      .ok (.tuple #[.int .u64 (((x + 18446744073709551616 - y - b) % 18446744073709551616 : Nat) : Int), .int .u64 ((if x < y + b then 1 else 0 : Nat) : Int)]) w := by
  have : b = 0 ∨ b = 1 := by omega
  rcases this with rfl | rfl <;> rfl
theorem Sub64_x (x y c : UInt64) (hc : c.toNat ≤ 1) (w : World) : (callFunc 100 #[.int .u64 (x.toNat : Int), .int .u64 (y.toNat : Int), .int .u64 (c.toNat : Int)]).run Tryz.prog w = .ok (.value (.tuple #[.int .u64 ((subS x y c).toNat : Int), .int .u64 ((subC x y c).toNat : Int)])) w := by
  rw [run_callFunc_extern Tryz.func100 (by kernel_rfl) (by kernel_rfl) (by kernel_rfl) (e := sub64E) (by kernel_rfl), run_sub64' _ _ _ hc, subS_nat, subC_nat]
  rfl
theorem LeadingZeros64_f (x : UInt64) : Fn Tryz.prog 92 #[.int .u64 (x.toNat : Int)] [] [] (fun v L => v = .int .i64 (64 - (bitLen x.toNat : Nat)) ∧ L = []) := by
  have h64 := bitLen64 x
  refine Fn.enter (vs := [.int .u64 (x.toNat : Int)]) Tryz.func92 rfl rfl rfl ?_
  intro E R hR
  change At _ _ E [R] _
  refine At.seq fun K1 hk_1 => ?_
  refine At.region ?_
  refine op_assign (nxlf rfl) rfl rfl ?_
  refine At.opsNil ?_
  refine At.norm (hk_1 ?_)
  refine At.seq fun K2 hk_2 => ?_
  refine At.region ?_
  refine op_move (nxlf rfl) rfl rfl ?_
  refine op_callA (nxla rfl) (.cons rfl .nil) (Len64_f x) Tryz.func68 rfl rfl (by simp) rfl ?_
  rintro v4 L4 ⟨rfl, rfl⟩
  change At _ _ _ [R] _
  refine op_subI (nxlf rfl) rfl rfl (by omega) (by omega) rfl ?_
  refine op_assign (nxlf rfl) rfl rfl ?_
  refine At.opsNil ?_
  refine At.norm (hk_2 ?_)
  refine At.ret (?_)
  refine At.ret1 (L1 := []) rfl (.tmp rfl .nil) (.refl _) (.refl _) ?_
  exact ⟨rfl, rfl⟩
theorem Mul64_f (x y : UInt64) : Fn Tryz.prog 98 #[.int .u64 (x.toNat : Int), .int .u64 (y.toNat : Int)] [] [] (fun v L => v = .tuple #[.int .u64 ((mulH x y).toNat : Int), .int .u64 ((x * y).toNat : Int)] ∧ L = []) := by
  refine Fn.enter (vs := [.int .u64 (x.toNat : Int), .int .u64 (y.toNat : Int)]) Tryz.func98 rfl rfl rfl ?_
  intro E R hR
  change At _ _ E [R] _
  refine At.seq fun K1 hk_1 => ?_
  refine At.region ?_
  refine op_assign (nxlf rfl) rfl rfl ?_
  refine op_assign (nxlf rfl) rfl rfl ?_
  refine At.opsNil ?_
  refine At.norm (hk_1 ?_)
  refine At.seq fun K2 hk_2 => ?_
  refine At.region ?_
  refine op_move (nxlf rfl) rfl rfl ?_
  refine op_andU (b := 4294967295) (nxlf rfl) rfl rfl rfl ?_
  refine op_assign (nxlf rfl) rfl rfl ?_
  refine At.opsNil ?_
  refine At.norm (hk_2 ?_)
  refine At.seq fun K3 hk_3 => ?_
  refine At.region ?_
  refine op_move (nxlf rfl) rfl rfl ?_
  refine op_shrU (nxlf rfl) rfl rfl (show _ = ((32 : Nat) : Int) from rfl) rfl ?_
  refine op_assign (nxlf rfl) rfl rfl ?_
  refine At.opsNil ?_
  refine At.norm (hk_3 ?_)
  refine At.seq fun K4 hk_4 => ?_
  refine At.region ?_
  refine op_move (nxlf rfl) rfl rfl ?_
  refine op_andU (b := 4294967295) (nxlf rfl) rfl rfl rfl ?_
  refine op_assign (nxlf rfl) rfl rfl ?_
  refine At.opsNil ?_
  refine At.norm (hk_4 ?_)
  refine At.seq fun K5 hk_5 => ?_
  refine At.region ?_
  refine op_move (nxlf rfl) rfl rfl ?_
  refine op_shrU (nxlf rfl) rfl rfl (show _ = ((32 : Nat) : Int) from rfl) rfl ?_
  refine op_assign (nxlf rfl) rfl rfl ?_
  refine At.opsNil ?_
  refine At.norm (hk_5 ?_)
  refine At.seq fun K6 hk_6 => ?_
  refine At.region ?_
  refine op_move (nxlf rfl) rfl rfl ?_
  refine op_move (nxlf rfl) rfl rfl ?_
  refine op_mulU (nxlf rfl) rfl rfl rfl ?_
  refine op_assign (nxlf rfl) rfl rfl ?_
  refine At.opsNil ?_
  refine At.norm (hk_6 ?_)
  refine At.seq fun K7 hk_7 => ?_
  refine At.region ?_
  refine op_move (nxlf rfl) rfl rfl ?_
  refine op_move (nxlf rfl) rfl rfl ?_
  refine op_mulU (nxlf rfl) rfl rfl rfl ?_
  refine op_move (nxlf rfl) rfl rfl ?_
  refine op_shrU (nxlf rfl) rfl rfl (show _ = ((32 : Nat) : Int) from rfl) rfl ?_
  refine op_addU (nxlf rfl) rfl rfl rfl ?_
  refine op_assign (nxlf rfl) rfl rfl ?_
  refine At.opsNil ?_
  refine At.norm (hk_7 ?_)
  refine At.seq fun K8 hk_8 => ?_
  refine At.region ?_
  refine op_move (nxlf rfl) rfl rfl ?_
  refine op_andU (b := 4294967295) (nxlf rfl) rfl rfl rfl ?_
  refine op_assign (nxlf rfl) rfl rfl ?_
  refine At.opsNil ?_
  refine At.norm (hk_8 ?_)
  refine At.seq fun K9 hk_9 => ?_
  refine At.region ?_
  refine op_move (nxlf rfl) rfl rfl ?_
  refine op_shrU (nxlf rfl) rfl rfl (show _ = ((32 : Nat) : Int) from rfl) rfl ?_
  refine op_assign (nxlf rfl) rfl rfl ?_
  refine At.opsNil ?_
  refine At.norm (hk_9 ?_)
  refine At.seq fun K10 hk_10 => ?_
  refine At.region ?_
  refine op_move (nxlf rfl) rfl rfl ?_
  refine op_move (nxlf rfl) rfl rfl ?_
  refine op_move (nxlf rfl) rfl rfl ?_
  refine op_mulU (nxlf rfl) rfl rfl rfl ?_
  refine op_addU (nxlf rfl) rfl rfl rfl ?_
  refine op_assign (nxlf rfl) rfl rfl ?_
  refine At.opsNil ?_
  refine At.norm (hk_10 ?_)
  refine At.seq fun K11 hk_11 => ?_
  refine At.region ?_
  refine op_move (nxlf rfl) rfl rfl ?_
  refine op_move (nxlf rfl) rfl rfl ?_
  refine op_mulU (nxlf rfl) rfl rfl rfl ?_
  refine op_move (nxlf rfl) rfl rfl ?_
  refine op_addU (nxlf rfl) rfl rfl rfl ?_
  refine op_move (nxlf rfl) rfl rfl ?_
  refine op_shrU (nxlf rfl) rfl rfl (show _ = ((32 : Nat) : Int) from rfl) rfl ?_
  refine op_addU (nxlf rfl) rfl rfl rfl ?_
  refine op_assign (nxlf rfl) rfl rfl ?_
  refine At.opsNil ?_
  refine At.norm (hk_11 ?_)
  refine At.seq fun K12 hk_12 => ?_
  refine At.region ?_
  refine op_move (nxlf rfl) rfl rfl ?_
  refine op_move (nxlf rfl) rfl rfl ?_
  refine op_mulU (nxlf rfl) rfl rfl rfl ?_
  refine op_assign (nxlf rfl) rfl rfl ?_
  refine At.opsNil ?_
  refine At.norm (hk_12 ?_)
  refine At.ret (?_)
  refine At.retN (L1 := []) rfl (.tmp rfl (.tmp rfl .nil)) rfl (.refl _) (.refl _) ?_
  exact ⟨by rw [← mulH_eq], rfl⟩
end Go.Proofs.YtnpcaplgkmlmoaaGreatDoor
/- math/bits.Div64: a number of two limbs by one limb. Condition: the upper limb is below the divisor. -/
namespace Go.Proofs.YtnpcaplgkmlmoaaGreatDoor
set_option linter.unusedVariables false
set_option linter.unusedSimpArgs false
open Go Go.RowKit
theorem and32 (z : UInt64) : (z &&& 4294967295).toNat = z.toNat % 4294967296 := by
  rw [UInt64.toNat_and]; exact Nat.and_two_pow_sub_one_eq_mod z.toNat 32
theorem shr32n (z : UInt64) : (shr64 z 32).toNat = z.toNat / 4294967296 := by rw [shr64_nat]
theorem div_pos64 {y : UInt64} (h : 0 < y.toNat) : y.toNat * 2 ^ (64 - bitLen y.toNat) < 18446744073709551616 ∧ 9223372036854775808 ≤ y.toNat * 2 ^ (64 - bitLen y.toNat) := by
  have h1 := lt_bitLen y.toNat
  have h2 := bitLen64 y
  have h3 := bitLen_pos h
  have h4 : 2 ^ (bitLen y.toNat - 1) ≤ y.toNat := by
    rcases Nat.lt_or_ge y.toNat (2 ^ (bitLen y.toNat - 1)) with h5 | h5
    · have := bitLen_le.2 h5; omega
    · exact h5
  constructor
  · have e : (18446744073709551616 : Nat) = 2 ^ bitLen y.toNat * 2 ^ (64 - bitLen y.toNat) := by rw [← Nat.pow_add, show bitLen y.toNat + (64 - bitLen y.toNat) = 64 by omega]
    rw [e]
    exact Nat.mul_lt_mul_of_pos_right h1 (Nat.pow_pos (by decide))
  · have e : (9223372036854775808 : Nat) = 2 ^ (bitLen y.toNat - 1) * 2 ^ (64 - bitLen y.toNat) := by rw [← Nat.pow_add, show bitLen y.toNat - 1 + (64 - bitLen y.toNat) = 63 by omega]
    rw [e]
    exact Nat.mul_le_mul_right _ h4
/-- The number's upper and lower limb, shifted. -/
theorem un_shift {hi lo y : UInt64} {s : Nat} (hs : s ≤ 64) (h : hi.toNat < y.toNat) (hy : y.toNat * 2 ^ s < 18446744073709551616) :
    (shl64 hi s ||| shr64 lo (64 - s)).toNat < y.toNat * 2 ^ s ∧ (shl64 hi s ||| shr64 lo (64 - s)).toNat * 18446744073709551616 + (shl64 lo s).toNat = (hi.toNat * 18446744073709551616 + lo.toNat) * 2 ^ s := by
  have hlo := lo.toNat_lt
  have e1 : (2 : Nat) ^ 64 = 2 ^ (64 - s) * 2 ^ s := by rw [← Nat.pow_add]; congr 1; omega
  have hp : 0 < 2 ^ s := Nat.pow_pos (by decide)
  have hq : 0 < 2 ^ (64 - s) := Nat.pow_pos (by decide)
  have h1 : hi.toNat * 2 ^ s + 2 ^ s ≤ y.toNat * 2 ^ s := by
    have := Nat.mul_le_mul_right (2 ^ s) (show hi.toNat + 1 ≤ y.toNat by omega)
    rwa [Nat.add_mul, Nat.one_mul] at this
  have hhi : hi.toNat * 2 ^ s % 2 ^ 64 = hi.toNat * 2 ^ s := Nat.mod_eq_of_lt (by omega)
  have hlt : lo.toNat / 2 ^ (64 - s) < 2 ^ s := by
    rw [Nat.div_lt_iff_lt_mul hq, Nat.mul_comm, ← e1]; exact hlo
  have hor : (shl64 hi s ||| shr64 lo (64 - s)).toNat = hi.toNat * 2 ^ s + lo.toNat / 2 ^ (64 - s) := by
    rw [UInt64.toNat_or, shl64_nat, shr64_nat, hhi, Nat.mul_comm, Nat.two_pow_add_eq_or_of_lt hlt]
  have hl : (shl64 lo s).toNat = lo.toNat % 2 ^ (64 - s) * 2 ^ s := by
    rw [shl64_nat, e1, Nat.mul_mod_mul_right]
  rw [hor, hl]
  refine ⟨by omega, ?_⟩
  have e2 : (18446744073709551616 : Nat) = 2 ^ (64 - s) * 2 ^ s := e1
  have e3 := Nat.div_add_mod lo.toNat (2 ^ (64 - s))
  rw [Nat.add_mul, Nat.add_mul, Nat.mul_right_comm hi.toNat, e2]
  have e4 : lo.toNat * 2 ^ s = lo.toNat / 2 ^ (64 - s) * (2 ^ (64 - s) * 2 ^ s) + lo.toNat % 2 ^ (64 - s) * 2 ^ s := by
    conv => lhs; rw [← e3]
    rw [Nat.add_mul, Nat.mul_comm (2 ^ (64 - s)), Nat.mul_assoc]
  rw [e4, Nat.add_assoc]
theorem back_shift {X y Y q r : Nat} {s : Nat} (hY : Y = y * 2 ^ s) (hq : q = X * 2 ^ s / Y) (hr : r = X * 2 ^ s % Y) : q = X / y ∧ r / 2 ^ s = X % y := by
  have hp : 0 < 2 ^ s := Nat.pow_pos (by decide)
  subst hY
  constructor
  · rw [hq, Nat.mul_div_mul_right _ _ hp]
  · rw [hr, Nat.mul_mod_mul_right, Nat.mul_div_cancel _ hp]
/-- What the loop's test tells. -/
theorem d_test {Q RH y0 u1 : UInt64} (hq : Q.toNat < 4294967296) (h0 : y0.toNat < 4294967296) (hr : RH.toNat < 4294967296) (hu : u1.toNat < 4294967296) :
    (4294967296 * RH + u1).toNat = RH.toNat * 4294967296 + u1.toNat ∧ (Q * y0).toNat = Q.toNat * y0.toNat := by
  have h1 := Nat.mul_le_mul (show Q.toNat ≤ 4294967295 by omega) (show y0.toNat ≤ 4294967295 by omega)
  have e : (4294967296 : UInt64).toNat = 4294967296 := rfl
  constructor
  · rw [UInt64.toNat_add, UInt64.toNat_mul, e, Nat.mul_comm, Nat.mod_eq_of_lt (show RH.toNat * 4294967296 < 2 ^ 64 by omega), Nat.mod_eq_of_lt (show RH.toNat * 4294967296 + u1.toNat < 2 ^ 64 by omega)]
  · rw [UInt64.toNat_mul, Nat.mod_eq_of_lt (Nat.lt_of_le_of_lt h1 (by decide))]
theorem d_first {R y1 : UInt64} (_h : 0 < y1.toNat) : (R / y1).toNat = R.toNat / y1.toNat ∧ (R - R / y1 * y1).toNat = R.toNat - R.toNat / y1.toNat * y1.toNat := by
  have e1 : (R / y1).toNat = R.toNat / y1.toNat := UInt64.toNat_div ..
  have hle : R.toNat / y1.toNat * y1.toNat ≤ R.toNat := Nat.div_mul_le_self _ _
  have hR := R.toNat_lt
  have e2 : (R / y1 * y1).toNat = R.toNat / y1.toNat * y1.toNat := by rw [UInt64.toNat_mul, e1, Nat.mod_eq_of_lt (Nat.lt_of_le_of_lt hle hR)]
  refine ⟨e1, ?_⟩
  rw [UInt64.toNat_sub_of_le _ _ (by rw [UInt64.le_iff_toNat_le, e2]; exact hle), e2]
theorem sub_one64 {Q : UInt64} (h : 0 < Q.toNat) : (Q - 1).toNat = Q.toNat - 1 := by
  rw [UInt64.toNat_sub_of_le _ _ (by rw [UInt64.le_iff_toNat_le]; exact h)]; rfl
/-- What is left when the digit is taken away. -/
theorem d_rest {R u1 Q Y : UInt64} (hY : 0 < Y.toNat) (hQ : Q.toNat = (R.toNat * 4294967296 + u1.toNat) / Y.toNat) (hu : u1.toNat < 4294967296) : (R * 4294967296 + u1 - Q * Y).toNat = (R.toNat * 4294967296 + u1.toNat) % Y.toNat := by
  have e : (4294967296 : UInt64).toNat = 4294967296 := rfl
  have h := d_low (T := R.toNat * 4294967296 + u1.toNat) (Y := Y.toNat) (q := Q.toNat) (B := 2 ^ 64) hQ hY (Nat.le_of_lt Y.toNat_lt) (R * 4294967296 + u1).toNat (Q * Y).toNat (by
    rw [UInt64.toNat_add, UInt64.toNat_mul, e, Nat.mod_mod, Nat.mod_add_mod]) (by rw [UInt64.toNat_mul, Nat.mod_mod])
  rw [← h, UInt64.toNat_sub, Nat.mod_eq_of_lt (R * 4294967296 + u1).toNat_lt, Nat.mod_eq_of_lt (Q * Y).toNat_lt]
  have := (R * 4294967296 + u1).toNat_lt
  have := (Q * Y).toNat_lt
  congr 1
  omega
def DivP (hi lo y : UInt64) (v : Value) (L : List Heaplet) : Prop :=
  ∃ q r : UInt64, v = .tuple #[.int .u64 (q.toNat : Int), .int .u64 (r.toNat : Int)] ∧ L = [] ∧ q.toNat = (hi.toNat * 18446744073709551616 + lo.toNat) / y.toNat ∧ r.toNat = (hi.toNat * 18446744073709551616 + lo.toNat) % y.toNat
theorem div_end {hi lo y S Y un32 un10 u1 u0 un21 Q1 Q0 : UInt64} (hY : Y.toNat = y.toNat * 2 ^ S.toNat) (hun : un32.toNat * 18446744073709551616 + un10.toNat = (hi.toNat * 18446744073709551616 + lo.toNat) * 2 ^ S.toNat)
    (hU : un10.toNat = u1.toNat * 4294967296 + u0.toNat) (hr21 : un21.toNat = (un32.toNat * 4294967296 + u1.toNat) % Y.toNat) (hQ1 : Q1.toNat = (un32.toNat * 4294967296 + u1.toNat) / Y.toNat)
    (hQ0 : Q0.toNat = (un21.toNat * 4294967296 + u0.toNat) / Y.toNat) (hr : (un21 * 4294967296 + u0 - Q0 * Y).toNat = (un21.toNat * 4294967296 + u0.toNat) % Y.toNat) (hYp : 0 < Y.toNat) (hlt : hi.toNat < y.toNat) :
    DivP hi lo y (.tuple #[.int .u64 ((Q1 * 4294967296 + Q0).toNat : Int), .int .u64 ((shr64 (un21 * 4294967296 + u0 - Q0 * Y) S.toNat).toNat : Int)]) [] := by
  have e : (4294967296 : UInt64).toNat = 4294967296 := rfl
  obtain ⟨k1, k2⟩ := d_two (R := un32.toNat) (u1 := u1.toNat) (u0 := u0.toNat) hYp
  rw [← hr21] at k1 k2
  have hX : (un32.toNat * 4294967296 + u1.toNat) * 4294967296 + u0.toNat = (hi.toNat * 18446744073709551616 + lo.toNat) * 2 ^ S.toNat := by
    rw [← hun, hU, Nat.add_mul, Nat.mul_assoc, Nat.add_assoc]
  rw [hX] at k1 k2
  rw [← hQ1, ← hQ0] at k1
  obtain ⟨j1, j2⟩ := back_shift hY k1 k2
  have hq : (Q1 * 4294967296 + Q0).toNat = (hi.toNat * 18446744073709551616 + lo.toNat) / y.toNat := by
    rw [UInt64.toNat_add, UInt64.toNat_mul, e, Nat.mod_add_mod, j1]
    refine Nat.mod_eq_of_lt ?_
    have hl := lo.toNat_lt
    rw [Nat.div_lt_iff_lt_mul (by omega)]
    omega
  exact ⟨_, _, rfl, rfl, hq, by rw [shr64_nat, hr, j2]⟩
end Go.Proofs.YtnpcaplgkmlmoaaGreatDoor
/- math/bits.Div64: a number of two limbs by one limb. Condition: the upper limb is below the divisor. -/
namespace Go.Proofs.YtnpcaplgkmlmoaaGreatDoor
set_option linter.unusedVariables false
set_option linter.unusedSimpArgs false
open Go Go.RowKit
theorem Div64_f (hi lo y : UInt64) (h : hi.toNat < y.toNat) : Fn Tryz.prog 97 #[.int .u64 (hi.toNat : Int), .int .u64 (lo.toNat : Int), .int .u64 (y.toNat : Int)] [] [] (DivP hi lo y) := by
  have hylt := y.toNat_lt
  obtain ⟨hY1, hY2⟩ := div_pos64 (show 0 < y.toNat by omega)
  have hbl := bitLen64 y
  refine Fn.enter (vs := [.int .u64 (hi.toNat : Int), .int .u64 (lo.toNat : Int), .int .u64 (y.toNat : Int)]) Tryz.func97 rfl rfl rfl ?_
  intro E R hR
  change At _ _ E [R] _
  refine At.seq fun K1 hk_1 => ?_
  refine At.region ?_
  refine op_assign (nxlf rfl) rfl rfl ?_
  refine op_assign (nxlf rfl) rfl rfl ?_
  refine At.opsNil ?_
  refine At.norm (hk_1 ?_)
  refine At.seq fun K2 hk_2 => ?_
  refine At.seq fun K3 hk_3 => ?_
  refine At.region ?_
  refine op_move (nxlf rfl) rfl rfl ?_
  refine op_eql (nxlf rfl) rfl rfl rfl ?_
  refine At.opsNil ?_
  refine At.norm (hk_3 ?_)
  refine At.condP rfl (fun c20 => ?_) (fun c20 => ?_)
  · exfalso; omega
  · refine At.skip ?_
    refine At.norm (hk_2 ?_)
    refine At.seq fun K4 hk_4 => ?_
    refine At.seq fun K5 hk_5 => ?_
    refine At.region ?_
    refine op_move (nxlf rfl) rfl rfl ?_
    refine op_move (nxlf rfl) rfl rfl ?_
    refine op_leq (nxlf rfl) rfl rfl rfl ?_
    refine At.opsNil ?_
    refine At.norm (hk_5 ?_)
    refine At.condP rfl (fun c24 => ?_) (fun c24 => ?_)
    · exfalso; omega
    · refine At.skip ?_
      refine At.norm (hk_4 ?_)
      refine At.seq fun K6 hk_6 => ?_
      refine At.seq fun K7 hk_7 => ?_
      refine At.region ?_
      refine op_move (nxlf rfl) rfl rfl ?_
      refine op_eql (nxlf rfl) rfl rfl rfl ?_
      refine At.opsNil ?_
      refine At.norm (hk_7 ?_)
      refine At.condP rfl (fun c27 => ?_) (fun c27 => ?_)
      · refine At.seq fun K8 hk_8 => ?_
        refine At.drawnS [R] [] [] [0,1,2,3,4,5,6,7] (by kernel_rfl) (by kernel_rfl) (.refl _) ?_
        refine op_move (nxsf rfl rfl rfl) rfl rfl ?_
        refine op_move (nxsf rfl rfl rfl) rfl rfl ?_
        refine op_quoU (nxsf rfl rfl rfl) rfl rfl (by omega) rfl ?_
        refine op_move (nxsf rfl rfl rfl) rfl rfl ?_
        refine op_move (nxsf rfl rfl rfl) rfl rfl ?_
        refine op_remU (nxsf rfl rfl rfl) rfl rfl (by omega) rfl ?_
        refine op_assign (nxsf rfl rfl rfl) rfl rfl ?_
        refine op_assign (nxsf rfl rfl rfl) rfl rfl ?_
        refine At.sNil ?_
        refine At.norm (hk_8 ?_)
        refine At.ret (At.thenRet (?_))
        refine At.retN (L1 := []) rfl (.tmp rfl (.tmp rfl .nil)) rfl (.refl _) (.refl _) ?_
        exact ⟨lo / y, lo % y, rfl, rfl, by rw [UInt64.toNat_div, show hi.toNat = 0 by omega, Nat.zero_mul, Nat.zero_add], by rw [UInt64.toNat_mod, show hi.toNat = 0 by omega, Nat.zero_mul, Nat.zero_add]⟩
      · refine At.skip ?_
        refine At.norm (hk_6 ?_)
        refine At.seq fun K9 hk_9 => ?_
        refine At.region ?_
        refine op_move (nxlf rfl) rfl rfl ?_
        refine op_callA (nxla rfl) (.cons rfl .nil) (LeadingZeros64_f y) Tryz.func92 rfl rfl (by simp) rfl ?_
        rintro v35 L35 ⟨rfl, rfl⟩
        change At _ _ _ [R] _
        refine op_conv64 (nxlf rfl) (und_some Tryz.underlying3) Tryz.underlying42 rfl (show _ = (((64 - bitLen y.toNat : Nat)) : Int) from by omega) rfl ?_
        have hS : (UInt64.ofNat (64 - bitLen y.toNat)).toNat = 64 - bitLen y.toNat := by rw [UInt64.toNat_ofNat']; omega
        generalize UInt64.ofNat (64 - bitLen y.toNat) = S at *
        refine op_assign (nxlf rfl) rfl rfl ?_
        refine At.opsNil ?_
        refine At.norm (hk_9 ?_)
        refine At.seq fun K10 hk_10 => ?_
        refine At.region ?_
        refine op_move (nxlf rfl) rfl rfl ?_
        refine op_move (nxlf rfl) rfl rfl ?_
        refine op_shlU (nxlf rfl) rfl rfl (by first | rfl | exact (Int.toNat_of_nonneg (by omega)).symm) rfl ?_
        have hY : (shl64 y S.toNat).toNat = y.toNat * 2 ^ S.toNat := by rw [shl64_nat, hS]; exact Nat.mod_eq_of_lt hY1
        rw [← hS] at hY1 hY2
        rw [← hY] at hY2
        have hun := un_shift (hi := hi) (lo := lo) (y := y) (s := S.toNat) (by omega) h hY1
        rw [← hY] at hun
        generalize shl64 y S.toNat = Y at *
        have hYlt := Y.toNat_lt
        refine op_assign (nxlf rfl) rfl rfl ?_
        refine At.opsNil ?_
        refine At.norm (hk_10 ?_)
        refine At.seq fun K11 hk_11 => ?_
        refine At.region ?_
        refine op_move (nxlf rfl) rfl rfl ?_
        refine op_shrU (nxlf rfl) rfl rfl (show _ = ((32 : Nat) : Int) from rfl) rfl ?_
        have hy1 : (shr64 Y 32).toNat = Y.toNat / 4294967296 := shr32n Y
        generalize shr64 Y 32 = y1 at *
        refine op_assign (nxlf rfl) rfl rfl ?_
        refine At.opsNil ?_
        refine At.norm (hk_11 ?_)
        refine At.seq fun K12 hk_12 => ?_
        refine At.region ?_
        refine op_move (nxlf rfl) rfl rfl ?_
        refine op_andU (b := 4294967295) (nxlf rfl) rfl rfl rfl ?_
        have hy0 : (Y &&& 4294967295).toNat = Y.toNat % 4294967296 := and32 Y
        generalize Y &&& 4294967295 = y0 at *
        refine op_assign (nxlf rfl) rfl rfl ?_
        refine At.opsNil ?_
        refine At.norm (hk_12 ?_)
        refine At.seq fun K13 hk_13 => ?_
        refine At.region ?_
        refine op_move (nxlf rfl) rfl rfl ?_
        refine op_move (nxlf rfl) rfl rfl ?_
        refine op_shlU (nxlf rfl) rfl rfl (by first | rfl | exact (Int.toNat_of_nonneg (by omega)).symm) rfl ?_
        refine op_move (nxlf rfl) rfl rfl ?_
        refine op_move (nxlf rfl) rfl rfl ?_
        refine op_subU (a := 64) (nxlf rfl) rfl rfl rfl ?_
        have h64 : ((64 : UInt64) - S).toNat = 64 - S.toNat := by
          rw [UInt64.toNat_sub_of_le _ _ (by rw [UInt64.le_iff_toNat_le]; show S.toNat ≤ 64; omega)]; rfl
        refine op_shrU (nxlf rfl) rfl rfl (by first | rfl | exact (Int.toNat_of_nonneg (by omega)).symm) rfl ?_
        refine op_orU (nxlf rfl) rfl rfl rfl ?_
        rw [← h64] at hun
        generalize shl64 hi S.toNat ||| shr64 lo ((64 : UInt64) - S).toNat = un32 at *
        refine op_assign (nxlf rfl) rfl rfl ?_
        refine At.opsNil ?_
        refine At.norm (hk_13 ?_)
        refine At.seq fun K14 hk_14 => ?_
        refine At.region ?_
        refine op_move (nxlf rfl) rfl rfl ?_
        refine op_move (nxlf rfl) rfl rfl ?_
        refine op_shlU (nxlf rfl) rfl rfl (by first | rfl | exact (Int.toNat_of_nonneg (by omega)).symm) rfl ?_
        generalize shl64 lo S.toNat = un10 at *
        have h10 := un10.toNat_lt
        refine op_assign (nxlf rfl) rfl rfl ?_
        refine At.opsNil ?_
        refine At.norm (hk_14 ?_)
        refine At.seq fun K15 hk_15 => ?_
        refine At.region ?_
        refine op_move (nxlf rfl) rfl rfl ?_
        refine op_shrU (nxlf rfl) rfl rfl (show _ = ((32 : Nat) : Int) from rfl) rfl ?_
        have hu1 : (shr64 un10 32).toNat = un10.toNat / 4294967296 := shr32n un10
        generalize shr64 un10 32 = u1 at *
        refine op_assign (nxlf rfl) rfl rfl ?_
        refine At.opsNil ?_
        refine At.norm (hk_15 ?_)
        refine At.seq fun K16 hk_16 => ?_
        refine At.region ?_
        refine op_move (nxlf rfl) rfl rfl ?_
        refine op_andU (b := 4294967295) (nxlf rfl) rfl rfl rfl ?_
        have hu0 : (un10 &&& 4294967295).toNat = un10.toNat % 4294967296 := and32 un10
        generalize un10 &&& 4294967295 = u0 at *
        have hYe : Y.toNat = y1.toNat * 4294967296 + y0.toNat := by omega
        have hUe : un10.toNat = u1.toNat * 4294967296 + u0.toNat := by omega
        have hR : un32.toNat < y1.toNat * 4294967296 + y0.toNat := by rw [← hYe]; exact hun.1
        refine op_assign (nxlf rfl) rfl rfl ?_
        refine At.opsNil ?_
        refine At.norm (hk_16 ?_)
        refine At.seq fun K17 hk_17 => ?_
        refine At.region ?_
        refine op_move (nxlf rfl) rfl rfl ?_
        refine op_move (nxlf rfl) rfl rfl ?_
        refine op_quoU (nxlf rfl) rfl rfl (by omega) rfl ?_
        refine op_assign (nxlf rfl) rfl rfl ?_
        refine At.opsNil ?_
        refine At.norm (hk_17 ?_)
        refine At.seq fun K18 hk_18 => ?_
        refine At.region ?_
        refine op_move (nxlf rfl) rfl rfl ?_
        refine op_move (nxlf rfl) rfl rfl ?_
        refine op_move (nxlf rfl) rfl rfl ?_
        refine op_mulU (nxlf rfl) rfl rfl rfl ?_
        refine op_subU (nxlf rfl) rfl rfl rfl ?_
        obtain ⟨f1, f2⟩ := d_first (R := un32) (y1 := y1) (by omega)
        have hI := d_start (R := un32.toNat) (u1 := u1.toNat) (y1 := y1.toNat) (y0 := y0.toNat) hR (by omega) (by omega) (by omega)
        rw [← f2, ← f1] at hI
        have hrh : (un32 - un32 / y1 * y1).toNat < 4294967296 := by
          rw [f2]
          have e := Nat.div_add_mod un32.toNat y1.toNat
          have hm := Nat.mod_lt un32.toNat (show 0 < y1.toNat by omega)
          rw [Nat.mul_comm] at e
          omega
        refine op_assign (nxlf rfl) rfl rfl ?_
        refine At.opsNil ?_
        refine At.norm (hk_18 ?_)
        refine At.seq fun K19 hk_19 => ?_
        refine At.meet (fun fr_ hp_ => ∃ (Q1 : UInt64), fr_ = [(2, .int .u64 (Y.toNat : Int)), (8, .int .u64 (S.toNat : Int)), (9, .int .u64 (y1.toNat : Int)), (10, .int .u64 (y0.toNat : Int)), (11, .int .u64 (un32.toNat : Int)), (13, .int .u64 (u1.toNat : Int)), (14, .int .u64 (u0.toNat : Int)), (15, .int .u64 (Q1.toNat : Int))] ∧ hp_ = [R] ∧ (Q1.toNat = (un32.toNat * 4294967296 + u1.toNat) / Y.toNat)) ?_ (fun K19_ jk_19 => ?_)
        rotate_left
        · skip
          refine At.block ?_
          refine At.loop (fun fr_ hp_ ms_ => ∃ (Q RH : UInt64), fr_ = [(2, .int .u64 (Y.toNat : Int)), (8, .int .u64 (S.toNat : Int)), (9, .int .u64 (y1.toNat : Int)), (10, .int .u64 (y0.toNat : Int)), (11, .int .u64 (un32.toNat : Int)), (13, .int .u64 (u1.toNat : Int)), (14, .int .u64 (u0.toNat : Int)), (15, .int .u64 (Q.toNat : Int)), (16, .int .u64 (RH.toNat : Int))] ∧ hp_ = [R] ∧ Q.toNat = ms_ ∧ (DInv un32.toNat u1.toNat y1.toNat y0.toNat Q.toNat RH.toNat) ∧ (RH.toNat < 4294967296)) ?_ (.refl _) ⟨un32 / y1, un32 - un32 / y1 * y1, rfl, rfl, rfl, hI, hrh⟩ ?_
          · exact .cons (by first | exact lkI rfl (by omega) | rfl) (.cons (by first | exact lkI rfl (by omega) | rfl) (.cons (by first | exact lkI rfl (by omega) | rfl) (.cons (by first | exact lkI rfl (by omega) | rfl) (.cons (by first | exact lkI rfl (by omega) | rfl) (.cons (by first | exact lkI rfl (by omega) | rfl) (.cons (by first | exact lkI rfl (by omega) | rfl) (.cons (by first | exact lkI rfl (by omega) | rfl) (.cons (by first | exact lkI rfl (by omega) | rfl) .nil))))))))
          rintro _ _ _ ⟨Q, RH, rfl, rfl, rfl, hI, hrh⟩
          refine At.seq fun K20 hk_20 => ?_
          refine At.seq fun K21 hk_21 => ?_
          refine At.region ?_
          refine op_move (nxlf rfl) rfl rfl ?_
          refine op_geq (nxlf rfl) rfl rfl rfl ?_
          refine op_move (nxlf rfl) rfl rfl ?_
          refine At.partP (d := 69) rfl (fun g69 => ?_) (fun g69 => ?_)
          · have hgt : RH.toNat * 4294967296 + u1.toNat < Q.toNat * y0.toNat := d_gt hI hR (by omega) (by omega)
            refine op_skip rfl rfl rfl rfl rfl rfl rfl ?_
            refine op_skip rfl rfl rfl rfl rfl rfl rfl ?_
            refine op_skip rfl rfl rfl rfl rfl rfl rfl ?_
            refine op_skip rfl rfl rfl rfl rfl rfl rfl ?_
            refine op_skip rfl rfl rfl rfl rfl rfl rfl ?_
            refine op_skip rfl rfl rfl rfl rfl rfl rfl ?_
            refine op_skip rfl rfl rfl rfl rfl rfl rfl ?_
            refine op_skip rfl rfl rfl rfl rfl rfl rfl ?_
            refine op_pickT (nxlf rfl) rfl rfl rfl ?_
            refine At.opsNil ?_
            refine At.norm (hk_21 ?_)
            refine At.condT rfl ?_
            refine At.skip ?_
            refine At.norm (hk_20 ?_)
            refine At.block ?_
            refine At.seq fun K22 hk_22 => ?_
            refine At.region ?_
            obtain ⟨m1, m2, m3⟩ := d_more hI hgt
            have q1' := sub_one64 m1
            have q2' : (RH + y1).toNat = RH.toNat + y1.toNat := by rw [UInt64.toNat_add]; exact Nat.mod_eq_of_lt (by omega)
            refine op_move (nxlf rfl) rfl rfl ?_
            refine op_subU (b := 1) (nxlf rfl) rfl rfl rfl ?_
            refine op_assign (nxlf rfl) rfl rfl ?_
            refine At.opsNil ?_
            refine At.norm (hk_22 ?_)
            refine At.seq fun K23 hk_23 => ?_
            refine At.region ?_
            refine op_move (nxlf rfl) rfl rfl ?_
            refine op_move (nxlf rfl) rfl rfl ?_
            refine op_addU (nxlf rfl) rfl rfl rfl ?_
            refine op_assign (nxlf rfl) rfl rfl ?_
            refine At.opsNil ?_
            refine At.norm (hk_23 ?_)
            refine At.seq fun K24 hk_24 => ?_
            refine At.region ?_
            refine op_move (nxlf rfl) rfl rfl ?_
            refine op_geq (nxlf rfl) rfl rfl rfl ?_
            refine At.opsNil ?_
            refine At.norm (hk_24 ?_)
            refine At.condP rfl (fun c85 => ?_) (fun c85 => ?_)
            · refine At.exit (At.inMiss rfl (At.thenExit (At.inHit ?_)))
              refine At.norm (jk_19 ?_ (.refl _) ⟨Q - 1, rfl, rfl, by rw [hYe]; rw [q1']; exact d_brk m2 m3 (by omega) (by omega) (by omega)⟩)
              exact .cons (by first | exact lkI rfl (by omega) | rfl) (.cons (by first | exact lkI rfl (by omega) | rfl) (.cons (by first | exact lkI rfl (by omega) | rfl) (.cons (by first | exact lkI rfl (by omega) | rfl) (.cons (by first | exact lkI rfl (by omega) | rfl) (.cons (by first | exact lkI rfl (by omega) | rfl) (.cons (by first | exact lkI rfl (by omega) | rfl) (.cons (by first | exact lkI rfl (by omega) | rfl) .nil)))))))
            · refine At.skip ?_
              refine At.inNorm ?_
              refine At.norm ?_
              refine At.back ?_ (.refl _) ⟨Q - 1, RH + y1, rfl, rfl, rfl, by rw [q1', q2']; exact m2, by omega⟩ ?_
              · exact .cons (by first | exact lkI rfl (by omega) | rfl) (.cons (by first | exact lkI rfl (by omega) | rfl) (.cons (by first | exact lkI rfl (by omega) | rfl) (.cons (by first | exact lkI rfl (by omega) | rfl) (.cons (by first | exact lkI rfl (by omega) | rfl) (.cons (by first | exact lkI rfl (by omega) | rfl) (.cons (by first | exact lkI rfl (by omega) | rfl) (.cons (by first | exact lkI rfl (by omega) | rfl) (.cons (by first | exact lkI rfl (by omega) | rfl) .nil))))))))
              · omega
          · obtain ⟨t1, t2⟩ := d_test (Q := Q) (RH := RH) (y0 := y0) (u1 := u1) (by omega) (by omega) (by omega) (by omega)
            refine op_move (nxgf rfl rfl rfl rfl) rfl rfl ?_
            refine op_move (nxgf rfl rfl rfl rfl) rfl rfl ?_
            refine op_mulU (nxgf rfl rfl rfl rfl) rfl rfl rfl ?_
            refine op_move (nxgf rfl rfl rfl rfl) rfl rfl ?_
            refine op_mulU (a := 4294967296) (nxgf rfl rfl rfl rfl) rfl rfl rfl ?_
            refine op_move (nxgf rfl rfl rfl rfl) rfl rfl ?_
            refine op_addU (nxgf rfl rfl rfl rfl) rfl rfl rfl ?_
            refine op_gtr (nxgf rfl rfl rfl rfl) rfl rfl rfl ?_
            refine op_pickF (nxlf rfl) rfl rfl rfl ?_
            refine At.opsNil ?_
            refine At.norm (hk_21 ?_)
            refine At.condP rfl (fun c78 => ?_) (fun c78 => ?_)
            · have hgt : RH.toNat * 4294967296 + u1.toNat < Q.toNat * y0.toNat := by rw [← t1, ← t2]; omega
              refine At.skip ?_
              refine At.norm (hk_20 ?_)
              refine At.block ?_
              refine At.seq fun K25 hk_25 => ?_
              refine At.region ?_
              obtain ⟨m1, m2, m3⟩ := d_more hI hgt
              have q1' := sub_one64 m1
              have q2' : (RH + y1).toNat = RH.toNat + y1.toNat := by rw [UInt64.toNat_add]; exact Nat.mod_eq_of_lt (by omega)
              refine op_move (nxlf rfl) rfl rfl ?_
              refine op_subU (b := 1) (nxlf rfl) rfl rfl rfl ?_
              refine op_assign (nxlf rfl) rfl rfl ?_
              refine At.opsNil ?_
              refine At.norm (hk_25 ?_)
              refine At.seq fun K26 hk_26 => ?_
              refine At.region ?_
              refine op_move (nxlf rfl) rfl rfl ?_
              refine op_move (nxlf rfl) rfl rfl ?_
              refine op_addU (nxlf rfl) rfl rfl rfl ?_
              refine op_assign (nxlf rfl) rfl rfl ?_
              refine At.opsNil ?_
              refine At.norm (hk_26 ?_)
              refine At.seq fun K27 hk_27 => ?_
              refine At.region ?_
              refine op_move (nxlf rfl) rfl rfl ?_
              refine op_geq (nxlf rfl) rfl rfl rfl ?_
              refine At.opsNil ?_
              refine At.norm (hk_27 ?_)
              refine At.condP rfl (fun c85 => ?_) (fun c85 => ?_)
              · refine At.exit (At.inMiss rfl (At.thenExit (At.inHit ?_)))
                refine At.norm (jk_19 ?_ (.refl _) ⟨Q - 1, rfl, rfl, by rw [hYe]; rw [q1']; exact d_brk m2 m3 (by omega) (by omega) (by omega)⟩)
                exact .cons (by first | exact lkI rfl (by omega) | rfl) (.cons (by first | exact lkI rfl (by omega) | rfl) (.cons (by first | exact lkI rfl (by omega) | rfl) (.cons (by first | exact lkI rfl (by omega) | rfl) (.cons (by first | exact lkI rfl (by omega) | rfl) (.cons (by first | exact lkI rfl (by omega) | rfl) (.cons (by first | exact lkI rfl (by omega) | rfl) (.cons (by first | exact lkI rfl (by omega) | rfl) .nil)))))))
              · refine At.skip ?_
                refine At.inNorm ?_
                refine At.norm ?_
                refine At.back ?_ (.refl _) ⟨Q - 1, RH + y1, rfl, rfl, rfl, by rw [q1', q2']; exact m2, by omega⟩ ?_
                · exact .cons (by first | exact lkI rfl (by omega) | rfl) (.cons (by first | exact lkI rfl (by omega) | rfl) (.cons (by first | exact lkI rfl (by omega) | rfl) (.cons (by first | exact lkI rfl (by omega) | rfl) (.cons (by first | exact lkI rfl (by omega) | rfl) (.cons (by first | exact lkI rfl (by omega) | rfl) (.cons (by first | exact lkI rfl (by omega) | rfl) (.cons (by first | exact lkI rfl (by omega) | rfl) (.cons (by first | exact lkI rfl (by omega) | rfl) .nil))))))))
                · omega
            · refine At.exit (At.thenExit (At.thenExit (At.inHit ?_)))
              refine At.norm (jk_19 ?_ (.refl _) ⟨Q, rfl, rfl, by rw [hYe]; exact d_at hI (by rw [← t1, ← t2]; omega) (by omega)⟩)
              exact .cons (by first | exact lkI rfl (by omega) | rfl) (.cons (by first | exact lkI rfl (by omega) | rfl) (.cons (by first | exact lkI rfl (by omega) | rfl) (.cons (by first | exact lkI rfl (by omega) | rfl) (.cons (by first | exact lkI rfl (by omega) | rfl) (.cons (by first | exact lkI rfl (by omega) | rfl) (.cons (by first | exact lkI rfl (by omega) | rfl) (.cons (by first | exact lkI rfl (by omega) | rfl) .nil)))))))
        rintro _ _ ⟨Q1, rfl, rfl, hQ1⟩
        refine hk_19 ?_
        refine At.seq fun K28 hk_28 => ?_
        refine At.region ?_
        refine op_move (nxlf rfl) rfl rfl ?_
        refine op_mulU (b := 4294967296) (nxlf rfl) rfl rfl rfl ?_
        refine op_move (nxlf rfl) rfl rfl ?_
        refine op_addU (nxlf rfl) rfl rfl rfl ?_
        refine op_move (nxlf rfl) rfl rfl ?_
        refine op_move (nxlf rfl) rfl rfl ?_
        refine op_mulU (nxlf rfl) rfl rfl rfl ?_
        refine op_subU (nxlf rfl) rfl rfl rfl ?_
        have hr21 := d_rest (R := un32) (u1 := u1) (Q := Q1) (Y := Y) (by omega) hQ1 (by omega)
        generalize un32 * 4294967296 + u1 - Q1 * Y = un21 at *
        have hR2 : un21.toNat < y1.toNat * 4294967296 + y0.toNat := by rw [← hYe, hr21]; exact Nat.mod_lt _ (by omega)
        refine op_assign (nxlf rfl) rfl rfl ?_
        refine At.opsNil ?_
        refine At.norm (hk_28 ?_)
        refine At.seq fun K29 hk_29 => ?_
        refine At.region ?_
        refine op_move (nxlf rfl) rfl rfl ?_
        refine op_move (nxlf rfl) rfl rfl ?_
        refine op_quoU (nxlf rfl) rfl rfl (by omega) rfl ?_
        refine op_assign (nxlf rfl) rfl rfl ?_
        refine At.opsNil ?_
        refine At.norm (hk_29 ?_)
        refine At.seq fun K30 hk_30 => ?_
        refine At.region ?_
        refine op_move (nxlf rfl) rfl rfl ?_
        refine op_move (nxlf rfl) rfl rfl ?_
        refine op_move (nxlf rfl) rfl rfl ?_
        refine op_mulU (nxlf rfl) rfl rfl rfl ?_
        refine op_subU (nxlf rfl) rfl rfl rfl ?_
        obtain ⟨f1, f2⟩ := d_first (R := un21) (y1 := y1) (by omega)
        have hI := d_start (R := un21.toNat) (u1 := u0.toNat) (y1 := y1.toNat) (y0 := y0.toNat) hR2 (by omega) (by omega) (by omega)
        rw [← f2, ← f1] at hI
        have hrh : (un21 - un21 / y1 * y1).toNat < 4294967296 := by
          rw [f2]
          have e := Nat.div_add_mod un21.toNat y1.toNat
          have hm := Nat.mod_lt un21.toNat (show 0 < y1.toNat by omega)
          rw [Nat.mul_comm] at e
          omega
        refine op_assign (nxlf rfl) rfl rfl ?_
        refine At.opsNil ?_
        refine At.norm (hk_30 ?_)
        refine At.seq fun K31 hk_31 => ?_
        refine At.meet (fun fr_ hp_ => ∃ (Q0 : UInt64), fr_ = [(2, .int .u64 (Y.toNat : Int)), (8, .int .u64 (S.toNat : Int)), (14, .int .u64 (u0.toNat : Int)), (15, .int .u64 (Q1.toNat : Int)), (17, .int .u64 (un21.toNat : Int)), (18, .int .u64 (Q0.toNat : Int))] ∧ hp_ = [R] ∧ (Q0.toNat = (un21.toNat * 4294967296 + u0.toNat) / Y.toNat)) ?_ (fun K31_ jk_31 => ?_)
        rotate_left
        · skip
          refine At.block ?_
          refine At.loop (fun fr_ hp_ ms_ => ∃ (Q RH : UInt64), fr_ = [(2, .int .u64 (Y.toNat : Int)), (8, .int .u64 (S.toNat : Int)), (9, .int .u64 (y1.toNat : Int)), (10, .int .u64 (y0.toNat : Int)), (14, .int .u64 (u0.toNat : Int)), (15, .int .u64 (Q1.toNat : Int)), (17, .int .u64 (un21.toNat : Int)), (18, .int .u64 (Q.toNat : Int)), (16, .int .u64 (RH.toNat : Int))] ∧ hp_ = [R] ∧ Q.toNat = ms_ ∧ (DInv un21.toNat u0.toNat y1.toNat y0.toNat Q.toNat RH.toNat) ∧ (RH.toNat < 4294967296)) ?_ (.refl _) ⟨un21 / y1, un21 - un21 / y1 * y1, rfl, rfl, rfl, hI, hrh⟩ ?_
          · exact .cons (by first | exact lkI rfl (by omega) | rfl) (.cons (by first | exact lkI rfl (by omega) | rfl) (.cons (by first | exact lkI rfl (by omega) | rfl) (.cons (by first | exact lkI rfl (by omega) | rfl) (.cons (by first | exact lkI rfl (by omega) | rfl) (.cons (by first | exact lkI rfl (by omega) | rfl) (.cons (by first | exact lkI rfl (by omega) | rfl) (.cons (by first | exact lkI rfl (by omega) | rfl) (.cons (by first | exact lkI rfl (by omega) | rfl) .nil))))))))
          rintro _ _ _ ⟨Q, RH, rfl, rfl, rfl, hI, hrh⟩
          refine At.seq fun K32 hk_32 => ?_
          refine At.seq fun K33 hk_33 => ?_
          refine At.region ?_
          refine op_move (nxlf rfl) rfl rfl ?_
          refine op_geq (nxlf rfl) rfl rfl rfl ?_
          refine op_move (nxlf rfl) rfl rfl ?_
          refine At.partP (d := 104) rfl (fun g104 => ?_) (fun g104 => ?_)
          · have hgt : RH.toNat * 4294967296 + u0.toNat < Q.toNat * y0.toNat := d_gt hI hR2 (by omega) (by omega)
            refine op_skip rfl rfl rfl rfl rfl rfl rfl ?_
            refine op_skip rfl rfl rfl rfl rfl rfl rfl ?_
            refine op_skip rfl rfl rfl rfl rfl rfl rfl ?_
            refine op_skip rfl rfl rfl rfl rfl rfl rfl ?_
            refine op_skip rfl rfl rfl rfl rfl rfl rfl ?_
            refine op_skip rfl rfl rfl rfl rfl rfl rfl ?_
            refine op_skip rfl rfl rfl rfl rfl rfl rfl ?_
            refine op_skip rfl rfl rfl rfl rfl rfl rfl ?_
            refine op_pickT (nxlf rfl) rfl rfl rfl ?_
            refine At.opsNil ?_
            refine At.norm (hk_33 ?_)
            refine At.condT rfl ?_
            refine At.skip ?_
            refine At.norm (hk_32 ?_)
            refine At.block ?_
            refine At.seq fun K34 hk_34 => ?_
            refine At.region ?_
            obtain ⟨m1, m2, m3⟩ := d_more hI hgt
            have q1' := sub_one64 m1
            have q2' : (RH + y1).toNat = RH.toNat + y1.toNat := by rw [UInt64.toNat_add]; exact Nat.mod_eq_of_lt (by omega)
            refine op_move (nxlf rfl) rfl rfl ?_
            refine op_subU (b := 1) (nxlf rfl) rfl rfl rfl ?_
            refine op_assign (nxlf rfl) rfl rfl ?_
            refine At.opsNil ?_
            refine At.norm (hk_34 ?_)
            refine At.seq fun K35 hk_35 => ?_
            refine At.region ?_
            refine op_move (nxlf rfl) rfl rfl ?_
            refine op_move (nxlf rfl) rfl rfl ?_
            refine op_addU (nxlf rfl) rfl rfl rfl ?_
            refine op_assign (nxlf rfl) rfl rfl ?_
            refine At.opsNil ?_
            refine At.norm (hk_35 ?_)
            refine At.seq fun K36 hk_36 => ?_
            refine At.region ?_
            refine op_move (nxlf rfl) rfl rfl ?_
            refine op_geq (nxlf rfl) rfl rfl rfl ?_
            refine At.opsNil ?_
            refine At.norm (hk_36 ?_)
            refine At.condP rfl (fun c120 => ?_) (fun c120 => ?_)
            · refine At.exit (At.inMiss rfl (At.thenExit (At.inHit ?_)))
              refine At.norm (jk_31 ?_ (.refl _) ⟨Q - 1, rfl, rfl, by rw [hYe]; rw [q1']; exact d_brk m2 m3 (by omega) (by omega) (by omega)⟩)
              exact .cons (by first | exact lkI rfl (by omega) | rfl) (.cons (by first | exact lkI rfl (by omega) | rfl) (.cons (by first | exact lkI rfl (by omega) | rfl) (.cons (by first | exact lkI rfl (by omega) | rfl) (.cons (by first | exact lkI rfl (by omega) | rfl) (.cons (by first | exact lkI rfl (by omega) | rfl) .nil)))))
            · refine At.skip ?_
              refine At.inNorm ?_
              refine At.norm ?_
              refine At.back ?_ (.refl _) ⟨Q - 1, RH + y1, rfl, rfl, rfl, by rw [q1', q2']; exact m2, by omega⟩ ?_
              · exact .cons (by first | exact lkI rfl (by omega) | rfl) (.cons (by first | exact lkI rfl (by omega) | rfl) (.cons (by first | exact lkI rfl (by omega) | rfl) (.cons (by first | exact lkI rfl (by omega) | rfl) (.cons (by first | exact lkI rfl (by omega) | rfl) (.cons (by first | exact lkI rfl (by omega) | rfl) (.cons (by first | exact lkI rfl (by omega) | rfl) (.cons (by first | exact lkI rfl (by omega) | rfl) (.cons (by first | exact lkI rfl (by omega) | rfl) .nil))))))))
              · omega
          · obtain ⟨t1, t2⟩ := d_test (Q := Q) (RH := RH) (y0 := y0) (u1 := u0) (by omega) (by omega) (by omega) (by omega)
            refine op_move (nxgf rfl rfl rfl rfl) rfl rfl ?_
            refine op_move (nxgf rfl rfl rfl rfl) rfl rfl ?_
            refine op_mulU (nxgf rfl rfl rfl rfl) rfl rfl rfl ?_
            refine op_move (nxgf rfl rfl rfl rfl) rfl rfl ?_
            refine op_mulU (a := 4294967296) (nxgf rfl rfl rfl rfl) rfl rfl rfl ?_
            refine op_move (nxgf rfl rfl rfl rfl) rfl rfl ?_
            refine op_addU (nxgf rfl rfl rfl rfl) rfl rfl rfl ?_
            refine op_gtr (nxgf rfl rfl rfl rfl) rfl rfl rfl ?_
            refine op_pickF (nxlf rfl) rfl rfl rfl ?_
            refine At.opsNil ?_
            refine At.norm (hk_33 ?_)
            refine At.condP rfl (fun c113 => ?_) (fun c113 => ?_)
            · have hgt : RH.toNat * 4294967296 + u0.toNat < Q.toNat * y0.toNat := by rw [← t1, ← t2]; omega
              refine At.skip ?_
              refine At.norm (hk_32 ?_)
              refine At.block ?_
              refine At.seq fun K37 hk_37 => ?_
              refine At.region ?_
              obtain ⟨m1, m2, m3⟩ := d_more hI hgt
              have q1' := sub_one64 m1
              have q2' : (RH + y1).toNat = RH.toNat + y1.toNat := by rw [UInt64.toNat_add]; exact Nat.mod_eq_of_lt (by omega)
              refine op_move (nxlf rfl) rfl rfl ?_
              refine op_subU (b := 1) (nxlf rfl) rfl rfl rfl ?_
              refine op_assign (nxlf rfl) rfl rfl ?_
              refine At.opsNil ?_
              refine At.norm (hk_37 ?_)
              refine At.seq fun K38 hk_38 => ?_
              refine At.region ?_
              refine op_move (nxlf rfl) rfl rfl ?_
              refine op_move (nxlf rfl) rfl rfl ?_
              refine op_addU (nxlf rfl) rfl rfl rfl ?_
              refine op_assign (nxlf rfl) rfl rfl ?_
              refine At.opsNil ?_
              refine At.norm (hk_38 ?_)
              refine At.seq fun K39 hk_39 => ?_
              refine At.region ?_
              refine op_move (nxlf rfl) rfl rfl ?_
              refine op_geq (nxlf rfl) rfl rfl rfl ?_
              refine At.opsNil ?_
              refine At.norm (hk_39 ?_)
              refine At.condP rfl (fun c120 => ?_) (fun c120 => ?_)
              · refine At.exit (At.inMiss rfl (At.thenExit (At.inHit ?_)))
                refine At.norm (jk_31 ?_ (.refl _) ⟨Q - 1, rfl, rfl, by rw [hYe]; rw [q1']; exact d_brk m2 m3 (by omega) (by omega) (by omega)⟩)
                exact .cons (by first | exact lkI rfl (by omega) | rfl) (.cons (by first | exact lkI rfl (by omega) | rfl) (.cons (by first | exact lkI rfl (by omega) | rfl) (.cons (by first | exact lkI rfl (by omega) | rfl) (.cons (by first | exact lkI rfl (by omega) | rfl) (.cons (by first | exact lkI rfl (by omega) | rfl) .nil)))))
              · refine At.skip ?_
                refine At.inNorm ?_
                refine At.norm ?_
                refine At.back ?_ (.refl _) ⟨Q - 1, RH + y1, rfl, rfl, rfl, by rw [q1', q2']; exact m2, by omega⟩ ?_
                · exact .cons (by first | exact lkI rfl (by omega) | rfl) (.cons (by first | exact lkI rfl (by omega) | rfl) (.cons (by first | exact lkI rfl (by omega) | rfl) (.cons (by first | exact lkI rfl (by omega) | rfl) (.cons (by first | exact lkI rfl (by omega) | rfl) (.cons (by first | exact lkI rfl (by omega) | rfl) (.cons (by first | exact lkI rfl (by omega) | rfl) (.cons (by first | exact lkI rfl (by omega) | rfl) (.cons (by first | exact lkI rfl (by omega) | rfl) .nil))))))))
                · omega
            · refine At.exit (At.thenExit (At.thenExit (At.inHit ?_)))
              refine At.norm (jk_31 ?_ (.refl _) ⟨Q, rfl, rfl, by rw [hYe]; exact d_at hI (by rw [← t1, ← t2]; omega) (by omega)⟩)
              exact .cons (by first | exact lkI rfl (by omega) | rfl) (.cons (by first | exact lkI rfl (by omega) | rfl) (.cons (by first | exact lkI rfl (by omega) | rfl) (.cons (by first | exact lkI rfl (by omega) | rfl) (.cons (by first | exact lkI rfl (by omega) | rfl) (.cons (by first | exact lkI rfl (by omega) | rfl) .nil)))))
        rintro _ _ ⟨Q0, rfl, rfl, hQ0⟩
        refine hk_31 ?_
        refine At.seq fun K40 hk_40 => ?_
        refine At.region ?_
        refine op_move (nxlf rfl) rfl rfl ?_
        refine op_mulU (b := 4294967296) (nxlf rfl) rfl rfl rfl ?_
        refine op_move (nxlf rfl) rfl rfl ?_
        refine op_addU (nxlf rfl) rfl rfl rfl ?_
        refine op_move (nxlf rfl) rfl rfl ?_
        refine op_mulU (b := 4294967296) (nxlf rfl) rfl rfl rfl ?_
        refine op_move (nxlf rfl) rfl rfl ?_
        refine op_addU (nxlf rfl) rfl rfl rfl ?_
        refine op_move (nxlf rfl) rfl rfl ?_
        refine op_move (nxlf rfl) rfl rfl ?_
        refine op_mulU (nxlf rfl) rfl rfl rfl ?_
        refine op_subU (nxlf rfl) rfl rfl rfl ?_
        refine op_move (nxlf rfl) rfl rfl ?_
        refine op_shrU (nxlf rfl) rfl rfl (by first | rfl | exact (Int.toNat_of_nonneg (by omega)).symm) rfl ?_
        refine op_assign (nxlf rfl) rfl rfl ?_
        refine op_assign (nxlf rfl) rfl rfl ?_
        refine At.opsNil ?_
        refine At.norm (hk_40 ?_)
        refine At.ret (?_)
        refine At.retN (L1 := []) rfl (.tmp rfl (.tmp rfl .nil)) rfl (.refl _) (.refl _) ?_
        have hr := d_rest (R := un21) (u1 := u0) (Q := Q0) (Y := Y) (by omega) hQ0 (by omega)
        exact div_end hY hun.2 hUe hr21 hQ1 hQ0 hr (by omega) h
end Go.Proofs.YtnpcaplgkmlmoaaGreatDoor
/- limb.Add, limb.Sub: sums and differences of numbers in limbs. Condition: numbers of at most 2^40 limbs; for Sub: the second is no greater. -/
namespace Go.Proofs.YtnpcaplgkmlmoaaGreatDoor
set_option linter.unusedVariables false
set_option linter.unusedSimpArgs false
open Go Go.RowKit
theorem bytesN_pad {w V : Nat} (h : V < 256 ^ w) : List.replicate (w - (bytesOf V).length) 0 ++ bytesOf V = bytesN w V := by
  have hl := length_bytesOf V
  have h1 := byteLen_le.2 h
  have h2 : (List.replicate (w - (bytesOf V).length) (0 : UInt8) ++ bytesOf V).length = w := by rw [List.length_append, List.length_replicate]; omega
  have hz : be (List.replicate (w - (bytesOf V).length) (0 : UInt8)) = 0 := by
    generalize w - (bytesOf V).length = m
    induction m with
    | zero => rfl
    | succ m ih => rw [List.replicate_succ, be_cons, ih]; simp
  have h3 : be (List.replicate (w - (bytesOf V).length) (0 : UInt8) ++ bytesOf V) = be (bytesN w V) := by
    rw [be_append, be_bytesOf, hz, be_bytesN, Nat.mod_eq_of_lt h]; simp
  exact be_inj (by rw [h2, length_bytesN]) h3
/-- Limbs in new memory: a number without zeros at its upper end. -/
def LimbsP (V : Nat) (v : Value) (L : List Heaplet) : Prop :=
  ∃ M a c, v = .slice a (limbsOf V).length c ∧ L = [M] ∧ RSl M 1 a (limbsOf V).length c (u64s (limbsOf V))
theorem RSl.trimmed {N : Heaplet} {ao : Option Addr} {n cap : Nat} {l : List UInt64} (h : RSl N 1 ao n cap (u64s l)) (ht : l.take (limbsOf (v64 l)).length = limbsOf (v64 l)) (hle : (limbsOf (v64 l)).length ≤ n) :
    RSl N 1 ao (limbsOf (v64 l)).length (limbsOf (v64 l)).length (u64s (limbsOf (v64 l))) := by
  have := h.take (hi := (limbsOf (v64 l)).length) (m := (limbsOf (v64 l)).length) (Nat.le_refl _) (Nat.le_trans hle h.2.1) hle
  rwa [Nat.mul_one, u64s_takeR, ht] at this
theorem getD_big {α : Type} {l : List α} {k : Nat} {z : α} (h : l.length ≤ k) : l.getD k z = z := by
  rw [List.getD_eq_getElem?_getD, List.getElem?_eq_none h]; rfl
theorem set_rep {α : Type} {w : List α} {j m : Nat} {z y : α} (hw : w.length = j) (h : 0 < m) : (w ++ List.replicate m z).set j y = (w ++ [y]) ++ List.replicate (m - 1) z := by
  obtain ⟨k, rfl⟩ : ∃ k, m = k + 1 := ⟨m - 1, by omega⟩
  rw [List.replicate_succ, set_mid hw]; rfl
theorem getD_app {α : Type} {p r : List α} {j : Nat} {z : α} (h : j < p.length) : (p ++ r).getD j z = p.getD j z := by
  rw [List.getD_eq_getElem?_getD, List.getD_eq_getElem?_getD, List.getElem?_append_left h]
theorem limbs_mono {A B : Nat} (h : A ≤ B) : (limbsOf A).length ≤ (limbsOf B).length := by
  rw [length_limbsOf, length_limbsOf]
  have := bitLen_mono h
  omega
end Go.Proofs.YtnpcaplgkmlmoaaGreatDoor
/- Plain laws: numbers in limbs compared, their bits, shifted. No condition. -/
namespace Go.Proofs.YtnpcaplgkmlmoaaGreatDoor
set_option linter.unusedVariables false
set_option linter.unusedSimpArgs false
/-- The order of two numbers. -/
def cmpN (a b : Nat) : Int := if a < b then -1 else if b < a then 1 else 0
theorem cmpN_lt {a b : Nat} (h : a < b) : cmpN a b = -1 := by rw [cmpN, if_pos h]
theorem cmpN_gt {a b : Nat} (h : b < a) : cmpN a b = 1 := by rw [cmpN, if_neg (by omega), if_pos h]
theorem cmpN_eq (a : Nat) : cmpN a a = 0 := by rw [cmpN, if_neg (Nat.lt_irrefl _), if_neg (Nat.lt_irrefl _)]
theorem limbs_len_lt {A B : Nat} (h : (limbsOf A).length < (limbsOf B).length) : A < B := by
  rcases Nat.lt_or_ge A B with h1 | h1
  · exact h1
  · have := limbs_mono h1; omega
theorem v64_split {l : List UInt64} {j : Nat} (h : j < l.length) : v64 l = v64 (l.take j) + 2 ^ (64 * j) * ((l.getD j 0).toNat + 18446744073709551616 * v64 (l.drop (j + 1))) := by
  have e : l = l.take (j + 1) ++ l.drop (j + 1) := (List.take_append_drop _ _).symm
  conv => lhs; rw [e]
  rw [v64_append, List.length_take, Nat.min_eq_left (by omega), v64_take_succD, pow64, Nat.mul_add, Nat.mul_assoc, Nat.add_assoc]
theorem cmp_at {x y : List UInt64} {j : Nat} (hl : x.length = y.length) (hj : j < x.length) (hd : x.drop (j + 1) = y.drop (j + 1)) (hlt : (x.getD j 0).toNat < (y.getD j 0).toNat) : v64 x < v64 y := by
  rw [v64_split hj, v64_split (l := y) (j := j) (by omega), hd]
  have h1 := v64_take_lt x j
  have h2 := Nat.mul_le_mul_left (2 ^ (64 * j)) (show (x.getD j 0).toNat + 18446744073709551616 * v64 (y.drop (j + 1)) + 1 ≤ (y.getD j 0).toNat + 18446744073709551616 * v64 (y.drop (j + 1)) by omega)
  rw [Nat.mul_add _ _ 1, Nat.mul_one] at h2
  omega
theorem drop_eq_succ {α : Type} {x y : List α} {j : Nat} {z : α} (hx : j < x.length) (hy : j < y.length) (he : x.getD j z = y.getD j z) (hd : x.drop (j + 1) = y.drop (j + 1)) : x.drop j = y.drop j := by
  rw [List.drop_eq_getElem_cons hx, List.drop_eq_getElem_cons hy, hd]
  rw [List.getD_eq_getElem?_getD, List.getD_eq_getElem?_getD, List.getElem?_eq_getElem hx, List.getElem?_eq_getElem hy] at he
  simp only [Option.getD_some] at he
  rw [he]
theorem limb_at (l : List UInt64) (i : Nat) : v64 l / 2 ^ (64 * i) % 2 ^ 64 = (l.getD i 0).toNat := by
  rcases Nat.lt_or_ge i l.length with h | h
  · rw [limb_v64 h, List.getD_eq_getElem?_getD, List.getElem?_eq_getElem h]; rfl
  · rw [getD_big h, Nat.div_eq_of_lt (Nat.lt_of_lt_of_le (v64_lt l) (Nat.pow_le_pow_right (by decide) (by omega)))]; rfl
theorem bit_at (l : List UInt64) (i : Nat) : (shr64 (l.getD (i / 64) 0) (i % 64) &&& 1).toNat = v64 l / 2 ^ i % 2 := by
  rw [UInt64.toNat_and, shr64_nat, ← limb_at]
  have e : (2 : Nat) ^ i = 2 ^ (64 * (i / 64)) * 2 ^ (i % 64) := by rw [← Nat.pow_add]; congr 1; omega
  rw [e, ← Nat.div_div_eq_div_mul]
  generalize v64 l / 2 ^ (64 * (i / 64)) = W
  have hr : i % 64 < 64 := Nat.mod_lt _ (by decide)
  generalize i % 64 = r at *
  rw [show ((1 : UInt64).toNat) = 2 ^ 1 - 1 from rfl, Nat.and_two_pow_sub_one_eq_mod]
  rw [show (2 : Nat) ^ 64 = 2 ^ r * 2 ^ (64 - r) from by rw [← Nat.pow_add]; congr 1; omega, Nat.mod_mul_right_div_self]
  exact Nat.mod_mod_of_dvd _ (Nat.pow_dvd_pow 2 (by omega))
theorem bit_big {l : List UInt64} {i : Nat} (h : l.length ≤ i / 64) : v64 l / 2 ^ i % 2 = 0 := by
  rw [Nat.div_eq_of_lt (Nat.lt_of_lt_of_le (v64_lt l) (Nat.pow_le_pow_right (by decide) (by omega)))]
/-! Shifts. -/
/-- The limbs of V shifted to the left, so many. -/
def shlN (L V s : Nat) : List UInt64 := limbsN L (V * 2 ^ s)
theorem length_shlN (L V s : Nat) : (shlN L V s).length = L := by simp [shlN, limbsN]
theorem getD_limbsN {L V i : Nat} (h : i < L) : (limbsN L V).getD i 0 = UInt64.ofNat (V / 2 ^ (64 * i)) := by
  rw [List.getD_eq_getElem?_getD, List.getElem?_eq_getElem (by simp [limbsN]; exact h)]
  simp [limbsN]
theorem shl_low {l : List UInt64} {s : Nat} (_hs : s < 64) : UInt64.ofNat (v64 l * 2 ^ s / 2 ^ (64 * 0)) = shl64 (l.getD 0 0) s := by
  apply UInt64.toNat_inj.1
  have h := limb_at l 0
  rw [UInt64.toNat_ofNat', shl64_nat, ← h, Nat.mul_zero, Nat.pow_zero, Nat.div_one, Nat.div_one, Nat.mod_mul_mod]
theorem mid_at {l : List UInt64} {i r : Nat} (hr : r ≤ 64) : v64 l / 2 ^ (64 * i + r) % 2 ^ 64 = (shr64 (l.getD i 0) r ||| shl64 (l.getD (i + 1) 0) (64 - r)).toNat := by
  rw [Nat.pow_add, ← Nat.div_div_eq_div_mul]
  have e : v64 l / 2 ^ (64 * i) = (l.getD i 0).toNat + 2 ^ 64 * (v64 l / 2 ^ (64 * (i + 1))) := by
    rw [← limb_at, pow64, ← Nat.div_div_eq_div_mul]
    exact (Nat.mod_add_div _ _).symm
  rw [e, limb_mid hr (limb_at l (i + 1))]
theorem shl_at {l : List UInt64} {s i : Nat} (h0 : 0 < i) (hs : s < 64) : UInt64.ofNat (v64 l * 2 ^ s / 2 ^ (64 * i)) = (shl64 (l.getD i 0) s ||| shr64 (l.getD (i - 1) 0) (64 - s)) := by
  apply UInt64.toNat_inj.1
  have h := mid_at (l := l) (i := i - 1) (r := 64 - s) (by omega)
  rw [show i - 1 + 1 = i by omega, show 64 - (64 - s) = s by omega] at h
  rw [UInt64.toNat_ofNat', UInt64.toNat_or, Nat.or_comm, ← UInt64.toNat_or, ← h]
  have e : (2 : Nat) ^ (64 * i) = 2 ^ (64 * (i - 1) + (64 - s)) * 2 ^ s := by rw [← Nat.pow_add]; congr 1; omega
  rw [e, Nat.mul_div_mul_right _ _ (Nat.pow_pos (by decide))]
/-- What stands when the places from i on are shifted. -/
def shSt (o : List UInt64) (L s i : Nat) : List UInt64 := o.take i ++ (shlN L (v64 o) s).drop i
theorem length_shSt {o : List UInt64} {L s i : Nat} (ho : o.length = L) (hi : i ≤ L) : (shSt o L s i).length = L := by
  rw [shSt, List.length_append, List.length_take, List.length_drop, length_shlN]; omega
theorem shSt_getD {o : List UInt64} {L s i j : Nat} (ho : o.length = L) (hi : i ≤ L) (hj : j < i) : (shSt o L s i).getD j 0 = o.getD j 0 := by
  rw [shSt, getD_app (by rw [List.length_take]; omega), List.getD_eq_getElem?_getD, List.getD_eq_getElem?_getD, List.getElem?_take, if_pos hj]
theorem shSt_set {o : List UInt64} {L s i : Nat} (ho : o.length = L) (hi : i < L) : (shSt o L s (i + 1)).set i (UInt64.ofNat (v64 o * 2 ^ s / 2 ^ (64 * i))) = shSt o L s i := by
  apply List.ext_getElem
  · rw [List.length_set, length_shSt ho (by omega), length_shSt ho (by omega)]
  · intro j h1 h2
    rw [length_shSt ho (by omega)] at h2
    rw [List.getElem_set]
    by_cases e : i = j
    · subst e
      rw [if_pos rfl]
      simp only [shSt]
      rw [List.getElem_append_right (by rw [List.length_take]; omega)]
      simp [shlN, limbsN, ho, Nat.min_eq_left (Nat.le_of_lt hi)]
    · rw [if_neg e]
      simp only [shSt, List.getElem_append, List.length_take]
      by_cases hlt : j < i
      · rw [dif_pos (by omega), dif_pos (by omega)]; simp
      · rw [dif_neg (by omega), dif_neg (by omega)]
        simp only [List.getElem_drop]
        congr 1
        omega
theorem shSt_all {o : List UInt64} {L s : Nat} (ho : o.length = L) : shSt o L s L = o := by
  rw [shSt, List.drop_of_length_le (by rw [length_shlN]; omega), List.append_nil, List.take_of_length_le (by omega)]
theorem shSt_none (o : List UInt64) (L s : Nat) : shSt o L s 0 = limbsN L (v64 o * 2 ^ s) := by simp [shSt, shlN]
theorem v64_pad (a : List UInt64) (m : Nat) : v64 (a ++ List.replicate m 0) = v64 a := by rw [v64_append, v64_replicate]; simp
end Go.Proofs.YtnpcaplgkmlmoaaGreatDoor
/- Plain laws: one step of the division of numbers in limbs, and the whole. No condition. -/
namespace Go.Proofs.YtnpcaplgkmlmoaaGreatDoor
set_option linter.unusedVariables false
set_option linter.unusedSimpArgs false
theorem v64_cons (x : UInt64) (l : List UInt64) : v64 (x :: l) = x.toNat + 18446744073709551616 * v64 l := by simp [v64, n64, val]
theorem shSt_set' {o : List UInt64} {L s I : Nat} (ho : o.length = L) (h0 : 0 < I) (hi : I ≤ L) : (shSt o L s I).set (I - 1) (UInt64.ofNat (v64 o * 2 ^ s / 2 ^ (64 * (I - 1)))) = shSt o L s (I - 1) := by
  have h := shSt_set (s := s) ho (show I - 1 < L by omega)
  rwa [show I - 1 + 1 = I by omega] at h
theorem getD_set_self {α : Type} {l : List α} {j : Nat} {y z : α} (h : j < l.length) : (l.set j y).getD j z = y := by
  rw [List.getD_eq_getElem?_getD, List.getElem?_set_self h]; rfl
theorem getD_set_ne {α : Type} {l : List α} {i j : Nat} {y z : α} (h : i ≠ j) : (l.set i y).getD j z = l.getD j z := by
  rw [List.getD_eq_getElem?_getD, List.getD_eq_getElem?_getD, List.getElem?_set_ne h]
theorem win_set {α : Type} {pre x post : List α} {o k : Nat} {d : α} (hp : pre.length = o) (hk : k < x.length) : (pre ++ x ++ post).set (o + k) d = pre ++ x.set k d ++ post := by
  subst hp
  rw [List.append_assoc, List.set_append_right _ _ (by omega), Nat.add_sub_cancel_left, List.set_append_left _ _ hk, List.append_assoc]
theorem set_drop {α : Type} {w u : List α} {k : Nat} {d : α} (hw : w.length = k) (hk : k < u.length) : (w ++ u.drop k).set k d = (w ++ [d]) ++ u.drop (k + 1) := by
  rw [List.drop_eq_getElem_cons hk, set_mid hw]
theorem getD_drop {α : Type} {w u : List α} {k : Nat} {z : α} (hw : w.length = k) (hk : k < u.length) : (w ++ u.drop k).getD k z = u.getD k z := by
  rw [List.drop_eq_getElem_cons hk, getD_mid hw, List.getD_eq_getElem?_getD, List.getElem?_eq_getElem hk]; rfl
/-- The two upper limbs. -/
theorem v64_top2 {u : List UInt64} {n : Nat} (hu : u.length = n + 1) (hn : 1 ≤ n) : v64 u = v64 (u.take (n - 1)) + 2 ^ (64 * (n - 1)) * ((u.getD n 0).toNat * 18446744073709551616 + (u.getD (n - 1) 0).toNat) := by
  have h := v64_split (l := u) (j := n - 1) (by omega)
  rw [show n - 1 + 1 = n by omega] at h
  have e : v64 (u.drop n) = (u.getD n 0).toNat := by
    rw [List.drop_eq_getElem_cons (by omega), List.drop_of_length_le (by omega), List.getD_eq_getElem?_getD, List.getElem?_eq_getElem (by omega)]
    simp [v64, n64, val]
  rw [h, e]
  congr 2
  omega
theorem v64_top1 {v : List UInt64} {n : Nat} (hv : v.length = n) (hn : 1 ≤ n) : v64 v = v64 (v.take (n - 1)) + 2 ^ (64 * (n - 1)) * (v.getD (n - 1) 0).toNat := by
  have h := v64_take_succD v (n - 1)
  rw [show n - 1 + 1 = n by omega, v64_take_all (by omega)] at h
  exact h
/-- The guess is not too small. -/
theorem qhat_ge {u v : List UInt64} {n Q : Nat} (hu : u.length = n + 1) (hv : v.length = n) (hn : 1 ≤ n) (hQ : Q * v64 v ≤ v64 u) (h0 : 0 < (v.getD (n - 1) 0).toNat) :
    Q ≤ ((u.getD n 0).toNat * 18446744073709551616 + (u.getD (n - 1) 0).toNat) / (v.getD (n - 1) 0).toNat := by
  rw [Nat.le_div_iff_mul_le h0]
  have h1 := v64_top2 hu hn
  have h2 := v64_top1 hv hn
  have h3 : v64 (u.take (n - 1)) < 2 ^ (64 * (n - 1)) := v64_take_lt _ _
  generalize (u.getD n 0).toNat * 18446744073709551616 + (u.getD (n - 1) 0).toNat = T at *
  generalize (v.getD (n - 1) 0).toNat = y at *
  generalize 2 ^ (64 * (n - 1)) = P at *
  have h4 : P * (Q * y) ≤ Q * v64 v := by
    rw [h2, Nat.mul_add, Nat.mul_left_comm Q]; omega
  have h5 : P * (Q * y) < P * (T + 1) := by rw [Nat.mul_add P T, Nat.mul_one]; omega
  have h6 := Nat.lt_of_mul_lt_mul_left h5
  omega
/-- One round of the step's second loop, and its end. -/
theorem step_end {U V x q : Nat} (h : x + q * V = U) (hx : x < V) : q = U / V ∧ x = U % V := by
  subst h
  have hV : 0 < V := by omega
  rw [Nat.add_mul_div_right _ _ hV, Nat.add_mul_mod_self_right, Nat.div_eq_of_lt hx, Nat.mod_eq_of_lt hx]
  exact ⟨by omega, rfl⟩
theorem step_start {U V x q Q bw P : Nat} (hV : 0 < V) (h : x + q * V = U + bw * P) (hQ : U / V ≤ q) (hb : bw = 0) : x < V := by
  rw [hb, Nat.zero_mul, Nat.add_zero] at h
  have h1 : U < (q + 1) * V := by
    exact Nat.lt_mul_of_div_lt (show U / V < q + 1 by omega) hV
  rw [Nat.add_mul, Nat.one_mul] at h1
  omega
theorem step_back {U V x x' q c P : Nat} (hx : x + q * V = U + 1 * P) (hU : U < P + V) (hP : x < P) (h : x' + c * P = x + V) (hc : c ≤ 1) (hx' : x' < P) :
    0 < q ∧ x' + (q - 1) * V = U + (1 - c) * P ∧ (1 - c = 0 → x' < V) := by
  have hq : 0 < q := by
    rcases Nat.eq_zero_or_pos q with h0 | h0
    · rw [h0, Nat.zero_mul] at hx; omega
    · exact h0
  obtain ⟨p, rfl⟩ : ∃ p, q = p + 1 := ⟨q - 1, by omega⟩
  rw [Nat.add_sub_cancel]
  rw [Nat.add_mul, Nat.one_mul] at hx
  have hc2 : c = 0 ∨ c = 1 := by omega
  rcases hc2 with rfl | rfl
  · rw [Nat.zero_mul, Nat.add_zero] at h
    refine ⟨hq, ?_, fun h => absurd h (by decide)⟩
    rw [h]; simp only [Nat.sub_zero, Nat.one_mul] at *; omega
  · rw [Nat.one_mul] at h
    refine ⟨hq, ?_, fun _ => by omega⟩
    rw [Nat.sub_self, Nat.zero_mul]; omega
/-! The whole division. -/
theorem v64_drop_zero {G : List UInt64} {k n : Nat} (h : v64 (G.drop k) < 2 ^ (64 * n)) : v64 (G.drop (k + n)) = 0 := by
  have e : G.drop k = (G.drop k).take n ++ G.drop (k + n) := by
    conv => lhs; rw [← List.take_append_drop n (G.drop k)]
    rw [List.drop_drop]
  rcases Nat.lt_or_ge (G.drop k).length n with h1 | h1
  · rw [List.drop_of_length_le (by rw [List.length_drop] at h1; omega)]; rfl
  · rw [e, v64_append, List.length_take, Nat.min_eq_left h1] at h
    rcases Nat.eq_zero_or_pos (v64 (G.drop (k + n))) with h2 | h2
    · exact h2
    · have := Nat.mul_le_mul_left (2 ^ (64 * n)) h2
      omega
theorem v64_take_drop (G : List UInt64) {k : Nat} (h : k ≤ G.length) : v64 G = v64 (G.take k) + 2 ^ (64 * k) * v64 (G.drop k) := by
  conv => lhs; rw [← List.take_append_drop k G]
  rw [v64_append, List.length_take, Nat.min_eq_left h]
/-- The window of the next step. -/
theorem win_lt {G : List UInt64} {j n V : Nat} (hj : j < G.length) (hV : v64 (G.drop (j + 1)) < V) (hVn : V ≤ 2 ^ (64 * n)) :
    v64 ((G.drop j).take (n + 1)) < V * 18446744073709551616 ∧ v64 (G.drop (j + (n + 1))) = 0 ∧ v64 ((G.drop j).take (n + 1)) = v64 (G.drop j) := by
  have hz : v64 (G.drop (j + (n + 1))) = 0 := by
    rw [show j + (n + 1) = (j + 1) + n by omega]
    exact v64_drop_zero (Nat.lt_of_lt_of_le hV hVn)
  have e1 : v64 ((G.drop j).take (n + 1)) = v64 (G.drop j) := by
    have h := congrArg v64 (List.take_append_drop (n + 1) (G.drop j))
    rw [v64_append, List.drop_drop, hz, Nat.mul_zero, Nat.add_zero] at h
    exact h
  refine ⟨?_, hz, e1⟩
  have e2 : v64 (G.drop j) = (G.getD j 0).toNat + 18446744073709551616 * v64 (G.drop (j + 1)) := by
    rw [List.drop_eq_getElem_cons hj, v64_cons, List.getD_eq_getElem?_getD, List.getElem?_eq_getElem hj]
    rfl
  have h1 := (G.getD j 0).toNat_lt
  rw [e1, e2]
  omega
theorem div_round {G u' qs h : List UInt64} {j n V U : Nat} {q : UInt64} (hj : j + (n + 1) ≤ G.length) (hqs : qs = List.replicate (j + 1) 0 ++ h) (hv : v64 G + v64 qs * V = U) (hw : v64 ((G.drop j).take (n + 1)) = v64 (G.drop j)) (hz : v64 (G.drop (j + (n + 1))) = 0)
    (hu : u'.length = n + 1) (hq : q.toNat = v64 ((G.drop j).take (n + 1)) / V) (hr : v64 u' = v64 ((G.drop j).take (n + 1)) % V) (hV : 0 < V) :
    v64 (G.take j ++ u' ++ G.drop (j + (n + 1))) + v64 (qs.set j q) * V = U ∧ v64 ((G.take j ++ u' ++ G.drop (j + (n + 1))).drop j) < V ∧ qs.set j q = List.replicate j 0 ++ (q :: h) := by
  have e0 : qs.set j q = List.replicate j 0 ++ (q :: h) := by
    rw [hqs, List.replicate_succ', List.append_assoc, List.cons_append, List.nil_append, set_mid (by simp)]
    simp
  have e1 : v64 (qs.set j q) = v64 qs + 2 ^ (64 * j) * q.toNat := by
    rw [e0, hqs, v64_append, v64_append, v64_replicate, v64_replicate, List.length_replicate, List.length_replicate, pow64]
    have : v64 (q :: h) = q.toNat + 18446744073709551616 * v64 h := by simp [v64, n64, val]
    rw [this, Nat.mul_add, Nat.mul_assoc]
    omega
  have e2 : v64 (G.take j ++ u' ++ G.drop (j + (n + 1))) = v64 (G.take j) + 2 ^ (64 * j) * v64 u' := by
    rw [v64_append, hz, v64_append, List.length_take, Nat.min_eq_left (by omega)]; simp
  have e3 := v64_take_drop G (k := j) (by omega)
  rw [← hw] at e3
  have e4 := Nat.div_add_mod (v64 ((G.drop j).take (n + 1))) V
  rw [← hr, ← hq] at e4
  refine ⟨?_, ?_, e0⟩
  · rw [e2, e1, Nat.add_mul, ← hv, e3, ← e4, Nat.mul_add (2 ^ (64 * j)), Nat.mul_comm V, Nat.mul_assoc]
    omega
  · rw [List.append_assoc, List.drop_append_of_le_length (by rw [List.length_take]; omega), List.drop_of_length_le (by rw [List.length_take]; omega), List.nil_append, v64_append, hz, hr]
    simp only [Nat.mul_zero, Nat.add_zero]
    exact Nat.mod_lt _ hV
theorem limbsN_succ (k N : Nat) : limbsN (k + 1) N = limbsN k N ++ [UInt64.ofNat (N / 2 ^ (64 * k))] := by
  simp [limbsN, List.range_succ]
theorem shl64_64 (x : UInt64) : shl64 x 64 = 0 := by
  apply UInt64.toNat_inj.1
  rw [shl64_nat, Nat.mul_mod_left]; rfl
theorem rest_at {l : List UInt64} {i r : Nat} (hr : r ≤ 64) : UInt64.ofNat (v64 l / 2 ^ r / 2 ^ (64 * i)) = (shr64 (l.getD i 0) r ||| shl64 (l.getD (i + 1) 0) (64 - r)) := by
  apply UInt64.toNat_inj.1
  rw [UInt64.toNat_ofNat', ← mid_at hr, Nat.div_div_eq_div_mul, ← Nat.pow_add, Nat.add_comm r]
theorem rest_at0 {l : List UInt64} {i : Nat} : UInt64.ofNat (v64 l / 2 ^ 0 / 2 ^ (64 * i)) = shr64 (l.getD i 0) 0 := by
  rw [rest_at (by omega), shl64_64]
  apply UInt64.toNat_inj.1
  rw [UInt64.toNat_or]; simp
/-- The divisor's upper bit is set when it is shifted. -/
theorem norm_ge {b : List UInt64} {n : Nat} (hb : b.length = n) (hn : 1 ≤ n) (h0 : 0 < (b.getD (n - 1) 0).toNat) :
    2 ^ (64 * (n - 1)) * 9223372036854775808 ≤ v64 b * 2 ^ (64 - bitLen (b.getD (n - 1) 0).toNat) ∧ v64 b * 2 ^ (64 - bitLen (b.getD (n - 1) 0).toNat) < 2 ^ (64 * n) := by
  have h1 := v64_top1 hb hn
  obtain ⟨h2, h3⟩ := div_pos64 h0
  have h4 : v64 (b.take (n - 1)) < 2 ^ (64 * (n - 1)) := v64_take_lt _ _
  have e : 2 ^ (64 * n) = 2 ^ (64 * (n - 1)) * 18446744073709551616 := by
    have := pow64 (n - 1); rwa [show n - 1 + 1 = n by omega] at this
  have hb64 := bitLen64 (b.getD (n - 1) 0)
  have hbl := lt_bitLen (b.getD (n - 1) 0).toNat
  have e2 : 2 ^ bitLen (b.getD (n - 1) 0).toNat * 2 ^ (64 - bitLen (b.getD (n - 1) 0).toNat) = 18446744073709551616 := by
    rw [← Nat.pow_add, show bitLen (b.getD (n - 1) 0).toNat + (64 - bitLen (b.getD (n - 1) 0).toNat) = 64 by omega]
  generalize (b.getD (n - 1) 0).toNat = y at *
  generalize 2 ^ (64 * (n - 1)) = P at *
  generalize 2 ^ (64 - bitLen y) = S at *
  constructor
  · rw [h1, Nat.add_mul, Nat.mul_assoc]
    have := Nat.mul_le_mul_left P h3
    omega
  · rw [e, h1]
    have h5 : v64 (b.take (n - 1)) + P * y < P * 2 ^ bitLen y := by
      have := Nat.mul_le_mul_left P (show y + 1 ≤ 2 ^ bitLen y by omega)
      rw [Nat.mul_add, Nat.mul_one] at this
      omega
    have hS : 0 < S := by
      rcases Nat.eq_zero_or_pos S with h | h
      · rw [h, Nat.mul_zero] at e2; omega
      · exact h
    have h6 := Nat.mul_lt_mul_of_pos_right h5 hS
    rwa [Nat.mul_assoc, e2] at h6
end Go.Proofs.YtnpcaplgkmlmoaaGreatDoor
/- limb.Mul, limb.Cmp, limb.Bit, limb.shifted. Condition: numbers of at most 2^40 limbs. -/
namespace Go.Proofs.YtnpcaplgkmlmoaaGreatDoor
set_option linter.unusedVariables false
set_option linter.unusedSimpArgs false
open Go Go.RowKit
end Go.Proofs.YtnpcaplgkmlmoaaGreatDoor
/- limb.shifted, limb.step: the parts of a division of numbers in limbs. Condition: numbers of at most 2^40 limbs. -/
namespace Go.Proofs.YtnpcaplgkmlmoaaGreatDoor
set_option linter.unusedVariables false
set_option linter.unusedSimpArgs false
open Go Go.RowKit
set_option maxRecDepth 100000 in
theorem shifted_f {N : Heaplet} {ao : Option Addr} {n ca : Nat} {a : List UInt64} (ha : RSl N 1 ao n ca (u64s a)) (s K : Nat) (hs : s < 64) (hn : n ≤ K) (hK : K ≤ 1099511627776) :
    Fn Tryz.prog 93 #[.slice ao n ca, .int .i64 (s : Int), .int .i64 (K : Int)] [] [N] (fun v L => ∃ M p, v = .slice p K K ∧ L = [M] ∧ Row M 23 1 p K K (u64s (limbsN K (v64 a * 2 ^ s)))) := by
  have hca := ha.cap63
  have hal := ha.len64
  have ho : (a ++ List.replicate (K - n) (0 : UInt64)).length = K := by simp; omega
  have hov := v64_pad a (K - n)
  refine Fn.enter (vs := [.slice ao n ca, .int .i64 (s : Int), .int .i64 (K : Int)]) Tryz.func93 rfl rfl rfl ?_
  intro E R hR
  have ha := ha.le (hR N (by simp))
  change At _ _ E [R] _
  refine At.seq fun K1 hk_1 => ?_
  refine At.region ?_
  refine op_assign (nxlf rfl) rfl rfl ?_
  refine At.opsNil ?_
  refine At.norm (hk_1 ?_)
  refine At.seq fun K2 hk_2 => ?_
  refine At.region ?_
  refine op_move (nxlf rfl) rfl rfl ?_
  refine op_make (nxla rfl) Tryz.underlying111 te23 rfl rfl (show _ = (((K : Nat)) : Int) from by omega) (show _ = (((K : Nat)) : Int) from by omega) (by omega) (by unfold maxLen; omega) rfl (fun N10 a10 r10 => ?_)
  rw [made_one _ _ rfl, zero_u64s] at r10
  have s10 := r10.rsl
  refine op_assign (nxlf rfl) rfl rfl ?_
  refine At.opsNil ?_
  refine At.norm (hk_2 ?_)
  refine At.seq fun K3 hk_3 => ?_
  refine At.region ?_
  refine op_move (nxlf rfl) rfl rfl ?_
  refine op_move (nxlf rfl) rfl rfl ?_
  refine op_copyR (nxl rfl) se111 rfl rfl r10 ha mem1 (one_u64s _) sel0 rfl (fun N10 r10 => ?_)
  rw [Nat.min_eq_left hn, u64s_takeR, u64s_drop, List.take_of_length_le (show a.length ≤ n by omega), List.drop_replicate, show u64s a ++ u64s (List.replicate (K - n) 0) = u64s (a ++ List.replicate (K - n) 0) by simp [u64s]] at r10
  generalize a ++ List.replicate (K - n) (0 : UInt64) = o at *
  have s10 := r10.rsl
  refine At.opsNil ?_
  refine At.norm (hk_3 ?_)
  refine At.seq fun K4 hk_4 => ?_
  refine At.seq fun K5 hk_5 => ?_
  refine At.region ?_
  refine op_move (nxlf rfl) rfl rfl ?_
  refine op_subI (nxlf rfl) rfl rfl (by omega) (by omega) rfl ?_
  refine op_assign (nxlf rfl) rfl rfl ?_
  refine At.opsNil ?_
  refine At.norm (hk_5 ?_)
  refine At.block ?_
  refine At.loop (fun fr_ hp_ ms_ => ∃ (I : Nat) (N10 : Heaplet), fr_ = [(1, .int .i64 (s : Int)), (7, .slice a10 K K), (8, .int .i64 ((I : Int) - 1))] ∧ hp_ = [N10, R] ∧ I = ms_ ∧ (I ≤ K) ∧ (s = 0 → I = K) ∧ (Row N10 23 1 a10 K K (u64s (shSt o K s I)))) ?_ (.refl _) ⟨K, N10, rfl, rfl, rfl, by omega, fun _ => rfl, by rw [shSt_all ho]; exact r10⟩ ?_
  · exact .cons (by first | exact lkI rfl (by omega) | rfl) (.cons (by first | exact lkI rfl (by omega) | rfl) (.cons (by first | exact lkI rfl (by omega) | rfl) .nil))
  rintro _ _ _ ⟨I, N10, rfl, rfl, rfl, hI, h0, r10⟩
  have s10 := r10.rsl
  have hl10 := length_shSt (s := s) ho hI
  refine At.seq fun K6 hk_6 => ?_
  refine At.seq fun K7 hk_7 => ?_
  refine At.region ?_
  refine op_move (nxlf rfl) rfl rfl ?_
  refine op_geq (nxlf rfl) rfl rfl rfl ?_
  refine op_move (nxlf rfl) rfl rfl ?_
  refine At.partP (d := 18) rfl (fun g18 => ?_) (fun g18 => ?_)
  · refine op_move (nxgf rfl rfl rfl rfl) rfl rfl ?_
    refine op_gtr (nxgf rfl rfl rfl rfl) rfl rfl rfl ?_
    refine op_pickT (nxlf rfl) rfl rfl rfl ?_
    refine At.opsNil ?_
    refine At.norm (hk_7 ?_)
    refine At.condP rfl (fun c21 => ?_) (fun c21 => ?_)
    · refine At.skip ?_
      refine At.norm (hk_6 ?_)
      refine At.seq fun K8 hk_8 => ?_
      refine At.block ?_
      refine At.seq fun K9 hk_9 => ?_
      refine At.region ?_
      refine op_move (nxlf rfl) rfl rfl ?_
      refine op_move (nxlf rfl) rfl rfl ?_
      refine op_idx1 (nxlf rfl) se111 rfl rfl s10 (show _ = (((I - 1 : Nat)) : Int) from by omega) (by omega) rfl ?_
      have hx : I - 1 < (shSt o K s I).length := by omega
      refine op_loadE (nxlf rfl) sc23 rfl s10 (by first | exact get8 (by omega) | exact get64 (by omega) | exact get32 (by omega)) (by first | exact mem0 | exact mem1 | exact mem2 | exact mem3 | exact mem4 | exact mem5 | exact mem6 | exact mem7 | exact mem8 | exact mem9) rfl ?_
      rw [shSt_getD ho hI (show I - 1 < I by omega)]
      refine op_move (nxlf rfl) rfl rfl ?_
      refine op_shlU (nxlf rfl) rfl rfl (by first | rfl | exact (Int.toNat_of_nonneg (by omega)).symm) rfl ?_
      refine op_idx1 (nxlf rfl) se111 rfl rfl s10 (show _ = (((I - 1 : Nat)) : Int) from by omega) (by omega) rfl ?_
      refine op_storeE (nxl rfl) sz23 rfl rfl rfl rfl rfl r10 (by simp <;> omega) (by simp) sel0 (fun N10 r10 => ?_)
      simp only [setL] at r10
      rw [set_u64s] at r10
      have s10 := r10.rsl
      refine At.opsNil ?_
      refine At.norm (hk_9 ?_)
      refine At.seq fun K10 hk_10 => ?_
      refine At.region ?_
      refine op_move (nxlf rfl) rfl rfl ?_
      refine op_gtr (nxlf rfl) rfl rfl rfl ?_
      refine At.opsNil ?_
      refine At.norm (hk_10 ?_)
      refine At.condP rfl (fun c32 => ?_) (fun c32 => ?_)
      · have hl11 : ((shSt o K s I).set (I - 1) (shl64 (o.getD (I - 1) 0) s)).length = K := by rw [List.length_set]; exact hl10
        refine At.drawnS [N10, R] [14] [] [0,1,2,3,4,5,6,7,8,9,10,11,12,13,14] (by kernel_rfl) (by kernel_rfl) (.refl _) ?_
        refine op_move (nxsf rfl rfl rfl) rfl rfl ?_
        refine op_move (nxsf rfl rfl rfl) rfl rfl ?_
        refine op_idx1 (nxsf rfl rfl rfl) se111 rfl rfl s10 (show _ = (((I - 1 : Nat)) : Int) from by omega) (by omega) rfl ?_
        refine op_loadE (nxsf rfl rfl rfl) sc23 rfl s10 (by first | exact get8 (by omega) | exact get64 (by omega) | exact get32 (by omega)) (by first | exact mem0 | exact mem1 | exact mem2 | exact mem3 | exact mem4 | exact mem5 | exact mem6 | exact mem7 | exact mem8 | exact mem9) rfl ?_
        rw [getD_set_self (show I - 1 < (shSt o K s I).length by omega)]
        refine op_move (nxsf rfl rfl rfl) rfl rfl ?_
        refine op_move (nxsf rfl rfl rfl) rfl rfl ?_
        refine op_subI (nxsf rfl rfl rfl) rfl rfl (by omega) (by omega) rfl ?_
        refine op_idx1 (nxsf rfl rfl rfl) se111 rfl rfl s10 (show _ = (((I - 1 - 1 : Nat)) : Int) from by omega) (by omega) rfl ?_
        refine op_loadE (nxsf rfl rfl rfl) sc23 rfl s10 (by first | exact get8 (by omega) | exact get64 (by omega) | exact get32 (by omega)) (by first | exact mem0 | exact mem1 | exact mem2 | exact mem3 | exact mem4 | exact mem5 | exact mem6 | exact mem7 | exact mem8 | exact mem9) rfl ?_
        rw [getD_set_ne (show I - 1 ≠ I - 1 - 1 by omega), shSt_getD ho hI (show I - 1 - 1 < I by omega)]
        refine op_move (nxsf rfl rfl rfl) rfl rfl ?_
        refine op_subI (nxsf rfl rfl rfl) rfl rfl (by omega) (by omega) rfl ?_
        refine op_shrU (nxsf rfl rfl rfl) rfl rfl (show _ = (((64 - s : Nat)) : Int) from by omega) rfl ?_
        refine op_orU (nxsf rfl rfl rfl) rfl rfl rfl ?_
        refine op_idx1 (nxsf rfl rfl rfl) se111 rfl rfl s10 (show _ = (((I - 1 : Nat)) : Int) from by omega) (by omega) rfl ?_
        refine op_storeE (nxsl rfl rfl rfl rfl) sz23 rfl rfl rfl rfl rfl r10 (by simp <;> omega) (by simp) sel0 (fun N10 r10 => ?_)
        simp only [setL] at r10
        rw [set_u64s, List.set_set, ← shl_at (show 0 < I - 1 by omega) hs, shSt_set' ho (by omega) hI] at r10
        have s10 := r10.rsl
        refine At.sNil ?_
        refine At.inNorm ?_
        refine At.norm (hk_8 ?_)
        refine At.region ?_
        refine op_move (nxlf rfl) rfl rfl ?_
        refine op_subI (nxlf rfl) rfl rfl (by omega) (by omega) rfl ?_
        refine op_assign (nxlf rfl) rfl rfl ?_
        refine At.opsNil ?_
        refine At.norm ?_
        refine At.back ?_ (.refl _) ⟨I - 1, N10, rfl, rfl, rfl, by omega, fun e => absurd e (by omega), r10⟩ ?_
        · exact .cons (by first | exact lkI rfl (by omega) | rfl) (.cons (by first | exact lkI rfl (by omega) | rfl) (.cons (by first | exact lkI rfl (by omega) | rfl) .nil))
        · omega
      · have e : shl64 (o.getD (I - 1) 0) s = UInt64.ofNat (v64 o * 2 ^ s / 2 ^ (64 * (I - 1))) := by rw [show I - 1 = 0 by omega]; exact (shl_low hs).symm
        rw [e, shSt_set' ho (by omega) hI] at r10
        refine At.skip ?_
        refine At.inNorm ?_
        refine At.norm (hk_8 ?_)
        refine At.region ?_
        refine op_move (nxlf rfl) rfl rfl ?_
        refine op_subI (nxlf rfl) rfl rfl (by omega) (by omega) rfl ?_
        refine op_assign (nxlf rfl) rfl rfl ?_
        refine At.opsNil ?_
        refine At.norm ?_
        refine At.back ?_ (.refl _) ⟨I - 1, N10, rfl, rfl, rfl, by omega, fun e => absurd e (by omega), r10⟩ ?_
        · exact .cons (by first | exact lkI rfl (by omega) | rfl) (.cons (by first | exact lkI rfl (by omega) | rfl) (.cons (by first | exact lkI rfl (by omega) | rfl) .nil))
        · omega
    · refine At.exit (At.thenExit (At.thenExit (At.inHit ?_)))
      refine At.norm (hk_4 ?_)
      refine At.seq fun K11 hk_11 => ?_
      refine At.region ?_
      refine op_move (nxlf rfl) rfl rfl ?_
      refine op_assign (nxlf rfl) rfl rfl ?_
      refine At.opsNil ?_
      refine At.norm (hk_11 ?_)
      refine At.ret (?_)
      refine At.ret1 (L1 := [N10]) rfl (.tmp rfl .nil) (.refl _) (.refl _) ?_
      refine ⟨N10, a10, rfl, rfl, ?_⟩
      have hs0 : s = 0 := by omega
      subst hs0
      rw [h0 rfl, shSt_all ho] at r10
      rw [Nat.pow_zero, Nat.mul_one, ← hov, ← eq_limbsN ho rfl]
      exact r10
  · refine op_skip rfl rfl rfl rfl rfl rfl rfl ?_
    refine op_skip rfl rfl rfl rfl rfl rfl rfl ?_
    refine op_pickF (nxlf rfl) rfl rfl rfl ?_
    refine At.opsNil ?_
    refine At.norm (hk_7 ?_)
    refine At.condF rfl ?_
    refine At.exit (At.thenExit (At.thenExit (At.inHit ?_)))
    refine At.norm (hk_4 ?_)
    refine At.seq fun K12 hk_12 => ?_
    refine At.region ?_
    refine op_move (nxlf rfl) rfl rfl ?_
    refine op_assign (nxlf rfl) rfl rfl ?_
    refine At.opsNil ?_
    refine At.norm (hk_12 ?_)
    refine At.ret (?_)
    refine At.ret1 (L1 := [N10]) rfl (.tmp rfl .nil) (.refl _) (.refl _) ?_
    have hI0 : I = 0 := by omega
    subst hI0
    rw [shSt_none, hov] at r10
    exact ⟨N10, a10, rfl, rfl, r10⟩
theorem Blk.win {N : Heaplet} {b o cu : Nat} {e : TypeId} {pre x post : List UInt64} (h : Blk N b e (u64s (pre ++ x ++ post))) (hp : pre.length = o) (hx : x.length ≤ cu) (hc : cu ≤ 9223372036854775807) :
    RSl N 1 (some ⟨b, o, none⟩) x.length cu (u64s x) := by
  refine ⟨by simp, hx, hc, fun _ => ⟨b, o, rfl, ?_⟩⟩
  have := h.rng.sub (o := o) (ds := u64s x) fun i hi => by
    rw [length_u64s] at hi
    subst hp
    simp only [u64s, List.map_append, List.append_assoc]
    rw [List.getElem?_append_right (by simp), List.getElem?_append_left (by simpa using hi)]
    simp [hi]
  rwa [Nat.zero_add] at this
end Go.Proofs.YtnpcaplgkmlmoaaGreatDoor
/- limb.step: the upper limbs divided. Condition: at most 2^40 limbs; the quotient is one limb. -/
namespace Go.Proofs.YtnpcaplgkmlmoaaGreatDoor
set_option linter.unusedVariables false
set_option linter.unusedSimpArgs false
open Go Go.RowKit
def StepP (b : Nat) (e : TypeId) (pre u v post : List UInt64) (r : Value) (L : List Heaplet) : Prop :=
  ∃ M x, ∃ q : UInt64, r = .int .u64 (q.toNat : Int) ∧ L = [M] ∧ Blk M b e (u64s (pre ++ x ++ post)) ∧ x.length = u.length ∧ q.toNat = v64 u / v64 v ∧ v64 x = v64 u % v64 v
set_option maxRecDepth 100000 in
theorem step_f {Nu Nv : Heaplet} {b o cu n cv : Nat} {e : TypeId} {vo : Option Addr} {pre u post v : List UInt64} (Bu : Blk Nu b e (u64s (pre ++ u ++ post))) (hv : RSl Nv 1 vo n cv (u64s v)) (hp : pre.length = o) (hul : u.length = n + 1) (hcu : n + 1 ≤ cu) (hcm : cu ≤ 9223372036854775807)
    (hn1 : 1 ≤ n) (hn : n ≤ 1099511627776) (hV : 0 < v64 v) (hU : v64 u < v64 v * 18446744073709551616) :
    Fn Tryz.prog 94 #[.slice (some ⟨b, o, none⟩) (n + 1) cu, .slice vo n cv] [Nu] [Nv] (StepP b e pre u v post) := by
  have hcv := hv.cap63
  have hvl := hv.len64
  refine Fn.enter (vs := [.slice (some ⟨b, o, none⟩) (n + 1) cu, .slice vo n cv]) Tryz.func94 rfl rfl rfl ?_
  intro E R hR
  have hv := hv.le (hR Nv (by simp))
  have su := Bu.win hp (show u.length ≤ cu by omega) hcm
  rw [hul] at su
  have hQB : v64 u / v64 v < 18446744073709551616 := by rw [Nat.div_lt_iff_lt_mul hV, Nat.mul_comm]; exact hU
  change At _ _ E [Nu, R] _
  refine At.seq fun K1 hk_1 => ?_
  refine At.region ?_
  refine op_assign (nxlf rfl) rfl rfl ?_
  refine At.opsNil ?_
  refine At.norm (hk_1 ?_)
  refine At.seq fun K2 hk_2 => ?_
  refine At.region ?_
  refine op_move (nxlf rfl) rfl rfl ?_
  refine op_lenS (nxlf rfl) se111 rfl rfl ?_
  refine op_assign (nxlf rfl) rfl rfl ?_
  refine At.opsNil ?_
  refine At.norm (hk_2 ?_)
  refine At.seq fun K3 hk_3 => ?_
  refine At.region ?_
  refine op_assign (nxlf rfl) rfl rfl ?_
  refine At.opsNil ?_
  refine At.norm (hk_3 ?_)
  refine At.seq fun K4 hk_4 => ?_
  refine At.meet (fun fr_ hp_ => ∃ (q0 : UInt64), fr_ = [(0, .slice (some ⟨b, o, none⟩) (n + 1) cu), (1, .slice vo n cv), (5, .int .i64 (n : Int)), (6, .int .u64 (q0.toNat : Int))] ∧ hp_ = [Nu, R] ∧ (v64 u / v64 v ≤ q0.toNat)) ?_ (fun K4_ jk_4 => ?_)
  rotate_left
  · skip
    refine At.seq fun K5 hk_5 => ?_
    refine At.drawnS [Nu, R] [] [] [0,1,2,3,4,5,6,7,8,9] (by kernel_rfl) (by kernel_rfl) (.refl _) ?_
    refine op_move (nxsf rfl rfl rfl) rfl rfl ?_
    refine op_move (nxsf rfl rfl rfl) rfl rfl ?_
    refine op_idx1 (nxsf rfl rfl rfl) se111 rfl rfl su (show _ = (((n : Nat)) : Int) from by omega) (by omega) rfl ?_
    refine op_loadE (nxsf rfl rfl rfl) sc23 rfl su (by first | exact get8 (by omega) | exact get64 (by omega) | exact get32 (by omega)) (by first | exact mem0 | exact mem1 | exact mem2 | exact mem3 | exact mem4 | exact mem5 | exact mem6 | exact mem7 | exact mem8 | exact mem9) rfl ?_
    refine op_move (nxsf rfl rfl rfl) rfl rfl ?_
    refine op_move (nxsf rfl rfl rfl) rfl rfl ?_
    refine op_subI (nxsf rfl rfl rfl) rfl rfl (by omega) (by omega) rfl ?_
    refine op_idx1 (nxsf rfl rfl rfl) se111 rfl rfl hv (show _ = (((n - 1 : Nat)) : Int) from by omega) (by omega) rfl ?_
    refine op_loadE (nxsf rfl rfl rfl) sc23 rfl hv (by first | exact get8 (by omega) | exact get64 (by omega) | exact get32 (by omega)) (by first | exact mem0 | exact mem1 | exact mem2 | exact mem3 | exact mem4 | exact mem5 | exact mem6 | exact mem7 | exact mem8 | exact mem9) rfl ?_
    refine op_lss (nxsf rfl rfl rfl) rfl rfl rfl ?_
    refine At.sNil ?_
    refine At.norm (hk_5 ?_)
    refine At.condP rfl (fun c26 => ?_) (fun c26 => ?_)
    · refine At.drawnS [Nu, R] [14] [] [0,1,2,3,4,5,6,7,8,9,10,11,12,13,14,15,16,17,18] (by kernel_rfl) (by kernel_rfl) (.refl _) ?_
      refine op_move (nxsf rfl rfl rfl) rfl rfl ?_
      refine op_move (nxsf rfl rfl rfl) rfl rfl ?_
      refine op_idx1 (nxsf rfl rfl rfl) se111 rfl rfl su (show _ = (((n : Nat)) : Int) from by omega) (by omega) rfl ?_
      refine op_loadE (nxsf rfl rfl rfl) sc23 rfl su (by first | exact get8 (by omega) | exact get64 (by omega) | exact get32 (by omega)) (by first | exact mem0 | exact mem1 | exact mem2 | exact mem3 | exact mem4 | exact mem5 | exact mem6 | exact mem7 | exact mem8 | exact mem9) rfl ?_
      refine op_move (nxsf rfl rfl rfl) rfl rfl ?_
      refine op_move (nxsf rfl rfl rfl) rfl rfl ?_
      refine op_subI (nxsf rfl rfl rfl) rfl rfl (by omega) (by omega) rfl ?_
      refine op_idx1 (nxsf rfl rfl rfl) se111 rfl rfl su (show _ = (((n - 1 : Nat)) : Int) from by omega) (by omega) rfl ?_
      refine op_loadE (nxsf rfl rfl rfl) sc23 rfl su (by first | exact get8 (by omega) | exact get64 (by omega) | exact get32 (by omega)) (by first | exact mem0 | exact mem1 | exact mem2 | exact mem3 | exact mem4 | exact mem5 | exact mem6 | exact mem7 | exact mem8 | exact mem9) rfl ?_
      refine op_move (nxsf rfl rfl rfl) rfl rfl ?_
      refine op_move (nxsf rfl rfl rfl) rfl rfl ?_
      refine op_subI (nxsf rfl rfl rfl) rfl rfl (by omega) (by omega) rfl ?_
      refine op_idx1 (nxsf rfl rfl rfl) se111 rfl rfl hv (show _ = (((n - 1 : Nat)) : Int) from by omega) (by omega) rfl ?_
      refine op_loadE (nxsf rfl rfl rfl) sc23 rfl hv (by first | exact get8 (by omega) | exact get64 (by omega) | exact get32 (by omega)) (by first | exact mem0 | exact mem1 | exact mem2 | exact mem3 | exact mem4 | exact mem5 | exact mem6 | exact mem7 | exact mem8 | exact mem9) rfl ?_
      refine op_callA (Nx.agree (nxss rfl rfl rfl rfl)) (.cons rfl (.cons rfl (.cons rfl .nil))) (Div64_f (u.getD n 0) (u.getD (n - 1) 0) (v.getD (n - 1) 0) (by omega)) Tryz.func97 rfl rfl (by simp) rfl ?_
      rintro v42 L42 ⟨q, r, rfl, rfl, hq, hr⟩
      change At _ _ _ [Nu, R] _
      refine At.anyS (.refl _) ?_
      refine op_move (nxsf rfl rfl rfl) rfl rfl ?_
      refine op_extract (nxsf rfl rfl rfl) rfl rfl rfl ?_
      refine op_extract (nxsf rfl rfl rfl) rfl rfl rfl ?_
      refine op_assign (nxsf rfl rfl rfl) rfl rfl ?_
      refine At.sNil ?_
      refine At.norm (jk_4 ?_ (.refl _) ⟨q, rfl, rfl, by rw [hq]; exact qhat_ge (by omega) hvl hn1 (Nat.div_mul_le_self _ _) (by omega)⟩)
      exact .cons (by first | exact lkI rfl (by omega) | rfl) (.cons (by first | exact lkI rfl (by omega) | rfl) (.cons (by first | exact lkI rfl (by omega) | rfl) (.cons (by first | exact lkI rfl (by omega) | rfl) .nil)))
    · refine At.skip ?_
      refine At.norm (jk_4 ?_ (.refl _) ⟨18446744073709551615, rfl, rfl, by show _ ≤ 18446744073709551615; omega⟩)
      exact .cons (by first | exact lkI rfl (by omega) | rfl) (.cons (by first | exact lkI rfl (by omega) | rfl) (.cons (by first | exact lkI rfl (by omega) | rfl) (.cons (by first | exact lkI rfl (by omega) | rfl) .nil)))
  rintro _ _ ⟨q0, rfl, rfl, hq0⟩
  refine hk_4 ?_
  refine At.seq fun K6 hk_6 => ?_
  refine At.region ?_
  refine op_assign (nxlf rfl) rfl rfl ?_
  refine op_assign (nxlf rfl) rfl rfl ?_
  refine At.opsNil ?_
  refine At.norm (hk_6 ?_)
  refine At.seq fun K7 hk_7 => ?_
  refine At.seq fun K8 hk_8 => ?_
  refine At.region ?_
  refine op_move (nxlf rfl) rfl rfl ?_
  refine op_lenS (nxlf rfl) se111 rfl rfl ?_
  refine op_move (nxlf rfl) rfl rfl ?_
  refine At.opsNil ?_
  refine At.norm (hk_8 ?_)
  refine At.block ?_
  refine At.loop (fun fr_ hp_ ms_ => ∃ (k : Nat) (w : List UInt64) (cy bw : UInt64) (Nu : Heaplet), fr_ = [(0, .slice (some ⟨b, o, none⟩) (n + 1) cu), (1, .slice vo n cv), (5, .int .i64 (n : Int)), (6, .int .u64 (q0.toNat : Int)), (7, .int .u64 (bw.toNat : Int)), (8, .int .u64 (cy.toNat : Int)), (46, .int .i64 (n : Int)), (47, .int .i64 (k : Int))] ∧ hp_ = [Nu, R] ∧ n - k = ms_ ∧ (k ≤ n) ∧ (w.length = k) ∧ (bw.toNat ≤ 1) ∧ (v64 w + q0.toNat * v64 (v.take k) = v64 (u.take k) + (cy.toNat + bw.toNat) * 2 ^ (64 * k)) ∧ (Blk Nu b e (u64s (pre ++ (w ++ u.drop k) ++ post)))) ?_ (.refl _) ⟨0, [], 0, 0, Nu, rfl, rfl, rfl, by omega, rfl, by decide, by simp [v64, n64, val], by simpa using Bu⟩ ?_
  · exact .cons (by first | exact lkI rfl (by omega) | rfl) (.cons (by first | exact lkI rfl (by omega) | rfl) (.cons (by first | exact lkI rfl (by omega) | rfl) (.cons (by first | exact lkI rfl (by omega) | rfl) (.cons (by first | exact lkI rfl (by omega) | rfl) (.cons (by first | exact lkI rfl (by omega) | rfl) (.cons (by first | exact lkI rfl (by omega) | rfl) (.cons (by first | exact lkI rfl (by omega) | rfl) .nil)))))))
  rintro _ _ _ ⟨k, w, cy, bw, Nu, rfl, rfl, rfl, hk, hw, hb, hv2, Bu⟩
  have hwl : (w ++ u.drop k).length = n + 1 := by rw [List.length_append, List.length_drop]; omega
  have su := Bu.win hp (show (w ++ u.drop k).length ≤ cu by omega) hcm
  rw [hwl] at su
  refine At.seq fun K9 hk_9 => ?_
  refine At.region ?_
  refine op_lss (nxlf rfl) rfl rfl rfl ?_
  refine At.opsNil ?_
  refine At.norm (hk_9 ?_)
  refine At.seq fun K10 hk_10 => ?_
  refine At.condP rfl (fun c48 => ?_) (fun c48 => ?_)
  · refine At.skip ?_
    refine At.norm (hk_10 ?_)
    refine At.seq fun K11 hk_11 => ?_
    refine At.block ?_
    refine At.seq fun K12 hk_12 => ?_
    refine At.region ?_
    refine op_move (nxlf rfl) rfl rfl ?_
    refine op_assign (nxlf rfl) rfl rfl ?_
    refine At.opsNil ?_
    refine At.norm (hk_12 ?_)
    refine At.seq fun K13 hk_13 => ?_
    refine At.region ?_
    refine op_move (nxlf rfl) rfl rfl ?_
    refine op_move (nxlf rfl) rfl rfl ?_
    refine op_move (nxlf rfl) rfl rfl ?_
    refine op_idx1 (nxlf rfl) se111 rfl rfl hv (show _ = (((k : Nat)) : Int) from by omega) (by omega) rfl ?_
    refine op_loadE (nxlf rfl) sc23 rfl hv (by first | exact get8 (by omega) | exact get64 (by omega) | exact get32 (by omega)) (by first | exact mem0 | exact mem1 | exact mem2 | exact mem3 | exact mem4 | exact mem5 | exact mem6 | exact mem7 | exact mem8 | exact mem9) rfl ?_
    refine op_callA (nxla rfl) (.cons rfl (.cons rfl .nil)) (Mul64_f q0 (v.getD k 0)) Tryz.func98 rfl rfl (by simp) rfl ?_
    rintro v56 L56 ⟨rfl, rfl⟩
    change At _ _ _ [Nu, R] _
    refine op_move (nxlf rfl) rfl rfl ?_
    refine op_extract (nxlf rfl) rfl rfl rfl ?_
    refine op_extract (nxlf rfl) rfl rfl rfl ?_
    refine op_assign (nxlf rfl) rfl rfl ?_
    refine op_assign (nxlf rfl) rfl rfl ?_
    refine At.opsNil ?_
    refine At.norm (hk_13 ?_)
    refine At.seq fun K14 hk_14 => ?_
    refine At.region ?_
    refine op_assign (nxlf rfl) rfl rfl ?_
    refine At.opsNil ?_
    refine At.norm (hk_14 ?_)
    refine At.seq fun K15 hk_15 => ?_
    refine At.region ?_
    refine op_move (nxlf rfl) rfl rfl ?_
    refine op_move (nxlf rfl) rfl rfl ?_
    refine op_ext (nxla rfl) (.cons rfl (.cons rfl (.cons rfl .nil))) (Add64_x (q0 * v.getD k 0) cy 0 (by decide)) rfl ?_
    refine op_move (nxlf rfl) rfl rfl ?_
    refine op_extract (nxlf rfl) rfl rfl rfl ?_
    refine op_extract (nxlf rfl) rfl rfl rfl ?_
    refine op_assign (nxlf rfl) rfl rfl ?_
    refine op_assign (nxlf rfl) rfl rfl ?_
    refine At.opsNil ?_
    refine At.norm (hk_15 ?_)
    refine At.seq fun K16 hk_16 => ?_
    refine At.region ?_
    refine op_move (nxlf rfl) rfl rfl ?_
    refine op_move (nxlf rfl) rfl rfl ?_
    refine op_move (nxlf rfl) rfl rfl ?_
    refine op_move (nxlf rfl) rfl rfl ?_
    refine op_idx1 (nxlf rfl) se111 rfl rfl su (show _ = (((k : Nat)) : Int) from by omega) (by omega) rfl ?_
    refine op_loadE (nxlf rfl) sc23 rfl su (by first | exact get8 (by omega) | exact get64 (by omega) | exact get32 (by omega)) (by first | exact mem0 | exact mem1 | exact mem2 | exact mem3 | exact mem4 | exact mem5 | exact mem6 | exact mem7 | exact mem8 | exact mem9) rfl ?_
    rw [getD_drop hw (show k < u.length by omega)]
    refine op_move (nxlf rfl) rfl rfl ?_
    refine op_move (nxlf rfl) rfl rfl ?_
    refine op_ext (nxla rfl) (.cons rfl (.cons rfl (.cons rfl .nil))) (Sub64_x (u.getD k 0) (addS (q0 * v.getD k 0) cy 0) bw hb) rfl ?_
    refine op_move (nxlf rfl) rfl rfl ?_
    refine op_extract (nxlf rfl) rfl rfl rfl ?_
    refine op_extract (nxlf rfl) rfl rfl rfl ?_
    refine op_idx1 (nxlf rfl) se111 rfl rfl su (show _ = (((k : Nat)) : Int) from by omega) (by omega) rfl ?_
    refine op_store (nxl rfl) sz23 rfl rfl rfl rfl rfl Bu (by simp; omega) sel0 (fun Nu Bu => ?_)
    simp only [setL] at Bu
    rw [set_u64s, win_set hp (show k < (w ++ u.drop k).length by omega), set_drop hw (show k < u.length by omega)] at Bu
    refine op_assign (nxlf rfl) rfl rfl ?_
    refine At.opsNil ?_
    refine At.norm (hk_16 ?_)
    refine At.region ?_
    refine op_move (nxlf rfl) rfl rfl ?_
    refine op_move (nxlf rfl) rfl rfl ?_
    refine op_addU (nxlf rfl) rfl rfl rfl ?_
    refine op_assign (nxlf rfl) rfl rfl ?_
    refine At.opsNil ?_
    refine At.inNorm ?_
    refine At.norm (hk_11 ?_)
    refine At.region ?_
    refine op_addI (nxlf rfl) rfl rfl (by omega) (by omega) rfl ?_
    refine op_move (nxlf rfl) rfl rfl ?_
    refine At.opsNil ?_
    refine At.norm ?_
    refine At.back ?_ (.refl _) ⟨k + 1, w ++ [subS (u.getD k 0) (addS (q0 * v.getD k 0) cy 0) bw], mulH q0 (v.getD k 0) + addC (q0 * v.getD k 0) cy 0, subC (u.getD k 0) (addS (q0 * v.getD k 0) cy 0) bw, Nu, rfl, rfl, rfl, by omega, by simp; omega, (sub64_law _ _ _ hb).2, step_round hw hb hv2, Bu⟩ ?_
    · exact .cons (by first | exact lkI rfl (by omega) | rfl) (.cons (by first | exact lkI rfl (by omega) | rfl) (.cons (by first | exact lkI rfl (by omega) | rfl) (.cons (by first | exact lkI rfl (by omega) | rfl) (.cons (by first | exact lkI rfl (by omega) | rfl) (.cons (by first | exact lkI rfl (by omega) | rfl) (.cons (by first | exact lkI rfl (by omega) | rfl) (.cons (by first | exact lkI rfl (by omega) | rfl) .nil)))))))
    · omega
  · refine At.exit (At.thenExit (At.thenExit (At.inHit ?_)))
    refine At.norm (hk_7 ?_)
    refine At.seq fun K17 hk_17 => ?_
    refine At.region ?_
    have hkn : k = n := by omega
    refine op_move (nxlf rfl) rfl rfl ?_
    refine op_move (nxlf rfl) rfl rfl ?_
    refine op_move (nxlf rfl) rfl rfl ?_
    refine op_move (nxlf rfl) rfl rfl ?_
    refine op_idx1 (nxlf rfl) se111 rfl rfl su (show _ = (((n : Nat)) : Int) from by omega) (by omega) rfl ?_
    refine op_loadE (nxlf rfl) sc23 rfl su (by first | exact get8 (by omega) | exact get64 (by omega) | exact get32 (by omega)) (by first | exact mem0 | exact mem1 | exact mem2 | exact mem3 | exact mem4 | exact mem5 | exact mem6 | exact mem7 | exact mem8 | exact mem9) rfl ?_
    rw [show (w ++ u.drop k).getD n 0 = u.getD n 0 by rw [← hkn, getD_drop hw (by omega)]]
    refine op_move (nxlf rfl) rfl rfl ?_
    refine op_move (nxlf rfl) rfl rfl ?_
    refine op_ext (nxla rfl) (.cons rfl (.cons rfl (.cons rfl .nil))) (Sub64_x (u.getD n 0) cy bw hb) rfl ?_
    refine op_move (nxlf rfl) rfl rfl ?_
    refine op_extract (nxlf rfl) rfl rfl rfl ?_
    refine op_extract (nxlf rfl) rfl rfl rfl ?_
    refine op_idx1 (nxlf rfl) se111 rfl rfl su (show _ = (((n : Nat)) : Int) from by omega) (by omega) rfl ?_
    refine op_store (nxl rfl) sz23 rfl rfl rfl rfl rfl Bu (by simp; omega) sel0 (fun Nu Bu => ?_)
    simp only [setL] at Bu
    rw [set_u64s, win_set hp (show n < (w ++ u.drop k).length by omega), show (w ++ u.drop k).set n (subS (u.getD n 0) cy bw) = w ++ [subS (u.getD n 0) cy bw] by rw [← hkn, set_drop hw (by omega), List.drop_of_length_le (by omega), List.append_nil]] at Bu
    rw [hkn, v64_take_all (by omega)] at hv2
    have hlast := step_last (by omega) hb hv2 hul
    have hb2 := (sub64_law (u.getD n 0) cy bw hb).2
    refine op_assign (nxlf rfl) rfl rfl ?_
    refine At.opsNil ?_
    refine At.norm (hk_17 ?_)
    refine At.seq fun K18 hk_18 => ?_
    refine At.block ?_
    refine At.loop (fun fr_ hp_ ms_ => ∃ (x : List UInt64) (q bo : UInt64) (Nu : Heaplet), fr_ = [(0, .slice (some ⟨b, o, none⟩) (n + 1) cu), (1, .slice vo n cv), (5, .int .i64 (n : Int)), (6, .int .u64 (q.toNat : Int)), (7, .int .u64 (bo.toNat : Int))] ∧ hp_ = [Nu, R] ∧ q.toNat = ms_ ∧ (x.length = n + 1) ∧ (bo.toNat ≤ 1) ∧ (v64 x + q.toNat * v64 v = v64 u + bo.toNat * 2 ^ (64 * (n + 1))) ∧ (bo.toNat = 0 → v64 x < v64 v) ∧ (Blk Nu b e (u64s (pre ++ x ++ post)))) ?_ (.refl _) ⟨w ++ [subS (u.getD n 0) cy bw], q0, subC (u.getD n 0) cy bw, Nu, rfl, rfl, rfl, by simp; omega, hb2, hlast, fun h => step_start (Q := 0) hV hlast hq0 h, Bu⟩ ?_
    · exact .cons (by first | exact lkI rfl (by omega) | rfl) (.cons (by first | exact lkI rfl (by omega) | rfl) (.cons (by first | exact lkI rfl (by omega) | rfl) (.cons (by first | exact lkI rfl (by omega) | rfl) (.cons (by first | exact lkI rfl (by omega) | rfl) .nil))))
    rintro _ _ _ ⟨x, q, bo, Nu, rfl, rfl, rfl, hxl, hbo, hx, hx0, Bu⟩
    have su := Bu.win hp (show x.length ≤ cu by omega) hcm
    rw [hxl] at su
    refine At.seq fun K19 hk_19 => ?_
    refine At.seq fun K20 hk_20 => ?_
    refine At.region ?_
    refine op_move (nxlf rfl) rfl rfl ?_
    refine op_neq (nxlf rfl) rfl rfl rfl ?_
    refine At.opsNil ?_
    refine At.norm (hk_20 ?_)
    refine At.condP rfl (fun c96 => ?_) (fun c96 => ?_)
    · refine At.skip ?_
      refine At.norm (hk_19 ?_)
      refine At.block ?_
      refine At.seq fun K21 hk_21 => ?_
      refine At.region ?_
      refine op_move (nxlf rfl) rfl rfl ?_
      refine op_subU (b := 1) (nxlf rfl) rfl rfl rfl ?_
      refine op_assign (nxlf rfl) rfl rfl ?_
      refine At.opsNil ?_
      refine At.norm (hk_21 ?_)
      refine At.seq fun K22 hk_22 => ?_
      refine At.region ?_
      refine op_assign (nxlf rfl) rfl rfl ?_
      refine At.opsNil ?_
      refine At.norm (hk_22 ?_)
      refine At.seq fun K23 hk_23 => ?_
      refine At.seq fun K24 hk_24 => ?_
      refine At.region ?_
      refine op_move (nxlf rfl) rfl rfl ?_
      refine op_lenS (nxlf rfl) se111 rfl rfl ?_
      refine op_move (nxlf rfl) rfl rfl ?_
      refine At.opsNil ?_
      refine At.norm (hk_24 ?_)
      refine At.block ?_
      refine At.loop (fun fr_ hp_ ms_ => ∃ (k : Nat) (w : List UInt64) (c : UInt64) (Nu : Heaplet), fr_ = [(0, .slice (some ⟨b, o, none⟩) (n + 1) cu), (1, .slice vo n cv), (5, .int .i64 (n : Int)), (6, .int .u64 ((q - 1).toNat : Int)), (7, .int .u64 (bo.toNat : Int)), (13, .int .u64 (c.toNat : Int)), (100, .int .i64 (n : Int)), (101, .int .i64 (k : Int))] ∧ hp_ = [Nu, R] ∧ n - k = ms_ ∧ (k ≤ n) ∧ (w.length = k) ∧ (c.toNat ≤ 1) ∧ (v64 w + c.toNat * 2 ^ (64 * k) = v64 (x.take k) + v64 (v.take k)) ∧ (Blk Nu b e (u64s (pre ++ (w ++ x.drop k) ++ post)))) ?_ (.refl _) ⟨0, [], 0, Nu, rfl, rfl, rfl, by omega, rfl, by decide, by simp [v64, n64, val], by simpa using Bu⟩ ?_
      · exact .cons (by first | exact lkI rfl (by omega) | rfl) (.cons (by first | exact lkI rfl (by omega) | rfl) (.cons (by first | exact lkI rfl (by omega) | rfl) (.cons (by first | exact lkI rfl (by omega) | rfl) (.cons (by first | exact lkI rfl (by omega) | rfl) (.cons (by first | exact lkI rfl (by omega) | rfl) (.cons (by first | exact lkI rfl (by omega) | rfl) (.cons (by first | exact lkI rfl (by omega) | rfl) .nil)))))))
      rintro _ _ _ ⟨k, w, c, Nu, rfl, rfl, rfl, hk, hw, hc, hv3, Bu⟩
      have hwl : (w ++ x.drop k).length = n + 1 := by rw [List.length_append, List.length_drop]; omega
      have su := Bu.win hp (show (w ++ x.drop k).length ≤ cu by omega) hcm
      rw [hwl] at su
      refine At.seq fun K25 hk_25 => ?_
      refine At.region ?_
      refine op_lss (nxlf rfl) rfl rfl rfl ?_
      refine At.opsNil ?_
      refine At.norm (hk_25 ?_)
      refine At.seq fun K26 hk_26 => ?_
      refine At.condP rfl (fun c102 => ?_) (fun c102 => ?_)
      · refine At.skip ?_
        refine At.norm (hk_26 ?_)
        refine At.seq fun K27 hk_27 => ?_
        refine At.block ?_
        refine At.seq fun K28 hk_28 => ?_
        refine At.region ?_
        refine op_move (nxlf rfl) rfl rfl ?_
        refine op_assign (nxlf rfl) rfl rfl ?_
        refine At.opsNil ?_
        refine At.norm (hk_28 ?_)
        refine At.drawnS [Nu, R] [11,16] [0,1,14] [0,1,2,3,4,5,6,7,8,9,10,11,12,13,14,15,16,17] (by kernel_rfl) (by kernel_rfl) (.refl _) ?_
        refine op_move (nxsf rfl rfl rfl) rfl rfl ?_
        refine op_move (nxsf rfl rfl rfl) rfl rfl ?_
        refine op_move (nxsf rfl rfl rfl) rfl rfl ?_
        refine op_move (nxsf rfl rfl rfl) rfl rfl ?_
        refine op_idx1 (nxsf rfl rfl rfl) se111 rfl rfl su (show _ = (((k : Nat)) : Int) from by omega) (by omega) rfl ?_
        refine op_loadE (nxsf rfl rfl rfl) sc23 rfl su (by first | exact get8 (by omega) | exact get64 (by omega) | exact get32 (by omega)) (by first | exact mem0 | exact mem1 | exact mem2 | exact mem3 | exact mem4 | exact mem5 | exact mem6 | exact mem7 | exact mem8 | exact mem9) rfl ?_
        rw [getD_drop hw (show k < x.length by omega)]
        refine op_move (nxsf rfl rfl rfl) rfl rfl ?_
        refine op_move (nxsf rfl rfl rfl) rfl rfl ?_
        refine op_idx1 (nxsf rfl rfl rfl) se111 rfl rfl hv (show _ = (((k : Nat)) : Int) from by omega) (by omega) rfl ?_
        refine op_loadE (nxsf rfl rfl rfl) sc23 rfl hv (by first | exact get8 (by omega) | exact get64 (by omega) | exact get32 (by omega)) (by first | exact mem0 | exact mem1 | exact mem2 | exact mem3 | exact mem4 | exact mem5 | exact mem6 | exact mem7 | exact mem8 | exact mem9) rfl ?_
        refine op_move (nxsf rfl rfl rfl) rfl rfl ?_
        refine op_ext (Nx.agree (nxss rfl rfl rfl rfl)) (.cons rfl (.cons rfl (.cons rfl .nil))) (Add64_x (x.getD k 0) (v.getD k 0) c hc) rfl ?_
        refine At.anyS (.refl _) ?_
        refine op_move (nxsf rfl rfl rfl) rfl rfl ?_
        refine op_extract (nxsf rfl rfl rfl) rfl rfl rfl ?_
        refine op_extract (nxsf rfl rfl rfl) rfl rfl rfl ?_
        refine op_idx1 (nxsf rfl rfl rfl) se111 rfl rfl su (show _ = (((k : Nat)) : Int) from by omega) (by omega) rfl ?_
        refine op_store (nxss rfl rfl rfl rfl) sz23 rfl rfl rfl rfl rfl Bu (by simp; omega) sel0 (fun Nu Bu => ?_)
        simp only [setL] at Bu
        rw [set_u64s, win_set hp (show k < (w ++ x.drop k).length by omega), set_drop hw (show k < x.length by omega)] at Bu
        refine At.anyS (.refl _) ?_
        refine op_assign (nxsf rfl rfl rfl) rfl rfl ?_
        refine At.sNil ?_
        refine At.inNorm ?_
        refine At.norm (hk_27 ?_)
        refine At.region ?_
        refine op_addI (nxlf rfl) rfl rfl (by omega) (by omega) rfl ?_
        refine op_move (nxlf rfl) rfl rfl ?_
        refine At.opsNil ?_
        refine At.norm ?_
        refine At.back ?_ (.refl _) ⟨k + 1, w ++ [addS (x.getD k 0) (v.getD k 0) c], addC (x.getD k 0) (v.getD k 0) c, Nu, rfl, rfl, rfl, by omega, by simp; omega, (add64_law _ _ _ hc).2, add_round hw hc hv3, Bu⟩ ?_
        · exact .cons (by first | exact lkI rfl (by omega) | rfl) (.cons (by first | exact lkI rfl (by omega) | rfl) (.cons (by first | exact lkI rfl (by omega) | rfl) (.cons (by first | exact lkI rfl (by omega) | rfl) (.cons (by first | exact lkI rfl (by omega) | rfl) (.cons (by first | exact lkI rfl (by omega) | rfl) (.cons (by first | exact lkI rfl (by omega) | rfl) (.cons (by first | exact lkI rfl (by omega) | rfl) .nil)))))))
        · omega
      · refine At.exit (At.thenExit (At.thenExit (At.inHit ?_)))
        refine At.norm (hk_23 ?_)
        refine At.seq fun K29 hk_29 => ?_
        refine At.region ?_
        have hkn : k = n := by omega
        refine op_move (nxlf rfl) rfl rfl ?_
        refine op_move (nxlf rfl) rfl rfl ?_
        refine op_move (nxlf rfl) rfl rfl ?_
        refine op_move (nxlf rfl) rfl rfl ?_
        refine op_idx1 (nxlf rfl) se111 rfl rfl su (show _ = (((n : Nat)) : Int) from by omega) (by omega) rfl ?_
        refine op_loadE (nxlf rfl) sc23 rfl su (by first | exact get8 (by omega) | exact get64 (by omega) | exact get32 (by omega)) (by first | exact mem0 | exact mem1 | exact mem2 | exact mem3 | exact mem4 | exact mem5 | exact mem6 | exact mem7 | exact mem8 | exact mem9) rfl ?_
        rw [show (w ++ x.drop k).getD n 0 = x.getD n 0 by rw [← hkn, getD_drop hw (by omega)]]
        refine op_move (nxlf rfl) rfl rfl ?_
        refine op_ext (nxla rfl) (.cons rfl (.cons rfl (.cons rfl .nil))) (Add64_x (x.getD n 0) 0 c hc) rfl ?_
        refine op_move (nxlf rfl) rfl rfl ?_
        refine op_extract (nxlf rfl) rfl rfl rfl ?_
        refine op_extract (nxlf rfl) rfl rfl rfl ?_
        refine op_idx1 (nxlf rfl) se111 rfl rfl su (show _ = (((n : Nat)) : Int) from by omega) (by omega) rfl ?_
        refine op_store (nxl rfl) sz23 rfl rfl rfl rfl rfl Bu (by simp; omega) sel0 (fun Nu Bu => ?_)
        simp only [setL] at Bu
        rw [set_u64s, win_set hp (show n < (w ++ x.drop k).length by omega), show (w ++ x.drop k).set n (addS (x.getD n 0) 0 c) = w ++ [addS (x.getD n 0) 0 c] by rw [← hkn, set_drop hw (by omega), List.drop_of_length_le (by omega), List.append_nil]] at Bu
        rw [hkn] at hw hv3
        have hvn : v.getD n 0 = 0 := getD_big (by omega)
        have har := add_round hw hc hv3
        have hac := (add64_law (x.getD n 0) (v.getD n 0) c hc).2
        rw [hvn] at har hac
        rw [v64_take_all (show x.length ≤ n + 1 by omega), v64_take_all (show v.length ≤ n + 1 by omega)] at har
        have hb1 : bo.toNat = 1 := by omega
        rw [hb1] at hx
        have hul2 := v64_lt u
        have hxl2 := v64_lt x
        have hwl2 := v64_lt (w ++ [addS (x.getD n 0) 0 c])
        rw [hul] at hul2
        rw [hxl] at hxl2
        rw [show (w ++ [addS (x.getD n 0) 0 c]).length = n + 1 by simp; omega] at hwl2
        obtain ⟨m1, m2, m3⟩ := step_back hx (by omega) hxl2 har hac hwl2
        have hq' := sub_one64 m1
        have hbo' : (bo - addC (x.getD n 0) 0 c).toNat = 1 - (addC (x.getD n 0) 0 c).toNat := by
          rw [UInt64.toNat_sub_of_le _ _ (by rw [UInt64.le_iff_toNat_le]; omega), hb1]
        refine op_assign (nxlf rfl) rfl rfl ?_
        refine At.opsNil ?_
        refine At.norm (hk_29 ?_)
        refine At.region ?_
        refine op_move (nxlf rfl) rfl rfl ?_
        refine op_move (nxlf rfl) rfl rfl ?_
        refine op_subU (nxlf rfl) rfl rfl rfl ?_
        refine op_assign (nxlf rfl) rfl rfl ?_
        refine At.opsNil ?_
        refine At.inNorm ?_
        refine At.norm ?_
        refine At.back ?_ (.refl _) ⟨w ++ [addS (x.getD n 0) 0 c], q - 1, bo - addC (x.getD n 0) 0 c, Nu, rfl, rfl, rfl, by simp; omega, by rw [hbo']; omega, by rw [hq', hbo']; exact m2, by rw [hbo']; exact m3, Bu⟩ ?_
        · exact .cons (by first | exact lkI rfl (by omega) | rfl) (.cons (by first | exact lkI rfl (by omega) | rfl) (.cons (by first | exact lkI rfl (by omega) | rfl) (.cons (by first | exact lkI rfl (by omega) | rfl) (.cons (by first | exact lkI rfl (by omega) | rfl) .nil))))
        · omega
    · refine At.exit (At.thenExit (At.thenExit (At.inHit ?_)))
      refine At.norm (hk_18 ?_)
      refine At.seq fun K30 hk_30 => ?_
      refine At.region ?_
      refine op_move (nxlf rfl) rfl rfl ?_
      refine op_assign (nxlf rfl) rfl rfl ?_
      refine At.opsNil ?_
      refine At.norm (hk_30 ?_)
      refine At.ret (?_)
      refine At.ret1 (L1 := [Nu]) rfl (.tmp rfl .nil) (.refl _) (.refl _) ?_
      have hb0 : bo.toNat = 0 := by omega
      rw [hb0, Nat.zero_mul, Nat.add_zero] at hx
      obtain ⟨k1, k2⟩ := step_end hx (hx0 hb0)
      exact ⟨Nu, x, q, rfl, rfl, Bu, by omega, k1, k2⟩
end Go.Proofs.YtnpcaplgkmlmoaaGreatDoor
