/- Several texts in one: see the remarks ahead of each part. No condition but those told there. -/
import Derived.Test.YtbmlhdecnfplaaaK9
import Derived.Test.YtbmlhdecnfplaaaKLen64
import Derived.Test.YtbmlhdecnfplaaaK8
/- limb.Bits, limb.Bytes: how many bits a number has, and its bytes; rlp.head: a payload's head. No condition. -/
namespace Go.Proofs.Ytbmlhdecnfplaaa
set_option linter.unusedVariables false
set_option linter.unusedSimpArgs false
open Go Go.RowKit
theorem Fn.of_same {P : Program} {f : FuncId} {args : Array Value} {v : Value} (h : ∀ w, Calls P f args w fun e w' => e = .returned v ∧ w' = w) : Fn P f args [] [] (fun u L => u = v ∧ L = []) := fun E w R hw _ =>
  (h w).mono fun _ _ ⟨he, hw'⟩ => ⟨v, [], he, ⟨rfl, rfl⟩, by rw [hw']; exact hw⟩
theorem Len64_f (x : UInt64) : Fn Try.prog 71 #[.int .u64 (x.toNat : Int)] [] [] (fun u L => u = .int .i64 (bitLen x.toNat : Nat) ∧ L = []) := by
  have h := x.toNat_lt
  have e : Lib.bitLen x.toNat = bitLen x.toNat := libBitLen_eq (by omega)
  refine Fn.of_same fun w => (Len64_i (x.toNat : Int) w (by omega) (by omega)).mono ?_
  rintro e1 w' ⟨rfl, rfl⟩
  rw [Int.toNat_natCast, e]
  exact ⟨rfl, rfl⟩
theorem bitLen64 (x : UInt64) : bitLen x.toNat ≤ 64 := bitLen_le.2 x.toNat_lt
theorem Bits_f {N : Heaplet} {ao : Option Addr} {n cap : Nat} {l : List UInt64} (h : RSl N 1 ao n cap (u64s l)) (hn : n ≤ 17592186044416) :
    Fn Try.prog 60 #[.slice ao n cap] [] [N] (fun v L => v = .int .i64 (bitLen (v64 l) : Nat) ∧ L = []) := by
  have hlen := h.len64
  have hcap := h.cap63
  refine Fn.enter (vs := [.slice ao n cap]) Try.func60 rfl rfl rfl ?_
  intro E R hR
  have h := h.le (hR N (by simp))
  have e0 : (limbsOf (v64 l)).length = (bitLen (v64 l) + 63) / 64 := length_limbsOf _
  change At _ _ E [R] _
  refine At.seq fun K1 hk_1 => ?_
  refine At.region ?_
  refine op_assign (nxlf rfl) rfl rfl ?_
  refine At.opsNil ?_
  refine At.norm (hk_1 ?_)
  refine At.seq fun K2 hk_2 => ?_
  refine At.region ?_
  refine op_move (nxlf rfl) rfl rfl ?_
  refine op_callA (nxla rfl) (.cons rfl .nil) (Trim_f h) Try.func44 rfl rfl (by simp) rfl ?_
  rintro v4 L4 ⟨rfl, rfl, e1, e2⟩
  change At _ _ _ [R] _
  have h2 := h.take (Nat.le_refl _) (Nat.le_trans e2 hcap.1) e2
  rw [Nat.mul_one, u64s_takeR, e1] at h2
  have hl2 := h2.len64
  refine op_assign (nxlf rfl) rfl rfl ?_
  refine At.opsNil ?_
  refine At.norm (hk_2 ?_)
  refine At.seq fun K3 hk_3 => ?_
  refine At.seq fun K4 hk_4 => ?_
  refine At.region ?_
  refine op_move (nxlf rfl) rfl rfl ?_
  refine op_lenS (nxlf rfl) se59 rfl rfl ?_
  refine op_eql (nxlf rfl) rfl rfl rfl ?_
  refine At.opsNil ?_
  refine At.norm (hk_4 ?_)
  refine At.condP rfl (fun c7 => ?_) (fun c7 => ?_)
  · refine At.seq fun K5 hk_5 => ?_
    refine At.region ?_
    refine op_assign (nxlf rfl) rfl rfl ?_
    refine At.opsNil ?_
    refine At.norm (hk_5 ?_)
    refine At.ret (At.thenRet (?_))
    refine At.ret1 (L1 := []) rfl (.tmp rfl .nil) (.refl _) (.refl _) ?_
    exact ⟨by rw [show bitLen (v64 l) = 0 by omega]; rfl, rfl⟩
  · refine At.skip ?_
    refine At.norm (hk_3 ?_)
    refine At.seq fun K6 hk_6 => ?_
    refine At.region ?_
    refine op_move (nxlf rfl) rfl rfl ?_
    refine op_lenS (nxlf rfl) se59 rfl rfl ?_
    refine op_subI (nxlf rfl) rfl rfl (by omega) (by omega) rfl ?_
    refine op_mulI (nxlf rfl) rfl rfl (by omega) (by omega) rfl ?_
    refine op_move (nxlf rfl) rfl rfl ?_
    refine op_move (nxlf rfl) rfl rfl ?_
    refine op_lenS (nxlf rfl) se59 rfl rfl ?_
    refine op_subI (nxlf rfl) rfl rfl (by omega) (by omega) rfl ?_
    refine op_idx1 (nxlf rfl) se59 rfl rfl (by assumption) (show _ = ((((limbsOf (v64 l)).length - 1 : Nat)) : Int) from by omega) (by omega) rfl ?_
    refine op_loadE (nxlf rfl) sc27 rfl (by assumption) (by first | exact get8 (by omega) | exact get64 (by omega) | exact get32 (by omega)) (by first | exact mem0 | exact mem1 | exact mem2 | exact mem3 | exact mem4 | exact mem5 | exact mem6 | exact mem7 | exact mem8 | exact mem9) rfl ?_
    refine op_callA (nxla rfl) (.cons rfl .nil) (Len64_f _) Try.func71 rfl rfl (by simp) rfl ?_
    rintro v18 L18 ⟨rfl, rfl⟩
    change At _ _ _ [R] _
    have hb := bitLen64 ((limbsOf (v64 l)).getD ((limbsOf (v64 l)).length - 1) 0)
    refine op_addI (nxlf rfl) rfl rfl (by omega) (by omega) rfl ?_
    refine op_assign (nxlf rfl) rfl rfl ?_
    refine At.opsNil ?_
    refine At.norm (hk_6 ?_)
    refine At.ret (?_)
    refine At.ret1 (L1 := []) rfl (.tmp rfl .nil) (.refl _) (.refl _) ?_
    have ht := limbsOf_top' (getD_some (l := limbsOf (v64 l)) (j := (limbsOf (v64 l)).length - 1) (z := 0) (by omega))
    exact ⟨congrArg (Value.int .i64) (by omega), rfl⟩
theorem byte_at {l : List UInt64} {i : Nat} (h : i / 8 < l.length) : UInt8.ofNat (shr64 (l.getD (i / 8) 0) (i % 8 * 8)).toNat = UInt8.ofNat (v64 l / 256 ^ i) := by
  rw [← byte_of_limb h, shr64, UInt64.toNat_ofNat', Nat.mod_eq_of_lt (Nat.lt_of_le_of_lt (Nat.div_le_self _ _) (UInt64.toNat_lt _)), List.getD_eq_getElem?_getD, List.getElem?_eq_getElem h]
  rfl
theorem bytesOf_le {n k : Nat} (h : n < 256 ^ k) : (bytesOf n).length ≤ k := by rw [length_bytesOf]; exact byteLen_le.2 h
end Go.Proofs.Ytbmlhdecnfplaaa
/- Package math/bits: sums, differences, products, quotients of limbs. No condition but what Go asks. -/
namespace Go.Proofs.Ytbmlhdecnfplaaa
set_option linter.unusedVariables false
set_option linter.unusedSimpArgs false
open Go Go.RowKit
theorem run_add64' {P : Program} (x y c : UInt64) (hc : c.toNat ≤ 1) (w : World) : (add64Entry #[.int .u64 (x.toNat : Int), .int .u64 (y.toNat : Int), .int .u64 (c.toNat : Int)]).run P w = .ok (.tuple #[.int .u64 ((addS x y c).toNat : Int), .int .u64 ((addC x y c).toNat : Int)]) w := by
  rw [run_add64 _ _ _ (by omega) (by omega) (by omega) (by omega), addS_nat, addC_nat _ _ _ hc]
  congr 5
theorem Add64_x (x y c : UInt64) (hc : c.toNat ≤ 1) (w : World) : (callFunc 51 #[.int .u64 (x.toNat : Int), .int .u64 (y.toNat : Int), .int .u64 (c.toNat : Int)]).run Try.prog w = .ok (.value (.tuple #[.int .u64 ((addS x y c).toNat : Int), .int .u64 ((addC x y c).toNat : Int)])) w := by
  rw [run_callFunc_extern Try.func51 (by kernel_rfl) (by kernel_rfl) (by kernel_rfl) (e := add64Entry) (by kernel_rfl), run_add64' x y c hc]
  rfl
def sub64E : Array Value → Sem Value := fun args => do
  let (x, y, b) ← Extern.MathBitsCarry.three "Sub64" args
  pure (Extern.MathBitsCarry.pair ((x + Extern.MathBitsCarry.m64 - y - b) % Extern.MathBitsCarry.m64) (if x < y + b then 1 else 0))
theorem run_sub64' {P : Program} (x y b : Nat) (hb : b ≤ 1) (w : World) : (sub64E #[.int .u64 x, .int .u64 y, .int .u64 b]).run P w =
      .ok (.tuple #[.int .u64 (((x + 18446744073709551616 - y - b) % 18446744073709551616 : Nat) : Int), .int .u64 ((if x < y + b then 1 else 0 : Nat) : Int)]) w := by
  have : b = 0 ∨ b = 1 := by omega
  rcases this with rfl | rfl <;> rfl
theorem Sub64_x (x y c : UInt64) (hc : c.toNat ≤ 1) (w : World) : (callFunc 52 #[.int .u64 (x.toNat : Int), .int .u64 (y.toNat : Int), .int .u64 (c.toNat : Int)]).run Try.prog w = .ok (.value (.tuple #[.int .u64 ((subS x y c).toNat : Int), .int .u64 ((subC x y c).toNat : Int)])) w := by
  rw [run_callFunc_extern Try.func52 (by kernel_rfl) (by kernel_rfl) (by kernel_rfl) (e := sub64E) (by kernel_rfl), run_sub64' _ _ _ hc, subS_nat, subC_nat]
  rfl
theorem LeadingZeros64_f (x : UInt64) : Fn Try.prog 68 #[.int .u64 (x.toNat : Int)] [] [] (fun v L => v = .int .i64 (64 - (bitLen x.toNat : Nat)) ∧ L = []) := by
  have h64 := bitLen64 x
  refine Fn.enter (vs := [.int .u64 (x.toNat : Int)]) Try.func68 rfl rfl rfl ?_
  intro E R hR
  change At _ _ E [R] _
  refine At.seq fun K1 hk_1 => ?_
  refine At.region ?_
  refine op_assign (nxlf rfl) rfl rfl ?_
  refine At.opsNil ?_
  refine At.norm (hk_1 ?_)
  refine At.seq fun K2 hk_2 => ?_
  refine At.region ?_
  refine op_move (nxlf rfl) rfl rfl ?_
  refine op_callA (nxla rfl) (.cons rfl .nil) (Len64_f x) Try.func71 rfl rfl (by simp) rfl ?_
  rintro v4 L4 ⟨rfl, rfl⟩
  change At _ _ _ [R] _
  refine op_subI (nxlf rfl) rfl rfl (by omega) (by omega) rfl ?_
  refine op_assign (nxlf rfl) rfl rfl ?_
  refine At.opsNil ?_
  refine At.norm (hk_2 ?_)
  refine At.ret (?_)
  refine At.ret1 (L1 := []) rfl (.tmp rfl .nil) (.refl _) (.refl _) ?_
  exact ⟨rfl, rfl⟩
theorem Mul64_f (x y : UInt64) : Fn Try.prog 57 #[.int .u64 (x.toNat : Int), .int .u64 (y.toNat : Int)] [] [] (fun v L => v = .tuple #[.int .u64 ((mulH x y).toNat : Int), .int .u64 ((x * y).toNat : Int)] ∧ L = []) := by
  refine Fn.enter (vs := [.int .u64 (x.toNat : Int), .int .u64 (y.toNat : Int)]) Try.func57 rfl rfl rfl ?_
  intro E R hR
  change At _ _ E [R] _
  refine At.seq fun K1 hk_1 => ?_
  refine At.region ?_
  refine op_assign (nxlf rfl) rfl rfl ?_
  refine op_assign (nxlf rfl) rfl rfl ?_
  refine At.opsNil ?_
  refine At.norm (hk_1 ?_)
  refine At.seq fun K2 hk_2 => ?_
  refine At.region ?_
  refine op_move (nxlf rfl) rfl rfl ?_
  refine op_andU (b := 4294967295) (nxlf rfl) rfl rfl rfl ?_
  refine op_assign (nxlf rfl) rfl rfl ?_
  refine At.opsNil ?_
  refine At.norm (hk_2 ?_)
  refine At.seq fun K3 hk_3 => ?_
  refine At.region ?_
  refine op_move (nxlf rfl) rfl rfl ?_
  refine op_shrU (nxlf rfl) rfl rfl (show _ = ((32 : Nat) : Int) from rfl) rfl ?_
  refine op_assign (nxlf rfl) rfl rfl ?_
  refine At.opsNil ?_
  refine At.norm (hk_3 ?_)
  refine At.seq fun K4 hk_4 => ?_
  refine At.region ?_
  refine op_move (nxlf rfl) rfl rfl ?_
  refine op_andU (b := 4294967295) (nxlf rfl) rfl rfl rfl ?_
  refine op_assign (nxlf rfl) rfl rfl ?_
  refine At.opsNil ?_
  refine At.norm (hk_4 ?_)
  refine At.seq fun K5 hk_5 => ?_
  refine At.region ?_
  refine op_move (nxlf rfl) rfl rfl ?_
  refine op_shrU (nxlf rfl) rfl rfl (show _ = ((32 : Nat) : Int) from rfl) rfl ?_
  refine op_assign (nxlf rfl) rfl rfl ?_
  refine At.opsNil ?_
  refine At.norm (hk_5 ?_)
  refine At.seq fun K6 hk_6 => ?_
  refine At.region ?_
  refine op_move (nxlf rfl) rfl rfl ?_
  refine op_move (nxlf rfl) rfl rfl ?_
  refine op_mulU (nxlf rfl) rfl rfl rfl ?_
  refine op_assign (nxlf rfl) rfl rfl ?_
  refine At.opsNil ?_
  refine At.norm (hk_6 ?_)
  refine At.seq fun K7 hk_7 => ?_
  refine At.region ?_
  refine op_move (nxlf rfl) rfl rfl ?_
  refine op_move (nxlf rfl) rfl rfl ?_
  refine op_mulU (nxlf rfl) rfl rfl rfl ?_
  refine op_move (nxlf rfl) rfl rfl ?_
  refine op_shrU (nxlf rfl) rfl rfl (show _ = ((32 : Nat) : Int) from rfl) rfl ?_
  refine op_addU (nxlf rfl) rfl rfl rfl ?_
  refine op_assign (nxlf rfl) rfl rfl ?_
  refine At.opsNil ?_
  refine At.norm (hk_7 ?_)
  refine At.seq fun K8 hk_8 => ?_
  refine At.region ?_
  refine op_move (nxlf rfl) rfl rfl ?_
  refine op_andU (b := 4294967295) (nxlf rfl) rfl rfl rfl ?_
  refine op_assign (nxlf rfl) rfl rfl ?_
  refine At.opsNil ?_
  refine At.norm (hk_8 ?_)
  refine At.seq fun K9 hk_9 => ?_
  refine At.region ?_
  refine op_move (nxlf rfl) rfl rfl ?_
  refine op_shrU (nxlf rfl) rfl rfl (show _ = ((32 : Nat) : Int) from rfl) rfl ?_
  refine op_assign (nxlf rfl) rfl rfl ?_
  refine At.opsNil ?_
  refine At.norm (hk_9 ?_)
  refine At.seq fun K10 hk_10 => ?_
  refine At.region ?_
  refine op_move (nxlf rfl) rfl rfl ?_
  refine op_move (nxlf rfl) rfl rfl ?_
  refine op_move (nxlf rfl) rfl rfl ?_
  refine op_mulU (nxlf rfl) rfl rfl rfl ?_
  refine op_addU (nxlf rfl) rfl rfl rfl ?_
  refine op_assign (nxlf rfl) rfl rfl ?_
  refine At.opsNil ?_
  refine At.norm (hk_10 ?_)
  refine At.seq fun K11 hk_11 => ?_
  refine At.region ?_
  refine op_move (nxlf rfl) rfl rfl ?_
  refine op_move (nxlf rfl) rfl rfl ?_
  refine op_mulU (nxlf rfl) rfl rfl rfl ?_
  refine op_move (nxlf rfl) rfl rfl ?_
  refine op_addU (nxlf rfl) rfl rfl rfl ?_
  refine op_move (nxlf rfl) rfl rfl ?_
  refine op_shrU (nxlf rfl) rfl rfl (show _ = ((32 : Nat) : Int) from rfl) rfl ?_
  refine op_addU (nxlf rfl) rfl rfl rfl ?_
  refine op_assign (nxlf rfl) rfl rfl ?_
  refine At.opsNil ?_
  refine At.norm (hk_11 ?_)
  refine At.seq fun K12 hk_12 => ?_
  refine At.region ?_
  refine op_move (nxlf rfl) rfl rfl ?_
  refine op_move (nxlf rfl) rfl rfl ?_
  refine op_mulU (nxlf rfl) rfl rfl rfl ?_
  refine op_assign (nxlf rfl) rfl rfl ?_
  refine At.opsNil ?_
  refine At.norm (hk_12 ?_)
  refine At.ret (?_)
  refine At.retN (L1 := []) rfl (.tmp rfl (.tmp rfl .nil)) rfl (.refl _) (.refl _) ?_
  exact ⟨by rw [← mulH_eq], rfl⟩
end Go.Proofs.Ytbmlhdecnfplaaa
/- math/bits.Div64: a number of two limbs by one limb. Condition: the upper limb is below the divisor. -/
namespace Go.Proofs.Ytbmlhdecnfplaaa
set_option linter.unusedVariables false
set_option linter.unusedSimpArgs false
open Go Go.RowKit
theorem and32 (z : UInt64) : (z &&& 4294967295).toNat = z.toNat % 4294967296 := by
  rw [UInt64.toNat_and]; exact Nat.and_two_pow_sub_one_eq_mod z.toNat 32
theorem shr32n (z : UInt64) : (shr64 z 32).toNat = z.toNat / 4294967296 := by rw [shr64_nat]
theorem div_pos64 {y : UInt64} (h : 0 < y.toNat) : y.toNat * 2 ^ (64 - bitLen y.toNat) < 18446744073709551616 ∧ 9223372036854775808 ≤ y.toNat * 2 ^ (64 - bitLen y.toNat) := by
  have h1 := lt_bitLen y.toNat
  have h2 := bitLen64 y
  have h3 := bitLen_pos h
  have h4 : 2 ^ (bitLen y.toNat - 1) ≤ y.toNat := by
    rcases Nat.lt_or_ge y.toNat (2 ^ (bitLen y.toNat - 1)) with h5 | h5
    · have := bitLen_le.2 h5; omega
    · exact h5
  constructor
  · have e : (18446744073709551616 : Nat) = 2 ^ bitLen y.toNat * 2 ^ (64 - bitLen y.toNat) := by rw [← Nat.pow_add, show bitLen y.toNat + (64 - bitLen y.toNat) = 64 by omega]
    rw [e]
    exact Nat.mul_lt_mul_of_pos_right h1 (Nat.pow_pos (by decide))
  · have e : (9223372036854775808 : Nat) = 2 ^ (bitLen y.toNat - 1) * 2 ^ (64 - bitLen y.toNat) := by rw [← Nat.pow_add, show bitLen y.toNat - 1 + (64 - bitLen y.toNat) = 63 by omega]
    rw [e]
    exact Nat.mul_le_mul_right _ h4
/-- The number's upper and lower limb, shifted. -/
theorem un_shift {hi lo y : UInt64} {s : Nat} (hs : s ≤ 64) (h : hi.toNat < y.toNat) (hy : y.toNat * 2 ^ s < 18446744073709551616) :
    (shl64 hi s ||| shr64 lo (64 - s)).toNat < y.toNat * 2 ^ s ∧ (shl64 hi s ||| shr64 lo (64 - s)).toNat * 18446744073709551616 + (shl64 lo s).toNat = (hi.toNat * 18446744073709551616 + lo.toNat) * 2 ^ s := by
  have hlo := lo.toNat_lt
  have e1 : (2 : Nat) ^ 64 = 2 ^ (64 - s) * 2 ^ s := by rw [← Nat.pow_add]; congr 1; omega
  have hp : 0 < 2 ^ s := Nat.pow_pos (by decide)
  have hq : 0 < 2 ^ (64 - s) := Nat.pow_pos (by decide)
  have h1 : hi.toNat * 2 ^ s + 2 ^ s ≤ y.toNat * 2 ^ s := by
    have := Nat.mul_le_mul_right (2 ^ s) (show hi.toNat + 1 ≤ y.toNat by omega)
    rwa [Nat.add_mul, Nat.one_mul] at this
  have hhi : hi.toNat * 2 ^ s % 2 ^ 64 = hi.toNat * 2 ^ s := Nat.mod_eq_of_lt (by omega)
  have hlt : lo.toNat / 2 ^ (64 - s) < 2 ^ s := by
    rw [Nat.div_lt_iff_lt_mul hq, Nat.mul_comm, ← e1]; exact hlo
  have hor : (shl64 hi s ||| shr64 lo (64 - s)).toNat = hi.toNat * 2 ^ s + lo.toNat / 2 ^ (64 - s) := by
    rw [UInt64.toNat_or, shl64_nat, shr64_nat, hhi, Nat.mul_comm, Nat.two_pow_add_eq_or_of_lt hlt]
  have hl : (shl64 lo s).toNat = lo.toNat % 2 ^ (64 - s) * 2 ^ s := by
    rw [shl64_nat, e1, Nat.mul_mod_mul_right]
  rw [hor, hl]
  refine ⟨by omega, ?_⟩
  have e2 : (18446744073709551616 : Nat) = 2 ^ (64 - s) * 2 ^ s := e1
  have e3 := Nat.div_add_mod lo.toNat (2 ^ (64 - s))
  rw [Nat.add_mul, Nat.add_mul, Nat.mul_right_comm hi.toNat, e2]
  have e4 : lo.toNat * 2 ^ s = lo.toNat / 2 ^ (64 - s) * (2 ^ (64 - s) * 2 ^ s) + lo.toNat % 2 ^ (64 - s) * 2 ^ s := by
    conv => lhs; rw [← e3]
    rw [Nat.add_mul, Nat.mul_comm (2 ^ (64 - s)), Nat.mul_assoc]
  rw [e4, Nat.add_assoc]
theorem back_shift {X y Y q r : Nat} {s : Nat} (hY : Y = y * 2 ^ s) (hq : q = X * 2 ^ s / Y) (hr : r = X * 2 ^ s % Y) : q = X / y ∧ r / 2 ^ s = X % y := by
  have hp : 0 < 2 ^ s := Nat.pow_pos (by decide)
  subst hY
  constructor
  · rw [hq, Nat.mul_div_mul_right _ _ hp]
  · rw [hr, Nat.mul_mod_mul_right, Nat.mul_div_cancel _ hp]
/-- What the loop's test tells. -/
theorem d_test {Q RH y0 u1 : UInt64} (hq : Q.toNat < 4294967296) (h0 : y0.toNat < 4294967296) (hr : RH.toNat < 4294967296) (hu : u1.toNat < 4294967296) :
    (4294967296 * RH + u1).toNat = RH.toNat * 4294967296 + u1.toNat ∧ (Q * y0).toNat = Q.toNat * y0.toNat := by
  have h1 := Nat.mul_le_mul (show Q.toNat ≤ 4294967295 by omega) (show y0.toNat ≤ 4294967295 by omega)
  have e : (4294967296 : UInt64).toNat = 4294967296 := rfl
  constructor
  · rw [UInt64.toNat_add, UInt64.toNat_mul, e, Nat.mul_comm, Nat.mod_eq_of_lt (show RH.toNat * 4294967296 < 2 ^ 64 by omega), Nat.mod_eq_of_lt (show RH.toNat * 4294967296 + u1.toNat < 2 ^ 64 by omega)]
  · rw [UInt64.toNat_mul, Nat.mod_eq_of_lt (Nat.lt_of_le_of_lt h1 (by decide))]
theorem d_first {R y1 : UInt64} (_h : 0 < y1.toNat) : (R / y1).toNat = R.toNat / y1.toNat ∧ (R - R / y1 * y1).toNat = R.toNat - R.toNat / y1.toNat * y1.toNat := by
  have e1 : (R / y1).toNat = R.toNat / y1.toNat := UInt64.toNat_div ..
  have hle : R.toNat / y1.toNat * y1.toNat ≤ R.toNat := Nat.div_mul_le_self _ _
  have hR := R.toNat_lt
  have e2 : (R / y1 * y1).toNat = R.toNat / y1.toNat * y1.toNat := by rw [UInt64.toNat_mul, e1, Nat.mod_eq_of_lt (Nat.lt_of_le_of_lt hle hR)]
  refine ⟨e1, ?_⟩
  rw [UInt64.toNat_sub_of_le _ _ (by rw [UInt64.le_iff_toNat_le, e2]; exact hle), e2]
theorem sub_one64 {Q : UInt64} (h : 0 < Q.toNat) : (Q - 1).toNat = Q.toNat - 1 := by
  rw [UInt64.toNat_sub_of_le _ _ (by rw [UInt64.le_iff_toNat_le]; exact h)]; rfl
/-- What is left when the digit is taken away. -/
theorem d_rest {R u1 Q Y : UInt64} (hY : 0 < Y.toNat) (hQ : Q.toNat = (R.toNat * 4294967296 + u1.toNat) / Y.toNat) (hu : u1.toNat < 4294967296) : (R * 4294967296 + u1 - Q * Y).toNat = (R.toNat * 4294967296 + u1.toNat) % Y.toNat := by
  have e : (4294967296 : UInt64).toNat = 4294967296 := rfl
  have h := d_low (T := R.toNat * 4294967296 + u1.toNat) (Y := Y.toNat) (q := Q.toNat) (B := 2 ^ 64) hQ hY (Nat.le_of_lt Y.toNat_lt) (R * 4294967296 + u1).toNat (Q * Y).toNat (by
    rw [UInt64.toNat_add, UInt64.toNat_mul, e, Nat.mod_mod, Nat.mod_add_mod]) (by rw [UInt64.toNat_mul, Nat.mod_mod])
  rw [← h, UInt64.toNat_sub, Nat.mod_eq_of_lt (R * 4294967296 + u1).toNat_lt, Nat.mod_eq_of_lt (Q * Y).toNat_lt]
  have := (R * 4294967296 + u1).toNat_lt
  have := (Q * Y).toNat_lt
  congr 1
  omega
def DivP (hi lo y : UInt64) (v : Value) (L : List Heaplet) : Prop :=
  ∃ q r : UInt64, v = .tuple #[.int .u64 (q.toNat : Int), .int .u64 (r.toNat : Int)] ∧ L = [] ∧ q.toNat = (hi.toNat * 18446744073709551616 + lo.toNat) / y.toNat ∧ r.toNat = (hi.toNat * 18446744073709551616 + lo.toNat) % y.toNat
theorem div_end {hi lo y S Y un32 un10 u1 u0 un21 Q1 Q0 : UInt64} (hY : Y.toNat = y.toNat * 2 ^ S.toNat) (hun : un32.toNat * 18446744073709551616 + un10.toNat = (hi.toNat * 18446744073709551616 + lo.toNat) * 2 ^ S.toNat)
    (hU : un10.toNat = u1.toNat * 4294967296 + u0.toNat) (hr21 : un21.toNat = (un32.toNat * 4294967296 + u1.toNat) % Y.toNat) (hQ1 : Q1.toNat = (un32.toNat * 4294967296 + u1.toNat) / Y.toNat)
    (hQ0 : Q0.toNat = (un21.toNat * 4294967296 + u0.toNat) / Y.toNat) (hr : (un21 * 4294967296 + u0 - Q0 * Y).toNat = (un21.toNat * 4294967296 + u0.toNat) % Y.toNat) (hYp : 0 < Y.toNat) (hlt : hi.toNat < y.toNat) :
    DivP hi lo y (.tuple #[.int .u64 ((Q1 * 4294967296 + Q0).toNat : Int), .int .u64 ((shr64 (un21 * 4294967296 + u0 - Q0 * Y) S.toNat).toNat : Int)]) [] := by
  have e : (4294967296 : UInt64).toNat = 4294967296 := rfl
  obtain ⟨k1, k2⟩ := d_two (R := un32.toNat) (u1 := u1.toNat) (u0 := u0.toNat) hYp
  rw [← hr21] at k1 k2
  have hX : (un32.toNat * 4294967296 + u1.toNat) * 4294967296 + u0.toNat = (hi.toNat * 18446744073709551616 + lo.toNat) * 2 ^ S.toNat := by
    rw [← hun, hU, Nat.add_mul, Nat.mul_assoc, Nat.add_assoc]
  rw [hX] at k1 k2
  rw [← hQ1, ← hQ0] at k1
  obtain ⟨j1, j2⟩ := back_shift hY k1 k2
  have hq : (Q1 * 4294967296 + Q0).toNat = (hi.toNat * 18446744073709551616 + lo.toNat) / y.toNat := by
    rw [UInt64.toNat_add, UInt64.toNat_mul, e, Nat.mod_add_mod, j1]
    refine Nat.mod_eq_of_lt ?_
    have hl := lo.toNat_lt
    rw [Nat.div_lt_iff_lt_mul (by omega)]
    omega
  exact ⟨_, _, rfl, rfl, hq, by rw [shr64_nat, hr, j2]⟩
end Go.Proofs.Ytbmlhdecnfplaaa
/- math/bits.Div64: a number of two limbs by one limb. Condition: the upper limb is below the divisor. -/
namespace Go.Proofs.Ytbmlhdecnfplaaa
set_option linter.unusedVariables false
set_option linter.unusedSimpArgs false
open Go Go.RowKit
theorem Div64_f (hi lo y : UInt64) (h : hi.toNat < y.toNat) : Fn Try.prog 76 #[.int .u64 (hi.toNat : Int), .int .u64 (lo.toNat : Int), .int .u64 (y.toNat : Int)] [] [] (DivP hi lo y) := by
  have hylt := y.toNat_lt
  obtain ⟨hY1, hY2⟩ := div_pos64 (show 0 < y.toNat by omega)
  have hbl := bitLen64 y
  refine Fn.enter (vs := [.int .u64 (hi.toNat : Int), .int .u64 (lo.toNat : Int), .int .u64 (y.toNat : Int)]) Try.func76 rfl rfl rfl ?_
  intro E R hR
  change At _ _ E [R] _
  refine At.seq fun K1 hk_1 => ?_
  refine At.region ?_
  refine op_assign (nxlf rfl) rfl rfl ?_
  refine op_assign (nxlf rfl) rfl rfl ?_
  refine At.opsNil ?_
  refine At.norm (hk_1 ?_)
  refine At.seq fun K2 hk_2 => ?_
  refine At.seq fun K3 hk_3 => ?_
  refine At.region ?_
  refine op_move (nxlf rfl) rfl rfl ?_
  refine op_eql (nxlf rfl) rfl rfl rfl ?_
  refine At.opsNil ?_
  refine At.norm (hk_3 ?_)
  refine At.condP rfl (fun c20 => ?_) (fun c20 => ?_)
  · exfalso; omega
  · refine At.skip ?_
    refine At.norm (hk_2 ?_)
    refine At.seq fun K4 hk_4 => ?_
    refine At.seq fun K5 hk_5 => ?_
    refine At.region ?_
    refine op_move (nxlf rfl) rfl rfl ?_
    refine op_move (nxlf rfl) rfl rfl ?_
    refine op_leq (nxlf rfl) rfl rfl rfl ?_
    refine At.opsNil ?_
    refine At.norm (hk_5 ?_)
    refine At.condP rfl (fun c24 => ?_) (fun c24 => ?_)
    · exfalso; omega
    · refine At.skip ?_
      refine At.norm (hk_4 ?_)
      refine At.seq fun K6 hk_6 => ?_
      refine At.seq fun K7 hk_7 => ?_
      refine At.region ?_
      refine op_move (nxlf rfl) rfl rfl ?_
      refine op_eql (nxlf rfl) rfl rfl rfl ?_
      refine At.opsNil ?_
      refine At.norm (hk_7 ?_)
      refine At.condP rfl (fun c27 => ?_) (fun c27 => ?_)
      · refine At.seq fun K8 hk_8 => ?_
        refine At.drawnS [R] [] [] [0,1,2,3,4,5,6,7] (by kernel_rfl) (by kernel_rfl) (.refl _) ?_
        refine op_move (nxsf rfl rfl rfl) rfl rfl ?_
        refine op_move (nxsf rfl rfl rfl) rfl rfl ?_
        refine op_quoU (nxsf rfl rfl rfl) rfl rfl (by omega) rfl ?_
        refine op_move (nxsf rfl rfl rfl) rfl rfl ?_
        refine op_move (nxsf rfl rfl rfl) rfl rfl ?_
        refine op_remU (nxsf rfl rfl rfl) rfl rfl (by omega) rfl ?_
        refine op_assign (nxsf rfl rfl rfl) rfl rfl ?_
        refine op_assign (nxsf rfl rfl rfl) rfl rfl ?_
        refine At.sNil ?_
        refine At.norm (hk_8 ?_)
        refine At.ret (At.thenRet (?_))
        refine At.retN (L1 := []) rfl (.tmp rfl (.tmp rfl .nil)) rfl (.refl _) (.refl _) ?_
        exact ⟨lo / y, lo % y, rfl, rfl, by rw [UInt64.toNat_div, show hi.toNat = 0 by omega, Nat.zero_mul, Nat.zero_add], by rw [UInt64.toNat_mod, show hi.toNat = 0 by omega, Nat.zero_mul, Nat.zero_add]⟩
      · refine At.skip ?_
        refine At.norm (hk_6 ?_)
        refine At.seq fun K9 hk_9 => ?_
        refine At.region ?_
        refine op_move (nxlf rfl) rfl rfl ?_
        refine op_callA (nxla rfl) (.cons rfl .nil) (LeadingZeros64_f y) Try.func68 rfl rfl (by simp) rfl ?_
        rintro v35 L35 ⟨rfl, rfl⟩
        change At _ _ _ [R] _
        refine op_conv64 (nxlf rfl) (und_some Try.underlying3) Try.underlying81 rfl (show _ = (((64 - bitLen y.toNat : Nat)) : Int) from by omega) rfl ?_
        have hS : (UInt64.ofNat (64 - bitLen y.toNat)).toNat = 64 - bitLen y.toNat := by rw [UInt64.toNat_ofNat']; omega
        generalize UInt64.ofNat (64 - bitLen y.toNat) = S at *
        refine op_assign (nxlf rfl) rfl rfl ?_
        refine At.opsNil ?_
        refine At.norm (hk_9 ?_)
        refine At.seq fun K10 hk_10 => ?_
        refine At.region ?_
        refine op_move (nxlf rfl) rfl rfl ?_
        refine op_move (nxlf rfl) rfl rfl ?_
        refine op_shlU (nxlf rfl) rfl rfl (by first | rfl | exact (Int.toNat_of_nonneg (by omega)).symm) rfl ?_
        have hY : (shl64 y S.toNat).toNat = y.toNat * 2 ^ S.toNat := by rw [shl64_nat, hS]; exact Nat.mod_eq_of_lt hY1
        rw [← hS] at hY1 hY2
        rw [← hY] at hY2
        have hun := un_shift (hi := hi) (lo := lo) (y := y) (s := S.toNat) (by omega) h hY1
        rw [← hY] at hun
        generalize shl64 y S.toNat = Y at *
        have hYlt := Y.toNat_lt
        refine op_assign (nxlf rfl) rfl rfl ?_
        refine At.opsNil ?_
        refine At.norm (hk_10 ?_)
        refine At.seq fun K11 hk_11 => ?_
        refine At.region ?_
        refine op_move (nxlf rfl) rfl rfl ?_
        refine op_shrU (nxlf rfl) rfl rfl (show _ = ((32 : Nat) : Int) from rfl) rfl ?_
        have hy1 : (shr64 Y 32).toNat = Y.toNat / 4294967296 := shr32n Y
        generalize shr64 Y 32 = y1 at *
        refine op_assign (nxlf rfl) rfl rfl ?_
        refine At.opsNil ?_
        refine At.norm (hk_11 ?_)
        refine At.seq fun K12 hk_12 => ?_
        refine At.region ?_
        refine op_move (nxlf rfl) rfl rfl ?_
        refine op_andU (b := 4294967295) (nxlf rfl) rfl rfl rfl ?_
        have hy0 : (Y &&& 4294967295).toNat = Y.toNat % 4294967296 := and32 Y
        generalize Y &&& 4294967295 = y0 at *
        refine op_assign (nxlf rfl) rfl rfl ?_
        refine At.opsNil ?_
        refine At.norm (hk_12 ?_)
        refine At.seq fun K13 hk_13 => ?_
        refine At.region ?_
        refine op_move (nxlf rfl) rfl rfl ?_
        refine op_move (nxlf rfl) rfl rfl ?_
        refine op_shlU (nxlf rfl) rfl rfl (by first | rfl | exact (Int.toNat_of_nonneg (by omega)).symm) rfl ?_
        refine op_move (nxlf rfl) rfl rfl ?_
        refine op_move (nxlf rfl) rfl rfl ?_
        refine op_subU (a := 64) (nxlf rfl) rfl rfl rfl ?_
        have h64 : ((64 : UInt64) - S).toNat = 64 - S.toNat := by
          rw [UInt64.toNat_sub_of_le _ _ (by rw [UInt64.le_iff_toNat_le]; show S.toNat ≤ 64; omega)]; rfl
        refine op_shrU (nxlf rfl) rfl rfl (by first | rfl | exact (Int.toNat_of_nonneg (by omega)).symm) rfl ?_
        refine op_orU (nxlf rfl) rfl rfl rfl ?_
        rw [← h64] at hun
        generalize shl64 hi S.toNat ||| shr64 lo ((64 : UInt64) - S).toNat = un32 at *
        refine op_assign (nxlf rfl) rfl rfl ?_
        refine At.opsNil ?_
        refine At.norm (hk_13 ?_)
        refine At.seq fun K14 hk_14 => ?_
        refine At.region ?_
        refine op_move (nxlf rfl) rfl rfl ?_
        refine op_move (nxlf rfl) rfl rfl ?_
        refine op_shlU (nxlf rfl) rfl rfl (by first | rfl | exact (Int.toNat_of_nonneg (by omega)).symm) rfl ?_
        generalize shl64 lo S.toNat = un10 at *
        have h10 := un10.toNat_lt
        refine op_assign (nxlf rfl) rfl rfl ?_
        refine At.opsNil ?_
        refine At.norm (hk_14 ?_)
        refine At.seq fun K15 hk_15 => ?_
        refine At.region ?_
        refine op_move (nxlf rfl) rfl rfl ?_
        refine op_shrU (nxlf rfl) rfl rfl (show _ = ((32 : Nat) : Int) from rfl) rfl ?_
        have hu1 : (shr64 un10 32).toNat = un10.toNat / 4294967296 := shr32n un10
        generalize shr64 un10 32 = u1 at *
        refine op_assign (nxlf rfl) rfl rfl ?_
        refine At.opsNil ?_
        refine At.norm (hk_15 ?_)
        refine At.seq fun K16 hk_16 => ?_
        refine At.region ?_
        refine op_move (nxlf rfl) rfl rfl ?_
        refine op_andU (b := 4294967295) (nxlf rfl) rfl rfl rfl ?_
        have hu0 : (un10 &&& 4294967295).toNat = un10.toNat % 4294967296 := and32 un10
        generalize un10 &&& 4294967295 = u0 at *
        have hYe : Y.toNat = y1.toNat * 4294967296 + y0.toNat := by omega
        have hUe : un10.toNat = u1.toNat * 4294967296 + u0.toNat := by omega
        have hR : un32.toNat < y1.toNat * 4294967296 + y0.toNat := by rw [← hYe]; exact hun.1
        refine op_assign (nxlf rfl) rfl rfl ?_
        refine At.opsNil ?_
        refine At.norm (hk_16 ?_)
        refine At.seq fun K17 hk_17 => ?_
        refine At.region ?_
        refine op_move (nxlf rfl) rfl rfl ?_
        refine op_move (nxlf rfl) rfl rfl ?_
        refine op_quoU (nxlf rfl) rfl rfl (by omega) rfl ?_
        refine op_assign (nxlf rfl) rfl rfl ?_
        refine At.opsNil ?_
        refine At.norm (hk_17 ?_)
        refine At.seq fun K18 hk_18 => ?_
        refine At.region ?_
        refine op_move (nxlf rfl) rfl rfl ?_
        refine op_move (nxlf rfl) rfl rfl ?_
        refine op_move (nxlf rfl) rfl rfl ?_
        refine op_mulU (nxlf rfl) rfl rfl rfl ?_
        refine op_subU (nxlf rfl) rfl rfl rfl ?_
        obtain ⟨f1, f2⟩ := d_first (R := un32) (y1 := y1) (by omega)
        have hI := d_start (R := un32.toNat) (u1 := u1.toNat) (y1 := y1.toNat) (y0 := y0.toNat) hR (by omega) (by omega) (by omega)
        rw [← f2, ← f1] at hI
        have hrh : (un32 - un32 / y1 * y1).toNat < 4294967296 := by
          rw [f2]
          have e := Nat.div_add_mod un32.toNat y1.toNat
          have hm := Nat.mod_lt un32.toNat (show 0 < y1.toNat by omega)
          rw [Nat.mul_comm] at e
          omega
        refine op_assign (nxlf rfl) rfl rfl ?_
        refine At.opsNil ?_
        refine At.norm (hk_18 ?_)
        refine At.seq fun K19 hk_19 => ?_
        refine At.meet (fun fr_ hp_ => ∃ (Q1 : UInt64), fr_ = [(2, .int .u64 (Y.toNat : Int)), (8, .int .u64 (S.toNat : Int)), (9, .int .u64 (y1.toNat : Int)), (10, .int .u64 (y0.toNat : Int)), (11, .int .u64 (un32.toNat : Int)), (13, .int .u64 (u1.toNat : Int)), (14, .int .u64 (u0.toNat : Int)), (15, .int .u64 (Q1.toNat : Int))] ∧ hp_ = [R] ∧ (Q1.toNat = (un32.toNat * 4294967296 + u1.toNat) / Y.toNat)) ?_ (fun K19_ jk_19 => ?_)
        rotate_left
        · skip
          refine At.block ?_
          refine At.loop (fun fr_ hp_ ms_ => ∃ (Q RH : UInt64), fr_ = [(2, .int .u64 (Y.toNat : Int)), (8, .int .u64 (S.toNat : Int)), (9, .int .u64 (y1.toNat : Int)), (10, .int .u64 (y0.toNat : Int)), (11, .int .u64 (un32.toNat : Int)), (13, .int .u64 (u1.toNat : Int)), (14, .int .u64 (u0.toNat : Int)), (15, .int .u64 (Q.toNat : Int)), (16, .int .u64 (RH.toNat : Int))] ∧ hp_ = [R] ∧ Q.toNat = ms_ ∧ (DInv un32.toNat u1.toNat y1.toNat y0.toNat Q.toNat RH.toNat) ∧ (RH.toNat < 4294967296)) ?_ (.refl _) ⟨un32 / y1, un32 - un32 / y1 * y1, rfl, rfl, rfl, hI, hrh⟩ ?_
          · exact .cons (by first | exact lkI rfl (by omega) | rfl) (.cons (by first | exact lkI rfl (by omega) | rfl) (.cons (by first | exact lkI rfl (by omega) | rfl) (.cons (by first | exact lkI rfl (by omega) | rfl) (.cons (by first | exact lkI rfl (by omega) | rfl) (.cons (by first | exact lkI rfl (by omega) | rfl) (.cons (by first | exact lkI rfl (by omega) | rfl) (.cons (by first | exact lkI rfl (by omega) | rfl) (.cons (by first | exact lkI rfl (by omega) | rfl) .nil))))))))
          rintro _ _ _ ⟨Q, RH, rfl, rfl, rfl, hI, hrh⟩
          refine At.seq fun K20 hk_20 => ?_
          refine At.seq fun K21 hk_21 => ?_
          refine At.region ?_
          refine op_move (nxlf rfl) rfl rfl ?_
          refine op_geq (nxlf rfl) rfl rfl rfl ?_
          refine op_move (nxlf rfl) rfl rfl ?_
          refine At.partP (d := 69) rfl (fun g69 => ?_) (fun g69 => ?_)
          · have hgt : RH.toNat * 4294967296 + u1.toNat < Q.toNat * y0.toNat := d_gt hI hR (by omega) (by omega)
            refine op_skip rfl rfl rfl rfl rfl rfl rfl ?_
            refine op_skip rfl rfl rfl rfl rfl rfl rfl ?_
            refine op_skip rfl rfl rfl rfl rfl rfl rfl ?_
            refine op_skip rfl rfl rfl rfl rfl rfl rfl ?_
            refine op_skip rfl rfl rfl rfl rfl rfl rfl ?_
            refine op_skip rfl rfl rfl rfl rfl rfl rfl ?_
            refine op_skip rfl rfl rfl rfl rfl rfl rfl ?_
            refine op_skip rfl rfl rfl rfl rfl rfl rfl ?_
            refine op_pickT (nxlf rfl) rfl rfl rfl ?_
            refine At.opsNil ?_
            refine At.norm (hk_21 ?_)
            refine At.condT rfl ?_
            refine At.skip ?_
            refine At.norm (hk_20 ?_)
            refine At.block ?_
            refine At.seq fun K22 hk_22 => ?_
            refine At.region ?_
            obtain ⟨m1, m2, m3⟩ := d_more hI hgt
            have q1' := sub_one64 m1
            have q2' : (RH + y1).toNat = RH.toNat + y1.toNat := by rw [UInt64.toNat_add]; exact Nat.mod_eq_of_lt (by omega)
            refine op_move (nxlf rfl) rfl rfl ?_
            refine op_subU (b := 1) (nxlf rfl) rfl rfl rfl ?_
            refine op_assign (nxlf rfl) rfl rfl ?_
            refine At.opsNil ?_
            refine At.norm (hk_22 ?_)
            refine At.seq fun K23 hk_23 => ?_
            refine At.region ?_
            refine op_move (nxlf rfl) rfl rfl ?_
            refine op_move (nxlf rfl) rfl rfl ?_
            refine op_addU (nxlf rfl) rfl rfl rfl ?_
            refine op_assign (nxlf rfl) rfl rfl ?_
            refine At.opsNil ?_
            refine At.norm (hk_23 ?_)
            refine At.seq fun K24 hk_24 => ?_
            refine At.region ?_
            refine op_move (nxlf rfl) rfl rfl ?_
            refine op_geq (nxlf rfl) rfl rfl rfl ?_
            refine At.opsNil ?_
            refine At.norm (hk_24 ?_)
            refine At.condP rfl (fun c85 => ?_) (fun c85 => ?_)
            · refine At.exit (At.inMiss rfl (At.thenExit (At.inHit ?_)))
              refine At.norm (jk_19 ?_ (.refl _) ⟨Q - 1, rfl, rfl, by rw [hYe]; rw [q1']; exact d_brk m2 m3 (by omega) (by omega) (by omega)⟩)
              exact .cons (by first | exact lkI rfl (by omega) | rfl) (.cons (by first | exact lkI rfl (by omega) | rfl) (.cons (by first | exact lkI rfl (by omega) | rfl) (.cons (by first | exact lkI rfl (by omega) | rfl) (.cons (by first | exact lkI rfl (by omega) | rfl) (.cons (by first | exact lkI rfl (by omega) | rfl) (.cons (by first | exact lkI rfl (by omega) | rfl) (.cons (by first | exact lkI rfl (by omega) | rfl) .nil)))))))
            · refine At.skip ?_
              refine At.inNorm ?_
              refine At.norm ?_
              refine At.back ?_ (.refl _) ⟨Q - 1, RH + y1, rfl, rfl, rfl, by rw [q1', q2']; exact m2, by omega⟩ ?_
              · exact .cons (by first | exact lkI rfl (by omega) | rfl) (.cons (by first | exact lkI rfl (by omega) | rfl) (.cons (by first | exact lkI rfl (by omega) | rfl) (.cons (by first | exact lkI rfl (by omega) | rfl) (.cons (by first | exact lkI rfl (by omega) | rfl) (.cons (by first | exact lkI rfl (by omega) | rfl) (.cons (by first | exact lkI rfl (by omega) | rfl) (.cons (by first | exact lkI rfl (by omega) | rfl) (.cons (by first | exact lkI rfl (by omega) | rfl) .nil))))))))
              · omega
          · obtain ⟨t1, t2⟩ := d_test (Q := Q) (RH := RH) (y0 := y0) (u1 := u1) (by omega) (by omega) (by omega) (by omega)
            refine op_move (nxgf rfl rfl rfl rfl) rfl rfl ?_
            refine op_move (nxgf rfl rfl rfl rfl) rfl rfl ?_
            refine op_mulU (nxgf rfl rfl rfl rfl) rfl rfl rfl ?_
            refine op_move (nxgf rfl rfl rfl rfl) rfl rfl ?_
            refine op_mulU (a := 4294967296) (nxgf rfl rfl rfl rfl) rfl rfl rfl ?_
            refine op_move (nxgf rfl rfl rfl rfl) rfl rfl ?_
            refine op_addU (nxgf rfl rfl rfl rfl) rfl rfl rfl ?_
            refine op_gtr (nxgf rfl rfl rfl rfl) rfl rfl rfl ?_
            refine op_pickF (nxlf rfl) rfl rfl rfl ?_
            refine At.opsNil ?_
            refine At.norm (hk_21 ?_)
            refine At.condP rfl (fun c78 => ?_) (fun c78 => ?_)
            · have hgt : RH.toNat * 4294967296 + u1.toNat < Q.toNat * y0.toNat := by rw [← t1, ← t2]; omega
              refine At.skip ?_
              refine At.norm (hk_20 ?_)
              refine At.block ?_
              refine At.seq fun K25 hk_25 => ?_
              refine At.region ?_
              obtain ⟨m1, m2, m3⟩ := d_more hI hgt
              have q1' := sub_one64 m1
              have q2' : (RH + y1).toNat = RH.toNat + y1.toNat := by rw [UInt64.toNat_add]; exact Nat.mod_eq_of_lt (by omega)
              refine op_move (nxlf rfl) rfl rfl ?_
              refine op_subU (b := 1) (nxlf rfl) rfl rfl rfl ?_
              refine op_assign (nxlf rfl) rfl rfl ?_
              refine At.opsNil ?_
              refine At.norm (hk_25 ?_)
              refine At.seq fun K26 hk_26 => ?_
              refine At.region ?_
              refine op_move (nxlf rfl) rfl rfl ?_
              refine op_move (nxlf rfl) rfl rfl ?_
              refine op_addU (nxlf rfl) rfl rfl rfl ?_
              refine op_assign (nxlf rfl) rfl rfl ?_
              refine At.opsNil ?_
              refine At.norm (hk_26 ?_)
              refine At.seq fun K27 hk_27 => ?_
              refine At.region ?_
              refine op_move (nxlf rfl) rfl rfl ?_
              refine op_geq (nxlf rfl) rfl rfl rfl ?_
              refine At.opsNil ?_
              refine At.norm (hk_27 ?_)
              refine At.condP rfl (fun c85 => ?_) (fun c85 => ?_)
              · refine At.exit (At.inMiss rfl (At.thenExit (At.inHit ?_)))
                refine At.norm (jk_19 ?_ (.refl _) ⟨Q - 1, rfl, rfl, by rw [hYe]; rw [q1']; exact d_brk m2 m3 (by omega) (by omega) (by omega)⟩)
                exact .cons (by first | exact lkI rfl (by omega) | rfl) (.cons (by first | exact lkI rfl (by omega) | rfl) (.cons (by first | exact lkI rfl (by omega) | rfl) (.cons (by first | exact lkI rfl (by omega) | rfl) (.cons (by first | exact lkI rfl (by omega) | rfl) (.cons (by first | exact lkI rfl (by omega) | rfl) (.cons (by first | exact lkI rfl (by omega) | rfl) (.cons (by first | exact lkI rfl (by omega) | rfl) .nil)))))))
              · refine At.skip ?_
                refine At.inNorm ?_
                refine At.norm ?_
                refine At.back ?_ (.refl _) ⟨Q - 1, RH + y1, rfl, rfl, rfl, by rw [q1', q2']; exact m2, by omega⟩ ?_
                · exact .cons (by first | exact lkI rfl (by omega) | rfl) (.cons (by first | exact lkI rfl (by omega) | rfl) (.cons (by first | exact lkI rfl (by omega) | rfl) (.cons (by first | exact lkI rfl (by omega) | rfl) (.cons (by first | exact lkI rfl (by omega) | rfl) (.cons (by first | exact lkI rfl (by omega) | rfl) (.cons (by first | exact lkI rfl (by omega) | rfl) (.cons (by first | exact lkI rfl (by omega) | rfl) (.cons (by first | exact lkI rfl (by omega) | rfl) .nil))))))))
                · omega
            · refine At.exit (At.thenExit (At.thenExit (At.inHit ?_)))
              refine At.norm (jk_19 ?_ (.refl _) ⟨Q, rfl, rfl, by rw [hYe]; exact d_at hI (by rw [← t1, ← t2]; omega) (by omega)⟩)
              exact .cons (by first | exact lkI rfl (by omega) | rfl) (.cons (by first | exact lkI rfl (by omega) | rfl) (.cons (by first | exact lkI rfl (by omega) | rfl) (.cons (by first | exact lkI rfl (by omega) | rfl) (.cons (by first | exact lkI rfl (by omega) | rfl) (.cons (by first | exact lkI rfl (by omega) | rfl) (.cons (by first | exact lkI rfl (by omega) | rfl) (.cons (by first | exact lkI rfl (by omega) | rfl) .nil)))))))
        rintro _ _ ⟨Q1, rfl, rfl, hQ1⟩
        refine hk_19 ?_
        refine At.seq fun K28 hk_28 => ?_
        refine At.region ?_
        refine op_move (nxlf rfl) rfl rfl ?_
        refine op_mulU (b := 4294967296) (nxlf rfl) rfl rfl rfl ?_
        refine op_move (nxlf rfl) rfl rfl ?_
        refine op_addU (nxlf rfl) rfl rfl rfl ?_
        refine op_move (nxlf rfl) rfl rfl ?_
        refine op_move (nxlf rfl) rfl rfl ?_
        refine op_mulU (nxlf rfl) rfl rfl rfl ?_
        refine op_subU (nxlf rfl) rfl rfl rfl ?_
        have hr21 := d_rest (R := un32) (u1 := u1) (Q := Q1) (Y := Y) (by omega) hQ1 (by omega)
        generalize un32 * 4294967296 + u1 - Q1 * Y = un21 at *
        have hR2 : un21.toNat < y1.toNat * 4294967296 + y0.toNat := by rw [← hYe, hr21]; exact Nat.mod_lt _ (by omega)
        refine op_assign (nxlf rfl) rfl rfl ?_
        refine At.opsNil ?_
        refine At.norm (hk_28 ?_)
        refine At.seq fun K29 hk_29 => ?_
        refine At.region ?_
        refine op_move (nxlf rfl) rfl rfl ?_
        refine op_move (nxlf rfl) rfl rfl ?_
        refine op_quoU (nxlf rfl) rfl rfl (by omega) rfl ?_
        refine op_assign (nxlf rfl) rfl rfl ?_
        refine At.opsNil ?_
        refine At.norm (hk_29 ?_)
        refine At.seq fun K30 hk_30 => ?_
        refine At.region ?_
        refine op_move (nxlf rfl) rfl rfl ?_
        refine op_move (nxlf rfl) rfl rfl ?_
        refine op_move (nxlf rfl) rfl rfl ?_
        refine op_mulU (nxlf rfl) rfl rfl rfl ?_
        refine op_subU (nxlf rfl) rfl rfl rfl ?_
        obtain ⟨f1, f2⟩ := d_first (R := un21) (y1 := y1) (by omega)
        have hI := d_start (R := un21.toNat) (u1 := u0.toNat) (y1 := y1.toNat) (y0 := y0.toNat) hR2 (by omega) (by omega) (by omega)
        rw [← f2, ← f1] at hI
        have hrh : (un21 - un21 / y1 * y1).toNat < 4294967296 := by
          rw [f2]
          have e := Nat.div_add_mod un21.toNat y1.toNat
          have hm := Nat.mod_lt un21.toNat (show 0 < y1.toNat by omega)
          rw [Nat.mul_comm] at e
          omega
        refine op_assign (nxlf rfl) rfl rfl ?_
        refine At.opsNil ?_
        refine At.norm (hk_30 ?_)
        refine At.seq fun K31 hk_31 => ?_
        refine At.meet (fun fr_ hp_ => ∃ (Q0 : UInt64), fr_ = [(2, .int .u64 (Y.toNat : Int)), (8, .int .u64 (S.toNat : Int)), (14, .int .u64 (u0.toNat : Int)), (15, .int .u64 (Q1.toNat : Int)), (17, .int .u64 (un21.toNat : Int)), (18, .int .u64 (Q0.toNat : Int))] ∧ hp_ = [R] ∧ (Q0.toNat = (un21.toNat * 4294967296 + u0.toNat) / Y.toNat)) ?_ (fun K31_ jk_31 => ?_)
        rotate_left
        · skip
          refine At.block ?_
          refine At.loop (fun fr_ hp_ ms_ => ∃ (Q RH : UInt64), fr_ = [(2, .int .u64 (Y.toNat : Int)), (8, .int .u64 (S.toNat : Int)), (9, .int .u64 (y1.toNat : Int)), (10, .int .u64 (y0.toNat : Int)), (14, .int .u64 (u0.toNat : Int)), (15, .int .u64 (Q1.toNat : Int)), (17, .int .u64 (un21.toNat : Int)), (18, .int .u64 (Q.toNat : Int)), (16, .int .u64 (RH.toNat : Int))] ∧ hp_ = [R] ∧ Q.toNat = ms_ ∧ (DInv un21.toNat u0.toNat y1.toNat y0.toNat Q.toNat RH.toNat) ∧ (RH.toNat < 4294967296)) ?_ (.refl _) ⟨un21 / y1, un21 - un21 / y1 * y1, rfl, rfl, rfl, hI, hrh⟩ ?_
          · exact .cons (by first | exact lkI rfl (by omega) | rfl) (.cons (by first | exact lkI rfl (by omega) | rfl) (.cons (by first | exact lkI rfl (by omega) | rfl) (.cons (by first | exact lkI rfl (by omega) | rfl) (.cons (by first | exact lkI rfl (by omega) | rfl) (.cons (by first | exact lkI rfl (by omega) | rfl) (.cons (by first | exact lkI rfl (by omega) | rfl) (.cons (by first | exact lkI rfl (by omega) | rfl) (.cons (by first | exact lkI rfl (by omega) | rfl) .nil))))))))
          rintro _ _ _ ⟨Q, RH, rfl, rfl, rfl, hI, hrh⟩
          refine At.seq fun K32 hk_32 => ?_
          refine At.seq fun K33 hk_33 => ?_
          refine At.region ?_
          refine op_move (nxlf rfl) rfl rfl ?_
          refine op_geq (nxlf rfl) rfl rfl rfl ?_
          refine op_move (nxlf rfl) rfl rfl ?_
          refine At.partP (d := 104) rfl (fun g104 => ?_) (fun g104 => ?_)
          · have hgt : RH.toNat * 4294967296 + u0.toNat < Q.toNat * y0.toNat := d_gt hI hR2 (by omega) (by omega)
            refine op_skip rfl rfl rfl rfl rfl rfl rfl ?_
            refine op_skip rfl rfl rfl rfl rfl rfl rfl ?_
            refine op_skip rfl rfl rfl rfl rfl rfl rfl ?_
            refine op_skip rfl rfl rfl rfl rfl rfl rfl ?_
            refine op_skip rfl rfl rfl rfl rfl rfl rfl ?_
            refine op_skip rfl rfl rfl rfl rfl rfl rfl ?_
            refine op_skip rfl rfl rfl rfl rfl rfl rfl ?_
            refine op_skip rfl rfl rfl rfl rfl rfl rfl ?_
            refine op_pickT (nxlf rfl) rfl rfl rfl ?_
            refine At.opsNil ?_
            refine At.norm (hk_33 ?_)
            refine At.condT rfl ?_
            refine At.skip ?_
            refine At.norm (hk_32 ?_)
            refine At.block ?_
            refine At.seq fun K34 hk_34 => ?_
            refine At.region ?_
            obtain ⟨m1, m2, m3⟩ := d_more hI hgt
            have q1' := sub_one64 m1
            have q2' : (RH + y1).toNat = RH.toNat + y1.toNat := by rw [UInt64.toNat_add]; exact Nat.mod_eq_of_lt (by omega)
            refine op_move (nxlf rfl) rfl rfl ?_
            refine op_subU (b := 1) (nxlf rfl) rfl rfl rfl ?_
            refine op_assign (nxlf rfl) rfl rfl ?_
            refine At.opsNil ?_
            refine At.norm (hk_34 ?_)
            refine At.seq fun K35 hk_35 => ?_
            refine At.region ?_
            refine op_move (nxlf rfl) rfl rfl ?_
            refine op_move (nxlf rfl) rfl rfl ?_
            refine op_addU (nxlf rfl) rfl rfl rfl ?_
            refine op_assign (nxlf rfl) rfl rfl ?_
            refine At.opsNil ?_
            refine At.norm (hk_35 ?_)
            refine At.seq fun K36 hk_36 => ?_
            refine At.region ?_
            refine op_move (nxlf rfl) rfl rfl ?_
            refine op_geq (nxlf rfl) rfl rfl rfl ?_
            refine At.opsNil ?_
            refine At.norm (hk_36 ?_)
            refine At.condP rfl (fun c120 => ?_) (fun c120 => ?_)
            · refine At.exit (At.inMiss rfl (At.thenExit (At.inHit ?_)))
              refine At.norm (jk_31 ?_ (.refl _) ⟨Q - 1, rfl, rfl, by rw [hYe]; rw [q1']; exact d_brk m2 m3 (by omega) (by omega) (by omega)⟩)
              exact .cons (by first | exact lkI rfl (by omega) | rfl) (.cons (by first | exact lkI rfl (by omega) | rfl) (.cons (by first | exact lkI rfl (by omega) | rfl) (.cons (by first | exact lkI rfl (by omega) | rfl) (.cons (by first | exact lkI rfl (by omega) | rfl) (.cons (by first | exact lkI rfl (by omega) | rfl) .nil)))))
            · refine At.skip ?_
              refine At.inNorm ?_
              refine At.norm ?_
              refine At.back ?_ (.refl _) ⟨Q - 1, RH + y1, rfl, rfl, rfl, by rw [q1', q2']; exact m2, by omega⟩ ?_
              · exact .cons (by first | exact lkI rfl (by omega) | rfl) (.cons (by first | exact lkI rfl (by omega) | rfl) (.cons (by first | exact lkI rfl (by omega) | rfl) (.cons (by first | exact lkI rfl (by omega) | rfl) (.cons (by first | exact lkI rfl (by omega) | rfl) (.cons (by first | exact lkI rfl (by omega) | rfl) (.cons (by first | exact lkI rfl (by omega) | rfl) (.cons (by first | exact lkI rfl (by omega) | rfl) (.cons (by first | exact lkI rfl (by omega) | rfl) .nil))))))))
              · omega
          · obtain ⟨t1, t2⟩ := d_test (Q := Q) (RH := RH) (y0 := y0) (u1 := u0) (by omega) (by omega) (by omega) (by omega)
            refine op_move (nxgf rfl rfl rfl rfl) rfl rfl ?_
            refine op_move (nxgf rfl rfl rfl rfl) rfl rfl ?_
            refine op_mulU (nxgf rfl rfl rfl rfl) rfl rfl rfl ?_
            refine op_move (nxgf rfl rfl rfl rfl) rfl rfl ?_
            refine op_mulU (a := 4294967296) (nxgf rfl rfl rfl rfl) rfl rfl rfl ?_
            refine op_move (nxgf rfl rfl rfl rfl) rfl rfl ?_
            refine op_addU (nxgf rfl rfl rfl rfl) rfl rfl rfl ?_
            refine op_gtr (nxgf rfl rfl rfl rfl) rfl rfl rfl ?_
            refine op_pickF (nxlf rfl) rfl rfl rfl ?_
            refine At.opsNil ?_
            refine At.norm (hk_33 ?_)
            refine At.condP rfl (fun c113 => ?_) (fun c113 => ?_)
            · have hgt : RH.toNat * 4294967296 + u0.toNat < Q.toNat * y0.toNat := by rw [← t1, ← t2]; omega
              refine At.skip ?_
              refine At.norm (hk_32 ?_)
              refine At.block ?_
              refine At.seq fun K37 hk_37 => ?_
              refine At.region ?_
              obtain ⟨m1, m2, m3⟩ := d_more hI hgt
              have q1' := sub_one64 m1
              have q2' : (RH + y1).toNat = RH.toNat + y1.toNat := by rw [UInt64.toNat_add]; exact Nat.mod_eq_of_lt (by omega)
              refine op_move (nxlf rfl) rfl rfl ?_
              refine op_subU (b := 1) (nxlf rfl) rfl rfl rfl ?_
              refine op_assign (nxlf rfl) rfl rfl ?_
              refine At.opsNil ?_
              refine At.norm (hk_37 ?_)
              refine At.seq fun K38 hk_38 => ?_
              refine At.region ?_
              refine op_move (nxlf rfl) rfl rfl ?_
              refine op_move (nxlf rfl) rfl rfl ?_
              refine op_addU (nxlf rfl) rfl rfl rfl ?_
              refine op_assign (nxlf rfl) rfl rfl ?_
              refine At.opsNil ?_
              refine At.norm (hk_38 ?_)
              refine At.seq fun K39 hk_39 => ?_
              refine At.region ?_
              refine op_move (nxlf rfl) rfl rfl ?_
              refine op_geq (nxlf rfl) rfl rfl rfl ?_
              refine At.opsNil ?_
              refine At.norm (hk_39 ?_)
              refine At.condP rfl (fun c120 => ?_) (fun c120 => ?_)
              · refine At.exit (At.inMiss rfl (At.thenExit (At.inHit ?_)))
                refine At.norm (jk_31 ?_ (.refl _) ⟨Q - 1, rfl, rfl, by rw [hYe]; rw [q1']; exact d_brk m2 m3 (by omega) (by omega) (by omega)⟩)
                exact .cons (by first | exact lkI rfl (by omega) | rfl) (.cons (by first | exact lkI rfl (by omega) | rfl) (.cons (by first | exact lkI rfl (by omega) | rfl) (.cons (by first | exact lkI rfl (by omega) | rfl) (.cons (by first | exact lkI rfl (by omega) | rfl) (.cons (by first | exact lkI rfl (by omega) | rfl) .nil)))))
              · refine At.skip ?_
                refine At.inNorm ?_
                refine At.norm ?_
                refine At.back ?_ (.refl _) ⟨Q - 1, RH + y1, rfl, rfl, rfl, by rw [q1', q2']; exact m2, by omega⟩ ?_
                · exact .cons (by first | exact lkI rfl (by omega) | rfl) (.cons (by first | exact lkI rfl (by omega) | rfl) (.cons (by first | exact lkI rfl (by omega) | rfl) (.cons (by first | exact lkI rfl (by omega) | rfl) (.cons (by first | exact lkI rfl (by omega) | rfl) (.cons (by first | exact lkI rfl (by omega) | rfl) (.cons (by first | exact lkI rfl (by omega) | rfl) (.cons (by first | exact lkI rfl (by omega) | rfl) (.cons (by first | exact lkI rfl (by omega) | rfl) .nil))))))))
                · omega
            · refine At.exit (At.thenExit (At.thenExit (At.inHit ?_)))
              refine At.norm (jk_31 ?_ (.refl _) ⟨Q, rfl, rfl, by rw [hYe]; exact d_at hI (by rw [← t1, ← t2]; omega) (by omega)⟩)
              exact .cons (by first | exact lkI rfl (by omega) | rfl) (.cons (by first | exact lkI rfl (by omega) | rfl) (.cons (by first | exact lkI rfl (by omega) | rfl) (.cons (by first | exact lkI rfl (by omega) | rfl) (.cons (by first | exact lkI rfl (by omega) | rfl) (.cons (by first | exact lkI rfl (by omega) | rfl) .nil)))))
        rintro _ _ ⟨Q0, rfl, rfl, hQ0⟩
        refine hk_31 ?_
        refine At.seq fun K40 hk_40 => ?_
        refine At.region ?_
        refine op_move (nxlf rfl) rfl rfl ?_
        refine op_mulU (b := 4294967296) (nxlf rfl) rfl rfl rfl ?_
        refine op_move (nxlf rfl) rfl rfl ?_
        refine op_addU (nxlf rfl) rfl rfl rfl ?_
        refine op_move (nxlf rfl) rfl rfl ?_
        refine op_mulU (b := 4294967296) (nxlf rfl) rfl rfl rfl ?_
        refine op_move (nxlf rfl) rfl rfl ?_
        refine op_addU (nxlf rfl) rfl rfl rfl ?_
        refine op_move (nxlf rfl) rfl rfl ?_
        refine op_move (nxlf rfl) rfl rfl ?_
        refine op_mulU (nxlf rfl) rfl rfl rfl ?_
        refine op_subU (nxlf rfl) rfl rfl rfl ?_
        refine op_move (nxlf rfl) rfl rfl ?_
        refine op_shrU (nxlf rfl) rfl rfl (by first | rfl | exact (Int.toNat_of_nonneg (by omega)).symm) rfl ?_
        refine op_assign (nxlf rfl) rfl rfl ?_
        refine op_assign (nxlf rfl) rfl rfl ?_
        refine At.opsNil ?_
        refine At.norm (hk_40 ?_)
        refine At.ret (?_)
        refine At.retN (L1 := []) rfl (.tmp rfl (.tmp rfl .nil)) rfl (.refl _) (.refl _) ?_
        have hr := d_rest (R := un21) (u1 := u0) (Q := Q0) (Y := Y) (by omega) hQ0 (by omega)
        exact div_end hY hun.2 hUe hr21 hQ1 hQ0 hr (by omega) h
end Go.Proofs.Ytbmlhdecnfplaaa
