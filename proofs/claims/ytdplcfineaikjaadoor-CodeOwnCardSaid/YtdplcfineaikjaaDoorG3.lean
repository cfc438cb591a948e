/- The engine, part 3: unsigned numbers, conversions. For whatever program. No condition. -/
import Derived.Test.YtdplcfineaikjaaDoorG2
namespace Go.Proofs.YtdplcfineaikjaaDoor
set_option linter.unusedVariables false
set_option linter.unusedSimpArgs false
open Go Go.RowKit
def shl64 (x : UInt64) (n : Nat) : UInt64 := UInt64.ofNat (x.toNat * 2 ^ n)
def shr64 (x : UInt64) (n : Nat) : UInt64 := UInt64.ofNat (x.toNat / 2 ^ n)
def shl32 (x : UInt32) (n : Nat) : UInt32 := UInt32.ofNat (x.toNat * 2 ^ n)
def shr32 (x : UInt32) (n : Nat) : UInt32 := UInt32.ofNat (x.toNat / 2 ^ n)
def shl8 (x : UInt8) (n : Nat) : UInt8 := UInt8.ofNat (x.toNat * 2 ^ n)
def shr8 (x : UInt8) (n : Nat) : UInt8 := UInt8.ofNat (x.toNat / 2 ^ n)
theorem cast_pow (n : Nat) : ((2 ^ n : Nat) : Int) = (2 : Int) ^ n := by simp
theorem mulpow_mod (x n B : Nat) : x * 2 ^ (min n B) % 2 ^ B = x * 2 ^ n % 2 ^ B := by
  by_cases h : n ≤ B
  · rw [Nat.min_eq_left h]
  · rw [Nat.min_eq_right (by omega)]
    obtain ⟨d, rfl⟩ : ∃ d, n = B + d := ⟨n - B, by omega⟩
    rw [Nat.pow_add, Nat.mul_mod_left, show x * (2 ^ B * 2 ^ d) = x * 2 ^ d * 2 ^ B from by rw [Nat.mul_comm (2 ^ B), Nat.mul_assoc], Nat.mul_mod_left]
theorem divpow_min (x n B : Nat) (hx : x < 2 ^ B) : x / 2 ^ (min n B) = x / 2 ^ n := by
  by_cases h : n ≤ B
  · rw [Nat.min_eq_left h]
  · rw [Nat.min_eq_right (by omega), Nat.div_eq_of_lt hx, Nat.div_eq_of_lt (Nat.lt_of_lt_of_le hx (Nat.pow_le_pow_right (by decide) (by omega)))]
theorem wrapU64 (m : Int) : IntKind.u64.wrap m = m % 18446744073709551616 := by
  unfold IntKind.wrap; simp [IntKind.bits, IntKind.signed]
theorem wrapU32 (m : Int) : IntKind.u32.wrap m = m % 4294967296 := by
  unfold IntKind.wrap; simp [IntKind.bits, IntKind.signed]
theorem wrapU8 (m : Int) : IntKind.u8.wrap m = m % 256 := by
  unfold IntKind.wrap; simp [IntKind.bits, IntKind.signed]
section
variable {P : Program} {n : Nat} {l : List (Nat × Value)} {E : World} {L Ls : List Heaplet} {o : Oper} {X Y : Act → World → Prop}
variable {d : Nat} {ty t t' : TypeId} {pos : String} {aft : Array Edge} {g : Option (Nat × Bool)} {v : Value} {x y z : Operand} {k : IntKind} {p q : Int}
section
variable {a b : UInt64}
theorem op_addU (s : NxF P n l E L Ls ⟨some d, .binOp .add t x y t', ty, pos, aft, g⟩ X Y) (hx : ev l x = some (.int .u64 (a.toNat : Int))) (hy : ev l y = some (.int .u64 (b.toNat : Int))) (hn : Nat.ble (d + 1) n = true) (h : At n ((d, .int .u64 ((a + b).toNat : Int)) :: l) E L Y) : At n l E L X :=
  op_addW s hx hy hn (by rw [wrapU64, show ((a.toNat : Int) + b.toNat) % 18446744073709551616 = ((a + b).toNat : Int) from by rw [UInt64.toNat_add]; omega]; exact h)
theorem op_subU (s : NxF P n l E L Ls ⟨some d, .binOp .sub t x y t', ty, pos, aft, g⟩ X Y) (hx : ev l x = some (.int .u64 (a.toNat : Int))) (hy : ev l y = some (.int .u64 (b.toNat : Int))) (hn : Nat.ble (d + 1) n = true) (h : At n ((d, .int .u64 ((a - b).toNat : Int)) :: l) E L Y) : At n l E L X :=
  op_subW s hx hy hn (by rw [wrapU64, show ((a.toNat : Int) - b.toNat) % 18446744073709551616 = ((a - b).toNat : Int) from by rw [UInt64.toNat_sub]; have := a.toNat_lt; have := b.toNat_lt; omega]; exact h)
theorem op_mulU (s : NxF P n l E L Ls ⟨some d, .binOp .mul t x y t', ty, pos, aft, g⟩ X Y) (hx : ev l x = some (.int .u64 (a.toNat : Int))) (hy : ev l y = some (.int .u64 (b.toNat : Int))) (hn : Nat.ble (d + 1) n = true) (h : At n ((d, .int .u64 ((a * b).toNat : Int)) :: l) E L Y) : At n l E L X :=
  op_mulW s hx hy hn (by rw [wrapU64, show ((a.toNat : Int) * b.toNat) % 18446744073709551616 = ((a * b).toNat : Int) from by rw [UInt64.toNat_mul]; simp]; exact h)
theorem op_andU (s : NxF P n l E L Ls ⟨some d, .binOp .and t x y t', ty, pos, aft, g⟩ X Y) (hx : ev l x = some (.int .u64 (a.toNat : Int))) (hy : ev l y = some (.int .u64 (b.toNat : Int))) (hn : Nat.ble (d + 1) n = true) (h : At n ((d, .int .u64 ((a &&& b).toNat : Int)) :: l) E L Y) : At n l E L X :=
  op_bits (.inl rfl) s hx hy hn (by rw [bits_and_u64]; exact h)
theorem op_orU (s : NxF P n l E L Ls ⟨some d, .binOp .or t x y t', ty, pos, aft, g⟩ X Y) (hx : ev l x = some (.int .u64 (a.toNat : Int))) (hy : ev l y = some (.int .u64 (b.toNat : Int))) (hn : Nat.ble (d + 1) n = true) (h : At n ((d, .int .u64 ((a ||| b).toNat : Int)) :: l) E L Y) : At n l E L X :=
  op_bits (.inr (.inl rfl)) s hx hy hn (by rw [bits_or_u64]; exact h)
theorem op_xorU (s : NxF P n l E L Ls ⟨some d, .binOp .xor t x y t', ty, pos, aft, g⟩ X Y) (hx : ev l x = some (.int .u64 (a.toNat : Int))) (hy : ev l y = some (.int .u64 (b.toNat : Int))) (hn : Nat.ble (d + 1) n = true) (h : At n ((d, .int .u64 ((a ^^^ b).toNat : Int)) :: l) E L Y) : At n l E L X :=
  op_bits (.inr (.inr (.inl rfl))) s hx hy hn (by rw [bits_xor_u64]; exact h)
theorem op_shlU {k' : IntKind} {m : Nat} (s : NxF P n l E L Ls ⟨some d, .binOp .shl t x y t', ty, pos, aft, g⟩ X Y) (hx : ev l x = some (.int .u64 (a.toNat : Int))) (hy : ev l y = some (.int k' q)) (hm : q = (m : Int)) (hn : Nat.ble (d + 1) n = true) (h : At n ((d, .int .u64 ((shl64 a m).toNat : Int)) :: l) E L Y) : At n l E L X :=
  op_shlW s hx hy (by omega) hn (by
    subst hm
    rw [wrapU64, show ((a.toNat : Int) * 2 ^ (min ((m : Int).toNat) IntKind.u64.bits)) % 18446744073709551616 = ((shl64 a m).toNat : Int) from by
      rw [shl64, UInt64.toNat_ofNat', Int.toNat_natCast, ← mulpow_mod a.toNat m 64, ← cast_pow]; simp [IntKind.bits]]
    exact h)
theorem op_shrU {k' : IntKind} {m : Nat} (s : NxF P n l E L Ls ⟨some d, .binOp .shr t x y t', ty, pos, aft, g⟩ X Y) (hx : ev l x = some (.int .u64 (a.toNat : Int))) (hy : ev l y = some (.int k' q)) (hm : q = (m : Int)) (hn : Nat.ble (d + 1) n = true) (h : At n ((d, .int .u64 ((shr64 a m).toNat : Int)) :: l) E L Y) : At n l E L X :=
  op_shrW s hx hy (by omega) (by omega) hn (by
    subst hm
    rw [show ((a.toNat : Int) / 2 ^ (min ((m : Int).toNat) IntKind.u64.bits)) = ((shr64 a m).toNat : Int) from by
      rw [shr64, UInt64.toNat_ofNat', Int.toNat_natCast, ← divpow_min a.toNat m 64 a.toNat_lt, ← cast_pow, Nat.mod_eq_of_lt (Nat.lt_of_le_of_lt (Nat.div_le_self _ _) a.toNat_lt)]; rfl]
    exact h)
end
section
variable {a b : UInt32}
theorem op_addU32 (s : NxF P n l E L Ls ⟨some d, .binOp .add t x y t', ty, pos, aft, g⟩ X Y) (hx : ev l x = some (.int .u32 (a.toNat : Int))) (hy : ev l y = some (.int .u32 (b.toNat : Int))) (hn : Nat.ble (d + 1) n = true) (h : At n ((d, .int .u32 ((a + b).toNat : Int)) :: l) E L Y) : At n l E L X :=
  op_addW s hx hy hn (by rw [wrapU32, show ((a.toNat : Int) + b.toNat) % 4294967296 = ((a + b).toNat : Int) from by rw [UInt32.toNat_add]; omega]; exact h)
theorem op_orU32 (s : NxF P n l E L Ls ⟨some d, .binOp .or t x y t', ty, pos, aft, g⟩ X Y) (hx : ev l x = some (.int .u32 (a.toNat : Int))) (hy : ev l y = some (.int .u32 (b.toNat : Int))) (hn : Nat.ble (d + 1) n = true) (h : At n ((d, .int .u32 ((a ||| b).toNat : Int)) :: l) E L Y) : At n l E L X :=
  op_bits (.inr (.inl rfl)) s hx hy hn (by rw [bits_or_u32]; exact h)
theorem op_andU32 (s : NxF P n l E L Ls ⟨some d, .binOp .and t x y t', ty, pos, aft, g⟩ X Y) (hx : ev l x = some (.int .u32 (a.toNat : Int))) (hy : ev l y = some (.int .u32 (b.toNat : Int))) (hn : Nat.ble (d + 1) n = true) (h : At n ((d, .int .u32 ((a &&& b).toNat : Int)) :: l) E L Y) : At n l E L X :=
  op_bits (.inl rfl) s hx hy hn (by rw [bits_and_u32]; exact h)
theorem op_shlU32 {k' : IntKind} {m : Nat} (s : NxF P n l E L Ls ⟨some d, .binOp .shl t x y t', ty, pos, aft, g⟩ X Y) (hx : ev l x = some (.int .u32 (a.toNat : Int))) (hy : ev l y = some (.int k' q)) (hm : q = (m : Int)) (hn : Nat.ble (d + 1) n = true) (h : At n ((d, .int .u32 ((shl32 a m).toNat : Int)) :: l) E L Y) : At n l E L X :=
  op_shlW s hx hy (by omega) hn (by
    subst hm
    rw [wrapU32, show ((a.toNat : Int) * 2 ^ (min ((m : Int).toNat) IntKind.u32.bits)) % 4294967296 = ((shl32 a m).toNat : Int) from by
      rw [shl32, UInt32.toNat_ofNat', Int.toNat_natCast, ← mulpow_mod a.toNat m 32, ← cast_pow]; simp [IntKind.bits]]
    exact h)
theorem op_shrU32 {k' : IntKind} {m : Nat} (s : NxF P n l E L Ls ⟨some d, .binOp .shr t x y t', ty, pos, aft, g⟩ X Y) (hx : ev l x = some (.int .u32 (a.toNat : Int))) (hy : ev l y = some (.int k' q)) (hm : q = (m : Int)) (hn : Nat.ble (d + 1) n = true) (h : At n ((d, .int .u32 ((shr32 a m).toNat : Int)) :: l) E L Y) : At n l E L X :=
  op_shrW s hx hy (by omega) (by omega) hn (by
    subst hm
    rw [show ((a.toNat : Int) / 2 ^ (min ((m : Int).toNat) IntKind.u32.bits)) = ((shr32 a m).toNat : Int) from by
      rw [shr32, UInt32.toNat_ofNat', Int.toNat_natCast, ← divpow_min a.toNat m 32 a.toNat_lt, ← cast_pow, Nat.mod_eq_of_lt (Nat.lt_of_le_of_lt (Nat.div_le_self _ _) a.toNat_lt)]; rfl]
    exact h)
end
/-! conversions -/
theorem op_convW {kt : IntKind} (s : NxF P n l E L Ls ⟨some d, .convert t t' x, ty, pos, aft, g⟩ X Y) (ht0 : (P.underlying t).isSome = true) (ht : P.underlying t' = some (.int kt)) (hx : ev l x = some (.int k p)) (hn : Nat.ble (d + 1) n = true) (h : At n ((d, .int kt (kt.wrap p)) :: l) E L Y) : At n l E L X :=
  op_val s (fun a w hf _ => by
    obtain ⟨d0, hd0⟩ := Option.isSome_iff_exists.1 ht0
    simp only [execOp, hf.eval hx, convert, Sem.run_bind, run_underlying hd0, run_underlying ht, Result.andThen_ok]
    simp [Conv.intToInt]) rfl hn h
theorem op_convI (s : NxF P n l E L Ls ⟨some d, .convert t t' x, ty, pos, aft, g⟩ X Y) (ht0 : (P.underlying t).isSome = true) (ht : P.underlying t' = some (.int .i64)) (hx : ev l x = some (.int k p)) (h1 : -9223372036854775808 ≤ p) (h2 : p ≤ 9223372036854775807) (hn : Nat.ble (d + 1) n = true) (h : At n ((d, .int .i64 p) :: l) E L Y) : At n l E L X :=
  op_convW s ht0 ht hx hn (by rw [wrap_i64 h1 h2]; exact h)
theorem op_conv64 {m : Nat} (s : NxF P n l E L Ls ⟨some d, .convert t t' x, ty, pos, aft, g⟩ X Y) (ht0 : (P.underlying t).isSome = true) (ht : P.underlying t' = some (.int .u64)) (hx : ev l x = some (.int k p)) (hm : p = (m : Int)) (hn : Nat.ble (d + 1) n = true) (h : At n ((d, .int .u64 ((UInt64.ofNat m).toNat : Int)) :: l) E L Y) : At n l E L X :=
  op_convW s ht0 ht hx hn (by rw [hm, wrap_u64_nat]; exact h)
theorem op_conv32 {m : Nat} (s : NxF P n l E L Ls ⟨some d, .convert t t' x, ty, pos, aft, g⟩ X Y) (ht0 : (P.underlying t).isSome = true) (ht : P.underlying t' = some (.int .u32)) (hx : ev l x = some (.int k p)) (hm : p = (m : Int)) (hn : Nat.ble (d + 1) n = true) (h : At n ((d, .int .u32 ((UInt32.ofNat m).toNat : Int)) :: l) E L Y) : At n l E L X :=
  op_convW s ht0 ht hx hn (by rw [hm, wrap_u32_nat]; exact h)
theorem op_conv8 {m : Nat} (s : NxF P n l E L Ls ⟨some d, .convert t t' x, ty, pos, aft, g⟩ X Y) (ht0 : (P.underlying t).isSome = true) (ht : P.underlying t' = some (.int .u8)) (hx : ev l x = some (.int k p)) (hm : p = (m : Int)) (hn : Nat.ble (d + 1) n = true) (h : At n ((d, .int .u8 ((UInt8.ofNat m).toNat : Int)) :: l) E L Y) : At n l E L X :=
  op_convW s ht0 ht hx hn (by rw [hm, wrap_u8_nat]; exact h)
/-! tuples, bools, strings -/
theorem op_extract {vs : List Value} {i : Nat} (s : NxF P n l E L Ls ⟨some d, .extract x i, ty, pos, aft, g⟩ X Y) (hx : ev l x = some (.tuple vs.toArray)) (hv : vs[i]? = some v) (hn : Nat.ble (d + 1) n = true) (h : At n ((d, v) :: l) E L Y) : At n l E L X :=
  op_val s (fun a w hf _ => by simp [execOp, hf.eval hx, Instr.extract, hv]) rfl hn h
theorem eqGuard_bool {op : BinOp} {b c : Bool} (w : World) : (eqGuard op t x y (.bool b) (.bool c)).run P w = .ok () w := by
  unfold eqGuard
  by_cases h : (!(op matches .eql | .neq)) = true <;> simp [h]
theorem eqGuard_string {op : BinOp} {b c : ByteArray} (w : World) : (eqGuard op t x y (.string b) (.string c)).run P w = .ok () w := by
  unfold eqGuard
  by_cases h : (!(op matches .eql | .neq)) = true <;> simp [h]
theorem run_equal_bool {b c : Bool} (w : World) (ht : P.underlying t = some .bool) : (Op.equal t (.bool b) (.bool c)).run P w = .ok (b == c) w := by
  exact run_equalIn_bool w 9999 t b c ht
theorem op_eqB {b c : Bool} (s : NxF P n l E L Ls ⟨some d, .binOp .eql t x y t', ty, pos, aft, g⟩ X Y) (ht : P.underlying t = some .bool) (hx : ev l x = some (.bool b)) (hy : ev l y = some (.bool c)) (hn : Nat.ble (d + 1) n = true) (h : At n ((d, .bool (b == c)) :: l) E L Y) : At n l E L X :=
  op_bin s hx hy (fun w => eqGuard_bool w) (fun w => by simp [binOp, run_equal_bool w ht]) hn h
theorem op_neB {b c : Bool} (s : NxF P n l E L Ls ⟨some d, .binOp .neq t x y t', ty, pos, aft, g⟩ X Y) (ht : P.underlying t = some .bool) (hx : ev l x = some (.bool b)) (hy : ev l y = some (.bool c)) (hn : Nat.ble (d + 1) n = true) (h : At n ((d, .bool (b != c)) :: l) E L Y) : At n l E L X :=
  op_bin s hx hy (fun w => eqGuard_bool w) (fun w => by simp [binOp, run_equal_bool w ht, bne]) hn h
theorem op_eqS {a b : List UInt8} (s : NxF P n l E L Ls ⟨some d, .binOp .eql t x y t', ty, pos, aft, g⟩ X Y) (hx : ev l x = some (str a)) (hy : ev l y = some (str b)) (hn : Nat.ble (d + 1) n = true) (h : At n ((d, .bool (decide (a = b))) :: l) E L Y) : At n l E L X :=
  op_bin s hx hy (fun w => eqGuard_string w) (fun w => by
    simp only [str, binOp, Op.stringOp, ByteArray.toList_eq, Sem.run_pure, show (a == b) = decide (a = b) from by rw [Bool.eq_iff_iff]; simp]) hn h
theorem op_neS {a b : List UInt8} (s : NxF P n l E L Ls ⟨some d, .binOp .neq t x y t', ty, pos, aft, g⟩ X Y) (hx : ev l x = some (str a)) (hy : ev l y = some (str b)) (hn : Nat.ble (d + 1) n = true) (h : At n ((d, .bool (decide (a ≠ b))) :: l) E L Y) : At n l E L X :=
  op_bin s hx hy (fun w => eqGuard_string w) (fun w => by
    simp only [str, binOp, Op.stringOp, ByteArray.toList_eq, Sem.run_pure, decide_not, show (a == b) = decide (a = b) from by rw [Bool.eq_iff_iff]; simp]) hn h
end
end Go.Proofs.YtdplcfineaikjaaDoor
