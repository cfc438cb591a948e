/- Several texts in one: see the remarks ahead of each part. No condition but those told there. -/
import Derived.Test.YtbmlhdecnfplaaaK4
import Derived.Maps.AppendAt
/- The engine, part 3: unsigned numbers, conversions. For whatever program. No condition. -/
namespace Go.Proofs.Ytbmlhdecnfplaaa
set_option linter.unusedVariables false
set_option linter.unusedSimpArgs false
open Go Go.RowKit
def shl64 (x : UInt64) (n : Nat) : UInt64 := UInt64.ofNat (x.toNat * 2 ^ n)
def shr64 (x : UInt64) (n : Nat) : UInt64 := UInt64.ofNat (x.toNat / 2 ^ n)
def shl32 (x : UInt32) (n : Nat) : UInt32 := UInt32.ofNat (x.toNat * 2 ^ n)
def shr32 (x : UInt32) (n : Nat) : UInt32 := UInt32.ofNat (x.toNat / 2 ^ n)
def shl8 (x : UInt8) (n : Nat) : UInt8 := UInt8.ofNat (x.toNat * 2 ^ n)
def shr8 (x : UInt8) (n : Nat) : UInt8 := UInt8.ofNat (x.toNat / 2 ^ n)
theorem cast_pow (n : Nat) : ((2 ^ n : Nat) : Int) = (2 : Int) ^ n := by simp
theorem mulpow_mod (x n B : Nat) : x * 2 ^ (min n B) % 2 ^ B = x * 2 ^ n % 2 ^ B := by
  by_cases h : n ≤ B
  · rw [Nat.min_eq_left h]
  · rw [Nat.min_eq_right (by omega)]
    obtain ⟨d, rfl⟩ : ∃ d, n = B + d := ⟨n - B, by omega⟩
    rw [Nat.pow_add, Nat.mul_mod_left, show x * (2 ^ B * 2 ^ d) = x * 2 ^ d * 2 ^ B from by rw [Nat.mul_comm (2 ^ B), Nat.mul_assoc], Nat.mul_mod_left]
theorem divpow_min (x n B : Nat) (hx : x < 2 ^ B) : x / 2 ^ (min n B) = x / 2 ^ n := by
  by_cases h : n ≤ B
  · rw [Nat.min_eq_left h]
  · rw [Nat.min_eq_right (by omega), Nat.div_eq_of_lt hx, Nat.div_eq_of_lt (Nat.lt_of_lt_of_le hx (Nat.pow_le_pow_right (by decide) (by omega)))]
theorem wrapU64 (m : Int) : IntKind.u64.wrap m = m % 18446744073709551616 := by
  unfold IntKind.wrap; simp [IntKind.bits, IntKind.signed]
theorem wrapU32 (m : Int) : IntKind.u32.wrap m = m % 4294967296 := by
  unfold IntKind.wrap; simp [IntKind.bits, IntKind.signed]
theorem wrapU8 (m : Int) : IntKind.u8.wrap m = m % 256 := by
  unfold IntKind.wrap; simp [IntKind.bits, IntKind.signed]
section
variable {P : Program} {n : Nat} {l : List (Nat × Value)} {E : World} {L Ls : List Heaplet} {o : Oper} {X Y : Act → World → Prop}
variable {d : Nat} {ty t t' : TypeId} {pos : String} {aft : Array Edge} {g : Option (Nat × Bool)} {v : Value} {x y z : Operand} {k : IntKind} {p q : Int}
section
variable {a b : UInt64}
theorem op_addU (s : NxF P n l E L Ls ⟨some d, .binOp .add t x y t', ty, pos, aft, g⟩ X Y) (hx : ev l x = some (.int .u64 (a.toNat : Int))) (hy : ev l y = some (.int .u64 (b.toNat : Int))) (hn : Nat.ble (d + 1) n = true) (h : At n ((d, .int .u64 ((a + b).toNat : Int)) :: l) E L Y) : At n l E L X :=
  op_addW s hx hy hn (by rw [wrapU64, show ((a.toNat : Int) + b.toNat) % 18446744073709551616 = ((a + b).toNat : Int) from by rw [UInt64.toNat_add]; omega]; exact h)
theorem op_subU (s : NxF P n l E L Ls ⟨some d, .binOp .sub t x y t', ty, pos, aft, g⟩ X Y) (hx : ev l x = some (.int .u64 (a.toNat : Int))) (hy : ev l y = some (.int .u64 (b.toNat : Int))) (hn : Nat.ble (d + 1) n = true) (h : At n ((d, .int .u64 ((a - b).toNat : Int)) :: l) E L Y) : At n l E L X :=
  op_subW s hx hy hn (by rw [wrapU64, show ((a.toNat : Int) - b.toNat) % 18446744073709551616 = ((a - b).toNat : Int) from by rw [UInt64.toNat_sub]; have := a.toNat_lt; have := b.toNat_lt; omega]; exact h)
theorem op_mulU (s : NxF P n l E L Ls ⟨some d, .binOp .mul t x y t', ty, pos, aft, g⟩ X Y) (hx : ev l x = some (.int .u64 (a.toNat : Int))) (hy : ev l y = some (.int .u64 (b.toNat : Int))) (hn : Nat.ble (d + 1) n = true) (h : At n ((d, .int .u64 ((a * b).toNat : Int)) :: l) E L Y) : At n l E L X :=
  op_mulW s hx hy hn (by rw [wrapU64, show ((a.toNat : Int) * b.toNat) % 18446744073709551616 = ((a * b).toNat : Int) from by rw [UInt64.toNat_mul]; simp]; exact h)
theorem op_andU (s : NxF P n l E L Ls ⟨some d, .binOp .and t x y t', ty, pos, aft, g⟩ X Y) (hx : ev l x = some (.int .u64 (a.toNat : Int))) (hy : ev l y = some (.int .u64 (b.toNat : Int))) (hn : Nat.ble (d + 1) n = true) (h : At n ((d, .int .u64 ((a &&& b).toNat : Int)) :: l) E L Y) : At n l E L X :=
  op_bits (.inl rfl) s hx hy hn (by rw [bits_and_u64]; exact h)
theorem op_orU (s : NxF P n l E L Ls ⟨some d, .binOp .or t x y t', ty, pos, aft, g⟩ X Y) (hx : ev l x = some (.int .u64 (a.toNat : Int))) (hy : ev l y = some (.int .u64 (b.toNat : Int))) (hn : Nat.ble (d + 1) n = true) (h : At n ((d, .int .u64 ((a ||| b).toNat : Int)) :: l) E L Y) : At n l E L X :=
  op_bits (.inr (.inl rfl)) s hx hy hn (by rw [bits_or_u64]; exact h)
theorem op_xorU (s : NxF P n l E L Ls ⟨some d, .binOp .xor t x y t', ty, pos, aft, g⟩ X Y) (hx : ev l x = some (.int .u64 (a.toNat : Int))) (hy : ev l y = some (.int .u64 (b.toNat : Int))) (hn : Nat.ble (d + 1) n = true) (h : At n ((d, .int .u64 ((a ^^^ b).toNat : Int)) :: l) E L Y) : At n l E L X :=
  op_bits (.inr (.inr (.inl rfl))) s hx hy hn (by rw [bits_xor_u64]; exact h)
theorem op_shlU {k' : IntKind} {m : Nat} (s : NxF P n l E L Ls ⟨some d, .binOp .shl t x y t', ty, pos, aft, g⟩ X Y) (hx : ev l x = some (.int .u64 (a.toNat : Int))) (hy : ev l y = some (.int k' q)) (hm : q = (m : Int)) (hn : Nat.ble (d + 1) n = true) (h : At n ((d, .int .u64 ((shl64 a m).toNat : Int)) :: l) E L Y) : At n l E L X :=
  op_shlW s hx hy (by omega) hn (by
    subst hm
    rw [wrapU64, show ((a.toNat : Int) * 2 ^ (min ((m : Int).toNat) IntKind.u64.bits)) % 18446744073709551616 = ((shl64 a m).toNat : Int) from by
      rw [shl64, UInt64.toNat_ofNat', Int.toNat_natCast, ← mulpow_mod a.toNat m 64, ← cast_pow]; simp [IntKind.bits]]
    exact h)
theorem op_shrU {k' : IntKind} {m : Nat} (s : NxF P n l E L Ls ⟨some d, .binOp .shr t x y t', ty, pos, aft, g⟩ X Y) (hx : ev l x = some (.int .u64 (a.toNat : Int))) (hy : ev l y = some (.int k' q)) (hm : q = (m : Int)) (hn : Nat.ble (d + 1) n = true) (h : At n ((d, .int .u64 ((shr64 a m).toNat : Int)) :: l) E L Y) : At n l E L X :=
  op_shrW s hx hy (by omega) (by omega) hn (by
    subst hm
    rw [show ((a.toNat : Int) / 2 ^ (min ((m : Int).toNat) IntKind.u64.bits)) = ((shr64 a m).toNat : Int) from by
      rw [shr64, UInt64.toNat_ofNat', Int.toNat_natCast, ← divpow_min a.toNat m 64 a.toNat_lt, ← cast_pow, Nat.mod_eq_of_lt (Nat.lt_of_le_of_lt (Nat.div_le_self _ _) a.toNat_lt)]; rfl]
    exact h)
end
section
variable {a b : UInt32}
theorem op_addU32 (s : NxF P n l E L Ls ⟨some d, .binOp .add t x y t', ty, pos, aft, g⟩ X Y) (hx : ev l x = some (.int .u32 (a.toNat : Int))) (hy : ev l y = some (.int .u32 (b.toNat : Int))) (hn : Nat.ble (d + 1) n = true) (h : At n ((d, .int .u32 ((a + b).toNat : Int)) :: l) E L Y) : At n l E L X :=
  op_addW s hx hy hn (by rw [wrapU32, show ((a.toNat : Int) + b.toNat) % 4294967296 = ((a + b).toNat : Int) from by rw [UInt32.toNat_add]; omega]; exact h)
theorem op_orU32 (s : NxF P n l E L Ls ⟨some d, .binOp .or t x y t', ty, pos, aft, g⟩ X Y) (hx : ev l x = some (.int .u32 (a.toNat : Int))) (hy : ev l y = some (.int .u32 (b.toNat : Int))) (hn : Nat.ble (d + 1) n = true) (h : At n ((d, .int .u32 ((a ||| b).toNat : Int)) :: l) E L Y) : At n l E L X :=
  op_bits (.inr (.inl rfl)) s hx hy hn (by rw [bits_or_u32]; exact h)
theorem op_andU32 (s : NxF P n l E L Ls ⟨some d, .binOp .and t x y t', ty, pos, aft, g⟩ X Y) (hx : ev l x = some (.int .u32 (a.toNat : Int))) (hy : ev l y = some (.int .u32 (b.toNat : Int))) (hn : Nat.ble (d + 1) n = true) (h : At n ((d, .int .u32 ((a &&& b).toNat : Int)) :: l) E L Y) : At n l E L X :=
  op_bits (.inl rfl) s hx hy hn (by rw [bits_and_u32]; exact h)
theorem op_shlU32 {k' : IntKind} {m : Nat} (s : NxF P n l E L Ls ⟨some d, .binOp .shl t x y t', ty, pos, aft, g⟩ X Y) (hx : ev l x = some (.int .u32 (a.toNat : Int))) (hy : ev l y = some (.int k' q)) (hm : q = (m : Int)) (hn : Nat.ble (d + 1) n = true) (h : At n ((d, .int .u32 ((shl32 a m).toNat : Int)) :: l) E L Y) : At n l E L X :=
  op_shlW s hx hy (by omega) hn (by
    subst hm
    rw [wrapU32, show ((a.toNat : Int) * 2 ^ (min ((m : Int).toNat) IntKind.u32.bits)) % 4294967296 = ((shl32 a m).toNat : Int) from by
      rw [shl32, UInt32.toNat_ofNat', Int.toNat_natCast, ← mulpow_mod a.toNat m 32, ← cast_pow]; simp [IntKind.bits]]
    exact h)
theorem op_shrU32 {k' : IntKind} {m : Nat} (s : NxF P n l E L Ls ⟨some d, .binOp .shr t x y t', ty, pos, aft, g⟩ X Y) (hx : ev l x = some (.int .u32 (a.toNat : Int))) (hy : ev l y = some (.int k' q)) (hm : q = (m : Int)) (hn : Nat.ble (d + 1) n = true) (h : At n ((d, .int .u32 ((shr32 a m).toNat : Int)) :: l) E L Y) : At n l E L X :=
  op_shrW s hx hy (by omega) (by omega) hn (by
    subst hm
    rw [show ((a.toNat : Int) / 2 ^ (min ((m : Int).toNat) IntKind.u32.bits)) = ((shr32 a m).toNat : Int) from by
      rw [shr32, UInt32.toNat_ofNat', Int.toNat_natCast, ← divpow_min a.toNat m 32 a.toNat_lt, ← cast_pow, Nat.mod_eq_of_lt (Nat.lt_of_le_of_lt (Nat.div_le_self _ _) a.toNat_lt)]; rfl]
    exact h)
end
/-! conversions -/
theorem op_convW {kt : IntKind} (s : NxF P n l E L Ls ⟨some d, .convert t t' x, ty, pos, aft, g⟩ X Y) (ht0 : (P.underlying t).isSome = true) (ht : P.underlying t' = some (.int kt)) (hx : ev l x = some (.int k p)) (hn : Nat.ble (d + 1) n = true) (h : At n ((d, .int kt (kt.wrap p)) :: l) E L Y) : At n l E L X :=
  op_val s (fun a w hf _ => by
    obtain ⟨d0, hd0⟩ := Option.isSome_iff_exists.1 ht0
    simp only [execOp, hf.eval hx, convert, Sem.run_bind, run_underlying hd0, run_underlying ht, Result.andThen_ok]
    simp [Conv.intToInt]) rfl hn h
theorem op_convI (s : NxF P n l E L Ls ⟨some d, .convert t t' x, ty, pos, aft, g⟩ X Y) (ht0 : (P.underlying t).isSome = true) (ht : P.underlying t' = some (.int .i64)) (hx : ev l x = some (.int k p)) (h1 : -9223372036854775808 ≤ p) (h2 : p ≤ 9223372036854775807) (hn : Nat.ble (d + 1) n = true) (h : At n ((d, .int .i64 p) :: l) E L Y) : At n l E L X :=
  op_convW s ht0 ht hx hn (by rw [wrap_i64 h1 h2]; exact h)
theorem op_conv64 {m : Nat} (s : NxF P n l E L Ls ⟨some d, .convert t t' x, ty, pos, aft, g⟩ X Y) (ht0 : (P.underlying t).isSome = true) (ht : P.underlying t' = some (.int .u64)) (hx : ev l x = some (.int k p)) (hm : p = (m : Int)) (hn : Nat.ble (d + 1) n = true) (h : At n ((d, .int .u64 ((UInt64.ofNat m).toNat : Int)) :: l) E L Y) : At n l E L X :=
  op_convW s ht0 ht hx hn (by rw [hm, wrap_u64_nat]; exact h)
theorem op_conv32 {m : Nat} (s : NxF P n l E L Ls ⟨some d, .convert t t' x, ty, pos, aft, g⟩ X Y) (ht0 : (P.underlying t).isSome = true) (ht : P.underlying t' = some (.int .u32)) (hx : ev l x = some (.int k p)) (hm : p = (m : Int)) (hn : Nat.ble (d + 1) n = true) (h : At n ((d, .int .u32 ((UInt32.ofNat m).toNat : Int)) :: l) E L Y) : At n l E L X :=
  op_convW s ht0 ht hx hn (by rw [hm, wrap_u32_nat]; exact h)
theorem op_conv8 {m : Nat} (s : NxF P n l E L Ls ⟨some d, .convert t t' x, ty, pos, aft, g⟩ X Y) (ht0 : (P.underlying t).isSome = true) (ht : P.underlying t' = some (.int .u8)) (hx : ev l x = some (.int k p)) (hm : p = (m : Int)) (hn : Nat.ble (d + 1) n = true) (h : At n ((d, .int .u8 ((UInt8.ofNat m).toNat : Int)) :: l) E L Y) : At n l E L X :=
  op_convW s ht0 ht hx hn (by rw [hm, wrap_u8_nat]; exact h)
/-! tuples, bools, strings -/
theorem op_extract {vs : List Value} {i : Nat} (s : NxF P n l E L Ls ⟨some d, .extract x i, ty, pos, aft, g⟩ X Y) (hx : ev l x = some (.tuple vs.toArray)) (hv : vs[i]? = some v) (hn : Nat.ble (d + 1) n = true) (h : At n ((d, v) :: l) E L Y) : At n l E L X :=
  op_val s (fun a w hf _ => by simp [execOp, hf.eval hx, Instr.extract, hv]) rfl hn h
theorem eqGuard_bool {op : BinOp} {b c : Bool} (w : World) : (eqGuard op t x y (.bool b) (.bool c)).run P w = .ok () w := by
  unfold eqGuard
  by_cases h : (!(op matches .eql | .neq)) = true <;> simp [h]
theorem eqGuard_string {op : BinOp} {b c : ByteArray} (w : World) : (eqGuard op t x y (.string b) (.string c)).run P w = .ok () w := by
  unfold eqGuard
  by_cases h : (!(op matches .eql | .neq)) = true <;> simp [h]
theorem run_equal_bool {b c : Bool} (w : World) (ht : P.underlying t = some .bool) : (Op.equal t (.bool b) (.bool c)).run P w = .ok (b == c) w := by
  exact run_equalIn_bool w 9999 t b c ht
theorem op_eqB {b c : Bool} (s : NxF P n l E L Ls ⟨some d, .binOp .eql t x y t', ty, pos, aft, g⟩ X Y) (ht : P.underlying t = some .bool) (hx : ev l x = some (.bool b)) (hy : ev l y = some (.bool c)) (hn : Nat.ble (d + 1) n = true) (h : At n ((d, .bool (b == c)) :: l) E L Y) : At n l E L X :=
  op_bin s hx hy (fun w => eqGuard_bool w) (fun w => by simp [binOp, run_equal_bool w ht]) hn h
theorem op_neB {b c : Bool} (s : NxF P n l E L Ls ⟨some d, .binOp .neq t x y t', ty, pos, aft, g⟩ X Y) (ht : P.underlying t = some .bool) (hx : ev l x = some (.bool b)) (hy : ev l y = some (.bool c)) (hn : Nat.ble (d + 1) n = true) (h : At n ((d, .bool (b != c)) :: l) E L Y) : At n l E L X :=
  op_bin s hx hy (fun w => eqGuard_bool w) (fun w => by simp [binOp, run_equal_bool w ht, bne]) hn h
theorem op_eqS {a b : List UInt8} (s : NxF P n l E L Ls ⟨some d, .binOp .eql t x y t', ty, pos, aft, g⟩ X Y) (hx : ev l x = some (str a)) (hy : ev l y = some (str b)) (hn : Nat.ble (d + 1) n = true) (h : At n ((d, .bool (decide (a = b))) :: l) E L Y) : At n l E L X :=
  op_bin s hx hy (fun w => eqGuard_string w) (fun w => by
    simp only [str, binOp, Op.stringOp, ByteArray.toList_eq, Sem.run_pure, show (a == b) = decide (a = b) from by rw [Bool.eq_iff_iff]; simp]) hn h
theorem op_neS {a b : List UInt8} (s : NxF P n l E L Ls ⟨some d, .binOp .neq t x y t', ty, pos, aft, g⟩ X Y) (hx : ev l x = some (str a)) (hy : ev l y = some (str b)) (hn : Nat.ble (d + 1) n = true) (h : At n ((d, .bool (decide (a ≠ b))) :: l) E L Y) : At n l E L X :=
  op_bin s hx hy (fun w => eqGuard_string w) (fun w => by
    simp only [str, binOp, Op.stringOp, ByteArray.toList_eq, Sem.run_pure, decide_not, show (a == b) = decide (a = b) from by rw [Bool.eq_iff_iff]; simp]) hn h
end
end Go.Proofs.Ytbmlhdecnfplaaa
/- The engine, part 4: memory. For whatever program. No condition. -/
namespace Go.Proofs.Ytbmlhdecnfplaaa
set_option linter.unusedVariables false
set_option linter.unusedSimpArgs false
open Go Go.RowKit

/-- In N the cells of block b from off on are cs. -/
def Rng (N : Heaplet) (b off : Nat) (cs : List Value) : Prop := ∀ i (h : i < cs.length), cellOf N b (off + i) = some cs[i]
/-- The slice reads as xs. -/
def RSl (N : Heaplet) (size : Nat) (ao : Option Addr) (n cap : Nat) (xs : List Value) : Prop :=
  xs.length = n * size ∧ n ≤ cap ∧ cap ≤ maxLen ∧ (0 < n → ∃ b off, ao = some ⟨b, off, none⟩ ∧ Rng N b off xs)
/-- The slice owns its block, or is nil. -/
def Row (N : Heaplet) (e : TypeId) (size : Nat) (ao : Option Addr) (n cap : Nat) (xs : List Value) : Prop :=
  xs.length = n * size ∧ n ≤ cap ∧ cap ≤ maxLen ∧ ((ao = none ∧ n = 0 ∧ cap = 0) ∨
    ∃ b cur, ao = some ⟨b, 0, none⟩ ∧ N b = some (.cells cur e (0, 0)) ∧ cur.size = cap * size ∧ cur.toList.take (n * size) = xs)
/-- The block holds just these cells. -/
def Blk (N : Heaplet) (b : Nat) (e : TypeId) (cs : List Value) : Prop := N b = some (.cells cs.toArray e (0, 0))
theorem Rng.le {N M : Heaplet} (hl : N.le M) {b off : Nat} {cs : List Value} (h : Rng N b off cs) : Rng M b off cs := fun i hi => cellOf_le hl (h i hi)
theorem RSl.le {N M : Heaplet} (hl : N.le M) {size : Nat} {ao : Option Addr} {n cap : Nat} {xs : List Value} (h : RSl N size ao n cap xs) : RSl M size ao n cap xs :=
  ⟨h.1, h.2.1, h.2.2.1, fun h0 => let ⟨b, off, e, hr⟩ := h.2.2.2 h0; ⟨b, off, e, hr.le hl⟩⟩
theorem Blk.le {N M : Heaplet} (hl : N.le M) {b : Nat} {e : TypeId} {cs : List Value} (h : Blk N b e cs) : Blk M b e cs := hl _ _ h
theorem Blk.rng {N : Heaplet} {b : Nat} {e : TypeId} {cs : List Value} (h : Blk N b e cs) : Rng N b 0 cs := fun i hi => by
  unfold cellOf; rw [h]; simp [hi]
theorem Row.rsl {N : Heaplet} {e : TypeId} {size : Nat} {ao : Option Addr} {n cap : Nat} {xs : List Value} (h : Row N e size ao n cap xs) : RSl N size ao n cap xs := by
  obtain ⟨h1, h2, h3, h4⟩ := h
  refine ⟨h1, h2, h3, fun h0 => ?_⟩
  rcases h4 with ⟨_, h5, _⟩ | ⟨b, cur, rfl, hN, hs, ht⟩
  · omega
  · refine ⟨b, 0, rfl, fun i hi => ?_⟩
    unfold cellOf
    rw [hN]
    simp only [Nat.zero_add]
    have : (cur.toList.take (n * size))[i]? = some xs[i] := by rw [ht]; exact List.getElem?_eq_getElem hi
    rw [List.getElem?_take] at this
    split at this
    · simpa using this
    · cases this
theorem RSl.nil (N : Heaplet) (size : Nat) : RSl N size none 0 0 [] := ⟨by simp, Nat.le_refl _, by unfold maxLen; omega, fun h => absurd h (by omega)⟩
theorem Row.nil (N : Heaplet) (e : TypeId) (size : Nat) : Row N e size none 0 0 [] := ⟨by simp, Nat.le_refl _, by unfold maxLen; omega, .inl ⟨rfl, rfl, rfl⟩⟩
theorem RSl.sl {N : Heaplet} {w : World} (hN : N.le (whole w)) {size : Nat} {ao : Option Addr} {n cap : Nat} {xs : List Value} (h : RSl N size ao n cap xs) : Sl w size ao n cap xs := by
  refine ⟨h.1, h.2.1, h.2.2.1, fun h0 => ?_⟩
  obtain ⟨b, off, e, hr⟩ := h.2.2.2 h0
  refine ⟨b, off, e, fun i hi => ?_⟩
  have h1 := cellOf_le hN (hr i hi)
  unfold cellOf whole at h1
  unfold World.cell?
  split at h1
  · rename_i e; rw [e]; simpa using h1
  · cases h1
theorem sl_rsl {w : World} {size : Nat} {ao : Option Addr} {n cap : Nat} {xs : List Value} (h : Sl w size ao n cap xs) : RSl (whole w) size ao n cap xs := by
  refine ⟨h.1, h.2.1, h.2.2.1, fun h0 => ?_⟩
  obtain ⟨b, off, e, hr⟩ := h.2.2.2 h0
  refine ⟨b, off, e, fun i hi => ?_⟩
  have h1 := hr i hi
  unfold World.cell? at h1
  unfold cellOf whole
  split at h1
  · rename_i e; rw [e]; simpa using h1
  · cases h1
/-- The address of a slice's element. -/
def eptr (ao : Option Addr) (j : Nat) : Value := .pointer (ao.map fun a => ⟨a.block, a.off + j, none⟩)
/-- Where a part of a slice begins: at the whole room's end the old address stays. -/
def sadr (ao : Option Addr) (lo m size : Nat) : Option Addr := if m = lo then ao else ao.map (·.add (lo * size))
theorem RSl.part {N : Heaplet} {size : Nat} {ao : Option Addr} {n cap : Nat} {xs : List Value} (h : RSl N size ao n cap xs) {lo hi m : Nat} (h1 : lo ≤ hi) (h2 : hi ≤ m) (h3 : m ≤ cap) (h4 : hi ≤ n) :
    RSl N size (sadr ao lo m size) (hi - lo) (m - lo) ((xs.drop (lo * size)).take ((hi - lo) * size)) := by
  obtain ⟨a1, a2, a3, a4⟩ := h
  refine ⟨?_, by omega, by omega, fun h0 => ?_⟩
  · rw [List.length_take, List.length_drop, a1, ← Nat.sub_mul, Nat.min_eq_left (Nat.mul_le_mul_right _ (by omega))]
  · obtain ⟨b, off, rfl, hr⟩ := a4 (by omega)
    have hne : ¬ m = lo := by omega
    refine ⟨b, off + lo * size, ?_, fun i hi' => ?_⟩
    · unfold sadr Addr.add
      rw [if_neg hne]
      simp only [Option.map_some, Option.some.injEq]
      split
      · rename_i hz; simp [hz]
      · rfl
    · have hlt : lo * size + i < xs.length := by rw [List.length_take, List.length_drop] at hi'; omega
      have := hr (lo * size + i) hlt
      rw [show off + lo * size + i = off + (lo * size + i) from by omega, this]
      simp [List.getElem_take, List.getElem_drop]
theorem RSl.get {N : Heaplet} {size : Nat} {ao : Option Addr} {n cap : Nat} {xs : List Value} (h : RSl N size ao n cap xs) {j : Nat} {v : Value} (hj : xs[j]? = some v) : ∃ b off, ao = some ⟨b, off, none⟩ ∧ cellOf N b (off + j) = some v := by
  obtain ⟨a1, a2, a3, a4⟩ := h
  obtain ⟨hlt, rfl⟩ := List.getElem?_eq_some_iff.1 hj
  have hn : 0 < n := by
    rcases Nat.eq_zero_or_pos n with h0 | h0
    · rw [h0, Nat.zero_mul] at a1; omega
    · exact h0
  obtain ⟨b, off, e, hr⟩ := a4 hn
  exact ⟨b, off, e, hr j hlt⟩
theorem RSl.len {N : Heaplet} {ao : Option Addr} {n cap : Nat} {xs : List Value} (h : RSl N 1 ao n cap xs) : xs.length = n := by have := h.1; omega
def scal (P : Program) (t : TypeId) : Bool := match P.underlying t with
  | some (.struct _) | some (.array _ _) | none => false
  | _ => true
def aggOf (P : Program) (t : TypeId) : Option Nat := match P.underlying t with
  | some (.struct _) | some (.array _ _) => (P.info? t).map (·.size)
  | _ => none
section
variable {P : Program} {w : World}
theorem run_isAgg_scal {t : TypeId} (h : scal P t = true) : (isAgg t).run P w = .ok false w := by
  unfold scal at h
  cases hu : P.underlying t with
  | none => rw [hu] at h; cases h
  | some d =>
    simp only [isAgg, Sem.run_bind, run_underlying hu, Result.andThen_ok]
    rw [hu] at h
    cases d <;> first | rfl | cases h
theorem run_isAgg_agg {t : TypeId} {k : Nat} (h : aggOf P t = some k) : (isAgg t).run P w = .ok true w ∧ (sizeOf t).run P w = .ok k w := by
  unfold aggOf at h
  cases hu : P.underlying t with
  | none => rw [hu] at h; cases h
  | some d =>
    simp only [isAgg, Sem.run_bind, run_underlying hu, Result.andThen_ok]
    rw [hu] at h
    cases d <;> first | (cases h; done) | skip
    all_goals
      simp only [Option.map_eq_some_iff] at h
      obtain ⟨i, hi, rfl⟩ := h
      exact ⟨rfl, by simp [sizeOf, typeInfo, hi]⟩
theorem run_load_scal {t : TypeId} (h : scal P t = true) {b off : Nat} {v : Value} (hc : w.cell? ⟨b, off, none⟩ = some v) : (loadVar t ⟨b, off, none⟩).run P w = .ok v w := by
  unfold loadVar
  rw [Sem.run_bind, run_isAgg_scal h]
  simp only [Result.andThen_ok, Bool.false_eq_true, if_false]
  simp [load, Sem.run, hc]
theorem addr_add (b off i : Nat) : (⟨b, off, none⟩ : Addr).add i = ⟨b, off + i, none⟩ := by
  unfold Addr.add
  split
  · rename_i h; subst h; rfl
  · rfl
theorem run_load_agg {t : TypeId} {k : Nat} (h : aggOf P t = some k) {b off : Nat} {cs : List Value} (hk : cs.length = k) (hc : ∀ i (h : i < cs.length), w.cell? ⟨b, off + i, none⟩ = some cs[i]) : (loadVar t ⟨b, off, none⟩).run P w = .ok (.agg cs.toArray) w := by
  unfold loadVar
  obtain ⟨h1, h2⟩ := run_isAgg_agg (w := w) h
  rw [Sem.run_bind, h1]
  simp only [Result.andThen_ok, if_true]
  rw [Sem.run_bind, h2]
  simp only [Result.andThen_ok]
  rw [Sem.run_bind, ← hk, run_loadCells_list w ⟨b, off, none⟩ cs (fun j u hu => ?_)]
  · rfl
  · obtain ⟨hj, rfl⟩ := List.getElem?_eq_some_iff.1 hu
    rw [addr_add]; exact hc j hj
end
/-- Cells put over cells. -/
def setL (cs : List Value) (off : Nat) : List Value → List Value
  | [] => cs
  | v :: t => setL (cs.set off v) (off + 1) t
theorem length_setL (vs : List Value) : ∀ (cs : List Value) (off : Nat), (setL cs off vs).length = cs.length := by
  induction vs with
  | nil => intro cs off; rfl
  | cons v t ih => intro cs off; rw [setL, ih, List.length_set]
theorem run_storeCells {P : Program} (vs : List Value) : ∀ (w : World) (b off i : Nat) (cs : List Value) (e : TypeId), w.heap[b]? = some (.cells cs.toArray e (0, 0)) → (∀ v ∈ vs, v.oneCell' = true) → off + i + vs.length ≤ cs.length →
    ∃ w', (storeCells ⟨b, off, none⟩ vs i).run P w = .ok () w' ∧ w'.os = w.os ∧ w'.tape = w.tape ∧ w'.output = w.output ∧ w'.heap[b]? = some (.cells (setL cs (off + i) vs).toArray e (0, 0)) ∧ ∀ k, k ≠ b → w'.heap[k]? = w.heap[k]? := by
  induction vs with
  | nil => intro w b off i cs e hb _ _; exact ⟨w, rfl, rfl, rfl, rfl, hb, fun _ _ => rfl⟩
  | cons v t ih =>
    intro w b off i cs e hb h1 hlen
    simp only [List.length_cons] at hlen
    have hcell : w.cell? ⟨b, off + i, none⟩ = some cs[off + i] := by
      unfold World.cell?
      rw [hb]
      simp
    have hfr : w.frozen? ⟨b, off + i, none⟩ = false := by
      unfold World.frozen?
      rw [hb]
      simp
    have hb' : (w.setCell ⟨b, off + i, none⟩ v).heap[b]? = some (.cells (cs.set (off + i) v).toArray e (0, 0)) := by
      unfold World.setCell
      simp only [Array.getElem?_modify, if_true, hb]
      simp
    obtain ⟨w', hr, h2, h3, h4, h5, h6⟩ := ih (w.setCell ⟨b, off + i, none⟩ v) b off (i + 1) (cs.set (off + i) v) e hb' (fun u hu => h1 u (List.mem_cons_of_mem _ hu)) (by simp; omega)
    refine ⟨w', ?_, h2, h3, h4, by simpa [setL, Nat.add_assoc] using h5, fun k hk => ?_⟩
    · unfold storeCells
      rw [Sem.run_bind, addr_add]
      have hst : (store ⟨b, off + i, none⟩ v).run P w = .ok () (w.setCell ⟨b, off + i, none⟩ v) := by
        have := h1 v (List.mem_cons_self ..)
        cases v <;> first | (cases this; done) | simp [store, Sem.run, hcell, hfr]
      rw [hst]
      exact hr
    · rw [h6 k hk]
      unfold World.setCell
      simp only [Array.getElem?_modify, if_neg (Ne.symm hk)]
end Go.Proofs.Ytbmlhdecnfplaaa
/- The engine, part 5: operations on memory. For whatever program. No condition. -/
namespace Go.Proofs.Ytbmlhdecnfplaaa
set_option linter.unusedVariables false
set_option linter.unusedSimpArgs false
open Go Go.RowKit
/-! What a type's row says. -/
def selt (P : Program) (t : TypeId) : Option (TypeId × Nat) := match P.underlying t with
  | some (.slice e) => (P.info? e).map fun i => (e, i.size)
  | _ => none
def aelt (P : Program) (t : TypeId) : Option (Nat × TypeId × Nat) := match P.underlying t with
  | some (.array k e) => (P.info? e).map fun i => (k, e, i.size)
  | _ => none
def fld (P : Program) (s : TypeId) (f : Nat) : Option Nat := match P.underlying s with
  | some (.struct fs) => match fs[f]? with
    | some g => match P.info? g.type with
      | some i => if i.size = 0 then none else some g.offset
      | none => none
    | none => none
  | _ => none
def zer (P : Program) (t : TypeId) : Option Value := (P.info? t).bind (·.zero)
def siz (P : Program) (t : TypeId) : Option Nat := (P.info? t).map (·.size)
def places (P : Program) (t : TypeId) : Option (List (Nat × Nat)) := match P.underlying t with
  | some (.struct fs) => fs.toList.mapM fun f => (siz P f.type).map fun s => (f.offset, s)
  | _ => none
/-- The element type's row. -/
def ElemOK (P : Program) (t e : TypeId) (z : Value) (size bytes : Nat) : Prop := P.underlying t = some (.slice e) ∧ ElemInfo P e z size bytes

theorem selt_spec {P : Program} {t e : TypeId} {s : Nat} (h : selt P t = some (e, s)) : P.underlying t = some (.slice e) ∧ ∃ i, P.info? e = some i ∧ i.size = s := by
  unfold selt at h
  split at h
  · rename_i e' hu
    simp only [Option.map_eq_some_iff, Prod.mk.injEq] at h
    obtain ⟨i, hi, rfl, rfl⟩ := h
    exact ⟨hu, i, hi, rfl⟩
  · cases h
theorem aelt_spec {P : Program} {t e : TypeId} {k s : Nat} (h : aelt P t = some (k, e, s)) : P.underlying t = some (.array k e) ∧ ∃ i, P.info? e = some i ∧ i.size = s := by
  unfold aelt at h
  split at h
  · rename_i k' e' hu
    simp only [Option.map_eq_some_iff, Prod.mk.injEq] at h
    obtain ⟨i, hi, rfl, rfl, rfl⟩ := h
    exact ⟨hu, i, hi, rfl⟩
  · cases h
theorem run_sizeOf {P : Program} {t : TypeId} {i : TypeInfo} (h : P.info? t = some i) (w : World) : (sizeOf t).run P w = .ok i.size w := by simp [sizeOf, typeInfo, h]
theorem run_fieldAt {P : Program} {s : TypeId} {f off : Nat} (h : fld P s f = some off) (b o : Nat) (w : World) : (Instr.fieldAt s (.pointer (some ⟨b, o, none⟩)) f).run P w = .ok (.pointer (some ⟨b, o + off, none⟩)) w := by
  unfold fld at h
  split at h
  · rename_i fs hu
    split at h
    · rename_i g hg
      split at h
      · rename_i i hi
        split at h
        · cases h
        · rename_i hz
          cases h
          simp only [Instr.fieldAt, Sem.run_bind, run_underlying hu, Result.andThen_ok, hg, Instr.sureAddr, Sem.run_pure, fieldPlace, run_sizeOf hi, if_neg hz, addr_add]
      · cases h
    · cases h
  · cases h
/-- The bounds of a part. -/
inductive Bd (l : List (Nat × Value)) : Option Operand → Nat → Nat → Prop
  | none {d : Nat} : Bd l none d d
  | some {o : Operand} {d m : Nat} {k : IntKind} {p : Int} (h : ev l o = some (.int k p)) (hp : p = (m : Int)) : Bd l (some o) d m
theorem run_sliceBound {P : Program} {k : IntKind} {m y : Nat} {c : BoundsCode} (h : m ≤ y) (w : World) : (Instr.sliceBound (.int k (m : Int)) y c).run P w = .ok m w := by
  simp [Instr.sliceBound, asIntOf, h]
theorem run_sliceBounds {P : Program} {n : Nat} {l : List (Nat × Value)} {a : Act} (hf : Fr n l a) {isS : Bool} {len cap : Nat} {lo hi mx : Option Operand} {x y z : Nat} (hlo : Bd l lo 0 x) (hhi : Bd l hi len y) (hmx : Bd l mx cap z) (h1 : x ≤ y) (h2 : y ≤ z) (h3 : z ≤ cap)
    (hm : mx.isSome = true → hi.isSome = true) (w : World) : (Instr.sliceBounds isS len cap (lo.map a.eval) (hi.map a.eval) (mx.map a.eval)).run P w = .ok (x, y, z) w := by
  cases hmx with
  | none =>
    cases hhi with
    | none =>
      cases hlo with
      | none => simp [Instr.sliceBounds]
      | some h hp => subst hp; simp [Instr.sliceBounds, hf.eval h, run_sliceBound h1]
    | some h' hp' =>
      subst hp'
      cases hlo with
      | none => simp [Instr.sliceBounds, hf.eval h', run_sliceBound h2]
      | some h hp => subst hp; simp [Instr.sliceBounds, hf.eval h', run_sliceBound h2, hf.eval h, run_sliceBound h1]
  | some h'' hp'' =>
    subst hp''
    cases hhi with
    | none => exact absurd (hm rfl) (by simp)
    | some h' hp' =>
      subst hp'
      cases hlo with
      | none => simp [Instr.sliceBounds, hf.eval h'', run_sliceBound h3, hf.eval h', run_sliceBound h2]
      | some h hp => subst hp; simp [Instr.sliceBounds, hf.eval h'', run_sliceBound h3, hf.eval h', run_sliceBound h2, hf.eval h, run_sliceBound h1]
section
variable {P : Program} {n : Nat} {l : List (Nat × Value)} {E : World} {L L1 Ls : List Heaplet} {o : Oper} {X Y : Act → World → Prop} {N : Heaplet}
variable {d : Nat} {ty t t' e : TypeId} {pos : String} {aft : Array Edge} {g : Option (Nat × Bool)} {v : Value} {x y z : Operand} {k : IntKind} {p q : Int} {size len cap : Nat} {ao : Option Addr} {xs : List Value} {b off j : Nat}
theorem op_load (s : NxF P n l E L Ls ⟨some d, .load t x, ty, pos, aft, g⟩ X Y) (ht : scal P t = true) (hx : ev l x = some (.pointer (some ⟨b, off, none⟩))) (hc : cellOf N b off = some v) (hN : N ∈ Ls) (hn : Nat.ble (d + 1) n = true) (h : At n ((d, v) :: l) E L Y) : At n l E L X :=
  op_val s (fun a w hf hw => by
    simp only [execOp, hf.eval hx, Instr.loadAt, Instr.sureAddr, Sem.run_bind, Sem.run_pure, Result.andThen_ok, run_load_scal ht (hw.cell hN hc)]) rfl hn h
/-- A cell of a block that is known whole. -/
theorem op_loadB {cs : List Value} (s : NxF P n l E L Ls ⟨some d, .load t x, ty, pos, aft, g⟩ X Y) (ht : scal P t = true) (hx : ev l x = some (.pointer (some ⟨b, off, none⟩))) (hb : Blk N b e cs) (hc : cs[off]? = some v) (hN : N ∈ Ls) (hn : Nat.ble (d + 1) n = true) (h : At n ((d, v) :: l) E L Y) : At n l E L X :=
  op_load s ht hx (by obtain ⟨hl, rfl⟩ := List.getElem?_eq_some_iff.1 hc; simpa using hb.rng off hl) hN hn h
theorem op_loadE (s : NxF P n l E L Ls ⟨some d, .load t x, ty, pos, aft, g⟩ X Y) (ht : scal P t = true) (hx : ev l x = some (eptr ao j)) (hs : RSl N size ao len cap xs) (hc : xs[j]? = some v) (hN : N ∈ Ls) (hn : Nat.ble (d + 1) n = true) (h : At n ((d, v) :: l) E L Y) : At n l E L X := by
  obtain ⟨b, off, rfl, hcell⟩ := hs.get hc
  exact op_load s ht hx hcell hN hn h
theorem op_loadAgg {cs : List Value} {kk : Nat} (s : NxF P n l E L Ls ⟨some d, .load t x, ty, pos, aft, g⟩ X Y) (ht : aggOf P t = some kk) (hx : ev l x = some (.pointer (some ⟨b, off, none⟩))) (hc : Rng N b off cs) (hk : cs.length = kk) (hN : N ∈ Ls) (hn : Nat.ble (d + 1) n = true) (h : At n ((d, .agg cs.toArray) :: l) E L Y) : At n l E L X :=
  op_val s (fun a w hf hw => by
    simp only [execOp, hf.eval hx, Instr.loadAt, Instr.sureAddr, Sem.run_bind, Sem.run_pure, Result.andThen_ok, run_load_agg ht hk (fun i hi => hw.cell hN (hc i hi))]) rfl hn h
theorem Rng.sub {cs ds : List Value} {o : Nat} (h : Rng N b off cs) (hs : ∀ i (hi : i < ds.length), cs[o + i]? = some ds[i]) : Rng N b (off + o) ds := fun i hi => by
  obtain ⟨hl, he⟩ := List.getElem?_eq_some_iff.1 (hs i hi)
  rw [Nat.add_assoc, h _ hl, he]
theorem op_loadAggB {cs ds : List Value} {kk : Nat} (s : NxF P n l E L Ls ⟨some d, .load t x, ty, pos, aft, g⟩ X Y) (ht : aggOf P t = some kk) (hx : ev l x = some (.pointer (some ⟨b, off, none⟩))) (hb : Blk N b e cs) (hd : (cs.drop off).take kk = ds) (hk : ds.length = kk) (hN : N ∈ Ls) (hn : Nat.ble (d + 1) n = true) (h : At n ((d, .agg ds.toArray) :: l) E L Y) : At n l E L X :=
  op_loadAgg s ht hx (by
    have := hb.rng.sub (o := off) (ds := ds) (fun i hi => by
      have h2 : ((cs.drop off).take kk)[i]? = some ds[i] := by rw [hd]; exact List.getElem?_eq_getElem hi
      rw [List.getElem?_take, if_pos (by omega), List.getElem?_drop] at h2
      exact h2)
    simpa using this) hk hN hn h
theorem RSl.rng (hs : RSl N size ao len cap xs) (h0 : 0 < xs.length) : ∃ b off, ao = some ⟨b, off, none⟩ ∧ Rng N b off xs := by
  obtain ⟨a1, a2, a3, a4⟩ := hs
  refine a4 ?_
  rcases Nat.eq_zero_or_pos len with h | h
  · rw [h, Nat.zero_mul] at a1; omega
  · exact h
theorem op_loadAggE {ds : List Value} {kk : Nat} (s : NxF P n l E L Ls ⟨some d, .load t x, ty, pos, aft, g⟩ X Y) (ht : aggOf P t = some kk) (hx : ev l x = some (eptr ao j)) (hs : RSl N size ao len cap xs) (hd : (xs.drop j).take kk = ds) (hk : ds.length = kk) (h0 : 0 < kk) (hN : N ∈ Ls) (hn : Nat.ble (d + 1) n = true) (h : At n ((d, .agg ds.toArray) :: l) E L Y) : At n l E L X := by
  have hlen : 0 < xs.length := by
    have : ds.length ≤ xs.length := by rw [← hd, List.length_take, List.length_drop]; omega
    omega
  obtain ⟨b, off, rfl, hr⟩ := hs.rng hlen
  refine op_loadAgg s ht hx (b := b) (off := off + j) (hr.sub (ds := ds) fun i hi => ?_) hk hN hn h
  have h2 : ((xs.drop j).take kk)[i]? = some ds[i] := by rw [hd]; exact List.getElem?_eq_getElem hi
  rw [List.getElem?_take, if_pos (by omega), List.getElem?_drop] at h2
  exact h2
theorem op_fieldAddr {f fo : Nat} (s : NxF P n l E L Ls ⟨some d, .fieldAddr t x f, ty, pos, aft, g⟩ X Y) (ht : fld P t f = some fo) (hx : ev l x = some (.pointer (some ⟨b, off, none⟩))) (hn : Nat.ble (d + 1) n = true) (h : At n ((d, .pointer (some ⟨b, off + fo, none⟩)) :: l) E L Y) : At n l E L X :=
  op_val s (fun a w hf hw => by
    simp only [execOp, hf.eval hx, Sem.run_bind, Sem.run_pure, Result.andThen_ok, run_fieldAt ht]) rfl hn h
theorem op_fieldAddrE {f fo : Nat} (s : NxF P n l E L Ls ⟨some d, .fieldAddr t x f, ty, pos, aft, g⟩ X Y) (ht : fld P t f = some fo) (hx : ev l x = some (eptr ao j)) (hs : ao.isSome = true) (hn : Nat.ble (d + 1) n = true) (h : At n ((d, eptr ao (j + fo)) :: l) E L Y) : At n l E L X := by
  obtain ⟨⟨b, off, sp⟩, rfl⟩ := Option.isSome_iff_exists.1 hs
  exact op_fieldAddr s ht hx hn (by simpa [eptr, Nat.add_assoc] using h)
theorem op_idxE (s : NxF P n l E L Ls ⟨some d, .indexAddr t x y, ty, pos, aft, g⟩ X Y) (ht : selt P t = some (e, size)) (hx : ev l x = some (.slice ao len cap)) (hy : ev l y = some (.int k p)) (hs : RSl N size ao len cap xs) (hj : p = (j : Int)) (hlt : j < len) (hn : Nat.ble (d + 1) n = true) (h : At n ((d, eptr ao (j * size)) :: l) E L Y) : At n l E L X := by
  obtain ⟨b, off, rfl, _⟩ := hs.2.2.2 (by omega)
  obtain ⟨hu, i, hi, hsz⟩ := selt_spec ht
  refine op_val s (fun a w hf hw => ?_) rfl hn h
  subst hj
  simp only [execOp, hf.eval hx, hf.eval hy, Instr.indexAt, asIntOf, Sem.run_bind, Sem.run_pure, Result.andThen_ok, run_underlying hu]
  have h0 : (0 : Int) ≤ (j : Int) ∧ (j : Int) < (len : Int) := by omega
  simp only [if_pos h0, Sem.run_bind, run_sizeOf hi, hsz, Result.andThen_ok, Int.toNat_natCast, addr_add, Sem.run_pure]
  by_cases hl1 : len ≤ 1 <;> simp [hl1, run_underlying hu, eptr]
theorem op_idxA {alen : Nat} (s : NxF P n l E L Ls ⟨some d, .indexAddr t x y, ty, pos, aft, g⟩ X Y) (ht : aelt P t = some (alen, e, size)) (hx : ev l x = some (.pointer (some ⟨b, off, none⟩))) (hy : ev l y = some (.int k p)) (hj : p = (j : Int)) (hlt : j < alen) (hn : Nat.ble (d + 1) n = true) (h : At n ((d, .pointer (some ⟨b, off + j * size, none⟩)) :: l) E L Y) : At n l E L X := by
  obtain ⟨hu, i, hi, hsz⟩ := aelt_spec ht
  refine op_val s (fun a w hf hw => ?_) rfl hn h
  subst hj
  simp only [execOp, hf.eval hx, hf.eval hy, Instr.indexAt, Instr.sureAddr, asIntOf, Sem.run_bind, Sem.run_pure, Result.andThen_ok, run_underlying hu]
  have h0 : (0 : Int) ≤ (j : Int) ∧ (j : Int) < (alen : Int) := by omega
  simp only [if_pos h0, Sem.run_bind, run_sizeOf hi, hsz, Result.andThen_ok, Int.toNat_natCast, addr_add, Sem.run_pure]
theorem op_slice {lo hi mx : Option Operand} {x' y' z' : Nat} (s : NxF P n l E L Ls ⟨some d, .slice t x lo hi mx, ty, pos, aft, g⟩ X Y) (ht : selt P t = some (e, size)) (hx : ev l x = some (.slice ao len cap)) (hlo : Bd l lo 0 x') (hhi : Bd l hi len y') (hmx : Bd l mx cap z') (h1 : x' ≤ y') (h2 : y' ≤ z') (h3 : z' ≤ cap)
    (hm : mx.isSome = true → hi.isSome = true) (hn : Nat.ble (d + 1) n = true) (h : At n ((d, .slice (sadr ao x' z' size) (y' - x') (z' - x')) :: l) E L Y) : At n l E L X := by
  obtain ⟨hu, i, hi', hsz⟩ := selt_spec ht
  refine op_val s (fun a w hf hw => ?_) rfl hn h
  simp only [execOp, hf.eval hx, Instr.sliceAt, Instr.slice, Sem.run_bind, run_underlying hu, Result.andThen_ok, run_sliceBounds hf hlo hhi hmx h1 h2 h3 hm, run_sizeOf hi', hsz, Sem.run_pure, sadr]
theorem op_sliceA {lo hi mx : Option Operand} {alen x' y' z' : Nat} (s : NxF P n l E L Ls ⟨some d, .slice t x lo hi mx, ty, pos, aft, g⟩ X Y) (ht : aelt P t = some (alen, e, size)) (hx : ev l x = some (.pointer (some ⟨b, off, none⟩))) (hlo : Bd l lo 0 x') (hhi : Bd l hi alen y') (hmx : Bd l mx alen z') (h1 : x' ≤ y') (h2 : y' ≤ z') (h3 : z' ≤ alen)
    (hm : mx.isSome = true → hi.isSome = true) (hn : Nat.ble (d + 1) n = true) (h : At n ((d, .slice (some (if z' = x' then ⟨b, off, none⟩ else ⟨b, off + x' * size, none⟩)) (y' - x') (z' - x')) :: l) E L Y) : At n l E L X := by
  obtain ⟨hu, i, hi', hsz⟩ := aelt_spec ht
  refine op_val s (fun a w hf hw => ?_) rfl hn h
  simp only [execOp, hf.eval hx, Instr.sliceAt, Instr.sureAddr, Sem.run_bind, Sem.run_pure, run_underlying hu, Result.andThen_ok, run_sliceBounds hf hlo hhi hmx h1 h2 h3 hm, run_sizeOf hi', hsz, addr_add]
theorem op_lenS (s : NxF P n l E L Ls ⟨some d, .call ⟨.builtin .len, #[x], #[t]⟩, ty, pos, aft, g⟩ X Y) (ht : selt P t = some (e, size)) (hx : ev l x = some (.slice ao len cap)) (hn : Nat.ble (d + 1) n = true) (h : At n ((d, .int .i64 (len : Int)) :: l) E L Y) : At n l E L X := by
  obtain ⟨hu, _⟩ := selt_spec ht
  refine op_val s (fun a w hf hw => ?_) rfl hn h
  simp only [execOp, resolve, invoke, builtin, Sem.run_bind, Sem.run_pure, Result.andThen_ok, List.map_toArray, List.map_cons, List.map_nil, hf.eval hx, Builtin.len_]
  simp [run_underlying hu, goInt]
theorem op_lenStr {ls : List UInt8} (s : NxF P n l E L Ls ⟨some d, .call ⟨.builtin .len, #[x], #[t]⟩, ty, pos, aft, g⟩ X Y) (ht : P.underlying t = some .string) (hx : ev l x = some (str ls)) (hn : Nat.ble (d + 1) n = true) (h : At n ((d, .int .i64 (ls.length : Int)) :: l) E L Y) : At n l E L X := by
  refine op_val s (fun a w hf hw => ?_) rfl hn h
  simp only [execOp, resolve, invoke, builtin, Sem.run_bind, Sem.run_pure, Result.andThen_ok, List.map_toArray, List.map_cons, List.map_nil, hf.eval hx, Builtin.len_, str]
  simp only [List.getElem?_toArray, List.getElem?_cons_zero, Sem.run_bind, run_underlying ht, Result.andThen_ok]
  rfl
/-- string(b) -/
theorem op_str {bs : List UInt8} (s : NxF P n l E L Ls ⟨some d, .convert t t' x, ty, pos, aft, g⟩ X Y) (ht : P.underlying t = some (.slice e)) (he : P.underlying e = some (.int .u8)) (ht' : P.underlying t' = some .string) (hx : ev l x = some (.slice ao len cap)) (hs : RSl N 1 ao len cap (u8s bs)) (hN : N ∈ Ls) (hn : Nat.ble (d + 1) n = true) (h : At n ((d, str bs) :: l) E L Y) : At n l E L X := by
  refine op_val s (fun a w hf hw => ?_) rfl hn h
  have hr := run_string (P := P) ht he ht' (hs.sl (hw.sub N hN))
  simp only [execOp, hf.eval hx]
  rw [Sem.run_bind, hr]
  rfl
theorem op_field {f fo : Nat} {cs : List Value} (s : NxF P n l E L Ls ⟨some d, .field t x f, ty, pos, aft, g⟩ X Y) (hr : ∀ w, (Instr.field t (.agg cs.toArray) f).run P w = .ok v w) (hx : ev l x = some (.agg cs.toArray)) (hn : Nat.ble (d + 1) n = true) (h : At n ((d, v) :: l) E L Y) : At n l E L X :=
  op_val s (fun a w hf hw => by simp [execOp, hf.eval hx, hr]) rfl hn h
end
end Go.Proofs.Ytbmlhdecnfplaaa
