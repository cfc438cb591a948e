/- Cells of numbers: what is set and what is zero. No condition. -/
import Derived.Test.YtdplcfineaikjaaDoorTy
import Derived.Test.YtdplcfineaikjaaDoorNum
import Derived.Test.YtdplcfineaikjaaDoorG11
namespace Go.Proofs.YtdplcfineaikjaaDoor
set_option linter.unusedVariables false
set_option linter.unusedSimpArgs false
open Go Go.RowKit
theorem set_u64s (l : List UInt64) (i : Nat) (x : UInt64) : (u64s l).set i (.int .u64 (x.toNat : Int)) = u64s (l.set i x) := by simp [u64s, List.map_set, vl]
theorem set_u8s (l : List UInt8) (i : Nat) (x : UInt8) : (u8s l).set i (.int .u8 (x.toNat : Int)) = u8s (l.set i x) := by simp [u8s, List.map_set, vb]
theorem set_u32s (l : List UInt32) (i : Nat) (x : UInt32) : (u32s l).set i (.int .u32 (x.toNat : Int)) = u32s (l.set i x) := by simp [u32s, List.map_set, vd]
theorem zero_u64s (m : Nat) : List.replicate m (Value.int .u64 0) = u64s (List.replicate m 0) := by simp [u64s, vl]
theorem zero_u8s (m : Nat) : List.replicate m (Value.int .u8 0) = u8s (List.replicate m 0) := by simp [u8s, vb]
theorem zero_u32s (m : Nat) : List.replicate m (Value.int .u32 0) = u32s (List.replicate m 0) := by simp [u32s, vd]
theorem ofNat_shl (x : UInt8) (m : Nat) : shl64 (UInt64.ofNat x.toNat) m = UInt64.ofNat (x.toNat * 2 ^ m) := by
  unfold shl64
  rw [UInt64.toNat_ofNat', Nat.mod_eq_of_lt (by have := x.toNat_lt; omega)]
end Go.Proofs.YtdplcfineaikjaaDoor
