/- Several texts in one: see the remarks ahead of each part. No condition but those told there. -/
import Derived.Test.YtljacjjeinmfnaaU10
import Derived.Test.YtljacjjeinmfnaaU7
import Derived.Test.YtljacjjeinmfnaaU4
import Derived.Test.YtljacjjeinmfnaaU5
import Derived.Stop.BytesEq
/- math/bits.Div64: a number of two limbs by one limb. Condition: the upper limb is below the divisor. -/
namespace Go.Proofs.Ytljacjjeinmfnaa
set_option linter.unusedVariables false
set_option linter.unusedSimpArgs false
open Go Go.RowKit
def DivP (hi lo y : UInt64) (v : Value) (L : List Heaplet) : Prop :=
  ∃ q r : UInt64, v = .tuple #[.int .u64 (q.toNat : Int), .int .u64 (r.toNat : Int)] ∧ L = [] ∧ q.toNat = (hi.toNat * 18446744073709551616 + lo.toNat) / y.toNat ∧ r.toNat = (hi.toNat * 18446744073709551616 + lo.toNat) % y.toNat
end Go.Proofs.Ytljacjjeinmfnaa
/- math/bits.Div64: a number of two limbs by one limb. Condition: the upper limb is below the divisor. -/
namespace Go.Proofs.Ytljacjjeinmfnaa
set_option linter.unusedVariables false
set_option linter.unusedSimpArgs false
open Go Go.RowKit
end Go.Proofs.Ytljacjjeinmfnaa
/- limb.Add, limb.Sub: sums and differences of numbers in limbs. Condition: numbers of at most 2^40 limbs; for Sub: the second is no greater. -/
namespace Go.Proofs.Ytljacjjeinmfnaa
set_option linter.unusedVariables false
set_option linter.unusedSimpArgs false
open Go Go.RowKit
/-- Limbs in new memory: a number without zeros at its upper end. -/
def LimbsP (V : Nat) (v : Value) (L : List Heaplet) : Prop :=
  ∃ M a c, v = .slice a (limbsOf V).length c ∧ L = [M] ∧ RSl M 1 a (limbsOf V).length c (u64s (limbsOf V))
end Go.Proofs.Ytljacjjeinmfnaa
/- Plain laws: numbers in limbs compared, their bits, shifted. No condition. -/
namespace Go.Proofs.Ytljacjjeinmfnaa
set_option linter.unusedVariables false
set_option linter.unusedSimpArgs false
/-- The order of two numbers. -/
def cmpN (a b : Nat) : Int := if a < b then -1 else if b < a then 1 else 0
/-! Shifts. -/
/-- The limbs of V shifted to the left, so many. -/
def shlN (L V s : Nat) : List UInt64 := limbsN L (V * 2 ^ s)
/-- What stands when the places from i on are shifted. -/
def shSt (o : List UInt64) (L s i : Nat) : List UInt64 := o.take i ++ (shlN L (v64 o) s).drop i
end Go.Proofs.Ytljacjjeinmfnaa
/- Plain laws: one step of the division of numbers in limbs, and the whole. No condition. -/
namespace Go.Proofs.Ytljacjjeinmfnaa
set_option linter.unusedVariables false
set_option linter.unusedSimpArgs false
theorem getD_set_ne {α : Type} {l : List α} {i j : Nat} {y z : α} (h : i ≠ j) : (l.set i y).getD j z = l.getD j z := by
  rw [List.getD_eq_getElem?_getD, List.getD_eq_getElem?_getD, List.getElem?_set_ne h]
/-! The whole division. -/
end Go.Proofs.Ytljacjjeinmfnaa
/- limb.Mul, limb.Cmp, limb.Bit, limb.shifted. Condition: numbers of at most 2^40 limbs. -/
namespace Go.Proofs.Ytljacjjeinmfnaa
set_option linter.unusedVariables false
set_option linter.unusedSimpArgs false
open Go Go.RowKit
end Go.Proofs.Ytljacjjeinmfnaa
/- limb.shifted, limb.step: the parts of a division of numbers in limbs. Condition: numbers of at most 2^40 limbs. -/
namespace Go.Proofs.Ytljacjjeinmfnaa
set_option linter.unusedVariables false
set_option linter.unusedSimpArgs false
open Go Go.RowKit
end Go.Proofs.Ytljacjjeinmfnaa
/- limb.step: the upper limbs divided. Condition: at most 2^40 limbs; the quotient is one limb. -/
namespace Go.Proofs.Ytljacjjeinmfnaa
set_option linter.unusedVariables false
set_option linter.unusedSimpArgs false
open Go Go.RowKit
def StepP (b : Nat) (e : TypeId) (pre u v post : List UInt64) (r : Value) (L : List Heaplet) : Prop :=
  ∃ M x, ∃ q : UInt64, r = .int .u64 (q.toNat : Int) ∧ L = [M] ∧ Blk M b e (u64s (pre ++ x ++ post)) ∧ x.length = u.length ∧ q.toNat = v64 u / v64 v ∧ v64 x = v64 u % v64 v
end Go.Proofs.Ytljacjjeinmfnaa
/- limb.DivMod: a number in limbs divided by one that is not 0. Condition: numbers of at most 2^40 limbs. -/
namespace Go.Proofs.Ytljacjjeinmfnaa
set_option linter.unusedVariables false
set_option linter.unusedSimpArgs false
open Go Go.RowKit
theorem Row.blk {N : Heaplet} {e : TypeId} {ao : Option Addr} {n : Nat} {xs : List Value} (h : Row N e 1 ao n n xs) (h0 : 0 < n) : ∃ b, ao = some ⟨b, 0, none⟩ ∧ Blk N b e xs := by
  obtain ⟨h1, h2, h3, h4⟩ := h
  rcases h4 with ⟨_, h5, _⟩ | ⟨b, cur, rfl, hN, hs, ht⟩
  · omega
  · refine ⟨b, rfl, ?_⟩
    have hl : cur.toList.length = n := by simpa using hs
    rw [List.take_of_length_le (by omega)] at ht
    rw [Blk, hN, ← ht]
/-- Two numbers in limbs, in new memory. -/
def LimbsP2 (A B : Nat) (v : Value) (L : List Heaplet) : Prop :=
  ∃ M1 a1 c1 M2 a2 c2, v = .tuple #[.slice a1 (limbsOf A).length c1, .slice a2 (limbsOf B).length c2] ∧ L = [M1, M2] ∧ RSl M1 1 a1 (limbsOf A).length c1 (u64s (limbsOf A)) ∧ RSl M2 1 a2 (limbsOf B).length c2 (u64s (limbsOf B))
end Go.Proofs.Ytljacjjeinmfnaa
/- Plain laws: words. No condition. -/
namespace Go.Proofs.Ytljacjjeinmfnaa
set_option linter.unusedVariables false
set_option linter.unusedSimpArgs false
open Go Go.RowKit
/-- How many words there are. -/
def WW : Nat := 2 ^ 256
/-- The word of a number modulo 2^256, as limbs and as a value. -/
def wl (x : Nat) : List UInt64 := limbsN 4 x
def wo (x : Nat) : Value := .agg (u64s (wl x)).toArray
@[simp] theorem length_wl (x : Nat) : (wl x).length = 4 := rfl
theorem v64_wl (x : Nat) : v64 (wl x) = x % WW := v64_limbsN 4 x
theorem v64_wl_lt {x : Nat} (h : x < WW) : v64 (wl x) = x := by rw [v64_wl, Nat.mod_eq_of_lt h]
theorem wl_of {w : List UInt64} {N : Nat} (hw : w.length = 4) (h : v64 w = N % WW) : w = wl N := eq_words4 hw rfl (h.trans (v64_wl N).symm)
theorem wl_small (n : UInt64) : wl n.toNat = [n, 0, 0, 0] := by
  have h := n.toNat_lt
  refine (wl_of rfl ?_).symm
  have e : v64 [n, 0, 0, 0] = n.toNat := by simp [v64, n64, val]
  rw [e]
  exact (Nat.mod_eq_of_lt (Nat.lt_trans h (Nat.pow_lt_pow_right (by decide) (by decide)))).symm
theorem wo_small (n : UInt64) : wo n.toNat = .agg #[.int .u64 (n.toNat : Int), .int .u64 0, .int .u64 0, .int .u64 0] := by rw [wo, wl_small]; rfl
end Go.Proofs.Ytljacjjeinmfnaa
/- Package word: Of, Small, sums, differences, products. No condition. -/
namespace Go.Proofs.Ytljacjjeinmfnaa
set_option linter.unusedVariables false
set_option linter.unusedSimpArgs false
open Go Go.RowKit
theorem WOf_f (n : UInt64) : Fn Try.prog 87 #[.int .u64 (n.toNat : Int)] [] [] (fun v L => v = wo n.toNat ∧ L = []) := by
  refine Fn.enter (vs := [.int .u64 (n.toNat : Int)]) Try.func87 rfl rfl rfl ?_
  intro E R hR
  change At _ _ E [R] _
  refine At.seq fun K1 hk_1 => ?_
  refine At.region ?_
  refine op_alloc (nxla rfl) ze26 rfl (fun N2 b2 B2 => ?_)
  change Blk N2 b2 _ [.int .u64 0, .int .u64 0, .int .u64 0, .int .u64 0] at B2
  refine At.opsNil ?_
  refine At.norm (hk_1 ?_)
  refine At.seq fun K2 hk_2 => ?_
  refine At.region ?_
  refine op_move (nxlf rfl) rfl rfl ?_
  refine op_buildA (out := [_, .int .u64 0, .int .u64 0, .int .u64 0]) (nxlf rfl) ze26 ae26 (.cons rfl .nil) rfl rfl ?_
  refine op_store (nxl rfl) sz26 rfl rfl rfl rfl rfl B2 (by simp) sel0 (fun N2 B2 => ?_)
  simp only [setL, List.set] at B2
  refine At.opsNil ?_
  refine At.norm (hk_2 ?_)
  refine At.ret (?_)
  refine At.ret1 (L1 := []) rfl (.cell rfl (res_agg (ds := [_, _, _, _]) ag26 B2 rfl rfl mem0) .nil) (.cons _ (.refl _)) (.refl _) ?_
  exact ⟨(wo_small n).symm, rfl⟩
end Go.Proofs.Ytljacjjeinmfnaa
/- The engine, words compared. For whatever program. No condition. -/
namespace Go.Proofs.Ytljacjjeinmfnaa
set_option linter.unusedVariables false
set_option linter.unusedSimpArgs false
open Go Go.RowKit
section
variable {P : Program}
theorem eqGuard_agg {op : BinOp} {t : TypeId} {x y : Operand} {a b : Array Value} (h : P.eqGuardType P.depth t = false) (w : World) : (eqGuard op t x y (.agg a) (.agg b)).run P w = .ok () w := by
  unfold eqGuard
  by_cases ho : (!(op matches .eql | .neq)) = true <;> simp [ho, h]
variable {n : Nat} {l : List (Nat × Value)} {E : World} {L Ls : List Heaplet} {X Y : Act → World → Prop} {d : Nat} {t t' ty e : TypeId} {x y : Operand}
end
end Go.Proofs.Ytljacjjeinmfnaa
/- Package word: products, quotients, with signs and without. No condition. -/
namespace Go.Proofs.Ytljacjjeinmfnaa
set_option linter.unusedVariables false
set_option linter.unusedSimpArgs false
open Go Go.RowKit
/-- What is left; 0 by 0. -/
def modZ (x y : Nat) : Nat := if y = 0 then 0 else x % y
def HW : Nat := 2 ^ 255
/-- Is the signed value below 0? -/
def negB (x : Nat) : Bool := decide (HW ≤ x)
/-- A word, or less it. -/
def sgn (m : Bool) (x : Nat) : Nat := if m then WW - x else x
def absW (x : Nat) : Nat := sgn (negB x) x
end Go.Proofs.Ytljacjjeinmfnaa
/- Package nat: forms, orders, bits, sums, differences, products, quotients. Condition: numbers of at most 2^38 bytes. -/
namespace Go.Proofs.Ytljacjjeinmfnaa
set_option linter.unusedVariables false
set_option linter.unusedSimpArgs false
open Go Go.RowKit
/-- A number's bytes in new memory. -/
def BytesP (V : Nat) (v : Value) (L : List Heaplet) : Prop :=
  ∃ M a c, v = .slice a (bytesOf V).length c ∧ L = [M] ∧ Row M 5 1 a (bytesOf V).length c (u8s (bytesOf V))
section
variable {N M : Heaplet} {ao bo : Option Addr} {n m ca cb : Nat} {a b : List UInt8}
def SubP (A B : Nat) (v : Value) (L : List Heaplet) : Prop :=
  ∃ M p c, v = .tuple #[.slice p (bytesOf (A - B)).length c, .bool (decide (B ≤ A))] ∧ L = [M] ∧ Row M 5 1 p (bytesOf (A - B)).length c (u8s (bytesOf (A - B)))
def DivModP (A B : Nat) (v : Value) (L : List Heaplet) : Prop :=
  ∃ M1 p1 c1 M2 p2 c2, v = .tuple #[.slice p1 (bytesOf (A / B)).length c1, .slice p2 (bytesOf (A % B)).length c2, .bool true] ∧ L = [M1, M2] ∧ Row M1 5 1 p1 (bytesOf (A / B)).length c1 (u8s (bytesOf (A / B))) ∧ Row M2 5 1 p2 (bytesOf (A % B)).length c2 (u8s (bytesOf (A % B)))
end
end Go.Proofs.Ytljacjjeinmfnaa
/- nat.ModExp: powers modulo a number. Condition: numbers of at most 2^34 bytes. -/
namespace Go.Proofs.Ytljacjjeinmfnaa
set_option linter.unusedVariables false
set_option linter.unusedSimpArgs false
open Go Go.RowKit
theorem Blk.one {N : Heaplet} {b : Nat} {e : TypeId} {v : Value} (h : Blk N b e [v]) : RSl N 1 (some ⟨b, 0, none⟩) 1 1 [v] :=
  ⟨rfl, Nat.le_refl _, by decide, fun _ => ⟨b, 0, rfl, h.rng⟩⟩
section
variable {N M Nb Nm : Heaplet} {ao bo mo : Option Addr} {n m nm ca cb cm bb : Nat} {e : TypeId} {a b l : List UInt64}
end
section
variable {N M Nm : Heaplet} {ao bo mo : Option Addr} {n m nm ca cb cm : Nat} {a b l : List UInt8}
end
end Go.Proofs.Ytljacjjeinmfnaa
/- Package word: powers. No condition. -/
namespace Go.Proofs.Ytljacjjeinmfnaa
set_option linter.unusedVariables false
set_option linter.unusedSimpArgs false
open Go Go.RowKit
end Go.Proofs.Ytljacjjeinmfnaa
/- Package word: all bits turned, order. No condition. -/
namespace Go.Proofs.Ytljacjjeinmfnaa
set_option linter.unusedVariables false
set_option linter.unusedSimpArgs false
open Go Go.RowKit
end Go.Proofs.Ytljacjjeinmfnaa
