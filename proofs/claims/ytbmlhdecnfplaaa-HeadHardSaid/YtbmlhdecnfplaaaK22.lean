/- Several texts in one: see the remarks ahead of each part. No condition but those told there. -/
import Derived.Test.YtbmlhdecnfplaaaK15
import Derived.Stop.BytesEq
/- The engine, arrays of bytes compared. For whatever program. No condition. -/
namespace Go.Proofs.Ytbmlhdecnfplaaa
set_option linter.unusedVariables false
set_option linter.unusedSimpArgs false
open Go Go.RowKit
theorem all_range8 : ∀ (xs ys : List UInt8), xs.length = ys.length → ((List.range xs.length).all fun i => xs.getD i 0 == ys.getD i 0) = (xs == ys)
  | [], [], _ => rfl
  | x :: xs, y :: ys, h => by
    have ih := all_range8 xs ys (by simpa using h)
    rw [List.length_cons, List.range_succ_eq_map, List.all_cons, List.all_map]
    simp only [List.getD_cons_zero, Function.comp_def, List.getD_cons_succ, ih]
    simp [List.cons_beq_cons]
  | [], _ :: _, h => by simp at h
  | _ :: _, [], h => by simp at h
section
variable {P : Program}
theorem run_equalIn_bytes8 (w : World) (d : Nat) (t e : TypeId) (n : Nat) (ht : P.underlying t = some (.array n e)) (he : P.underlying e = some (.int .u8)) (hsz : ∀ w, (sizeOf e).run P w = .ok 1 w)
    (xs ys : List UInt8) (hx : xs.length = n) (hy : ys.length = n) :
    (Op.equalIn (d + 2) t (.agg (u8s xs).toArray) (.agg (u8s ys).toArray)).run P w = .ok (xs == ys) w := by
  rw [← all_range8 xs ys (hx.trans hy.symm), hx, List.range_eq_range', Op.equalIn]
  simp only [Sem.run_bind, Go.run_underlying ht, Result.andThen_ok, hsz, Std.Legacy.Range.forIn_eq_forIn_range', Std.Legacy.Range.size, Nat.sub_zero, Nat.add_sub_cancel, Nat.div_one]
  have hl : ∀ i ∈ List.range' 0 n 1, i < n := fun i hi => by simpa using (List.mem_range'_1.1 hi).2
  generalize List.range' 0 n 1 = l at hl ⊢
  induction l with
  | nil => simp
  | cons i l ih =>
    have hi : i < n := hl i (by simp)
    have px : (part e (u8s xs).toArray (i * 1)).run P w = .ok (.int .u8 ((xs.getD i 0).toNat : Int)) w := by
      simp [part, isAgg, Go.run_underlying he, u8s, vb, List.getD, List.getElem?_eq_getElem (show i < xs.length by omega)]
    have py : (part e (u8s ys).toArray (i * 1)).run P w = .ok (.int .u8 ((ys.getD i 0).toNat : Int)) w := by
      simp [part, isAgg, Go.run_underlying he, u8s, vb, List.getD, List.getElem?_eq_getElem (show i < ys.length by omega)]
    have pe : (Op.equalIn (d + 1) e (.int .u8 ((xs.getD i 0).toNat : Int)) (.int .u8 ((ys.getD i 0).toNat : Int))).run P w = .ok (xs.getD i 0 == ys.getD i 0) w := by
      rw [run_equalIn_int w d e .u8 .u8 _ _ he]
      congr 1
      rw [Bool.eq_iff_iff]
      simp [← UInt8.toNat_inj]
      omega
    simp only [List.forIn_cons, Sem.run_bind, px, py, pe, Result.andThen_ok, List.all_cons]
    cases hb : (xs.getD i 0 == ys.getD i 0)
    · simp
    · simp only [Bool.not_true, Bool.false_eq_true, if_false, Sem.run_pure, Result.andThen_ok, Bool.true_and]
      exact ih fun j hj => hl j (by simp [hj])
variable {n : Nat} {l : List (Nat × Value)} {E : World} {L Ls : List Heaplet} {X Y : Act → World → Prop} {d : Nat} {t t' ty e : TypeId} {x y : Operand}
theorem op_eqW8 {a b : List UInt8} {k : Nat} {pos : _} {aft : _} {g : _} (s : NxF P n l E L Ls ⟨some d, .binOp .eql t x y t', ty, pos, aft, g⟩ X Y) (ht : aelt P t = some (k, e, 1)) (he : P.underlying e = some (.int .u8)) (hg : P.eqGuardType P.depth t = false) (hx : ev l x = some (.agg (u8s a).toArray)) (hy : ev l y = some (.agg (u8s b).toArray)) (ha : a.length = k) (hb : b.length = k) (hn : Nat.ble (d + 1) n = true) (h : At n ((d, .bool (decide (a = b))) :: l) E L Y) : At n l E L X := by
  obtain ⟨hu, i, hi, hsz⟩ := aelt_spec ht
  exact op_bin s hx hy (fun w => eqGuard_agg hg w) (fun w => by
    rw [run_eql_struct, run_equalIn_bytes8 w 9998 t e k hu he (fun w => by rw [run_sizeOf hi, hsz]) a b ha hb]
    simp only [Result.andThen_ok, show (a == b) = decide (a = b) from by rw [Bool.eq_iff_iff]; simp]) hn h
end
end Go.Proofs.Ytbmlhdecnfplaaa
/- The engine, arrays of bytes told apart. For whatever program. No condition. -/
namespace Go.Proofs.Ytbmlhdecnfplaaa
set_option linter.unusedVariables false
set_option linter.unusedSimpArgs false
open Go Go.RowKit
section
variable {P : Program} {n : Nat} {l : List (Nat × Value)} {E : World} {L Ls : List Heaplet} {X Y : Act → World → Prop} {d : Nat} {t t' ty e : TypeId} {x y : Operand}
theorem op_neW8 {a b : List UInt8} {k : Nat} {pos : _} {aft : _} {g : _} (s : NxF P n l E L Ls ⟨some d, .binOp .neq t x y t', ty, pos, aft, g⟩ X Y) (ht : aelt P t = some (k, e, 1)) (he : P.underlying e = some (.int .u8)) (hg : P.eqGuardType P.depth t = false) (hx : ev l x = some (.agg (u8s a).toArray)) (hy : ev l y = some (.agg (u8s b).toArray)) (ha : a.length = k) (hb : b.length = k) (hn : Nat.ble (d + 1) n = true) (h : At n ((d, .bool (decide (a ≠ b))) :: l) E L Y) : At n l E L X := by
  obtain ⟨hu, i, hi, hsz⟩ := aelt_spec ht
  exact op_bin s hx hy (fun w => eqGuard_agg hg w) (fun w => by
    rw [run_neq_struct, run_equalIn_bytes8 w 9998 t e k hu he (fun w => by rw [run_sizeOf hi, hsz]) a b ha hb]
    simp only [Result.andThen_ok, show (!(a == b)) = decide (a ≠ b) from by rw [Bool.eq_iff_iff]; simp]) hn h
end
end Go.Proofs.Ytbmlhdecnfplaaa
/- The engine, words told apart. For whatever program. No condition. -/
namespace Go.Proofs.Ytbmlhdecnfplaaa
set_option linter.unusedVariables false
set_option linter.unusedSimpArgs false
open Go Go.RowKit
section
variable {P : Program} {n : Nat} {l : List (Nat × Value)} {E : World} {L Ls : List Heaplet} {X Y : Act → World → Prop} {d : Nat} {t t' ty e : TypeId} {x y : Operand}
theorem op_neW {a b : List UInt64} {k : Nat} {pos : _} {aft : _} {g : _} (s : NxF P n l E L Ls ⟨some d, .binOp .neq t x y t', ty, pos, aft, g⟩ X Y) (ht : aelt P t = some (k, e, 1)) (he : P.underlying e = some (.int .u64)) (hg : P.eqGuardType P.depth t = false) (hx : ev l x = some (.agg (u64s a).toArray)) (hy : ev l y = some (.agg (u64s b).toArray)) (ha : a.length = k) (hb : b.length = k) (hn : Nat.ble (d + 1) n = true) (h : At n ((d, .bool (decide (a ≠ b))) :: l) E L Y) : At n l E L X := by
  obtain ⟨hu, i, hi, hsz⟩ := aelt_spec ht
  exact op_bin s hx hy (fun w => eqGuard_agg hg w) (fun w => by
    rw [run_neq_struct, run_equalIn_words w 9998 t e k hu he (fun w => by rw [run_sizeOf hi, hsz]) a b ha hb]
    simp only [Result.andThen_ok, show (!(a == b)) = decide (a ≠ b) from by rw [Bool.eq_iff_iff]; simp]) hn h
end
end Go.Proofs.Ytbmlhdecnfplaaa
