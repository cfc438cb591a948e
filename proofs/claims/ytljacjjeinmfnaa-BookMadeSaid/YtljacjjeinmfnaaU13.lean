/- Several texts in one: see the remarks ahead of each part. No condition but those told there. -/
import Derived.Test.YtljacjjeinmfnaaU11
import Derived.Test.YtljacjjeinmfnaaU12
import Derived.Test.YtljacjjeinmfnaaUKEm
import Derived.Stop.BytesEq
/- The engine, words told apart. For whatever program. No condition. -/
namespace Go.Proofs.Ytljacjjeinmfnaa
set_option linter.unusedVariables false
set_option linter.unusedSimpArgs false
open Go Go.RowKit
section
variable {P : Program} {n : Nat} {l : List (Nat × Value)} {E : World} {L Ls : List Heaplet} {X Y : Act → World → Prop} {d : Nat} {t t' ty e : TypeId} {x y : Operand}
theorem op_neW {a b : List UInt64} {k : Nat} {pos : _} {aft : _} {g : _} (s : NxF P n l E L Ls ⟨some d, .binOp .neq t x y t', ty, pos, aft, g⟩ X Y) (ht : aelt P t = some (k, e, 1)) (he : P.underlying e = some (.int .u64)) (hg : P.eqGuardType P.depth t = false) (hx : ev l x = some (.agg (u64s a).toArray)) (hy : ev l y = some (.agg (u64s b).toArray)) (ha : a.length = k) (hb : b.length = k) (hn : Nat.ble (d + 1) n = true) (h : At n ((d, .bool (decide (a ≠ b))) :: l) E L Y) : At n l E L X := by
  obtain ⟨hu, i, hi, hsz⟩ := aelt_spec ht
  exact op_bin s hx hy (fun w => eqGuard_agg hg w) (fun w => by
    rw [run_neq_struct, run_equalIn_words w 9998 t e k hu he (fun w => by rw [run_sizeOf hi, hsz]) a b ha hb]
    simp only [Result.andThen_ok, show (!(a == b)) = decide (a ≠ b) from by rw [Bool.eq_iff_iff]; simp]) hn h
end
end Go.Proofs.Ytljacjjeinmfnaa
/- quarrylaw14.wakes; quarrylaw14.BookMade answers true. No condition. -/
namespace Go.Proofs.Ytljacjjeinmfnaa
set_option linter.unusedVariables false
set_option linter.unusedSimpArgs false
open Go Go.RowKit
set_option maxRecDepth 100000
def mkA0 : List UInt8 := [106, 199, 234, 51, 248, 131, 30, 169, 220, 197, 51, 147, 170, 168, 139, 37, 167, 133, 219, 240]
theorem mk_form : (mkT mkA0 0).form = [214, 148, 106, 199, 234, 51, 248, 131, 30, 169, 220, 197, 51, 147, 170, 168, 139, 37, 167, 133, 219, 240, 128] := by
  rw [mkT, itL, form_true, forms_cons, forms_cons, forms_nil, itS, itS, form_false, form_false]
  decide +kernel
theorem mk_last : madeA mkA0 0 = [205, 35, 74, 71, 27, 114, 186, 47, 28, 207, 10, 112, 252, 171, 166, 72, 165, 238, 205, 141] := by
  rw [madeA, mk_form, lastA, kmade]; rfl
theorem WkMade_b : Fn Try.prog 9 #[.agg #[.int .u8 106, .int .u8 199, .int .u8 234, .int .u8 51, .int .u8 248, .int .u8 131, .int .u8 30, .int .u8 169, .int .u8 220, .int .u8 197, .int .u8 51, .int .u8 147, .int .u8 170, .int .u8 168, .int .u8 139, .int .u8 37, .int .u8 167, .int .u8 133, .int .u8 219, .int .u8 240], .int .u64 0] [] [] (fun v L => v = .agg #[.int .u8 205, .int .u8 35, .int .u8 74, .int .u8 71, .int .u8 27, .int .u8 114, .int .u8 186, .int .u8 47, .int .u8 28, .int .u8 207, .int .u8 10, .int .u8 112, .int .u8 252, .int .u8 171, .int .u8 166, .int .u8 72, .int .u8 165, .int .u8 238, .int .u8 205, .int .u8 141] ∧ L = []) := by
  have h := FMade_b (a := mkA0) rfl 0
  rw [show (0 : UInt64).toNat = 0 from rfl, mk_last] at h
  exact h
theorem BWakes_f : Fn Try.prog 13 #[] [] [] (fun v L => v = .bool true ∧ L = []) := by
  refine Fn.enter (vs := []) Try.func13 rfl rfl rfl ?_
  intro E R hR
  change At _ _ E [R] _
  refine At.seq fun K1 hk_1 => ?_
  refine At.region ?_
  refine op_assign (nxlf rfl) rfl rfl ?_
  refine At.opsNil ?_
  refine At.norm (hk_1 ?_)
  refine At.seq fun K2 hk_2 => ?_
  refine At.region ?_
  refine op_buildA (out := [_, _, _, _, _, _, _, _, _, _, _, _, _, _, _, _, _, _, _, _]) (nxlf rfl) ze23 ae23 (.cons rfl (.cons rfl (.cons rfl (.cons rfl (.cons rfl (.cons rfl (.cons rfl (.cons rfl (.cons rfl (.cons rfl (.cons rfl (.cons rfl (.cons rfl (.cons rfl (.cons rfl (.cons rfl (.cons rfl (.cons rfl (.cons rfl (.cons rfl .nil)))))))))))))))))))) rfl rfl ?_
  refine op_callA (nxla rfl) (.cons rfl (.cons rfl .nil)) (WkMade_b) Try.func9 rfl rfl (by simp) rfl ?_
  rintro v5 L5 ⟨rfl, rfl⟩
  change At _ _ _ [R] _
  refine op_alloc (nxla rfl) ze23 rfl (fun N1 b1 B1 => ?_)
  change Blk N1 b1 _ [.int .u8 0, .int .u8 0, .int .u8 0, .int .u8 0, .int .u8 0, .int .u8 0, .int .u8 0, .int .u8 0, .int .u8 0, .int .u8 0, .int .u8 0, .int .u8 0, .int .u8 0, .int .u8 0, .int .u8 0, .int .u8 0, .int .u8 0, .int .u8 0, .int .u8 0, .int .u8 0] at B1
  refine op_store (nxl rfl) sz23 rfl rfl rfl rfl rfl B1 (by simp) sel0 (fun N1 B1 => ?_)
  simp only [setL, List.set] at B1
  refine At.opsNil ?_
  refine At.norm (hk_2 ?_)
  refine At.seq fun K3 hk_3 => ?_
  refine At.region ?_
  refine op_callA (nxla rfl) (.cons rfl .nil) (FReadTx_nil) Try.func27 rfl rfl (by simp) rfl ?_
  rintro v7 L7 ⟨rfl, rfl⟩
  change At _ _ _ [N1, R] _
  refine op_move (nxlf rfl) rfl rfl ?_
  refine op_extract (nxlf rfl) rfl rfl rfl ?_
  refine op_extract (nxlf rfl) rfl rfl rfl ?_
  refine op_alloc (nxla rfl) ze58 rfl (fun N2 b2 B2 => ?_)
  change Blk N2 b2 _ z58 at B2
  refine op_store (nxl rfl) sz58 rfl rfl rfl rfl rfl B2 (by rw [z58_len]; exact Nat.le_refl _) sel0 (fun N2 B2 => ?_)
  rw [setL_whole rfl] at B2
  refine op_assign (nxlf rfl) rfl rfl ?_
  refine At.opsNil ?_
  refine At.norm (hk_3 ?_)
  refine At.seq fun K4 hk_4 => ?_
  refine At.region ?_
  refine op_idxA (nxlf rfl) ae23 rfl rfl (show _ = ((0 : Nat) : Int) from rfl) (by omega) rfl ?_
  refine op_loadB (nxlf rfl) sc5 rfl B1 (by first | rfl) mem1 rfl ?_
  refine op_eql (nxlf rfl) rfl rfl rfl ?_
  change At _ ((12, .bool true) :: _) _ _ _
  refine op_move (nxlf rfl) rfl rfl ?_
  refine op_idxA (nxgf rfl rfl rfl rfl) ae23 rfl rfl (show _ = ((19 : Nat) : Int) from rfl) (by omega) rfl ?_
  refine op_loadB (nxgf rfl rfl rfl rfl) sc5 rfl B1 (by first | rfl) mem1 rfl ?_
  refine op_eql (nxgf rfl rfl rfl rfl) rfl rfl rfl ?_
  change At _ ((16, .bool true) :: _) _ _ _
  refine op_pickT (nxlf rfl) rfl rfl rfl ?_
  refine op_move (nxlf rfl) rfl rfl ?_
  refine op_move (nxgf rfl rfl rfl rfl) rfl rfl ?_
  refine op_eql (nxgf rfl rfl rfl rfl) rfl rfl rfl ?_
  change At _ ((20, .bool true) :: _) _ _ _
  refine op_pickT (nxlf rfl) rfl rfl rfl ?_
  refine op_assign (nxlf rfl) rfl rfl ?_
  refine At.opsNil ?_
  refine At.norm (hk_4 ?_)
  refine At.ret (?_)
  refine At.sub (L' := [R]) (.cons _ (.cons _ (.cons_cons _ (.slnil)))) ?_
  refine At.ret1 (L1 := []) rfl (.tmp rfl .nil) (.refl _) (.refl _) ?_
  exact ⟨rfl, rfl⟩
end Go.Proofs.Ytljacjjeinmfnaa
/- The engine, arrays of bytes compared. For whatever program. No condition. -/
namespace Go.Proofs.Ytljacjjeinmfnaa
set_option linter.unusedVariables false
set_option linter.unusedSimpArgs false
open Go Go.RowKit
theorem all_range8 : ∀ (xs ys : List UInt8), xs.length = ys.length → ((List.range xs.length).all fun i => xs.getD i 0 == ys.getD i 0) = (xs == ys)
  | [], [], _ => rfl
  | x :: xs, y :: ys, h => by
    have ih := all_range8 xs ys (by simpa using h)
    rw [List.length_cons, List.range_succ_eq_map, List.all_cons, List.all_map]
    simp only [List.getD_cons_zero, Function.comp_def, List.getD_cons_succ, ih]
    simp [List.cons_beq_cons]
  | [], _ :: _, h => by simp at h
  | _ :: _, [], h => by simp at h
section
variable {P : Program}
theorem run_equalIn_bytes8 (w : World) (d : Nat) (t e : TypeId) (n : Nat) (ht : P.underlying t = some (.array n e)) (he : P.underlying e = some (.int .u8)) (hsz : ∀ w, (sizeOf e).run P w = .ok 1 w)
    (xs ys : List UInt8) (hx : xs.length = n) (hy : ys.length = n) :
    (Op.equalIn (d + 2) t (.agg (u8s xs).toArray) (.agg (u8s ys).toArray)).run P w = .ok (xs == ys) w := by
  rw [← all_range8 xs ys (hx.trans hy.symm), hx, List.range_eq_range', Op.equalIn]
  simp only [Sem.run_bind, Go.run_underlying ht, Result.andThen_ok, hsz, Std.Legacy.Range.forIn_eq_forIn_range', Std.Legacy.Range.size, Nat.sub_zero, Nat.add_sub_cancel, Nat.div_one]
  have hl : ∀ i ∈ List.range' 0 n 1, i < n := fun i hi => by simpa using (List.mem_range'_1.1 hi).2
  generalize List.range' 0 n 1 = l at hl ⊢
  induction l with
  | nil => simp
  | cons i l ih =>
    have hi : i < n := hl i (by simp)
    have px : (part e (u8s xs).toArray (i * 1)).run P w = .ok (.int .u8 ((xs.getD i 0).toNat : Int)) w := by
      simp [part, isAgg, Go.run_underlying he, u8s, vb, List.getD, List.getElem?_eq_getElem (show i < xs.length by omega)]
    have py : (part e (u8s ys).toArray (i * 1)).run P w = .ok (.int .u8 ((ys.getD i 0).toNat : Int)) w := by
      simp [part, isAgg, Go.run_underlying he, u8s, vb, List.getD, List.getElem?_eq_getElem (show i < ys.length by omega)]
    have pe : (Op.equalIn (d + 1) e (.int .u8 ((xs.getD i 0).toNat : Int)) (.int .u8 ((ys.getD i 0).toNat : Int))).run P w = .ok (xs.getD i 0 == ys.getD i 0) w := by
      rw [run_equalIn_int w d e .u8 .u8 _ _ he]
      congr 1
      rw [Bool.eq_iff_iff]
      simp [← UInt8.toNat_inj]
      omega
    simp only [List.forIn_cons, Sem.run_bind, px, py, pe, Result.andThen_ok, List.all_cons]
    cases hb : (xs.getD i 0 == ys.getD i 0)
    · simp
    · simp only [Bool.not_true, Bool.false_eq_true, if_false, Sem.run_pure, Result.andThen_ok, Bool.true_and]
      exact ih fun j hj => hl j (by simp [hj])
variable {n : Nat} {l : List (Nat × Value)} {E : World} {L Ls : List Heaplet} {X Y : Act → World → Prop} {d : Nat} {t t' ty e : TypeId} {x y : Operand}
theorem op_eqW8 {a b : List UInt8} {k : Nat} {pos : _} {aft : _} {g : _} (s : NxF P n l E L Ls ⟨some d, .binOp .eql t x y t', ty, pos, aft, g⟩ X Y) (ht : aelt P t = some (k, e, 1)) (he : P.underlying e = some (.int .u8)) (hg : P.eqGuardType P.depth t = false) (hx : ev l x = some (.agg (u8s a).toArray)) (hy : ev l y = some (.agg (u8s b).toArray)) (ha : a.length = k) (hb : b.length = k) (hn : Nat.ble (d + 1) n = true) (h : At n ((d, .bool (decide (a = b))) :: l) E L Y) : At n l E L X := by
  obtain ⟨hu, i, hi, hsz⟩ := aelt_spec ht
  exact op_bin s hx hy (fun w => eqGuard_agg hg w) (fun w => by
    rw [run_eql_struct, run_equalIn_bytes8 w 9998 t e k hu he (fun w => by rw [run_sizeOf hi, hsz]) a b ha hb]
    simp only [Result.andThen_ok, show (a == b) = decide (a = b) from by rw [Bool.eq_iff_iff]; simp]) hn h
end
end Go.Proofs.Ytljacjjeinmfnaa
