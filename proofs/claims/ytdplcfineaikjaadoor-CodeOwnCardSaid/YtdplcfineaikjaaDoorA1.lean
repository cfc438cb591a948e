/- The engine, arrays of words: what is read and written at a place. For whatever program. No condition. -/
import Derived.Test.YtdplcfineaikjaaDoorT2a
import Derived.Test.YtdplcfineaikjaaDoorG11
namespace Go.Proofs.YtdplcfineaikjaaDoor
set_option linter.unusedVariables false
set_option linter.unusedSimpArgs false
open Go Go.RowKit
theorem get64A {bs : List UInt64} {j : Nat} (h : j < bs.length) : (u64s bs)[0 + j * 1]? = some (.int .u64 ((bs.getD j 0).toNat : Int)) := by rw [Nat.zero_add, Nat.mul_one]; exact get64 h
theorem get32A {bs : List UInt32} {j : Nat} (h : j < bs.length) : (u32s bs)[0 + j * 1]? = some (.int .u32 ((bs.getD j 0).toNat : Int)) := by rw [Nat.zero_add, Nat.mul_one]; exact get32 h
theorem get8A {bs : List UInt8} {j : Nat} (h : j < bs.length) : (u8s bs)[0 + j * 1]? = some (.int .u8 ((bs.getD j 0).toNat : Int)) := by rw [Nat.zero_add, Nat.mul_one]; exact get8 h
theorem set64A (l : List UInt64) (j : Nat) (x : UInt64) : setL (u64s l) (0 + j * 1) [.int .u64 (x.toNat : Int)] = u64s (l.set j x) := by rw [Nat.zero_add, Nat.mul_one, setL, setL, set_u64s]
theorem set32A (l : List UInt32) (j : Nat) (x : UInt32) : setL (u32s l) (0 + j * 1) [.int .u32 (x.toNat : Int)] = u32s (l.set j x) := by rw [Nat.zero_add, Nat.mul_one, setL, setL, set_u32s]
theorem set8A (l : List UInt8) (j : Nat) (x : UInt8) : setL (u8s l) (0 + j * 1) [.int .u8 (x.toNat : Int)] = u8s (l.set j x) := by rw [Nat.zero_add, Nat.mul_one, setL, setL, set_u8s]
theorem four {α : Type} {l : List α} (h : l.length = 4) : ∃ a b c d, l = [a, b, c, d] := by
  match l, h with
  | [a, b, c, d], _ => exact ⟨a, b, c, d, rfl⟩
/-- A word of four limbs as a value. -/
def wv (l : List UInt64) : Value := .agg (u64s l).toArray
theorem eq_words4 {l m : List UInt64} (hl : l.length = 4) (hm : m.length = 4) (h : v64 l = v64 m) : l = m := v64_inj (by omega) h
section
variable {P : Program} {n : Nat} {l : List (Nat × Value)} {E : World} {L Ls : List Heaplet} {X Y : Act → World → Prop} {d : Nat} {t ty e : TypeId} {x y : Operand}
theorem op_buildA {alen size : Nat} {parts : List (Nat × Operand)} {vs : List (Nat × Value)} {zs out : List Value} {pos : _} {aft : _} {g : _} (s : NxF P n l E L Ls ⟨some d, .build t parts.toArray, ty, pos, aft, g⟩ X Y) (hz : zer P t = some (.agg zs.toArray)) (hp : aelt P t = some (alen, e, size)) (hv : Pts l parts vs) (ho : fillL ((List.range alen).map fun i => (i * size, size)) zs vs = some out) (hn : Nat.ble (d + 1) n = true) (h : At n ((d, .agg out.toArray) :: l) E L Y) : At n l E L X :=
  op_val s (fun a w hf hw => by
    obtain ⟨i, hi, hiz⟩ := Option.bind_eq_some_iff.1 hz
    obtain ⟨hu, j, hj, hjs⟩ := aelt_spec hp
    have hzr : (zeroValue t).run P w = .ok (.agg zs.toArray) w := by simp [zeroValue, typeInfo, hi, hiz]
    have hfill := fill_fillL (place := fun i => some (i * size, size)) (fun i o h => by
      rw [List.getElem?_map] at h
      obtain ⟨k, hk, rfl⟩ := Option.map_eq_some_iff.1 h
      obtain ⟨_, rfl⟩ := List.getElem?_eq_some_iff.1 hk
      simp) vs zs out ho
    have hpv : (parts.toArray.map fun (x : Nat × Operand) => (x.1, a.eval x.2)) = vs.toArray := by rw [List.map_toArray, hv.map hf]
    have hb : (Instr.build t vs.toArray).run P w = .ok (.agg out.toArray) w := by
      unfold Instr.build
      rw [Sem.run_bind, hzr]
      simp only [Result.andThen_ok]
      rw [Sem.run_bind, run_underlying hu]
      simp only [Result.andThen_ok]
      rw [Sem.run_bind, run_sizeOf hj, hjs]
      simp only [Result.andThen_ok, Value.cells, hfill, Sem.run_pure]
    show ((do pure (.value (← Instr.build t (parts.toArray.map fun (x : Nat × Operand) => (x.1, a.eval x.2)))) : Sem Next)).run P w = _
    rw [hpv, Sem.run_bind, hb]
    rfl) rfl hn h
theorem op_idxV {alen j : Nat} {k : IntKind} {p : Int} {v : Value} {cs : Array Value} {pos : _} {aft : _} {g : _} (s : NxF P n l E L Ls ⟨some d, .index t x y, ty, pos, aft, g⟩ X Y) (ht : aelt P t = some (alen, e, 1)) (he : scal P e = true) (hx : ev l x = some (.agg cs)) (hy : ev l y = some (.int k p)) (hj : p = (j : Int)) (hlt : j < alen) (hc : cs[j]? = some v) (hn : Nat.ble (d + 1) n = true) (h : At n ((d, v) :: l) E L Y) : At n l E L X := by
  obtain ⟨hu, i, hi, hsz⟩ := aelt_spec ht
  refine op_val s (fun a w hf hw => ?_) rfl hn h
  subst hj
  simp only [execOp, hf.eval hx, hf.eval hy, Instr.index, asIntOf, Sem.run_bind, Sem.run_pure, Result.andThen_ok, run_underlying hu]
  have h0 : (0 : Int) ≤ (j : Int) ∧ (j : Int) < (alen : Int) := by omega
  simp only [if_pos h0, Sem.run_bind, run_sizeOf hi, hsz, Result.andThen_ok, Int.toNat_natCast, Nat.mul_one]
  simp only [part, Sem.run_bind]
  rw [run_isAgg_scal he]
  simp only [Result.andThen_ok, Bool.false_eq_true, if_false, hc, Sem.run_pure]
end
end Go.Proofs.YtdplcfineaikjaaDoor
