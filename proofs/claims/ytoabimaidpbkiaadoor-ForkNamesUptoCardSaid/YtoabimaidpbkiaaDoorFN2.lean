/- quarryref13.low: a text in small letters, byte by byte. No condition. -/
import Derived.Test.YtoabimaidpbkiaaDoorFN1
import Derived.Test.YtoabimaidpbkiaaDoorA12
import Derived.Test.YtoabimaidpbkiaaDoorTy
import Derived.Test.YtoabimaidpbkiaaDoorG13
import Derived.Test.YtoabimaidpbkiaaDoorA1
namespace Go.Proofs.YtoabimaidpbkiaaDoor
set_option linter.unusedVariables false
set_option linter.unusedSimpArgs false
open Go Go.RowKit
/-- The first k bytes in small letters. -/
def lowTo (l : List UInt8) (k : Nat) : List UInt8 := (l.take k).map lowB ++ l.drop k
theorem lowTo_len (l : List UInt8) (k : Nat) : (lowTo l k).length = l.length := by
  rw [lowTo, List.length_append, List.length_map, List.length_take, List.length_drop]; omega
theorem lowTo_zero (l : List UInt8) : lowTo l 0 = l := by simp [lowTo]
theorem lowTo_all {l : List UInt8} {k : Nat} (h : l.length ≤ k) : lowTo l k = l.map lowB := by
  rw [lowTo, List.take_of_length_le h, List.drop_of_length_le h, List.append_nil]
theorem lowTo_get {l : List UInt8} {k : Nat} (h : k < l.length) : (lowTo l k).getD k 0 = l.getD k 0 := by
  have h1 : ((l.take k).map lowB).length = k := by rw [List.length_map, List.length_take]; omega
  rw [List.getD_eq_getElem?_getD, List.getD_eq_getElem?_getD, lowTo, List.getElem?_append_right (by omega), h1, Nat.sub_self, List.getElem?_drop, Nat.add_zero]
theorem lowTo_succ {l : List UInt8} {k : Nat} (h : k < l.length) : lowTo l (k + 1) = (lowTo l k).set k (lowB (l.getD k 0)) := by
  have h1 : ((l.take k).map lowB).length = k := by rw [List.length_map, List.length_take]; omega
  have hd : l.drop k = l.getD k 0 :: l.drop (k + 1) := by
    rw [List.drop_eq_getElem_cons h, List.getD_eq_getElem?_getD, List.getElem?_eq_getElem h, Option.getD_some]
  have ht : l.take (k + 1) = l.take k ++ [l.getD k 0] := by
    rw [List.take_add_one, List.getElem?_eq_getElem h, List.getD_eq_getElem?_getD, List.getElem?_eq_getElem h]; rfl
  rw [lowTo, lowTo, ht, List.set_append_right _ _ (by omega), h1, Nat.sub_self, hd, List.set_cons_zero, List.map_append, List.append_assoc]
  rfl
theorem add32w (x : UInt8) : IntKind.u8.wrap ((x.toNat : Int) + 32) = ((x + 32).toNat : Int) := by
  rw [UInt8.toNat_add, show (32 : UInt8).toNat = 32 from rfl]
  simp [IntKind.wrap, IntKind.bits, IntKind.signed]
theorem sub32w (x : UInt8) : IntKind.u8.wrap ((x.toNat : Int) - 32) = ((x - 32).toNat : Int) := by
  rw [UInt8.toNat_sub, show (32 : UInt8).toNat = 32 from rfl]
  have := x.toNat_lt
  simp [IntKind.wrap, IntKind.bits, IntKind.signed]
  omega
theorem lowB_cap {b : UInt8} (h1 : 65 ≤ (b.toNat : Int)) (h2 : (b.toNat : Int) ≤ 90) : lowB b = b + 32 := by
  unfold lowB; rw [if_pos (by omega)]
theorem lowB_no {b : UInt8} (h : ¬ (65 ≤ (b.toNat : Int) ∧ (b.toNat : Int) ≤ 90)) : lowB b = b := by
  unfold lowB; rw [if_neg (by omega)]
theorem set_same8 {l : List UInt8} {k : Nat} (h : k < l.length) : l.set k (l.getD k 0) = l := by
  rw [List.getD_eq_getElem?_getD, List.getElem?_eq_getElem h, Option.getD_some, List.set_getElem_self]
theorem lowTo_cap {l : List UInt8} {k : Nat} (h : k < l.length) (h1 : 65 ≤ ((l.getD k 0).toNat : Int)) (h2 : ((l.getD k 0).toNat : Int) ≤ 90) : (lowTo l k).set k (l.getD k 0 + 32) = lowTo l (k + 1) := by rw [lowTo_succ h, lowB_cap h1 h2]
theorem lowTo_no {l : List UInt8} {k : Nat} (h : k < l.length) (hn : ¬ (65 ≤ ((l.getD k 0).toNat : Int) ∧ ((l.getD k 0).toNat : Int) ≤ 90)) : lowTo l k = lowTo l (k + 1) := by
  rw [lowTo_succ h, lowB_no hn]
  conv => rhs; rw [← lowTo_get h]
  exact (set_same8 (by rw [lowTo_len]; exact h)).symm
theorem lowTo_at {l : List UInt8} {k : Nat} (h : k < l.length) : (u8s (lowTo l k))[k]? = some (.int .u8 ((l.getD k 0).toNat : Int)) := by
  rw [← lowTo_get h]; exact get8 (by rw [lowTo_len]; exact h)
section
set_option maxRecDepth 100000 in
theorem rLow_f {l : List UInt8} (hl : l.length ≤ 35184372088832) : Fn Tryd.prog 34 #[str l] [] [] (fun v L => v = str (l.map lowB) ∧ L = []) := by
  refine Fn.enter (vs := [str l]) Tryd.func34 rfl rfl rfl ?_
  intro E R hR
  change At _ _ E [R] _
  refine At.seq fun K1 hk_1 => ?_
  refine At.region ?_
  refine op_assign (nxlf rfl) rfl rfl ?_
  refine At.opsNil ?_
  refine At.norm (hk_1 ?_)
  refine At.seq fun K2 hk_2 => ?_
  refine At.region ?_
  refine op_move (nxlf rfl) rfl rfl ?_
  refine op_strB (nxla rfl) Tryd.underlying9 Tryd.underlying57 Tryd.underlying5 rfl (by omega) rfl (fun N6 b6 p6 m6 => ?_)
  have s6 := m6.rsl
  refine op_assign (nxlf rfl) rfl rfl ?_
  refine At.opsNil ?_
  refine At.norm (hk_2 ?_)
  refine At.seq fun K3 hk_3 => ?_
  refine At.seq fun K4 hk_4 => ?_
  refine At.region ?_
  refine op_assign (nxlf rfl) rfl rfl ?_
  refine At.opsNil ?_
  refine At.norm (hk_4 ?_)
  refine At.block ?_
  refine At.loop (fun fr_ hp_ ms_ => ∃ (k : Nat) (N6 : Heaplet), fr_ = [(3, .slice (some ⟨b6, 0, none⟩) l.length p6), (4, .int .i64 (k : Int))] ∧ hp_ = [N6, R] ∧ l.length - k = ms_ ∧ (k ≤ l.length) ∧ (RowM N6 5 b6 l.length p6 (u8s (lowTo l k)))) ?_ (.refl _) ⟨0, N6, rfl, rfl, rfl, by omega, by rw [lowTo_zero]; exact m6⟩ ?_
  · exact .cons (by first | exact lkI rfl (by omega) | rfl) (.cons (by first | exact lkI rfl (by omega) | rfl) .nil)
  rintro _ _ _ ⟨k, N6, rfl, rfl, rfl, hk, m6⟩
  have s6 := m6.rsl
  have c6 := s6.cap63
  refine At.seq fun K5 hk_5 => ?_
  refine At.seq fun K6 hk_6 => ?_
  refine At.region ?_
  refine op_move (nxlf rfl) rfl rfl ?_
  refine op_move (nxlf rfl) rfl rfl ?_
  refine op_lenS (nxlf rfl) se57 rfl rfl ?_
  refine op_lss (nxlf rfl) rfl rfl rfl ?_
  refine At.opsNil ?_
  refine At.norm (hk_6 ?_)
  refine At.condP rfl (fun c10 => ?_) (fun c10 => ?_)
  · refine At.skip ?_
    refine At.norm (hk_5 ?_)
    refine At.seq fun K7 hk_7 => ?_
    refine At.block ?_
    refine At.seq fun K8 hk_8 => ?_
    refine At.region ?_
    refine op_move (nxlf rfl) rfl rfl ?_
    refine op_move (nxlf rfl) rfl rfl ?_
    refine op_idx1 (nxlf rfl) se57 rfl rfl s6 (show _ = (((k : Nat)) : Int) from by omega) (by omega) rfl ?_
    refine op_loadE (nxlf rfl) sc5 rfl s6 (by first | exact get8 (by omega) | exact get64 (by omega) | exact get32 (by omega) | exact lowTo_at (by omega)) (by first | exact mem0 | exact mem1 | exact mem2 | exact mem3 | exact mem4 | exact mem5 | exact mem6 | exact mem7 | exact mem8 | exact mem9) rfl ?_
    refine op_geq (nxlf rfl) rfl rfl rfl ?_
    refine op_move (nxlf rfl) rfl rfl ?_
    refine At.partP (d := 18) rfl (fun g18 => ?_) (fun g18 => ?_)
    · refine op_move (nxgf rfl rfl rfl rfl) rfl rfl ?_
      refine op_move (nxgf rfl rfl rfl rfl) rfl rfl ?_
      refine op_idx1 (nxgf rfl rfl rfl rfl) se57 rfl rfl s6 (show _ = (((k : Nat)) : Int) from by omega) (by omega) rfl ?_
      refine op_loadE (nxgf rfl rfl rfl rfl) sc5 rfl s6 (by first | exact get8 (by omega) | exact get64 (by omega) | exact get32 (by omega) | exact lowTo_at (by omega)) (by first | exact mem0 | exact mem1 | exact mem2 | exact mem3 | exact mem4 | exact mem5 | exact mem6 | exact mem7 | exact mem8 | exact mem9) rfl ?_
      refine op_leq (nxgf rfl rfl rfl rfl) rfl rfl rfl ?_
      refine op_pickT (nxlf rfl) rfl rfl rfl ?_
      refine At.opsNil ?_
      refine At.norm (hk_8 ?_)
      refine At.condP rfl (fun c24 => ?_) (fun c24 => ?_)
      · refine At.region ?_
        refine op_move (nxlf rfl) rfl rfl ?_
        refine op_move (nxlf rfl) rfl rfl ?_
        refine op_move (nxlf rfl) rfl rfl ?_
        refine op_move (nxlf rfl) rfl rfl ?_
        refine op_idx1 (nxlf rfl) se57 rfl rfl s6 (show _ = (((k : Nat)) : Int) from by omega) (by omega) rfl ?_
        refine op_loadE (nxlf rfl) sc5 rfl s6 (by first | exact get8 (by omega) | exact get64 (by omega) | exact get32 (by omega) | exact lowTo_at (by omega)) (by first | exact mem0 | exact mem1 | exact mem2 | exact mem3 | exact mem4 | exact mem5 | exact mem6 | exact mem7 | exact mem8 | exact mem9) rfl ?_
        refine op_addW (nxlf rfl) rfl rfl rfl ?_
        refine op_idx1 (nxlf rfl) se57 rfl rfl s6 (show _ = (((k : Nat)) : Int) from by omega) (by omega) rfl ?_
        refine op_storeM (nxl rfl) sz5 rfl rfl rfl rfl m6 (by rw [length_u8s, lowTo_len]; omega) sel0 (fun N6 m6 => ?_)
        simp only [setL] at m6
        rw [add32w, set_u8s, lowTo_cap (by omega) g18 c24] at m6
        have s6 := m6.rsl
        refine At.opsNil ?_
        refine At.inNorm ?_
        refine At.norm (hk_7 ?_)
        refine At.region ?_
        refine op_move (nxlf rfl) rfl rfl ?_
        refine op_addI (nxlf rfl) rfl rfl (by omega) (by omega) rfl ?_
        refine op_assign (nxlf rfl) rfl rfl ?_
        refine At.opsNil ?_
        refine At.norm ?_
        refine At.back ?_ (.refl _) ⟨k + 1, N6, rfl, rfl, rfl, by omega, m6⟩ ?_
        · exact .cons (by first | exact lkI rfl (by omega) | rfl) (.cons (by first | exact lkI rfl (by omega) | rfl) .nil)
        · omega
      · refine At.skip ?_
        refine At.inNorm ?_
        refine At.norm (hk_7 ?_)
        refine At.region ?_
        refine op_move (nxlf rfl) rfl rfl ?_
        refine op_addI (nxlf rfl) rfl rfl (by omega) (by omega) rfl ?_
        refine op_assign (nxlf rfl) rfl rfl ?_
        refine At.opsNil ?_
        refine At.norm ?_
        rw [lowTo_no (by omega) (fun h => c24 h.2)] at m6
        refine At.back ?_ (.refl _) ⟨k + 1, N6, rfl, rfl, rfl, by omega, m6⟩ ?_
        · exact .cons (by first | exact lkI rfl (by omega) | rfl) (.cons (by first | exact lkI rfl (by omega) | rfl) .nil)
        · omega
    · refine op_skip rfl rfl rfl rfl rfl rfl rfl ?_
      refine op_skip rfl rfl rfl rfl rfl rfl rfl ?_
      refine op_skip rfl rfl rfl rfl rfl rfl rfl ?_
      refine op_skip rfl rfl rfl rfl rfl rfl rfl ?_
      refine op_skip rfl rfl rfl rfl rfl rfl rfl ?_
      refine op_pickF (nxlf rfl) rfl rfl rfl ?_
      refine At.opsNil ?_
      refine At.norm (hk_8 ?_)
      refine At.condF rfl ?_
      refine At.skip ?_
      refine At.inNorm ?_
      refine At.norm (hk_7 ?_)
      refine At.region ?_
      refine op_move (nxlf rfl) rfl rfl ?_
      refine op_addI (nxlf rfl) rfl rfl (by omega) (by omega) rfl ?_
      refine op_assign (nxlf rfl) rfl rfl ?_
      refine At.opsNil ?_
      refine At.norm ?_
      rw [lowTo_no (by omega) (fun h => g18 h.1)] at m6
      refine At.back ?_ (.refl _) ⟨k + 1, N6, rfl, rfl, rfl, by omega, m6⟩ ?_
      · exact .cons (by first | exact lkI rfl (by omega) | rfl) (.cons (by first | exact lkI rfl (by omega) | rfl) .nil)
      · omega
  · refine At.exit (At.thenExit (At.thenExit (At.inHit ?_)))
    refine At.norm (hk_3 ?_)
    refine At.seq fun K9 hk_9 => ?_
    refine At.region ?_
    refine op_move (nxlf rfl) rfl rfl ?_
    refine op_str (nxlf rfl) Tryd.underlying57 Tryd.underlying5 Tryd.underlying9 rfl (by assumption) (by first | exact mem0 | exact mem1 | exact mem2 | exact mem3 | exact mem4 | exact mem5 | exact mem6 | exact mem7 | exact mem8 | exact mem9) rfl ?_
    refine op_assign (nxlf rfl) rfl rfl ?_
    refine At.opsNil ?_
    refine At.norm (hk_9 ?_)
    refine At.ret (?_)
    refine At.sub (L' := [R]) (.cons _ (.cons_cons _ (.slnil))) ?_
    refine At.ret1 (L1 := []) rfl (.tmp rfl .nil) (.refl _) (.refl _) ?_
    have hk2 : l.length ≤ k := by omega
    rw [lowTo_all hk2]
    exact ⟨rfl, rfl⟩
end
end Go.Proofs.YtoabimaidpbkiaaDoor
