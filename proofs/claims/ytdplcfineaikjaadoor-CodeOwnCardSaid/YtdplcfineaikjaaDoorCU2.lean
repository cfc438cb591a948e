/- Codes: where they may be entered, by the program and by the reference. Condition: at most 2^40 bytes. -/
import Derived.Test.YtdplcfineaikjaaDoorCS0
import Derived.Test.YtdplcfineaikjaaDoorCU1
namespace Go.Proofs.YtdplcfineaikjaaDoor
set_option linter.unusedVariables false
set_option linter.unusedSimpArgs false
open Go Go.RowKit
theorem u8_lt (b : UInt8) : b.toNat < 256 := b.toNat_lt
theorem FOwn_f (b : UInt8) : Fn Tryd.prog 26 #[.int .u8 (b.toNat : Int)] [] [] (fun v L => v = .int .i64 (ownB b : Int) ∧ L = []) := by
  have hb := u8_lt b
  refine Fn.enter (vs := [.int .u8 (b.toNat : Int)]) Tryd.func26 rfl rfl rfl ?_
  intro E R hR
  change At _ _ E [R] _
  refine At.seq fun K1 hk_1 => ?_
  refine At.region ?_
  refine op_assign (nxlf rfl) rfl rfl ?_
  refine At.opsNil ?_
  refine At.norm (hk_1 ?_)
  refine At.seq fun K2 hk_2 => ?_
  refine At.seq fun K3 hk_3 => ?_
  refine At.region ?_
  refine op_move (nxlf rfl) rfl rfl ?_
  refine op_gtr (nxlf rfl) rfl rfl rfl ?_
  refine op_move (nxlf rfl) rfl rfl ?_
  refine At.partP (d := 5) rfl (fun g5 => ?_) (fun g5 => ?_)
  · refine op_move (nxgf rfl rfl rfl rfl) rfl rfl ?_
    refine op_leq (nxgf rfl rfl rfl rfl) rfl rfl rfl ?_
    refine op_pickT (nxlf rfl) rfl rfl rfl ?_
    refine At.opsNil ?_
    refine At.norm (hk_3 ?_)
    refine At.condP rfl (fun c8 => ?_) (fun c8 => ?_)
    · refine At.seq fun K4 hk_4 => ?_
      refine At.region ?_
      refine op_move (nxlf rfl) rfl rfl ?_
      refine op_convI (nxlf rfl) (und_some Tryd.underlying5) Tryd.underlying3 rfl (by omega) (by omega) rfl ?_
      refine op_subI (nxlf rfl) rfl rfl (by omega) (by omega) rfl ?_
      refine op_assign (nxlf rfl) rfl rfl ?_
      refine At.opsNil ?_
      refine At.norm (hk_4 ?_)
      refine At.ret (At.thenRet (?_))
      refine At.ret1 (L1 := []) rfl (.tmp rfl .nil) (.refl _) (.refl _) ?_
      exact ⟨congrArg (Value.int .i64) (by rw [ownB, if_pos ⟨by omega, by omega⟩]; omega), rfl⟩
    · refine At.skip ?_
      refine At.norm (hk_2 ?_)
      refine At.seq fun K5 hk_5 => ?_
      refine At.region ?_
      refine op_assign (nxlf rfl) rfl rfl ?_
      refine At.opsNil ?_
      refine At.norm (hk_5 ?_)
      refine At.ret (?_)
      refine At.ret1 (L1 := []) rfl (.tmp rfl .nil) (.refl _) (.refl _) ?_
      exact ⟨congrArg (Value.int .i64) (by rw [ownB, if_neg (by omega)]; rfl), rfl⟩
  · refine op_skip rfl rfl rfl rfl rfl rfl rfl ?_
    refine op_skip rfl rfl rfl rfl rfl rfl rfl ?_
    refine op_pickF (nxlf rfl) rfl rfl rfl ?_
    refine At.opsNil ?_
    refine At.norm (hk_3 ?_)
    refine At.condF rfl ?_
    refine At.skip ?_
    refine At.norm (hk_2 ?_)
    refine At.seq fun K6 hk_6 => ?_
    refine At.region ?_
    refine op_assign (nxlf rfl) rfl rfl ?_
    refine At.opsNil ?_
    refine At.norm (hk_6 ?_)
    refine At.ret (?_)
    refine At.ret1 (L1 := []) rfl (.tmp rfl .nil) (.refl _) (.refl _) ?_
    exact ⟨congrArg (Value.int .i64) (by rw [ownB, if_neg (by omega)]; rfl), rfl⟩
theorem rOwn_f (b : UInt8) : Fn Tryd.prog 27 #[.int .u8 (b.toNat : Int)] [] [] (fun v L => v = .int .i64 (ownB b : Int) ∧ L = []) := by
  have hb := u8_lt b
  refine Fn.enter (vs := [.int .u8 (b.toNat : Int)]) Tryd.func27 rfl rfl rfl ?_
  intro E R hR
  change At _ _ E [R] _
  refine At.seq fun K1 hk_1 => ?_
  refine At.region ?_
  refine op_assign (nxlf rfl) rfl rfl ?_
  refine At.opsNil ?_
  refine At.norm (hk_1 ?_)
  refine At.seq fun K2 hk_2 => ?_
  refine At.seq fun K3 hk_3 => ?_
  refine At.region ?_
  refine op_move (nxlf rfl) rfl rfl ?_
  refine op_geq (nxlf rfl) rfl rfl rfl ?_
  refine op_move (nxlf rfl) rfl rfl ?_
  refine At.partP (d := 5) rfl (fun g5 => ?_) (fun g5 => ?_)
  · refine op_move (nxgf rfl rfl rfl rfl) rfl rfl ?_
    refine op_leq (nxgf rfl rfl rfl rfl) rfl rfl rfl ?_
    refine op_pickT (nxlf rfl) rfl rfl rfl ?_
    refine At.opsNil ?_
    refine At.norm (hk_3 ?_)
    refine At.condP rfl (fun c8 => ?_) (fun c8 => ?_)
    · refine At.seq fun K4 hk_4 => ?_
      refine At.region ?_
      refine op_move (nxlf rfl) rfl rfl ?_
      refine op_convI (nxlf rfl) (und_some Tryd.underlying5) Tryd.underlying3 rfl (by omega) (by omega) rfl ?_
      refine op_subI (nxlf rfl) rfl rfl (by omega) (by omega) rfl ?_
      refine op_assign (nxlf rfl) rfl rfl ?_
      refine At.opsNil ?_
      refine At.norm (hk_4 ?_)
      refine At.ret (At.thenRet (?_))
      refine At.ret1 (L1 := []) rfl (.tmp rfl .nil) (.refl _) (.refl _) ?_
      exact ⟨congrArg (Value.int .i64) (by rw [ownB, if_pos ⟨by omega, by omega⟩]; omega), rfl⟩
    · refine At.skip ?_
      refine At.norm (hk_2 ?_)
      refine At.seq fun K5 hk_5 => ?_
      refine At.region ?_
      refine op_assign (nxlf rfl) rfl rfl ?_
      refine At.opsNil ?_
      refine At.norm (hk_5 ?_)
      refine At.ret (?_)
      refine At.ret1 (L1 := []) rfl (.tmp rfl .nil) (.refl _) (.refl _) ?_
      exact ⟨congrArg (Value.int .i64) (by rw [ownB, if_neg (by omega)]; rfl), rfl⟩
  · refine op_skip rfl rfl rfl rfl rfl rfl rfl ?_
    refine op_skip rfl rfl rfl rfl rfl rfl rfl ?_
    refine op_pickF (nxlf rfl) rfl rfl rfl ?_
    refine At.opsNil ?_
    refine At.norm (hk_3 ?_)
    refine At.condF rfl ?_
    refine At.skip ?_
    refine At.norm (hk_2 ?_)
    refine At.seq fun K6 hk_6 => ?_
    refine At.region ?_
    refine op_assign (nxlf rfl) rfl rfl ?_
    refine At.opsNil ?_
    refine At.norm (hk_6 ?_)
    refine At.ret (?_)
    refine At.ret1 (L1 := []) rfl (.tmp rfl .nil) (.refl _) (.refl _) ?_
    exact ⟨congrArg (Value.int .i64) (by rw [ownB, if_neg (by omega)]; rfl), rfl⟩
/-- The places, in new memory. -/
def JmpP (l : List UInt8) (v : Value) (L : List Heaplet) : Prop := ∃ M a c, v = .slice a (jumpsOf l).length c ∧ L = [M] ∧ Row M 3 1 a (jumpsOf l).length c (ints (jumpsOf l))
section
variable {N : Heaplet} {ao : Option Addr} {n cap : Nat} {l : List UInt8}
set_option maxRecDepth 100000 in
theorem FJumps_f (h : RSl N 1 ao n cap (u8s l)) (hn : n ≤ 1099511627776) : Fn Tryd.prog 9 #[.slice ao n cap] [] [N] (JmpP l) := by
  have hlen := h.len8
  refine Fn.enter (vs := [.slice ao n cap]) Tryd.func9 rfl rfl rfl ?_
  intro E R hR
  have h := h.le (hR N (by simp))
  change At _ _ E [R] _
  refine At.seq fun K1 hk_1 => ?_
  refine At.region ?_
  refine op_assign (nxlf rfl) rfl rfl ?_
  refine At.opsNil ?_
  refine At.norm (hk_1 ?_)
  refine At.seq fun K2 hk_2 => ?_
  refine At.region ?_
  refine op_assign (nxlf rfl) rfl rfl ?_
  refine At.opsNil ?_
  refine At.norm (hk_2 ?_)
  refine At.seq fun K3 hk_3 => ?_
  refine At.seq fun K4 hk_4 => ?_
  refine At.region ?_
  refine op_assign (nxlf rfl) rfl rfl ?_
  refine At.opsNil ?_
  refine At.norm (hk_4 ?_)
  refine At.block ?_
  refine At.empty ?_
  refine At.loop (fun fr_ hp_ ms_ => ∃ (p : Nat) (done : List Nat) (a : Option Addr) (dn c : Nat) (Na : Heaplet), fr_ = [(0, .slice ao n cap), (3, .slice a dn c), (4, .int .i64 (p : Int))] ∧ hp_ = [Na, R] ∧ n - p = ms_ ∧ (p ≤ n + 33) ∧ (dn = done.length) ∧ (dn ≤ p) ∧ (done ++ jmpAt l p = jumpsOf l) ∧ (Row Na 3 1 a dn c (ints done))) ?_ (.refl _) ⟨0, [], none, 0, 0, nilH, rfl, rfl, rfl, by omega, rfl, by omega, rfl, Row.nil _ _ _⟩ ?_
  · exact .cons (by first | exact lkI rfl (by omega) | rfl) (.cons (by first | exact lkI rfl (by omega) | rfl) (.cons (by first | exact lkI rfl (by omega) | rfl) .nil))
  rintro _ _ _ ⟨p, done, a, dn, c, Na, rfl, rfl, rfl, hp, hdn, hdp, hd, ra⟩
  refine At.seq fun K5 hk_5 => ?_
  refine At.seq fun K6 hk_6 => ?_
  refine At.region ?_
  refine op_move (nxlf rfl) rfl rfl ?_
  refine op_move (nxlf rfl) rfl rfl ?_
  refine op_lenS (nxlf rfl) se22 rfl rfl ?_
  refine op_lss (nxlf rfl) rfl rfl rfl ?_
  refine At.opsNil ?_
  refine At.norm (hk_6 ?_)
  refine At.condP rfl (fun c8 => ?_) (fun c8 => ?_)
  · have ho := ownB_le (l.getD p 0)
    refine At.skip ?_
    refine At.norm (hk_5 ?_)
    refine At.seq fun K7 hk_7 => ?_
    refine At.block ?_
    refine At.seq fun K8 hk_8 => ?_
    refine At.region ?_
    refine op_move (nxlf rfl) rfl rfl ?_
    refine op_move (nxlf rfl) rfl rfl ?_
    refine op_idx1 (nxlf rfl) se22 rfl rfl h (show _ = (((p : Nat)) : Int) from by omega) (by omega) rfl ?_
    refine op_loadE (nxlf rfl) sc5 rfl h (by first | exact get8 (by omega) | exact get64 (by omega) | exact get32 (by omega)) (by first | exact mem0 | exact mem1 | exact mem2 | exact mem3 | exact mem4 | exact mem5 | exact mem6 | exact mem7 | exact mem8 | exact mem9) rfl ?_
    refine op_eql (nxlf rfl) rfl rfl rfl ?_
    refine At.opsNil ?_
    refine At.norm (hk_8 ?_)
    refine At.condP rfl (fun c21 => ?_) (fun c21 => ?_)
    · refine At.region ?_
      refine op_move (nxlf rfl) rfl rfl ?_
      refine op_move (nxlf rfl) rfl rfl ?_
      refine op_lit (nxla rfl) Tryd.underlying27 ze3 sz3 (.cons rfl .nil) rfl rfl (by simp [Value.cells]) rfl rfl rfl (fun N24 a24 r24 => ?_)
      simp only [flatV, List.flatMap_cons, List.flatMap_nil, Value.cells, List.append_nil, List.cons_append, List.nil_append] at r24
      have s24 := r24.rsl
      change Row N24 _ 1 a24 1 1 [.int .i64 (p : Int)] at r24
      have s24 := r24.rsl
      refine op_append (nxl rfl) Tryd.underlying27 Tryd.underlying27 te3 rfl rfl ra s24 (by first | exact mem0 | exact mem1 | exact mem2 | exact mem3 | exact mem4 | exact mem5 | exact mem6 | exact mem7 | exact mem8 | exact mem9) (by first | exact one_u8s _ | exact one_u64s _ | exact one_u32s _ | (intro u hu; simp at hu; subst hu; rfl)) (by omega) (by omega) sel1 rfl (fun N25 a25 p25 r25 => ?_)
      have s25 := r25.rsl
      have r25 : Row N25 3 1 a25 (dn + 1) p25 (ints (done ++ [p])) := by
        rw [ints_app]
        exact r25
      refine op_assign (nxlf rfl) rfl rfl ?_
      refine At.opsNil ?_
      refine At.inNorm ?_
      refine At.norm (hk_7 ?_)
      refine At.region ?_
      refine op_move (nxlf rfl) rfl rfl ?_
      refine op_move (nxlf rfl) rfl rfl ?_
      refine op_move (nxlf rfl) rfl rfl ?_
      refine op_idx1 (nxlf rfl) se22 rfl rfl h (show _ = (((p : Nat)) : Int) from by omega) (by omega) rfl ?_
      refine op_loadE (nxlf rfl) sc5 rfl h (by first | exact get8 (by omega) | exact get64 (by omega) | exact get32 (by omega)) (by first | exact mem0 | exact mem1 | exact mem2 | exact mem3 | exact mem4 | exact mem5 | exact mem6 | exact mem7 | exact mem8 | exact mem9) rfl ?_
      refine op_callA (nxla rfl) (.cons rfl .nil) (FOwn_f (l.getD p 0)) Tryd.func26 rfl rfl (by simp) rfl ?_
      rintro v14 L14 ⟨rfl, rfl⟩
      change At _ _ _ [N25, N24, R] _
      refine op_addI (nxlf rfl) rfl rfl (by omega) (by omega) rfl ?_
      refine op_addI (nxlf rfl) rfl rfl (by omega) (by omega) rfl ?_
      refine op_assign (nxlf rfl) rfl rfl ?_
      refine At.opsNil ?_
      refine At.norm ?_
      refine At.sub (L' := [N25, R]) (.cons_cons _ (.cons _ (.cons_cons _ (.slnil)))) ?_
      refine At.back ?_ (.refl _) ⟨p + 1 + ownB (l.getD p 0), done ++ [p], a25, dn + 1, p25, N25, rfl, rfl, rfl, by omega, by rw [List.length_append, hdn]; rfl, by omega, by rw [List.append_assoc, List.singleton_append, ← jmpAt_y (by omega) (by omega)]; exact hd, r25⟩ ?_
      · exact .cons (by first | exact lkI rfl (by omega) | rfl) (.cons (by first | exact lkI rfl (by omega) | rfl) (.cons (by first | exact lkI rfl (by omega) | rfl) .nil))
      · omega
    · refine At.skip ?_
      refine At.inNorm ?_
      refine At.norm (hk_7 ?_)
      refine At.region ?_
      refine op_move (nxlf rfl) rfl rfl ?_
      refine op_move (nxlf rfl) rfl rfl ?_
      refine op_move (nxlf rfl) rfl rfl ?_
      refine op_idx1 (nxlf rfl) se22 rfl rfl h (show _ = (((p : Nat)) : Int) from by omega) (by omega) rfl ?_
      refine op_loadE (nxlf rfl) sc5 rfl h (by first | exact get8 (by omega) | exact get64 (by omega) | exact get32 (by omega)) (by first | exact mem0 | exact mem1 | exact mem2 | exact mem3 | exact mem4 | exact mem5 | exact mem6 | exact mem7 | exact mem8 | exact mem9) rfl ?_
      refine op_callA (nxla rfl) (.cons rfl .nil) (FOwn_f (l.getD p 0)) Tryd.func26 rfl rfl (by simp) rfl ?_
      rintro v14 L14 ⟨rfl, rfl⟩
      change At _ _ _ [Na, R] _
      refine op_addI (nxlf rfl) rfl rfl (by omega) (by omega) rfl ?_
      refine op_addI (nxlf rfl) rfl rfl (by omega) (by omega) rfl ?_
      refine op_assign (nxlf rfl) rfl rfl ?_
      refine At.opsNil ?_
      refine At.norm ?_
      refine At.back ?_ (.refl _) ⟨p + 1 + ownB (l.getD p 0), done, a, dn, c, Na, rfl, rfl, rfl, by omega, hdn, by omega, by rw [← jmpAt_n (by omega) (by omega)]; exact hd, ra⟩ ?_
      · exact .cons (by first | exact lkI rfl (by omega) | rfl) (.cons (by first | exact lkI rfl (by omega) | rfl) (.cons (by first | exact lkI rfl (by omega) | rfl) .nil))
      · omega
  · have hfin : done = jumpsOf l := by rw [← hd, jmpAt_end (by omega), List.append_nil]
    refine At.exit (At.thenExit (At.thenExit (At.inHit ?_)))
    refine At.norm (hk_3 ?_)
    refine At.seq fun K9 hk_9 => ?_
    refine At.region ?_
    refine op_move (nxlf rfl) rfl rfl ?_
    refine op_assign (nxlf rfl) rfl rfl ?_
    refine At.opsNil ?_
    refine At.norm (hk_9 ?_)
    refine At.ret (?_)
    refine At.ret1 (L1 := [Na]) rfl (.tmp rfl .nil) (.refl _) (.refl _) ?_
    exact ⟨Na, a, c, by rw [← hfin, hdn], rfl, by rw [← hfin, ← hdn]; exact ra⟩
set_option maxRecDepth 100000 in
theorem rJumps_f (h : RSl N 1 ao n cap (u8s l)) (hn : n ≤ 1099511627776) : Fn Tryd.prog 10 #[.slice ao n cap] [] [N] (JmpP l) := by
  have hlen := h.len8
  refine Fn.enter (vs := [.slice ao n cap]) Tryd.func10 rfl rfl rfl ?_
  intro E R hR
  have h := h.le (hR N (by simp))
  change At _ _ E [R] _
  refine At.seq fun K1 hk_1 => ?_
  refine At.region ?_
  refine op_assign (nxlf rfl) rfl rfl ?_
  refine At.opsNil ?_
  refine At.norm (hk_1 ?_)
  refine At.seq fun K2 hk_2 => ?_
  refine At.region ?_
  refine op_assign (nxlf rfl) rfl rfl ?_
  refine At.opsNil ?_
  refine At.norm (hk_2 ?_)
  refine At.seq fun K3 hk_3 => ?_
  refine At.seq fun K4 hk_4 => ?_
  refine At.region ?_
  refine op_assign (nxlf rfl) rfl rfl ?_
  refine At.opsNil ?_
  refine At.norm (hk_4 ?_)
  refine At.block ?_
  refine At.empty ?_
  refine At.loop (fun fr_ hp_ ms_ => ∃ (p : Nat) (done : List Nat) (a : Option Addr) (dn c : Nat) (Na : Heaplet), fr_ = [(0, .slice ao n cap), (3, .slice a dn c), (4, .int .i64 (p : Int))] ∧ hp_ = [Na, R] ∧ n - p = ms_ ∧ (p ≤ n + 33) ∧ (dn = done.length) ∧ (dn ≤ p) ∧ (done ++ jmpAt l p = jumpsOf l) ∧ (Row Na 3 1 a dn c (ints done))) ?_ (.refl _) ⟨0, [], none, 0, 0, nilH, rfl, rfl, rfl, by omega, rfl, by omega, rfl, Row.nil _ _ _⟩ ?_
  · exact .cons (by first | exact lkI rfl (by omega) | rfl) (.cons (by first | exact lkI rfl (by omega) | rfl) (.cons (by first | exact lkI rfl (by omega) | rfl) .nil))
  rintro _ _ _ ⟨p, done, a, dn, c, Na, rfl, rfl, rfl, hp, hdn, hdp, hd, ra⟩
  refine At.seq fun K5 hk_5 => ?_
  refine At.seq fun K6 hk_6 => ?_
  refine At.region ?_
  refine op_move (nxlf rfl) rfl rfl ?_
  refine op_move (nxlf rfl) rfl rfl ?_
  refine op_lenS (nxlf rfl) se22 rfl rfl ?_
  refine op_lss (nxlf rfl) rfl rfl rfl ?_
  refine At.opsNil ?_
  refine At.norm (hk_6 ?_)
  refine At.condP rfl (fun c8 => ?_) (fun c8 => ?_)
  · have ho := ownB_le (l.getD p 0)
    refine At.skip ?_
    refine At.norm (hk_5 ?_)
    refine At.seq fun K7 hk_7 => ?_
    refine At.block ?_
    refine At.seq fun K8 hk_8 => ?_
    refine At.region ?_
    refine op_move (nxlf rfl) rfl rfl ?_
    refine op_move (nxlf rfl) rfl rfl ?_
    refine op_idx1 (nxlf rfl) se22 rfl rfl h (show _ = (((p : Nat)) : Int) from by omega) (by omega) rfl ?_
    refine op_loadE (nxlf rfl) sc5 rfl h (by first | exact get8 (by omega) | exact get64 (by omega) | exact get32 (by omega)) (by first | exact mem0 | exact mem1 | exact mem2 | exact mem3 | exact mem4 | exact mem5 | exact mem6 | exact mem7 | exact mem8 | exact mem9) rfl ?_
    refine op_eql (nxlf rfl) rfl rfl rfl ?_
    refine At.opsNil ?_
    refine At.norm (hk_8 ?_)
    refine At.condP rfl (fun c21 => ?_) (fun c21 => ?_)
    · refine At.region ?_
      refine op_move (nxlf rfl) rfl rfl ?_
      refine op_move (nxlf rfl) rfl rfl ?_
      refine op_lit (nxla rfl) Tryd.underlying27 ze3 sz3 (.cons rfl .nil) rfl rfl (by simp [Value.cells]) rfl rfl rfl (fun N24 a24 r24 => ?_)
      simp only [flatV, List.flatMap_cons, List.flatMap_nil, Value.cells, List.append_nil, List.cons_append, List.nil_append] at r24
      have s24 := r24.rsl
      change Row N24 _ 1 a24 1 1 [.int .i64 (p : Int)] at r24
      have s24 := r24.rsl
      refine op_append (nxl rfl) Tryd.underlying27 Tryd.underlying27 te3 rfl rfl ra s24 (by first | exact mem0 | exact mem1 | exact mem2 | exact mem3 | exact mem4 | exact mem5 | exact mem6 | exact mem7 | exact mem8 | exact mem9) (by first | exact one_u8s _ | exact one_u64s _ | exact one_u32s _ | (intro u hu; simp at hu; subst hu; rfl)) (by omega) (by omega) sel1 rfl (fun N25 a25 p25 r25 => ?_)
      have s25 := r25.rsl
      have r25 : Row N25 3 1 a25 (dn + 1) p25 (ints (done ++ [p])) := by
        rw [ints_app]
        exact r25
      refine op_assign (nxlf rfl) rfl rfl ?_
      refine At.opsNil ?_
      refine At.inNorm ?_
      refine At.norm (hk_7 ?_)
      refine At.region ?_
      refine op_move (nxlf rfl) rfl rfl ?_
      refine op_addI (nxlf rfl) rfl rfl (by omega) (by omega) rfl ?_
      refine op_move (nxlf rfl) rfl rfl ?_
      refine op_move (nxlf rfl) rfl rfl ?_
      refine op_idx1 (nxlf rfl) se22 rfl rfl h (show _ = (((p : Nat)) : Int) from by omega) (by omega) rfl ?_
      refine op_loadE (nxlf rfl) sc5 rfl h (by first | exact get8 (by omega) | exact get64 (by omega) | exact get32 (by omega)) (by first | exact mem0 | exact mem1 | exact mem2 | exact mem3 | exact mem4 | exact mem5 | exact mem6 | exact mem7 | exact mem8 | exact mem9) rfl ?_
      refine op_callA (nxla rfl) (.cons rfl .nil) (rOwn_f (l.getD p 0)) Tryd.func27 rfl rfl (by simp) rfl ?_
      rintro v15 L15 ⟨rfl, rfl⟩
      change At _ _ _ [N25, N24, R] _
      refine op_addI (nxlf rfl) rfl rfl (by omega) (by omega) rfl ?_
      refine op_assign (nxlf rfl) rfl rfl ?_
      refine At.opsNil ?_
      refine At.norm ?_
      refine At.sub (L' := [N25, R]) (.cons_cons _ (.cons _ (.cons_cons _ (.slnil)))) ?_
      refine At.back ?_ (.refl _) ⟨p + 1 + ownB (l.getD p 0), done ++ [p], a25, dn + 1, p25, N25, rfl, rfl, rfl, by omega, by rw [List.length_append, hdn]; rfl, by omega, by rw [List.append_assoc, List.singleton_append, ← jmpAt_y (by omega) (by omega)]; exact hd, r25⟩ ?_
      · exact .cons (by first | exact lkI rfl (by omega) | rfl) (.cons (by first | exact lkI rfl (by omega) | rfl) (.cons (by first | exact lkI rfl (by omega) | rfl) .nil))
      · omega
    · refine At.skip ?_
      refine At.inNorm ?_
      refine At.norm (hk_7 ?_)
      refine At.region ?_
      refine op_move (nxlf rfl) rfl rfl ?_
      refine op_addI (nxlf rfl) rfl rfl (by omega) (by omega) rfl ?_
      refine op_move (nxlf rfl) rfl rfl ?_
      refine op_move (nxlf rfl) rfl rfl ?_
      refine op_idx1 (nxlf rfl) se22 rfl rfl h (show _ = (((p : Nat)) : Int) from by omega) (by omega) rfl ?_
      refine op_loadE (nxlf rfl) sc5 rfl h (by first | exact get8 (by omega) | exact get64 (by omega) | exact get32 (by omega)) (by first | exact mem0 | exact mem1 | exact mem2 | exact mem3 | exact mem4 | exact mem5 | exact mem6 | exact mem7 | exact mem8 | exact mem9) rfl ?_
      refine op_callA (nxla rfl) (.cons rfl .nil) (rOwn_f (l.getD p 0)) Tryd.func27 rfl rfl (by simp) rfl ?_
      rintro v15 L15 ⟨rfl, rfl⟩
      change At _ _ _ [Na, R] _
      refine op_addI (nxlf rfl) rfl rfl (by omega) (by omega) rfl ?_
      refine op_assign (nxlf rfl) rfl rfl ?_
      refine At.opsNil ?_
      refine At.norm ?_
      refine At.back ?_ (.refl _) ⟨p + 1 + ownB (l.getD p 0), done, a, dn, c, Na, rfl, rfl, rfl, by omega, hdn, by omega, by rw [← jmpAt_n (by omega) (by omega)]; exact hd, ra⟩ ?_
      · exact .cons (by first | exact lkI rfl (by omega) | rfl) (.cons (by first | exact lkI rfl (by omega) | rfl) (.cons (by first | exact lkI rfl (by omega) | rfl) .nil))
      · omega
  · have hfin : done = jumpsOf l := by rw [← hd, jmpAt_end (by omega), List.append_nil]
    refine At.exit (At.thenExit (At.thenExit (At.inHit ?_)))
    refine At.norm (hk_3 ?_)
    refine At.seq fun K9 hk_9 => ?_
    refine At.region ?_
    refine op_move (nxlf rfl) rfl rfl ?_
    refine op_assign (nxlf rfl) rfl rfl ?_
    refine At.opsNil ?_
    refine At.norm (hk_9 ?_)
    refine At.ret (?_)
    refine At.ret1 (L1 := [Na]) rfl (.tmp rfl .nil) (.refl _) (.refl _) ?_
    exact ⟨Na, a, c, by rw [← hfin, hdn], rfl, by rw [← hfin, ← hdn]; exact ra⟩
end
end Go.Proofs.YtdplcfineaikjaaDoor
