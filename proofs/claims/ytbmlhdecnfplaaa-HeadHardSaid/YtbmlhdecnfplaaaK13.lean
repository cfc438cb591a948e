/- Several texts in one: see the remarks ahead of each part. No condition but those told there. -/
import Derived.Test.YtbmlhdecnfplaaaK12
import Derived.Test.YtbmlhdecnfplaaaK9
import Derived.Test.YtbmlhdecnfplaaaK8
import Derived.Test.YtbmlhdecnfplaaaK5
/- limb.step: the upper limbs divided. Condition: at most 2^40 limbs; the quotient is one limb. -/
namespace Go.Proofs.Ytbmlhdecnfplaaa
set_option linter.unusedVariables false
set_option linter.unusedSimpArgs false
open Go Go.RowKit
def StepP (b : Nat) (e : TypeId) (pre u v post : List UInt64) (r : Value) (L : List Heaplet) : Prop :=
  ∃ M x, ∃ q : UInt64, r = .int .u64 (q.toNat : Int) ∧ L = [M] ∧ Blk M b e (u64s (pre ++ x ++ post)) ∧ x.length = u.length ∧ q.toNat = v64 u / v64 v ∧ v64 x = v64 u % v64 v
set_option maxRecDepth 100000 in
theorem step_f {Nu Nv : Heaplet} {b o cu n cv : Nat} {e : TypeId} {vo : Option Addr} {pre u post v : List UInt64} (Bu : Blk Nu b e (u64s (pre ++ u ++ post))) (hv : RSl Nv 1 vo n cv (u64s v)) (hp : pre.length = o) (hul : u.length = n + 1) (hcu : n + 1 ≤ cu) (hcm : cu ≤ 9223372036854775807)
    (hn1 : 1 ≤ n) (hn : n ≤ 1099511627776) (hV : 0 < v64 v) (hU : v64 u < v64 v * 18446744073709551616) :
    Fn Try.prog 70 #[.slice (some ⟨b, o, none⟩) (n + 1) cu, .slice vo n cv] [Nu] [Nv] (StepP b e pre u v post) := by
  have hcv := hv.cap63
  have hvl := hv.len64
  refine Fn.enter (vs := [.slice (some ⟨b, o, none⟩) (n + 1) cu, .slice vo n cv]) Try.func70 rfl rfl rfl ?_
  intro E R hR
  have hv := hv.le (hR Nv (by simp))
  have su := Bu.win hp (show u.length ≤ cu by omega) hcm
  rw [hul] at su
  have hQB : v64 u / v64 v < 18446744073709551616 := by rw [Nat.div_lt_iff_lt_mul hV, Nat.mul_comm]; exact hU
  change At _ _ E [Nu, R] _
  refine At.seq fun K1 hk_1 => ?_
  refine At.region ?_
  refine op_assign (nxlf rfl) rfl rfl ?_
  refine At.opsNil ?_
  refine At.norm (hk_1 ?_)
  refine At.seq fun K2 hk_2 => ?_
  refine At.region ?_
  refine op_move (nxlf rfl) rfl rfl ?_
  refine op_lenS (nxlf rfl) se59 rfl rfl ?_
  refine op_assign (nxlf rfl) rfl rfl ?_
  refine At.opsNil ?_
  refine At.norm (hk_2 ?_)
  refine At.seq fun K3 hk_3 => ?_
  refine At.region ?_
  refine op_assign (nxlf rfl) rfl rfl ?_
  refine At.opsNil ?_
  refine At.norm (hk_3 ?_)
  refine At.seq fun K4 hk_4 => ?_
  refine At.meet (fun fr_ hp_ => ∃ (q0 : UInt64), fr_ = [(0, .slice (some ⟨b, o, none⟩) (n + 1) cu), (1, .slice vo n cv), (5, .int .i64 (n : Int)), (6, .int .u64 (q0.toNat : Int))] ∧ hp_ = [Nu, R] ∧ (v64 u / v64 v ≤ q0.toNat)) ?_ (fun K4_ jk_4 => ?_)
  rotate_left
  · skip
    refine At.seq fun K5 hk_5 => ?_
    refine At.drawnS [Nu, R] [] [] [0,1,2,3,4,5,6,7,8,9] (by kernel_rfl) (by kernel_rfl) (.refl _) ?_
    refine op_move (nxsf rfl rfl rfl) rfl rfl ?_
    refine op_move (nxsf rfl rfl rfl) rfl rfl ?_
    refine op_idx1 (nxsf rfl rfl rfl) se59 rfl rfl su (show _ = (((n : Nat)) : Int) from by omega) (by omega) rfl ?_
    refine op_loadE (nxsf rfl rfl rfl) sc27 rfl su (by first | exact get8 (by omega) | exact get64 (by omega) | exact get32 (by omega)) (by first | exact mem0 | exact mem1 | exact mem2 | exact mem3 | exact mem4 | exact mem5 | exact mem6 | exact mem7 | exact mem8 | exact mem9) rfl ?_
    refine op_move (nxsf rfl rfl rfl) rfl rfl ?_
    refine op_move (nxsf rfl rfl rfl) rfl rfl ?_
    refine op_subI (nxsf rfl rfl rfl) rfl rfl (by omega) (by omega) rfl ?_
    refine op_idx1 (nxsf rfl rfl rfl) se59 rfl rfl hv (show _ = (((n - 1 : Nat)) : Int) from by omega) (by omega) rfl ?_
    refine op_loadE (nxsf rfl rfl rfl) sc27 rfl hv (by first | exact get8 (by omega) | exact get64 (by omega) | exact get32 (by omega)) (by first | exact mem0 | exact mem1 | exact mem2 | exact mem3 | exact mem4 | exact mem5 | exact mem6 | exact mem7 | exact mem8 | exact mem9) rfl ?_
    refine op_lss (nxsf rfl rfl rfl) rfl rfl rfl ?_
    refine At.sNil ?_
    refine At.norm (hk_5 ?_)
    refine At.condP rfl (fun c26 => ?_) (fun c26 => ?_)
    · refine At.drawnS [Nu, R] [14] [] [0,1,2,3,4,5,6,7,8,9,10,11,12,13,14,15,16,17,18] (by kernel_rfl) (by kernel_rfl) (.refl _) ?_
      refine op_move (nxsf rfl rfl rfl) rfl rfl ?_
      refine op_move (nxsf rfl rfl rfl) rfl rfl ?_
      refine op_idx1 (nxsf rfl rfl rfl) se59 rfl rfl su (show _ = (((n : Nat)) : Int) from by omega) (by omega) rfl ?_
      refine op_loadE (nxsf rfl rfl rfl) sc27 rfl su (by first | exact get8 (by omega) | exact get64 (by omega) | exact get32 (by omega)) (by first | exact mem0 | exact mem1 | exact mem2 | exact mem3 | exact mem4 | exact mem5 | exact mem6 | exact mem7 | exact mem8 | exact mem9) rfl ?_
      refine op_move (nxsf rfl rfl rfl) rfl rfl ?_
      refine op_move (nxsf rfl rfl rfl) rfl rfl ?_
      refine op_subI (nxsf rfl rfl rfl) rfl rfl (by omega) (by omega) rfl ?_
      refine op_idx1 (nxsf rfl rfl rfl) se59 rfl rfl su (show _ = (((n - 1 : Nat)) : Int) from by omega) (by omega) rfl ?_
      refine op_loadE (nxsf rfl rfl rfl) sc27 rfl su (by first | exact get8 (by omega) | exact get64 (by omega) | exact get32 (by omega)) (by first | exact mem0 | exact mem1 | exact mem2 | exact mem3 | exact mem4 | exact mem5 | exact mem6 | exact mem7 | exact mem8 | exact mem9) rfl ?_
      refine op_move (nxsf rfl rfl rfl) rfl rfl ?_
      refine op_move (nxsf rfl rfl rfl) rfl rfl ?_
      refine op_subI (nxsf rfl rfl rfl) rfl rfl (by omega) (by omega) rfl ?_
      refine op_idx1 (nxsf rfl rfl rfl) se59 rfl rfl hv (show _ = (((n - 1 : Nat)) : Int) from by omega) (by omega) rfl ?_
      refine op_loadE (nxsf rfl rfl rfl) sc27 rfl hv (by first | exact get8 (by omega) | exact get64 (by omega) | exact get32 (by omega)) (by first | exact mem0 | exact mem1 | exact mem2 | exact mem3 | exact mem4 | exact mem5 | exact mem6 | exact mem7 | exact mem8 | exact mem9) rfl ?_
      refine op_callA (Nx.agree (nxss rfl rfl rfl rfl)) (.cons rfl (.cons rfl (.cons rfl .nil))) (Div64_f (u.getD n 0) (u.getD (n - 1) 0) (v.getD (n - 1) 0) (by omega)) Try.func76 rfl rfl (by simp) rfl ?_
      rintro v42 L42 ⟨q, r, rfl, rfl, hq, hr⟩
      change At _ _ _ [Nu, R] _
      refine At.anyS (.refl _) ?_
      refine op_move (nxsf rfl rfl rfl) rfl rfl ?_
      refine op_extract (nxsf rfl rfl rfl) rfl rfl rfl ?_
      refine op_extract (nxsf rfl rfl rfl) rfl rfl rfl ?_
      refine op_assign (nxsf rfl rfl rfl) rfl rfl ?_
      refine At.sNil ?_
      refine At.norm (jk_4 ?_ (.refl _) ⟨q, rfl, rfl, by rw [hq]; exact qhat_ge (by omega) hvl hn1 (Nat.div_mul_le_self _ _) (by omega)⟩)
      exact .cons (by first | exact lkI rfl (by omega) | rfl) (.cons (by first | exact lkI rfl (by omega) | rfl) (.cons (by first | exact lkI rfl (by omega) | rfl) (.cons (by first | exact lkI rfl (by omega) | rfl) .nil)))
    · refine At.skip ?_
      refine At.norm (jk_4 ?_ (.refl _) ⟨18446744073709551615, rfl, rfl, by show _ ≤ 18446744073709551615; omega⟩)
      exact .cons (by first | exact lkI rfl (by omega) | rfl) (.cons (by first | exact lkI rfl (by omega) | rfl) (.cons (by first | exact lkI rfl (by omega) | rfl) (.cons (by first | exact lkI rfl (by omega) | rfl) .nil)))
  rintro _ _ ⟨q0, rfl, rfl, hq0⟩
  refine hk_4 ?_
  refine At.seq fun K6 hk_6 => ?_
  refine At.region ?_
  refine op_assign (nxlf rfl) rfl rfl ?_
  refine op_assign (nxlf rfl) rfl rfl ?_
  refine At.opsNil ?_
  refine At.norm (hk_6 ?_)
  refine At.seq fun K7 hk_7 => ?_
  refine At.seq fun K8 hk_8 => ?_
  refine At.region ?_
  refine op_move (nxlf rfl) rfl rfl ?_
  refine op_lenS (nxlf rfl) se59 rfl rfl ?_
  refine op_move (nxlf rfl) rfl rfl ?_
  refine At.opsNil ?_
  refine At.norm (hk_8 ?_)
  refine At.block ?_
  refine At.loop (fun fr_ hp_ ms_ => ∃ (k : Nat) (w : List UInt64) (cy bw : UInt64) (Nu : Heaplet), fr_ = [(0, .slice (some ⟨b, o, none⟩) (n + 1) cu), (1, .slice vo n cv), (5, .int .i64 (n : Int)), (6, .int .u64 (q0.toNat : Int)), (7, .int .u64 (bw.toNat : Int)), (8, .int .u64 (cy.toNat : Int)), (46, .int .i64 (n : Int)), (47, .int .i64 (k : Int))] ∧ hp_ = [Nu, R] ∧ n - k = ms_ ∧ (k ≤ n) ∧ (w.length = k) ∧ (bw.toNat ≤ 1) ∧ (v64 w + q0.toNat * v64 (v.take k) = v64 (u.take k) + (cy.toNat + bw.toNat) * 2 ^ (64 * k)) ∧ (Blk Nu b e (u64s (pre ++ (w ++ u.drop k) ++ post)))) ?_ (.refl _) ⟨0, [], 0, 0, Nu, rfl, rfl, rfl, by omega, rfl, by decide, by simp [v64, n64, val], by simpa using Bu⟩ ?_
  · exact .cons (by first | exact lkI rfl (by omega) | rfl) (.cons (by first | exact lkI rfl (by omega) | rfl) (.cons (by first | exact lkI rfl (by omega) | rfl) (.cons (by first | exact lkI rfl (by omega) | rfl) (.cons (by first | exact lkI rfl (by omega) | rfl) (.cons (by first | exact lkI rfl (by omega) | rfl) (.cons (by first | exact lkI rfl (by omega) | rfl) (.cons (by first | exact lkI rfl (by omega) | rfl) .nil)))))))
  rintro _ _ _ ⟨k, w, cy, bw, Nu, rfl, rfl, rfl, hk, hw, hb, hv2, Bu⟩
  have hwl : (w ++ u.drop k).length = n + 1 := by rw [List.length_append, List.length_drop]; omega
  have su := Bu.win hp (show (w ++ u.drop k).length ≤ cu by omega) hcm
  rw [hwl] at su
  refine At.seq fun K9 hk_9 => ?_
  refine At.region ?_
  refine op_lss (nxlf rfl) rfl rfl rfl ?_
  refine At.opsNil ?_
  refine At.norm (hk_9 ?_)
  refine At.seq fun K10 hk_10 => ?_
  refine At.condP rfl (fun c48 => ?_) (fun c48 => ?_)
  · refine At.skip ?_
    refine At.norm (hk_10 ?_)
    refine At.seq fun K11 hk_11 => ?_
    refine At.block ?_
    refine At.seq fun K12 hk_12 => ?_
    refine At.region ?_
    refine op_move (nxlf rfl) rfl rfl ?_
    refine op_assign (nxlf rfl) rfl rfl ?_
    refine At.opsNil ?_
    refine At.norm (hk_12 ?_)
    refine At.seq fun K13 hk_13 => ?_
    refine At.region ?_
    refine op_move (nxlf rfl) rfl rfl ?_
    refine op_move (nxlf rfl) rfl rfl ?_
    refine op_move (nxlf rfl) rfl rfl ?_
    refine op_idx1 (nxlf rfl) se59 rfl rfl hv (show _ = (((k : Nat)) : Int) from by omega) (by omega) rfl ?_
    refine op_loadE (nxlf rfl) sc27 rfl hv (by first | exact get8 (by omega) | exact get64 (by omega) | exact get32 (by omega)) (by first | exact mem0 | exact mem1 | exact mem2 | exact mem3 | exact mem4 | exact mem5 | exact mem6 | exact mem7 | exact mem8 | exact mem9) rfl ?_
    refine op_callA (nxla rfl) (.cons rfl (.cons rfl .nil)) (Mul64_f q0 (v.getD k 0)) Try.func57 rfl rfl (by simp) rfl ?_
    rintro v56 L56 ⟨rfl, rfl⟩
    change At _ _ _ [Nu, R] _
    refine op_move (nxlf rfl) rfl rfl ?_
    refine op_extract (nxlf rfl) rfl rfl rfl ?_
    refine op_extract (nxlf rfl) rfl rfl rfl ?_
    refine op_assign (nxlf rfl) rfl rfl ?_
    refine op_assign (nxlf rfl) rfl rfl ?_
    refine At.opsNil ?_
    refine At.norm (hk_13 ?_)
    refine At.seq fun K14 hk_14 => ?_
    refine At.region ?_
    refine op_assign (nxlf rfl) rfl rfl ?_
    refine At.opsNil ?_
    refine At.norm (hk_14 ?_)
    refine At.seq fun K15 hk_15 => ?_
    refine At.region ?_
    refine op_move (nxlf rfl) rfl rfl ?_
    refine op_move (nxlf rfl) rfl rfl ?_
    refine op_ext (nxla rfl) (.cons rfl (.cons rfl (.cons rfl .nil))) (Add64_x (q0 * v.getD k 0) cy 0 (by decide)) rfl ?_
    refine op_move (nxlf rfl) rfl rfl ?_
    refine op_extract (nxlf rfl) rfl rfl rfl ?_
    refine op_extract (nxlf rfl) rfl rfl rfl ?_
    refine op_assign (nxlf rfl) rfl rfl ?_
    refine op_assign (nxlf rfl) rfl rfl ?_
    refine At.opsNil ?_
    refine At.norm (hk_15 ?_)
    refine At.seq fun K16 hk_16 => ?_
    refine At.region ?_
    refine op_move (nxlf rfl) rfl rfl ?_
    refine op_move (nxlf rfl) rfl rfl ?_
    refine op_move (nxlf rfl) rfl rfl ?_
    refine op_move (nxlf rfl) rfl rfl ?_
    refine op_idx1 (nxlf rfl) se59 rfl rfl su (show _ = (((k : Nat)) : Int) from by omega) (by omega) rfl ?_
    refine op_loadE (nxlf rfl) sc27 rfl su (by first | exact get8 (by omega) | exact get64 (by omega) | exact get32 (by omega)) (by first | exact mem0 | exact mem1 | exact mem2 | exact mem3 | exact mem4 | exact mem5 | exact mem6 | exact mem7 | exact mem8 | exact mem9) rfl ?_
    rw [getD_drop hw (show k < u.length by omega)]
    refine op_move (nxlf rfl) rfl rfl ?_
    refine op_move (nxlf rfl) rfl rfl ?_
    refine op_ext (nxla rfl) (.cons rfl (.cons rfl (.cons rfl .nil))) (Sub64_x (u.getD k 0) (addS (q0 * v.getD k 0) cy 0) bw hb) rfl ?_
    refine op_move (nxlf rfl) rfl rfl ?_
    refine op_extract (nxlf rfl) rfl rfl rfl ?_
    refine op_extract (nxlf rfl) rfl rfl rfl ?_
    refine op_idx1 (nxlf rfl) se59 rfl rfl su (show _ = (((k : Nat)) : Int) from by omega) (by omega) rfl ?_
    refine op_store (nxl rfl) sz27 rfl rfl rfl rfl rfl Bu (by simp; omega) sel0 (fun Nu Bu => ?_)
    simp only [setL] at Bu
    rw [set_u64s, win_set hp (show k < (w ++ u.drop k).length by omega), set_drop hw (show k < u.length by omega)] at Bu
    refine op_assign (nxlf rfl) rfl rfl ?_
    refine At.opsNil ?_
    refine At.norm (hk_16 ?_)
    refine At.region ?_
    refine op_move (nxlf rfl) rfl rfl ?_
    refine op_move (nxlf rfl) rfl rfl ?_
    refine op_addU (nxlf rfl) rfl rfl rfl ?_
    refine op_assign (nxlf rfl) rfl rfl ?_
    refine At.opsNil ?_
    refine At.inNorm ?_
    refine At.norm (hk_11 ?_)
    refine At.region ?_
    refine op_addI (nxlf rfl) rfl rfl (by omega) (by omega) rfl ?_
    refine op_move (nxlf rfl) rfl rfl ?_
    refine At.opsNil ?_
    refine At.norm ?_
    refine At.back ?_ (.refl _) ⟨k + 1, w ++ [subS (u.getD k 0) (addS (q0 * v.getD k 0) cy 0) bw], mulH q0 (v.getD k 0) + addC (q0 * v.getD k 0) cy 0, subC (u.getD k 0) (addS (q0 * v.getD k 0) cy 0) bw, Nu, rfl, rfl, rfl, by omega, by simp; omega, (sub64_law _ _ _ hb).2, step_round hw hb hv2, Bu⟩ ?_
    · exact .cons (by first | exact lkI rfl (by omega) | rfl) (.cons (by first | exact lkI rfl (by omega) | rfl) (.cons (by first | exact lkI rfl (by omega) | rfl) (.cons (by first | exact lkI rfl (by omega) | rfl) (.cons (by first | exact lkI rfl (by omega) | rfl) (.cons (by first | exact lkI rfl (by omega) | rfl) (.cons (by first | exact lkI rfl (by omega) | rfl) (.cons (by first | exact lkI rfl (by omega) | rfl) .nil)))))))
    · omega
  · refine At.exit (At.thenExit (At.thenExit (At.inHit ?_)))
    refine At.norm (hk_7 ?_)
    refine At.seq fun K17 hk_17 => ?_
    refine At.region ?_
    have hkn : k = n := by omega
    refine op_move (nxlf rfl) rfl rfl ?_
    refine op_move (nxlf rfl) rfl rfl ?_
    refine op_move (nxlf rfl) rfl rfl ?_
    refine op_move (nxlf rfl) rfl rfl ?_
    refine op_idx1 (nxlf rfl) se59 rfl rfl su (show _ = (((n : Nat)) : Int) from by omega) (by omega) rfl ?_
    refine op_loadE (nxlf rfl) sc27 rfl su (by first | exact get8 (by omega) | exact get64 (by omega) | exact get32 (by omega)) (by first | exact mem0 | exact mem1 | exact mem2 | exact mem3 | exact mem4 | exact mem5 | exact mem6 | exact mem7 | exact mem8 | exact mem9) rfl ?_
    rw [show (w ++ u.drop k).getD n 0 = u.getD n 0 by rw [← hkn, getD_drop hw (by omega)]]
    refine op_move (nxlf rfl) rfl rfl ?_
    refine op_move (nxlf rfl) rfl rfl ?_
    refine op_ext (nxla rfl) (.cons rfl (.cons rfl (.cons rfl .nil))) (Sub64_x (u.getD n 0) cy bw hb) rfl ?_
    refine op_move (nxlf rfl) rfl rfl ?_
    refine op_extract (nxlf rfl) rfl rfl rfl ?_
    refine op_extract (nxlf rfl) rfl rfl rfl ?_
    refine op_idx1 (nxlf rfl) se59 rfl rfl su (show _ = (((n : Nat)) : Int) from by omega) (by omega) rfl ?_
    refine op_store (nxl rfl) sz27 rfl rfl rfl rfl rfl Bu (by simp; omega) sel0 (fun Nu Bu => ?_)
    simp only [setL] at Bu
    rw [set_u64s, win_set hp (show n < (w ++ u.drop k).length by omega), show (w ++ u.drop k).set n (subS (u.getD n 0) cy bw) = w ++ [subS (u.getD n 0) cy bw] by rw [← hkn, set_drop hw (by omega), List.drop_of_length_le (by omega), List.append_nil]] at Bu
    rw [hkn, v64_take_all (by omega)] at hv2
    have hlast := step_last (by omega) hb hv2 hul
    have hb2 := (sub64_law (u.getD n 0) cy bw hb).2
    refine op_assign (nxlf rfl) rfl rfl ?_
    refine At.opsNil ?_
    refine At.norm (hk_17 ?_)
    refine At.seq fun K18 hk_18 => ?_
    refine At.block ?_
    refine At.loop (fun fr_ hp_ ms_ => ∃ (x : List UInt64) (q bo : UInt64) (Nu : Heaplet), fr_ = [(0, .slice (some ⟨b, o, none⟩) (n + 1) cu), (1, .slice vo n cv), (5, .int .i64 (n : Int)), (6, .int .u64 (q.toNat : Int)), (7, .int .u64 (bo.toNat : Int))] ∧ hp_ = [Nu, R] ∧ q.toNat = ms_ ∧ (x.length = n + 1) ∧ (bo.toNat ≤ 1) ∧ (v64 x + q.toNat * v64 v = v64 u + bo.toNat * 2 ^ (64 * (n + 1))) ∧ (bo.toNat = 0 → v64 x < v64 v) ∧ (Blk Nu b e (u64s (pre ++ x ++ post)))) ?_ (.refl _) ⟨w ++ [subS (u.getD n 0) cy bw], q0, subC (u.getD n 0) cy bw, Nu, rfl, rfl, rfl, by simp; omega, hb2, hlast, fun h => step_start (Q := 0) hV hlast hq0 h, Bu⟩ ?_
    · exact .cons (by first | exact lkI rfl (by omega) | rfl) (.cons (by first | exact lkI rfl (by omega) | rfl) (.cons (by first | exact lkI rfl (by omega) | rfl) (.cons (by first | exact lkI rfl (by omega) | rfl) (.cons (by first | exact lkI rfl (by omega) | rfl) .nil))))
    rintro _ _ _ ⟨x, q, bo, Nu, rfl, rfl, rfl, hxl, hbo, hx, hx0, Bu⟩
    have su := Bu.win hp (show x.length ≤ cu by omega) hcm
    rw [hxl] at su
    refine At.seq fun K19 hk_19 => ?_
    refine At.seq fun K20 hk_20 => ?_
    refine At.region ?_
    refine op_move (nxlf rfl) rfl rfl ?_
    refine op_neq (nxlf rfl) rfl rfl rfl ?_
    refine At.opsNil ?_
    refine At.norm (hk_20 ?_)
    refine At.condP rfl (fun c96 => ?_) (fun c96 => ?_)
    · refine At.skip ?_
      refine At.norm (hk_19 ?_)
      refine At.block ?_
      refine At.seq fun K21 hk_21 => ?_
      refine At.region ?_
      refine op_move (nxlf rfl) rfl rfl ?_
      refine op_subU (b := 1) (nxlf rfl) rfl rfl rfl ?_
      refine op_assign (nxlf rfl) rfl rfl ?_
      refine At.opsNil ?_
      refine At.norm (hk_21 ?_)
      refine At.seq fun K22 hk_22 => ?_
      refine At.region ?_
      refine op_assign (nxlf rfl) rfl rfl ?_
      refine At.opsNil ?_
      refine At.norm (hk_22 ?_)
      refine At.seq fun K23 hk_23 => ?_
      refine At.seq fun K24 hk_24 => ?_
      refine At.region ?_
      refine op_move (nxlf rfl) rfl rfl ?_
      refine op_lenS (nxlf rfl) se59 rfl rfl ?_
      refine op_move (nxlf rfl) rfl rfl ?_
      refine At.opsNil ?_
      refine At.norm (hk_24 ?_)
      refine At.block ?_
      refine At.loop (fun fr_ hp_ ms_ => ∃ (k : Nat) (w : List UInt64) (c : UInt64) (Nu : Heaplet), fr_ = [(0, .slice (some ⟨b, o, none⟩) (n + 1) cu), (1, .slice vo n cv), (5, .int .i64 (n : Int)), (6, .int .u64 ((q - 1).toNat : Int)), (7, .int .u64 (bo.toNat : Int)), (13, .int .u64 (c.toNat : Int)), (100, .int .i64 (n : Int)), (101, .int .i64 (k : Int))] ∧ hp_ = [Nu, R] ∧ n - k = ms_ ∧ (k ≤ n) ∧ (w.length = k) ∧ (c.toNat ≤ 1) ∧ (v64 w + c.toNat * 2 ^ (64 * k) = v64 (x.take k) + v64 (v.take k)) ∧ (Blk Nu b e (u64s (pre ++ (w ++ x.drop k) ++ post)))) ?_ (.refl _) ⟨0, [], 0, Nu, rfl, rfl, rfl, by omega, rfl, by decide, by simp [v64, n64, val], by simpa using Bu⟩ ?_
      · exact .cons (by first | exact lkI rfl (by omega) | rfl) (.cons (by first | exact lkI rfl (by omega) | rfl) (.cons (by first | exact lkI rfl (by omega) | rfl) (.cons (by first | exact lkI rfl (by omega) | rfl) (.cons (by first | exact lkI rfl (by omega) | rfl) (.cons (by first | exact lkI rfl (by omega) | rfl) (.cons (by first | exact lkI rfl (by omega) | rfl) (.cons (by first | exact lkI rfl (by omega) | rfl) .nil)))))))
      rintro _ _ _ ⟨k, w, c, Nu, rfl, rfl, rfl, hk, hw, hc, hv3, Bu⟩
      have hwl : (w ++ x.drop k).length = n + 1 := by rw [List.length_append, List.length_drop]; omega
      have su := Bu.win hp (show (w ++ x.drop k).length ≤ cu by omega) hcm
      rw [hwl] at su
      refine At.seq fun K25 hk_25 => ?_
      refine At.region ?_
      refine op_lss (nxlf rfl) rfl rfl rfl ?_
      refine At.opsNil ?_
      refine At.norm (hk_25 ?_)
      refine At.seq fun K26 hk_26 => ?_
      refine At.condP rfl (fun c102 => ?_) (fun c102 => ?_)
      · refine At.skip ?_
        refine At.norm (hk_26 ?_)
        refine At.seq fun K27 hk_27 => ?_
        refine At.block ?_
        refine At.seq fun K28 hk_28 => ?_
        refine At.region ?_
        refine op_move (nxlf rfl) rfl rfl ?_
        refine op_assign (nxlf rfl) rfl rfl ?_
        refine At.opsNil ?_
        refine At.norm (hk_28 ?_)
        refine At.drawnS [Nu, R] [11,16] [0,1,14] [0,1,2,3,4,5,6,7,8,9,10,11,12,13,14,15,16,17] (by kernel_rfl) (by kernel_rfl) (.refl _) ?_
        refine op_move (nxsf rfl rfl rfl) rfl rfl ?_
        refine op_move (nxsf rfl rfl rfl) rfl rfl ?_
        refine op_move (nxsf rfl rfl rfl) rfl rfl ?_
        refine op_move (nxsf rfl rfl rfl) rfl rfl ?_
        refine op_idx1 (nxsf rfl rfl rfl) se59 rfl rfl su (show _ = (((k : Nat)) : Int) from by omega) (by omega) rfl ?_
        refine op_loadE (nxsf rfl rfl rfl) sc27 rfl su (by first | exact get8 (by omega) | exact get64 (by omega) | exact get32 (by omega)) (by first | exact mem0 | exact mem1 | exact mem2 | exact mem3 | exact mem4 | exact mem5 | exact mem6 | exact mem7 | exact mem8 | exact mem9) rfl ?_
        rw [getD_drop hw (show k < x.length by omega)]
        refine op_move (nxsf rfl rfl rfl) rfl rfl ?_
        refine op_move (nxsf rfl rfl rfl) rfl rfl ?_
        refine op_idx1 (nxsf rfl rfl rfl) se59 rfl rfl hv (show _ = (((k : Nat)) : Int) from by omega) (by omega) rfl ?_
        refine op_loadE (nxsf rfl rfl rfl) sc27 rfl hv (by first | exact get8 (by omega) | exact get64 (by omega) | exact get32 (by omega)) (by first | exact mem0 | exact mem1 | exact mem2 | exact mem3 | exact mem4 | exact mem5 | exact mem6 | exact mem7 | exact mem8 | exact mem9) rfl ?_
        refine op_move (nxsf rfl rfl rfl) rfl rfl ?_
        refine op_ext (Nx.agree (nxss rfl rfl rfl rfl)) (.cons rfl (.cons rfl (.cons rfl .nil))) (Add64_x (x.getD k 0) (v.getD k 0) c hc) rfl ?_
        refine At.anyS (.refl _) ?_
        refine op_move (nxsf rfl rfl rfl) rfl rfl ?_
        refine op_extract (nxsf rfl rfl rfl) rfl rfl rfl ?_
        refine op_extract (nxsf rfl rfl rfl) rfl rfl rfl ?_
        refine op_idx1 (nxsf rfl rfl rfl) se59 rfl rfl su (show _ = (((k : Nat)) : Int) from by omega) (by omega) rfl ?_
        refine op_store (nxss rfl rfl rfl rfl) sz27 rfl rfl rfl rfl rfl Bu (by simp; omega) sel0 (fun Nu Bu => ?_)
        simp only [setL] at Bu
        rw [set_u64s, win_set hp (show k < (w ++ x.drop k).length by omega), set_drop hw (show k < x.length by omega)] at Bu
        refine At.anyS (.refl _) ?_
        refine op_assign (nxsf rfl rfl rfl) rfl rfl ?_
        refine At.sNil ?_
        refine At.inNorm ?_
        refine At.norm (hk_27 ?_)
        refine At.region ?_
        refine op_addI (nxlf rfl) rfl rfl (by omega) (by omega) rfl ?_
        refine op_move (nxlf rfl) rfl rfl ?_
        refine At.opsNil ?_
        refine At.norm ?_
        refine At.back ?_ (.refl _) ⟨k + 1, w ++ [addS (x.getD k 0) (v.getD k 0) c], addC (x.getD k 0) (v.getD k 0) c, Nu, rfl, rfl, rfl, by omega, by simp; omega, (add64_law _ _ _ hc).2, add_round hw hc hv3, Bu⟩ ?_
        · exact .cons (by first | exact lkI rfl (by omega) | rfl) (.cons (by first | exact lkI rfl (by omega) | rfl) (.cons (by first | exact lkI rfl (by omega) | rfl) (.cons (by first | exact lkI rfl (by omega) | rfl) (.cons (by first | exact lkI rfl (by omega) | rfl) (.cons (by first | exact lkI rfl (by omega) | rfl) (.cons (by first | exact lkI rfl (by omega) | rfl) (.cons (by first | exact lkI rfl (by omega) | rfl) .nil)))))))
        · omega
      · refine At.exit (At.thenExit (At.thenExit (At.inHit ?_)))
        refine At.norm (hk_23 ?_)
        refine At.seq fun K29 hk_29 => ?_
        refine At.region ?_
        have hkn : k = n := by omega
        refine op_move (nxlf rfl) rfl rfl ?_
        refine op_move (nxlf rfl) rfl rfl ?_
        refine op_move (nxlf rfl) rfl rfl ?_
        refine op_move (nxlf rfl) rfl rfl ?_
        refine op_idx1 (nxlf rfl) se59 rfl rfl su (show _ = (((n : Nat)) : Int) from by omega) (by omega) rfl ?_
        refine op_loadE (nxlf rfl) sc27 rfl su (by first | exact get8 (by omega) | exact get64 (by omega) | exact get32 (by omega)) (by first | exact mem0 | exact mem1 | exact mem2 | exact mem3 | exact mem4 | exact mem5 | exact mem6 | exact mem7 | exact mem8 | exact mem9) rfl ?_
        rw [show (w ++ x.drop k).getD n 0 = x.getD n 0 by rw [← hkn, getD_drop hw (by omega)]]
        refine op_move (nxlf rfl) rfl rfl ?_
        refine op_ext (nxla rfl) (.cons rfl (.cons rfl (.cons rfl .nil))) (Add64_x (x.getD n 0) 0 c hc) rfl ?_
        refine op_move (nxlf rfl) rfl rfl ?_
        refine op_extract (nxlf rfl) rfl rfl rfl ?_
        refine op_extract (nxlf rfl) rfl rfl rfl ?_
        refine op_idx1 (nxlf rfl) se59 rfl rfl su (show _ = (((n : Nat)) : Int) from by omega) (by omega) rfl ?_
        refine op_store (nxl rfl) sz27 rfl rfl rfl rfl rfl Bu (by simp; omega) sel0 (fun Nu Bu => ?_)
        simp only [setL] at Bu
        rw [set_u64s, win_set hp (show n < (w ++ x.drop k).length by omega), show (w ++ x.drop k).set n (addS (x.getD n 0) 0 c) = w ++ [addS (x.getD n 0) 0 c] by rw [← hkn, set_drop hw (by omega), List.drop_of_length_le (by omega), List.append_nil]] at Bu
        rw [hkn] at hw hv3
        have hvn : v.getD n 0 = 0 := getD_big (by omega)
        have har := add_round hw hc hv3
        have hac := (add64_law (x.getD n 0) (v.getD n 0) c hc).2
        rw [hvn] at har hac
        rw [v64_take_all (show x.length ≤ n + 1 by omega), v64_take_all (show v.length ≤ n + 1 by omega)] at har
        have hb1 : bo.toNat = 1 := by omega
        rw [hb1] at hx
        have hul2 := v64_lt u
        have hxl2 := v64_lt x
        have hwl2 := v64_lt (w ++ [addS (x.getD n 0) 0 c])
        rw [hul] at hul2
        rw [hxl] at hxl2
        rw [show (w ++ [addS (x.getD n 0) 0 c]).length = n + 1 by simp; omega] at hwl2
        obtain ⟨m1, m2, m3⟩ := step_back hx (by omega) hxl2 har hac hwl2
        have hq' := sub_one64 m1
        have hbo' : (bo - addC (x.getD n 0) 0 c).toNat = 1 - (addC (x.getD n 0) 0 c).toNat := by
          rw [UInt64.toNat_sub_of_le _ _ (by rw [UInt64.le_iff_toNat_le]; omega), hb1]
        refine op_assign (nxlf rfl) rfl rfl ?_
        refine At.opsNil ?_
        refine At.norm (hk_29 ?_)
        refine At.region ?_
        refine op_move (nxlf rfl) rfl rfl ?_
        refine op_move (nxlf rfl) rfl rfl ?_
        refine op_subU (nxlf rfl) rfl rfl rfl ?_
        refine op_assign (nxlf rfl) rfl rfl ?_
        refine At.opsNil ?_
        refine At.inNorm ?_
        refine At.norm ?_
        refine At.back ?_ (.refl _) ⟨w ++ [addS (x.getD n 0) 0 c], q - 1, bo - addC (x.getD n 0) 0 c, Nu, rfl, rfl, rfl, by simp; omega, by rw [hbo']; omega, by rw [hq', hbo']; exact m2, by rw [hbo']; exact m3, Bu⟩ ?_
        · exact .cons (by first | exact lkI rfl (by omega) | rfl) (.cons (by first | exact lkI rfl (by omega) | rfl) (.cons (by first | exact lkI rfl (by omega) | rfl) (.cons (by first | exact lkI rfl (by omega) | rfl) (.cons (by first | exact lkI rfl (by omega) | rfl) .nil))))
        · omega
    · refine At.exit (At.thenExit (At.thenExit (At.inHit ?_)))
      refine At.norm (hk_18 ?_)
      refine At.seq fun K30 hk_30 => ?_
      refine At.region ?_
      refine op_move (nxlf rfl) rfl rfl ?_
      refine op_assign (nxlf rfl) rfl rfl ?_
      refine At.opsNil ?_
      refine At.norm (hk_30 ?_)
      refine At.ret (?_)
      refine At.ret1 (L1 := [Nu]) rfl (.tmp rfl .nil) (.refl _) (.refl _) ?_
      have hb0 : bo.toNat = 0 := by omega
      rw [hb0, Nat.zero_mul, Nat.add_zero] at hx
      obtain ⟨k1, k2⟩ := step_end hx (hx0 hb0)
      exact ⟨Nu, x, q, rfl, rfl, Bu, by omega, k1, k2⟩
end Go.Proofs.Ytbmlhdecnfplaaa
/- limb.DivMod: a number in limbs divided by one that is not 0. Condition: numbers of at most 2^40 limbs. -/
namespace Go.Proofs.Ytbmlhdecnfplaaa
set_option linter.unusedVariables false
set_option linter.unusedSimpArgs false
open Go Go.RowKit
theorem Row.blk {N : Heaplet} {e : TypeId} {ao : Option Addr} {n : Nat} {xs : List Value} (h : Row N e 1 ao n n xs) (h0 : 0 < n) : ∃ b, ao = some ⟨b, 0, none⟩ ∧ Blk N b e xs := by
  obtain ⟨h1, h2, h3, h4⟩ := h
  rcases h4 with ⟨_, h5, _⟩ | ⟨b, cur, rfl, hN, hs, ht⟩
  · omega
  · refine ⟨b, rfl, ?_⟩
    have hl : cur.toList.length = n := by simpa using hs
    rw [List.take_of_length_le (by omega)] at ht
    rw [Blk, hN, ← ht]
theorem sadr_in (b o j cap : Nat) (h : cap ≠ j) : sadr (some ⟨b, o, none⟩) j cap 1 = some ⟨b, o + j, none⟩ := by
  rw [sadr, if_neg h, Option.map_some, addr_add, Nat.mul_one]
/-- Two numbers in limbs, in new memory. -/
def LimbsP2 (A B : Nat) (v : Value) (L : List Heaplet) : Prop :=
  ∃ M1 a1 c1 M2 a2 c2, v = .tuple #[.slice a1 (limbsOf A).length c1, .slice a2 (limbsOf B).length c2] ∧ L = [M1, M2] ∧ RSl M1 1 a1 (limbsOf A).length c1 (u64s (limbsOf A)) ∧ RSl M2 1 a2 (limbsOf B).length c2 (u64s (limbsOf B))
theorem limbs_top {V : Nat} (h : 0 < V) : 1 ≤ (limbsOf V).length ∧ 0 < ((limbsOf V).getD ((limbsOf V).length - 1) 0).toNat := by
  have hl := length_limbsOf V
  have hb := bitLen_pos h
  have h1 : 1 ≤ (limbsOf V).length := by omega
  refine ⟨h1, ?_⟩
  rcases Nat.eq_zero_or_pos ((limbsOf V).getD ((limbsOf V).length - 1) 0).toNat with h0 | h0
  · exfalso
    have e := v64_top1 (v := limbsOf V) rfl h1
    rw [h0, Nat.mul_zero, Nat.add_zero, v64_limbsOf] at e
    have hlt := v64_take_lt (limbsOf V) ((limbsOf V).length - 1)
    rw [← e] at hlt
    have := limbLen_le.2 hlt
    omega
  · exact h0
theorem div_fin {A B s G Q : Nat} (h : G + Q * (B * 2 ^ s) = A * 2 ^ s) (hG : G < B * 2 ^ s) : Q = A / B ∧ G / 2 ^ s = A % B := by
  have hp : 0 < 2 ^ s := Nat.pow_pos (by decide)
  obtain ⟨h1, h2⟩ := step_end h hG
  rw [Nat.mul_div_mul_right _ _ hp] at h1
  rw [Nat.mul_mod_mul_right] at h2
  exact ⟨h1, by rw [h2, Nat.mul_div_cancel _ hp]⟩
/-- What the loop begins with. -/
theorem top_small {A n m s V : Nat} (hA : A < 2 ^ (64 * m)) (hs : s < 64) (hV : 2 ^ (64 * (n - 1)) * 9223372036854775808 ≤ V) (hn : 1 ≤ n) (hnm : n ≤ m) : v64 ((limbsN (m + 1) (A * 2 ^ s)).drop (m - n + 1)) < V ∧ v64 (limbsN (m + 1) (A * 2 ^ s)) = A * 2 ^ s := by
  have h2s : 2 ^ s ≤ 9223372036854775808 := by rw [show (9223372036854775808 : Nat) = 2 ^ 63 from rfl]; exact Nat.pow_le_pow_right (by decide) (by omega)
  have hp : 0 < 2 ^ s := Nat.pow_pos (by decide)
  have hlt : A * 2 ^ s < 2 ^ (64 * m) * 2 ^ s := Nat.mul_lt_mul_of_pos_right hA hp
  have e : v64 (limbsN (m + 1) (A * 2 ^ s)) = A * 2 ^ s := by
    rw [v64_limbsN, Nat.mod_eq_of_lt]
    refine Nat.lt_of_lt_of_le hlt ?_
    rw [← Nat.pow_add]
    exact Nat.pow_le_pow_right (by decide) (by omega)
  refine ⟨?_, e⟩
  have hl : (limbsN (m + 1) (A * 2 ^ s)).length = m + 1 := by simp [limbsN]
  have h := v64_take_drop (limbsN (m + 1) (A * 2 ^ s)) (k := m - n + 1) (by omega)
  rw [e] at h
  have h3 : 2 ^ (64 * m) * 2 ^ s ≤ 2 ^ (64 * (m - n + 1)) * V := by
    have e2 : (2 : Nat) ^ (64 * m) = 2 ^ (64 * (m - n + 1)) * 2 ^ (64 * (n - 1)) := by rw [← Nat.pow_add]; congr 1; omega
    rw [e2, Nat.mul_assoc]
    refine Nat.mul_le_mul_left _ (Nat.le_trans ?_ hV)
    exact Nat.mul_le_mul_left _ h2s
  have h4 : 2 ^ (64 * (m - n + 1)) * v64 ((limbsN (m + 1) (A * 2 ^ s)).drop (m - n + 1)) < 2 ^ (64 * (m - n + 1)) * V := by omega
  exact Nat.lt_of_mul_lt_mul_left h4
theorem win_split {α : Type} (G : List α) (j n : Nat) : G = G.take j ++ (G.drop j).take n ++ G.drop (j + n) := by
  rw [← List.drop_drop, List.append_assoc, List.take_append_drop, List.take_append_drop]
set_option maxRecDepth 100000 in
theorem DivMod_f {N M : Heaplet} {ao bo : Option Addr} {n m ca cb : Nat} {a b : List UInt64} (ha : RSl N 1 ao n ca (u64s a)) (hb : RSl M 1 bo m cb (u64s b)) (hn : n ≤ 1099511627774) (hm : m ≤ 1099511627774) (hpos : 0 < v64 b) :
    Fn Try.prog 58 #[.slice ao n ca, .slice bo m cb] [] [N, M] (LimbsP2 (v64 a / v64 b) (v64 a % v64 b)) := by
  have hca := ha.cap63
  have hcb := hb.cap63
  obtain ⟨ht1, ht2⟩ := limbs_top hpos
  refine Fn.enter (vs := [.slice ao n ca, .slice bo m cb]) Try.func58 rfl rfl rfl ?_
  intro E R hR
  have ha := ha.le (hR N (by simp))
  have hb := hb.le (hR M (by simp))
  change At _ _ E [R] _
  refine At.seq fun K1 hk_1 => ?_
  refine At.region ?_
  refine op_assign (nxlf rfl) rfl rfl ?_
  refine op_assign (nxlf rfl) rfl rfl ?_
  refine At.opsNil ?_
  refine At.norm (hk_1 ?_)
  refine At.seq fun K2 hk_2 => ?_
  refine At.region ?_
  refine op_move (nxlf rfl) rfl rfl ?_
  refine op_callA (nxla rfl) (.cons rfl .nil) (Trim_f ha) Try.func44 rfl rfl (by simp) rfl ?_
  rintro v14 L14 ⟨rfl, rfl, t14, l14⟩
  change At _ _ _ [R] _
  have hx := ha.trimmed t14 l14
  refine op_move (nxlf rfl) rfl rfl ?_
  refine op_callA (nxla rfl) (.cons rfl .nil) (Trim_f hb) Try.func44 rfl rfl (by simp) rfl ?_
  rintro v16 L16 ⟨rfl, rfl, t16, l16⟩
  change At _ _ _ [R] _
  have hy := hb.trimmed t16 l16
  have hxv := v64_limbsOf (v64 a)
  have hyv := v64_limbsOf (v64 b)
  have h12 : (limbsOf (v64 a)).length < (limbsOf (v64 b)).length → v64 a < v64 b := limbs_len_lt
  have hA : v64 a < 2 ^ (64 * (limbsOf (v64 a)).length) := by
    have := v64_lt (limbsOf (v64 a)); rwa [v64_limbsOf] at this
  generalize hxe : limbsOf (v64 a) = x at *
  generalize hye : limbsOf (v64 b) = y at *
  refine op_assign (nxlf rfl) rfl rfl ?_
  refine op_assign (nxlf rfl) rfl rfl ?_
  refine At.opsNil ?_
  refine At.norm (hk_2 ?_)
  refine At.seq fun K3 hk_3 => ?_
  refine At.region ?_
  refine op_move (nxlf rfl) rfl rfl ?_
  refine op_lenS (nxlf rfl) se59 rfl rfl ?_
  refine op_move (nxlf rfl) rfl rfl ?_
  refine op_lenS (nxlf rfl) se59 rfl rfl ?_
  refine op_assign (nxlf rfl) rfl rfl ?_
  refine op_assign (nxlf rfl) rfl rfl ?_
  refine At.opsNil ?_
  refine At.norm (hk_3 ?_)
  refine At.seq fun K4 hk_4 => ?_
  refine At.seq fun K5 hk_5 => ?_
  refine At.region ?_
  refine op_move (nxlf rfl) rfl rfl ?_
  refine op_move (nxlf rfl) rfl rfl ?_
  refine op_lss (nxlf rfl) rfl rfl rfl ?_
  refine At.opsNil ?_
  refine At.norm (hk_5 ?_)
  refine At.condP rfl (fun c23 => ?_) (fun c23 => ?_)
  · refine At.seq fun K6 hk_6 => ?_
    refine At.region ?_
    refine op_move (nxlf rfl) rfl rfl ?_
    refine op_append0 (nxla rfl) Try.underlying59 Try.underlying59 te27 rfl rfl hx (by first | exact mem0 | exact mem1 | exact mem2 | exact mem3 | exact mem4 | exact mem5 | exact mem6 | exact mem7 | exact mem8 | exact mem9) (by first | exact one_u8s _ | exact one_u64s _ | exact one_u32s _ | (intro u hu; simp at hu; subst hu; rfl)) (by omega) (by omega) rfl (fun N25 a25 p25 r25 => ?_)
    have s25 := r25.rsl
    refine op_callA (nxla rfl) (.cons rfl .nil) (Trim_f s25) Try.func44 rfl rfl (by simp) rfl ?_
    rintro v26 L26 ⟨rfl, rfl, t26, l26⟩
    change At _ _ _ [N25, R] _
    refine op_assign (nxlf rfl) rfl rfl ?_
    refine op_assign (nxlf rfl) rfl rfl ?_
    refine At.opsNil ?_
    refine At.norm (hk_6 ?_)
    refine At.ret (At.thenRet (?_))
    have h := s25.trimmed t26 l26
    have hlt := h12 (by omega)
    refine At.empty ?_
    refine At.retN (L1 := [nilH, N25]) rfl (.tmp rfl (.tmp rfl .nil)) rfl (.refl _) (.refl _) ?_
    rw [hxv] at h ⊢
    rw [LimbsP2, Nat.div_eq_of_lt hlt, Nat.mod_eq_of_lt hlt]
    exact ⟨nilH, none, 0, N25, a25, _, rfl, rfl, RSl.nil _ _, h⟩
  · refine At.skip ?_
    refine At.norm (hk_4 ?_)
    refine At.seq fun K7 hk_7 => ?_
    refine At.region ?_
    refine op_move (nxlf rfl) rfl rfl ?_
    refine op_move (nxlf rfl) rfl rfl ?_
    refine op_subI (nxlf rfl) rfl rfl (by omega) (by omega) rfl ?_
    refine op_idx1 (nxlf rfl) se59 rfl rfl hy (show _ = (((y.length - 1 : Nat)) : Int) from by omega) (by omega) rfl ?_
    refine op_loadE (nxlf rfl) sc27 rfl hy (by first | exact get8 (by omega) | exact get64 (by omega) | exact get32 (by omega)) (by first | exact mem0 | exact mem1 | exact mem2 | exact mem3 | exact mem4 | exact mem5 | exact mem6 | exact mem7 | exact mem8 | exact mem9) rfl ?_
    refine op_callA (nxla rfl) (.cons rfl .nil) (LeadingZeros64_f (y.getD (y.length - 1) 0)) Try.func68 rfl rfl (by simp) rfl ?_
    rintro v32 L32 ⟨rfl, rfl⟩
    change At _ _ _ [R] _
    have hbl := bitLen64 (y.getD (y.length - 1) 0)
    have hbp := bitLen_pos ht2
    have e64 : (64 : Int) - (bitLen (y.getD (y.length - 1) 0).toNat : Nat) = ((64 - bitLen (y.getD (y.length - 1) 0).toNat : Nat) : Int) := by omega
    have hnorm := norm_ge rfl ht1 ht2
    have hs : 64 - bitLen (y.getD (y.length - 1) 0).toNat < 64 := by omega
    rw [e64]
    generalize 64 - bitLen (y.getD (y.length - 1) 0).toNat = s at *
    refine op_assign (nxlf rfl) rfl rfl ?_
    refine At.opsNil ?_
    refine At.norm (hk_7 ?_)
    refine At.seq fun K8 hk_8 => ?_
    refine At.region ?_
    refine op_move (nxlf rfl) rfl rfl ?_
    refine op_move (nxlf rfl) rfl rfl ?_
    refine op_move (nxlf rfl) rfl rfl ?_
    refine op_callA (nxla rfl) (.cons rfl (.cons rfl (.cons rfl .nil))) (shifted_f hy s y.length hs (Nat.le_refl _) (by omega)) Try.func69 rfl rfl (by simp) rfl ?_
    rintro v36 L36 ⟨M36, p36, rfl, rfl, r36⟩
    change At _ _ _ [M36, R] _
    rw [hyv] at hnorm r36
    have s36 := r36.rsl
    refine op_move (nxlf rfl) rfl rfl ?_
    refine op_move (nxlf rfl) rfl rfl ?_
    refine op_move (nxlf rfl) rfl rfl ?_
    refine op_addI (nxlf rfl) rfl rfl (by omega) (by omega) rfl ?_
    refine op_callA (nxla rfl) (.cons rfl (.cons rfl (.cons rfl .nil))) (shifted_f hx s (x.length + 1) hs (by omega) (by omega)) Try.func69 rfl rfl (by simp) rfl ?_
    rintro v41 L41 ⟨M41, p41, rfl, rfl, r41⟩
    change At _ _ _ [M41, M36, R] _
    obtain ⟨bb, rfl, B41⟩ := r41.blk (by omega)
    rw [hxv] at B41
    have hvl : (limbsN y.length (v64 b * 2 ^ s)).length = y.length := by simp [limbsN]
    have hvv : v64 (limbsN y.length (v64 b * 2 ^ s)) = v64 b * 2 ^ s := by
      rw [v64_limbsN, Nat.mod_eq_of_lt hnorm.2]
    generalize limbsN y.length (v64 b * 2 ^ s) = vv at *
    have hV0 : 0 < v64 vv := by rw [hvv]; exact Nat.mul_pos hpos (Nat.pow_pos (by decide))
    refine op_assign (nxlf rfl) rfl rfl ?_
    refine op_assign (nxlf rfl) rfl rfl ?_
    refine At.opsNil ?_
    refine At.norm (hk_8 ?_)
    refine At.seq fun K9 hk_9 => ?_
    refine At.region ?_
    refine op_move (nxlf rfl) rfl rfl ?_
    refine op_move (nxlf rfl) rfl rfl ?_
    refine op_subI (nxlf rfl) rfl rfl (by omega) (by omega) rfl ?_
    refine op_addI (nxlf rfl) rfl rfl (by omega) (by omega) rfl ?_
    refine op_make (nxla rfl) Try.underlying59 te27 rfl rfl (show _ = (((x.length - y.length + 1 : Nat)) : Int) from by omega) (show _ = (((x.length - y.length + 1 : Nat)) : Int) from by omega) (by omega) (by unfold maxLen; omega) rfl (fun N46 a46 r46 => ?_)
    rw [made_one _ _ rfl, zero_u64s] at r46
    have s46 := r46.rsl
    refine op_assign (nxlf rfl) rfl rfl ?_
    refine At.opsNil ?_
    refine At.norm (hk_9 ?_)
    refine At.seq fun K10 hk_10 => ?_
    refine At.seq fun K11 hk_11 => ?_
    refine At.region ?_
    refine op_move (nxlf rfl) rfl rfl ?_
    refine op_move (nxlf rfl) rfl rfl ?_
    refine op_subI (nxlf rfl) rfl rfl (by omega) (by omega) rfl ?_
    refine op_assign (nxlf rfl) rfl rfl ?_
    refine At.opsNil ?_
    refine At.norm (hk_11 ?_)
    refine At.block ?_
    refine At.loop (fun fr_ hp_ ms_ => ∃ (J : Nat) (G qh : List UInt64) (M41 N46 : Heaplet), fr_ = [(4, .slice a46 (x.length - y.length + 1) (x.length - y.length + 1)), (6, .int .i64 (y.length : Int)), (8, .int .i64 (s : Int)), (9, .slice p36 y.length y.length), (10, .slice (some ⟨bb, 0, none⟩) (x.length + 1) (x.length + 1)), (11, .int .i64 ((J : Int) - 1))] ∧ hp_ = [N46, M41, M36, R] ∧ J = ms_ ∧ (J ≤ x.length - y.length + 1) ∧ (G.length = x.length + 1) ∧ (v64 G + v64 (List.replicate J 0 ++ qh) * (v64 b * 2 ^ s) = v64 a * 2 ^ s) ∧ (v64 (G.drop J) < v64 b * 2 ^ s) ∧ (Blk M41 bb 27 (u64s G)) ∧ (Row N46 27 1 a46 (x.length - y.length + 1) (x.length - y.length + 1) (u64s (List.replicate J 0 ++ qh)))) ?_ (.refl _) ⟨x.length - y.length + 1, limbsN (x.length + 1) (v64 a * 2 ^ s), [], M41, N46, rfl, rfl, rfl, by omega, by simp [limbsN], by rw [List.append_nil, v64_replicate, Nat.zero_mul, Nat.add_zero]; exact (top_small hA hs hnorm.1 ht1 (by omega)).2, (top_small hA hs hnorm.1 ht1 (by omega)).1, B41, by rw [List.append_nil]; exact r46⟩ ?_
    · exact .cons (by first | exact lkI rfl (by omega) | rfl) (.cons (by first | exact lkI rfl (by omega) | rfl) (.cons (by first | exact lkI rfl (by omega) | rfl) (.cons (by first | exact lkI rfl (by omega) | rfl) (.cons (by first | exact lkI rfl (by omega) | rfl) (.cons (by first | exact lkI rfl (by omega) | rfl) .nil)))))
    rintro _ _ _ ⟨J, G, qh, M41, N46, rfl, rfl, rfl, hJ, hGl, hv, hG, B41, r46⟩
    have s46 := r46.rsl
    have s36 := s36
    refine At.seq fun K12 hk_12 => ?_
    refine At.seq fun K13 hk_13 => ?_
    refine At.region ?_
    refine op_move (nxlf rfl) rfl rfl ?_
    refine op_geq (nxlf rfl) rfl rfl rfl ?_
    refine At.opsNil ?_
    refine At.norm (hk_13 ?_)
    refine At.condP rfl (fun c51 => ?_) (fun c51 => ?_)
    · refine At.skip ?_
      refine At.norm (hk_12 ?_)
      refine At.seq fun K14 hk_14 => ?_
      refine At.block ?_
      refine At.region ?_
      refine op_move (nxlf rfl) rfl rfl ?_
      refine op_move (nxlf rfl) rfl rfl ?_
      refine op_move (nxlf rfl) rfl rfl ?_
      refine op_move (nxlf rfl) rfl rfl ?_
      refine op_move (nxlf rfl) rfl rfl ?_
      refine op_move (nxlf rfl) rfl rfl ?_
      refine op_addI (nxlf rfl) rfl rfl (by omega) (by omega) rfl ?_
      refine op_addI (nxlf rfl) rfl rfl (by omega) (by omega) rfl ?_
      have hw := win_lt (G := G) (j := J - 1) (n := y.length) (V := v64 b * 2 ^ s) (by omega) (by rw [show J - 1 + 1 = J by omega]; exact hG) (Nat.le_of_lt hnorm.2)
      have hwl : ((G.drop (J - 1)).take (y.length + 1)).length = y.length + 1 := by rw [List.length_take, List.length_drop]; omega
      have hsp := win_split G (J - 1) (y.length + 1)
      rw [hsp] at B41
      have hpre : (G.take (J - 1)).length = 0 + (J - 1) := by rw [List.length_take]; omega
      refine op_slice (nxlf rfl) se59 rfl (.some rfl (show _ = (((J - 1 : Nat)) : Int) from by omega)) (.some rfl (show _ = (((J - 1 + y.length + 1 : Nat)) : Int) from by omega)) .none (by omega) (by omega) (by omega) (by simp) rfl ?_
      rw [sadr_in _ _ _ _ (by omega), show J - 1 + y.length + 1 - (J - 1) = y.length + 1 by omega]
      refine op_move (nxlf rfl) rfl rfl ?_
      refine At.perm sel3 ?_
      refine At.perm sel3 ?_
      refine At.perm sel2 ?_
      refine At.perm sel3 ?_
      refine op_call (nxl rfl) (.cons rfl (.cons rfl .nil)) (step_f B41 s36 hpre hwl (by omega) (by omega) ht1 (by omega) hV0 (by rw [hvv]; exact hw.1)) (F := [N46, M36, R]) Try.func70 rfl rfl (.refl _) (by simp) rfl ?_
      rintro v64 L64 ⟨M41, u', q, rfl, rfl, B41, hul', hq, hr⟩
      change At _ _ _ [M41, N46, M36, R] _
      skip
      rw [hwl] at hul'
      rw [hvv] at hq hr
      obtain ⟨d1, d2, d3⟩ := div_round (qs := List.replicate J 0 ++ qh) (h := qh) (j := J - 1) (by omega) (by rw [show J - 1 + 1 = J by omega]) hv hw.2.2 hw.2.1 hul' hq hr (by rw [← hvv]; exact hV0)
      refine op_idx1 (nxlf rfl) se59 rfl rfl s46 (show _ = (((J - 1 : Nat)) : Int) from by omega) (by omega) rfl ?_
      refine op_storeE (nxl rfl) sz27 rfl rfl rfl rfl rfl r46 (by simp <;> omega) (by simp) sel1 (fun N46 r46 => ?_)
      simp only [setL] at r46
      rw [set_u64s] at r46
      have s46 := r46.rsl
      refine At.opsNil ?_
      refine At.inNorm ?_
      refine At.norm (hk_14 ?_)
      refine At.region ?_
      refine op_move (nxlf rfl) rfl rfl ?_
      refine op_subI (nxlf rfl) rfl rfl (by omega) (by omega) rfl ?_
      refine op_assign (nxlf rfl) rfl rfl ?_
      refine At.opsNil ?_
      refine At.norm ?_
      refine At.back ?_ (.refl _) ⟨J - 1, G.take (J - 1) ++ u' ++ G.drop (J - 1 + (y.length + 1)), q :: qh, M41, N46, rfl, rfl, rfl, by omega, by rw [List.length_append, List.length_append, List.length_take, List.length_drop, hul']; omega, by rw [← d3]; exact d1, d2, B41, by rw [← d3]; exact r46⟩ ?_
      · exact .cons (by first | exact lkI rfl (by omega) | rfl) (.cons (by first | exact lkI rfl (by omega) | rfl) (.cons (by first | exact lkI rfl (by omega) | rfl) (.cons (by first | exact lkI rfl (by omega) | rfl) (.cons (by first | exact lkI rfl (by omega) | rfl) (.cons (by first | exact lkI rfl (by omega) | rfl) .nil)))))
      · omega
    · refine At.exit (At.thenExit (At.thenExit (At.inHit ?_)))
      refine At.norm (hk_10 ?_)
      refine At.seq fun K15 hk_15 => ?_
      refine At.region ?_
      have hJ0 : J = 0 := by omega
      subst hJ0
      rw [List.replicate_zero, List.nil_append] at hv r46
      rw [List.drop_zero] at hG
      obtain ⟨f1, f2⟩ := div_fin hv hG
      have s41 := Blk.win (pre := []) (post := []) (x := G) (o := 0) (cu := x.length + 1) (show Blk M41 bb 27 (u64s ([] ++ G ++ [])) by simpa using B41) rfl (by omega) (by omega)
      rw [hGl] at s41
      refine op_move (nxlf rfl) rfl rfl ?_
      refine op_make (nxla rfl) Try.underlying59 te27 rfl rfl (show _ = (((y.length : Nat)) : Int) from by omega) (show _ = (((y.length : Nat)) : Int) from by omega) (by omega) (by unfold maxLen; omega) rfl (fun N67 a67 r67 => ?_)
      rw [made_one _ _ rfl, zero_u64s] at r67
      have s67 := r67.rsl
      refine op_assign (nxlf rfl) rfl rfl ?_
      refine At.opsNil ?_
      refine At.norm (hk_15 ?_)
      refine At.seq fun K16 hk_16 => ?_
      refine At.seq fun K17 hk_17 => ?_
      refine At.region ?_
      refine op_move (nxlf rfl) rfl rfl ?_
      refine op_move (nxlf rfl) rfl rfl ?_
      refine At.opsNil ?_
      refine At.norm (hk_17 ?_)
      refine At.block ?_
      refine At.sub (L' := [N67, N46, M41, R]) (.cons_cons _ (.cons_cons _ (.cons_cons _ (.cons _ (.cons_cons _ (.slnil)))))) ?_
      refine At.loop (fun fr_ hp_ ms_ => ∃ (k : Nat) (N67 : Heaplet), fr_ = [(4, .slice a46 (x.length - y.length + 1) (x.length - y.length + 1)), (5, .slice a67 y.length y.length), (8, .int .i64 (s : Int)), (10, .slice (some ⟨bb, 0, none⟩) (x.length + 1) (x.length + 1)), (68, .int .i64 (y.length : Int)), (69, .int .i64 (k : Int))] ∧ hp_ = [N67, N46, M41, R] ∧ y.length - k = ms_ ∧ (k ≤ y.length) ∧ (Row N67 27 1 a67 y.length y.length (u64s (limbsN k (v64 G / 2 ^ s) ++ List.replicate (y.length - k) 0)))) ?_ (.refl _) ⟨0, N67, rfl, rfl, rfl, by omega, by simpa [limbsN] using r67⟩ ?_
      · exact .cons (by first | exact lkI rfl (by omega) | rfl) (.cons (by first | exact lkI rfl (by omega) | rfl) (.cons (by first | exact lkI rfl (by omega) | rfl) (.cons (by first | exact lkI rfl (by omega) | rfl) (.cons (by first | exact lkI rfl (by omega) | rfl) (.cons (by first | exact lkI rfl (by omega) | rfl) .nil)))))
      rintro _ _ _ ⟨k, N67, rfl, rfl, rfl, hk, r67⟩
      have s67 := r67.rsl
      have hlk : (limbsN k (v64 G / 2 ^ s)).length = k := by simp [limbsN]
      refine At.seq fun K18 hk_18 => ?_
      refine At.region ?_
      refine op_lss (nxlf rfl) rfl rfl rfl ?_
      refine At.opsNil ?_
      refine At.norm (hk_18 ?_)
      refine At.seq fun K19 hk_19 => ?_
      refine At.condP rfl (fun c70 => ?_) (fun c70 => ?_)
      · refine At.skip ?_
        refine At.norm (hk_19 ?_)
        refine At.seq fun K20 hk_20 => ?_
        refine At.block ?_
        refine At.seq fun K21 hk_21 => ?_
        refine At.region ?_
        refine op_move (nxlf rfl) rfl rfl ?_
        refine op_assign (nxlf rfl) rfl rfl ?_
        refine At.opsNil ?_
        refine At.norm (hk_21 ?_)
        refine At.seq fun K22 hk_22 => ?_
        refine At.region ?_
        refine op_move (nxlf rfl) rfl rfl ?_
        refine op_move (nxlf rfl) rfl rfl ?_
        refine op_move (nxlf rfl) rfl rfl ?_
        refine op_move (nxlf rfl) rfl rfl ?_
        refine op_idx1 (nxlf rfl) se59 rfl rfl s41 (show _ = (((k : Nat)) : Int) from by omega) (by omega) rfl ?_
        refine op_loadE (nxlf rfl) sc27 rfl s41 (by first | exact get8 (by omega) | exact get64 (by omega) | exact get32 (by omega)) (by first | exact mem0 | exact mem1 | exact mem2 | exact mem3 | exact mem4 | exact mem5 | exact mem6 | exact mem7 | exact mem8 | exact mem9) rfl ?_
        refine op_move (nxlf rfl) rfl rfl ?_
        refine op_shrU (nxlf rfl) rfl rfl (by first | rfl | exact (Int.toNat_of_nonneg (by omega)).symm) rfl ?_
        refine op_idx1 (nxlf rfl) se59 rfl rfl s67 (show _ = (((k : Nat)) : Int) from by omega) (by omega) rfl ?_
        refine op_storeE (nxl rfl) sz27 rfl rfl rfl rfl rfl r67 (by simp <;> omega) (by simp) sel0 (fun N67 r67 => ?_)
        simp only [setL] at r67
        rw [set_u64s, set_fill hlk (by omega)] at r67
        have s67 := r67.rsl
        refine At.opsNil ?_
        refine At.norm (hk_22 ?_)
        refine At.seq fun K23 hk_23 => ?_
        refine At.region ?_
        refine op_move (nxlf rfl) rfl rfl ?_
        refine op_gtr (nxlf rfl) rfl rfl rfl ?_
        refine At.opsNil ?_
        refine At.norm (hk_23 ?_)
        refine At.condP rfl (fun c82 => ?_) (fun c82 => ?_)
        · have hl2 : (limbsN k (v64 G / 2 ^ s) ++ [shr64 (G.getD k 0) s] ++ List.replicate (y.length - (k + 1)) 0).length = y.length := by simp; omega
          refine At.perm sel3 ?_
          refine At.perm sel3 ?_
          refine At.perm sel2 ?_
          refine At.perm sel3 ?_
          refine At.drawnS [N67, M41, R] [14] [] [0,1,2,3,4,5,6,7,8,9,10,11,12,13,14] (by kernel_rfl) (by kernel_rfl) (.cons _ (.refl _)) ?_
          refine op_move (nxsf rfl rfl rfl) rfl rfl ?_
          refine op_move (nxsf rfl rfl rfl) rfl rfl ?_
          refine op_idx1 (nxsf rfl rfl rfl) se59 rfl rfl s67 (show _ = (((k : Nat)) : Int) from by omega) (by omega) rfl ?_
          refine op_loadE (nxsf rfl rfl rfl) sc27 rfl s67 (by first | exact get8 (by omega) | exact get64 (by omega) | exact get32 (by omega)) (by first | exact mem0 | exact mem1 | exact mem2 | exact mem3 | exact mem4 | exact mem5 | exact mem6 | exact mem7 | exact mem8 | exact mem9) rfl ?_
          have e86 : (limbsN k (v64 G / 2 ^ s) ++ [shr64 (G.getD k 0) s] ++ List.replicate (y.length - (k + 1)) (0 : UInt64)).getD k 0 = shr64 (G.getD k 0) s := by
            rw [List.append_assoc]; exact getD_mid hlk
          rw [e86]
          refine op_move (nxsf rfl rfl rfl) rfl rfl ?_
          refine op_move (nxsf rfl rfl rfl) rfl rfl ?_
          refine op_addI (nxsf rfl rfl rfl) rfl rfl (by omega) (by omega) rfl ?_
          refine op_idx1 (nxsf rfl rfl rfl) se59 rfl rfl s41 (show _ = (((k + 1 : Nat)) : Int) from by omega) (by omega) rfl ?_
          refine op_loadE (nxsf rfl rfl rfl) sc27 rfl s41 (by first | exact get8 (by omega) | exact get64 (by omega) | exact get32 (by omega)) (by first | exact mem0 | exact mem1 | exact mem2 | exact mem3 | exact mem4 | exact mem5 | exact mem6 | exact mem7 | exact mem8 | exact mem9) rfl ?_
          refine op_move (nxsf rfl rfl rfl) rfl rfl ?_
          refine op_subI (nxsf rfl rfl rfl) rfl rfl (by omega) (by omega) rfl ?_
          refine op_shlU (nxsf rfl rfl rfl) rfl rfl (show _ = (((64 - s : Nat)) : Int) from by omega) rfl ?_
          refine op_orU (nxsf rfl rfl rfl) rfl rfl rfl ?_
          refine op_idx1 (nxsf rfl rfl rfl) se59 rfl rfl s67 (show _ = (((k : Nat)) : Int) from by omega) (by omega) rfl ?_
          refine op_storeE (nxsl rfl rfl rfl rfl) sz27 rfl rfl rfl rfl rfl r67 (by simp <;> omega) (by simp) sel1 (fun N67 r67 => ?_)
          simp only [setL] at r67
          rw [set_u64s, List.append_assoc, List.singleton_append, set_mid hlk, ← rest_at (by omega), ← limbsN_succ] at r67
          have s67 := r67.rsl
          refine At.sNil ?_
          refine At.inNorm ?_
          refine At.norm (hk_20 ?_)
          refine At.region ?_
          refine op_addI (nxlf rfl) rfl rfl (by omega) (by omega) rfl ?_
          refine op_move (nxlf rfl) rfl rfl ?_
          refine At.opsNil ?_
          refine At.norm ?_
          refine At.back ?_ (.refl _) ⟨k + 1, N67, rfl, rfl, rfl, by omega, r67⟩ ?_
          · exact .cons (by first | exact lkI rfl (by omega) | rfl) (.cons (by first | exact lkI rfl (by omega) | rfl) (.cons (by first | exact lkI rfl (by omega) | rfl) (.cons (by first | exact lkI rfl (by omega) | rfl) (.cons (by first | exact lkI rfl (by omega) | rfl) (.cons (by first | exact lkI rfl (by omega) | rfl) .nil)))))
          · omega
        · have hs0 : s = 0 := by omega
          have e : shr64 (G.getD k 0) s = UInt64.ofNat (v64 G / 2 ^ s / 2 ^ (64 * k)) := by rw [hs0]; exact rest_at0.symm
          rw [e, ← limbsN_succ] at r67
          refine At.skip ?_
          refine At.inNorm ?_
          refine At.norm (hk_20 ?_)
          refine At.region ?_
          refine op_addI (nxlf rfl) rfl rfl (by omega) (by omega) rfl ?_
          refine op_move (nxlf rfl) rfl rfl ?_
          refine At.opsNil ?_
          refine At.norm ?_
          refine At.back ?_ (.refl _) ⟨k + 1, N67, rfl, rfl, rfl, by omega, r67⟩ ?_
          · exact .cons (by first | exact lkI rfl (by omega) | rfl) (.cons (by first | exact lkI rfl (by omega) | rfl) (.cons (by first | exact lkI rfl (by omega) | rfl) (.cons (by first | exact lkI rfl (by omega) | rfl) (.cons (by first | exact lkI rfl (by omega) | rfl) (.cons (by first | exact lkI rfl (by omega) | rfl) .nil)))))
          · omega
      · refine At.exit (At.thenExit (At.thenExit (At.inHit ?_)))
        refine At.norm (hk_16 ?_)
        refine At.seq fun K24 hk_24 => ?_
        refine At.region ?_
        have hkk : k = y.length := by omega
        subst hkk
        rw [Nat.sub_self, List.replicate_zero, List.append_nil] at s67
        have s46 := r46.rsl
        refine op_move (nxlf rfl) rfl rfl ?_
        refine op_callA (nxla rfl) (.cons rfl .nil) (Trim_f s46) Try.func44 rfl rfl (by simp) rfl ?_
        rintro v99 L99 ⟨rfl, rfl, t99, l99⟩
        change At _ _ _ [N67, N46, M41, R] _
        refine op_move (nxlf rfl) rfl rfl ?_
        refine op_callA (nxla rfl) (.cons rfl .nil) (Trim_f s67) Try.func44 rfl rfl (by simp) rfl ?_
        rintro v101 L101 ⟨rfl, rfl, t101, l101⟩
        change At _ _ _ [N67, N46, M41, R] _
        refine op_assign (nxlf rfl) rfl rfl ?_
        refine op_assign (nxlf rfl) rfl rfl ?_
        refine At.opsNil ?_
        refine At.norm (hk_24 ?_)
        refine At.ret (?_)
        refine At.sub (L' := [N67, N46, R]) (.cons_cons _ (.cons_cons _ (.cons _ (.cons_cons _ (.slnil))))) ?_
        refine At.perm sel2 ?_
        refine At.perm sel1 ?_
        refine At.perm sel2 ?_
        refine At.retN (L1 := [N46, N67]) rfl (.tmp rfl (.tmp rfl .nil)) rfl (.refl _) (.refl _) ?_
        have h1 := s46.trimmed t99 l99
        have h2 := s67.trimmed t101 l101
        have e2 : v64 (limbsN y.length (v64 G / 2 ^ s)) = v64 a % v64 b := by
          rw [f2, v64_limbsN]
          refine Nat.mod_eq_of_lt (Nat.lt_trans (Nat.mod_lt _ hpos) ?_)
          rw [← hyv]; exact v64_lt y
        rw [f1] at h1 ⊢
        rw [e2] at h2 ⊢
        exact ⟨N46, a46, _, N67, a67, _, rfl, rfl, h1, h2⟩
end Go.Proofs.Ytbmlhdecnfplaaa
/- Plain laws: numbers in digits of 32 bits and their bytes. No condition. -/
namespace Go.Proofs.Ytbmlhdecnfplaaa
set_option linter.unusedVariables false
set_option linter.unusedSimpArgs false
theorem bytesOf_zero : bytesOf 0 = [] := rfl
theorem bytesOf_step {x : Nat} (h : x ≠ 0) : bytesOf x = bytesOf (x / 256) ++ [UInt8.ofNat x] := by
  have hb : (bitLen x + 7) / 8 = (bitLen (x / 256) + 7) / 8 + 1 := by
    have h1 : bitLen (x / 256) = bitLen x - 8 := bitLen_div x 8
    have h2 := bitLen_pos (Nat.pos_of_ne_zero h)
    omega
  rw [bytesOf, hb, bytesN_succ]; rfl
theorem trim_len32 {l : List UInt32} {k : Nat} (hk : k ≤ l.length) (hz : ∀ i, k ≤ i → l.getD i 0 = 0) (hl : k = 0 ∨ (0 < k ∧ l.getD (k - 1) 0 ≠ 0)) : l.take k = digsOf (v32 l) ∧ (digsOf (v32 l)).length = k := by
  have h1 : l.take k = digsOf (v32 l) := trim_eq32 hk (fun i h hki => by
    have := hz i hki
    rwa [List.getD_eq_getElem?_getD, List.getElem?_eq_getElem h] at this) (by
    rcases hl with h | ⟨h0, h⟩
    · exact .inl h
    · refine .inr ⟨by omega, ?_⟩
      rwa [List.getD_eq_getElem?_getD, List.getElem?_eq_getElem (by omega)] at h)
  exact ⟨h1, by rw [← h1, List.length_take]; omega⟩
theorem v32_two (x : UInt64) : v32 [UInt32.ofNat x.toNat, UInt32.ofNat (shr64 x 32).toNat] = x.toNat := by
  have hx := x.toNat_lt
  simp only [v32, n32, val, List.map_cons, List.map_nil, shr64, UInt32.toNat_ofNat', UInt64.toNat_ofNat']
  omega
theorem byte32_at {l : List UInt32} {i : Nat} (h : i / 4 < l.length) : UInt8.ofNat (shr32 (l.getD (i / 4) 0) (8 * (i % 4))).toNat = UInt8.ofNat (v32 l / 256 ^ i) := by
  rw [shr32, UInt32.toNat_ofNat', Nat.mod_eq_of_lt (Nat.lt_of_le_of_lt (Nat.div_le_self _ _) (UInt32.toNat_lt _)), List.getD_eq_getElem?_getD, List.getElem?_eq_getElem h, Option.getD_some, ← dig_v32 h]
  apply UInt8.toNat_inj.1
  rw [UInt8.toNat_ofNat', UInt8.toNat_ofNat']
  obtain ⟨q, r, hqr, hr⟩ : ∃ q r, i = 4 * q + r ∧ r < 4 := ⟨i / 4, i % 4, by omega, Nat.mod_lt _ (by decide)⟩
  have e1 : i / 4 = q := by omega
  have e2 : i % 4 = r := by omega
  rw [e1, e2, hqr, show (256 : Nat) ^ (4 * q + r) = 2 ^ (32 * q) * 2 ^ (8 * r) from by rw [← Nat.pow_add, show (256 : Nat) = 2 ^ 8 from rfl, ← Nat.pow_mul]; congr 1; omega, ← Nat.div_div_eq_div_mul]
  generalize v32 l / 2 ^ (32 * q) = X
  rw [show (2 : Nat) ^ 32 = 2 ^ (8 * r) * 2 ^ (32 - 8 * r) from by rw [← Nat.pow_add]; congr 1; omega, Nat.mod_mul_right_div_self]
  exact Nat.mod_mod_of_dvd _ (Nat.pow_dvd_pow 2 (by omega : 8 ≤ 32 - 8 * r))
theorem bytesOf_down {N i : Nat} (h : N / 256 ^ i ≠ 0) : bytesOf (N / 256 ^ i) = bytesOf (N / 256 ^ (i + 1)) ++ [UInt8.ofNat (N / 256 ^ i)] := by
  rw [bytesOf_step h, Nat.div_div_eq_div_mul, Nat.pow_succ]
theorem bytesOf_len0 {n : Nat} (h : (bytesOf n).length = 0) : n = 0 := by
  rw [length_bytesOf] at h
  have := byteLen_le (N := n) (k := 0)
  have h2 := this.1 (by omega)
  simpa using h2
theorem down_ne {N i : Nat} (h : 0 < (bytesOf (N / 256 ^ (i + 1))).length ∨ (UInt8.ofNat (N / 256 ^ i)).toNat ≠ 0) : N / 256 ^ i ≠ 0 := by
  intro e
  rcases h with h | h
  · have : N / 256 ^ (i + 1) = 0 := by rw [Nat.pow_succ, ← Nat.div_div_eq_div_mul, e, Nat.zero_div]
    rw [this, bytesOf_zero] at h; simp at h
  · rw [e] at h; exact h rfl
theorem down_eq {N i : Nat} (h1 : ¬ 0 < (bytesOf (N / 256 ^ (i + 1))).length) (h2 : ¬ (UInt8.ofNat (N / 256 ^ i)).toNat ≠ 0) : bytesOf (N / 256 ^ i) = bytesOf (N / 256 ^ (i + 1)) := by
  have e1 := bytesOf_len0 (Nat.eq_zero_of_not_pos h1)
  have e2 : N / 256 ^ i % 256 = 0 := by
    have : (UInt8.ofNat (N / 256 ^ i)).toNat = 0 := by omega
    rwa [UInt8.toNat_ofNat'] at this
  have e3 : N / 256 ^ i = 0 := by
    have h3 : N / 256 ^ i / 256 = 0 := by rw [Nat.div_div_eq_div_mul, ← Nat.pow_succ]; exact e1
    omega
  rw [e1, e3]
end Go.Proofs.Ytbmlhdecnfplaaa
