/- Several texts in one: see the remarks ahead of each part. No condition but those told there. -/
import Derived.Test.YtbmlhdecnfplaaaK11
/- limb.Mul, limb.Cmp, limb.Bit, limb.shifted. Condition: numbers of at most 2^40 limbs. -/
namespace Go.Proofs.Ytbmlhdecnfplaaa
set_option linter.unusedVariables false
set_option linter.unusedSimpArgs false
open Go Go.RowKit
theorem order_f (x y : UInt64) : Fn Try.prog 59 #[.int .u64 (x.toNat : Int), .int .u64 (y.toNat : Int)] [] [] (fun v L => v = .int .i64 (if x.toNat < y.toNat then -1 else 1) ∧ L = []) := by
  refine Fn.enter (vs := [.int .u64 (x.toNat : Int), .int .u64 (y.toNat : Int)]) Try.func59 rfl rfl rfl ?_
  intro E R hR
  change At _ _ E [R] _
  refine At.seq fun K1 hk_1 => ?_
  refine At.region ?_
  refine op_assign (nxlf rfl) rfl rfl ?_
  refine At.opsNil ?_
  refine At.norm (hk_1 ?_)
  refine At.seq fun K2 hk_2 => ?_
  refine At.seq fun K3 hk_3 => ?_
  refine At.region ?_
  refine op_move (nxlf rfl) rfl rfl ?_
  refine op_move (nxlf rfl) rfl rfl ?_
  refine op_lss (nxlf rfl) rfl rfl rfl ?_
  refine At.opsNil ?_
  refine At.norm (hk_3 ?_)
  refine At.condP rfl (fun c7 => ?_) (fun c7 => ?_)
  · refine At.seq fun K4 hk_4 => ?_
    refine At.region ?_
    refine op_assign (nxlf rfl) rfl rfl ?_
    refine At.opsNil ?_
    refine At.norm (hk_4 ?_)
    refine At.ret (At.thenRet (?_))
    refine At.ret1 (L1 := []) rfl (.tmp rfl .nil) (.refl _) (.refl _) ?_
    exact ⟨by rw [if_pos (by omega)], rfl⟩
  · refine At.skip ?_
    refine At.norm (hk_2 ?_)
    refine At.seq fun K5 hk_5 => ?_
    refine At.region ?_
    refine op_assign (nxlf rfl) rfl rfl ?_
    refine At.opsNil ?_
    refine At.norm (hk_5 ?_)
    refine At.ret (?_)
    refine At.ret1 (L1 := []) rfl (.tmp rfl .nil) (.refl _) (.refl _) ?_
    exact ⟨by rw [if_neg (by omega)], rfl⟩
theorem Mul_f {N M : Heaplet} {ao bo : Option Addr} {n m ca cb : Nat} {a b : List UInt64} (ha : RSl N 1 ao n ca (u64s a)) (hb : RSl M 1 bo m cb (u64s b)) (hn : n ≤ 1099511627776) (hm : m ≤ 1099511627776) :
    Fn Try.prog 25 #[.slice ao n ca, .slice bo m cb] [] [N, M] (LimbsP (v64 a * v64 b)) := by
  have hca := ha.cap63
  have hcb := hb.cap63
  have hal := ha.len64
  have hbl := hb.len64
  refine Fn.enter (vs := [.slice ao n ca, .slice bo m cb]) Try.func25 rfl rfl rfl ?_
  intro E R hR
  have ha := ha.le (hR N (by simp))
  have hb := hb.le (hR M (by simp))
  change At _ _ E [R] _
  refine At.seq fun K1 hk_1 => ?_
  refine At.region ?_
  refine op_assign (nxlf rfl) rfl rfl ?_
  refine At.opsNil ?_
  refine At.norm (hk_1 ?_)
  refine At.seq fun K2 hk_2 => ?_
  refine At.region ?_
  refine op_move (nxlf rfl) rfl rfl ?_
  refine op_lenS (nxlf rfl) se59 rfl rfl ?_
  refine op_move (nxlf rfl) rfl rfl ?_
  refine op_lenS (nxlf rfl) se59 rfl rfl ?_
  refine op_addI (nxlf rfl) rfl rfl (by omega) (by omega) rfl ?_
  refine op_make (nxla rfl) Try.underlying59 te27 rfl rfl (show _ = (((n + m : Nat)) : Int) from by omega) (show _ = (((n + m : Nat)) : Int) from by omega) (by omega) (by unfold maxLen; omega) rfl (fun N19 a19 r19 => ?_)
  rw [made_one _ _ rfl, zero_u64s] at r19
  have s19 := r19.rsl
  refine op_assign (nxlf rfl) rfl rfl ?_
  refine At.opsNil ?_
  refine At.norm (hk_2 ?_)
  refine At.seq fun K3 hk_3 => ?_
  refine At.seq fun K4 hk_4 => ?_
  refine At.region ?_
  refine op_move (nxlf rfl) rfl rfl ?_
  refine op_lenS (nxlf rfl) se59 rfl rfl ?_
  refine op_move (nxlf rfl) rfl rfl ?_
  refine At.opsNil ?_
  refine At.norm (hk_4 ?_)
  refine At.block ?_
  refine At.loop (fun fr_ hp_ ms_ => ∃ (i : Nat) (p : List UInt64) (N19 : Heaplet), fr_ = [(1, .slice bo m cb), (5, .slice a19 (n + m) (n + m)), (20, .slice ao n ca), (21, .int .i64 (n : Int)), (22, .int .i64 (i : Int))] ∧ hp_ = [N19, R] ∧ n - i = ms_ ∧ (i ≤ n) ∧ (p.length = i + m) ∧ (v64 p = v64 (a.take i) * v64 b) ∧ (Row N19 27 1 a19 (n + m) (n + m) (u64s (p ++ List.replicate (n - i) 0)))) ?_ (.refl _) ⟨0, List.replicate m 0, N19, rfl, rfl, rfl, by omega, by simp, by rw [v64_replicate]; simp [v64, n64, val], by rw [List.replicate_append_replicate, show m + (n - 0) = n + m by omega]; exact r19⟩ ?_
  · exact .cons (by first | exact lkI rfl (by omega) | rfl) (.cons (by first | exact lkI rfl (by omega) | rfl) (.cons (by first | exact lkI rfl (by omega) | rfl) (.cons (by first | exact lkI rfl (by omega) | rfl) (.cons (by first | exact lkI rfl (by omega) | rfl) .nil))))
  rintro _ _ _ ⟨i, p, N19, rfl, rfl, rfl, hi, hp, hv, r19⟩
  have s19 := r19.rsl
  refine At.seq fun K5 hk_5 => ?_
  refine At.region ?_
  refine op_lss (nxlf rfl) rfl rfl rfl ?_
  refine At.opsNil ?_
  refine At.norm (hk_5 ?_)
  refine At.seq fun K6 hk_6 => ?_
  refine At.condP rfl (fun c23 => ?_) (fun c23 => ?_)
  · refine At.skip ?_
    refine At.norm (hk_6 ?_)
    refine At.seq fun K7 hk_7 => ?_
    refine At.block ?_
    refine At.seq fun K8 hk_8 => ?_
    refine At.region ?_
    refine op_move (nxlf rfl) rfl rfl ?_
    refine op_idx1 (nxlf rfl) se59 rfl rfl ha (show _ = (((i : Nat)) : Int) from by omega) (by omega) rfl ?_
    refine op_loadE (nxlf rfl) sc27 rfl ha (by first | exact get8 (by omega) | exact get64 (by omega) | exact get32 (by omega)) (by first | exact mem0 | exact mem1 | exact mem2 | exact mem3 | exact mem4 | exact mem5 | exact mem6 | exact mem7 | exact mem8 | exact mem9) rfl ?_
    refine op_assign (nxlf rfl) rfl rfl ?_
    refine op_assign (nxlf rfl) rfl rfl ?_
    refine At.opsNil ?_
    refine At.norm (hk_8 ?_)
    refine At.seq fun K9 hk_9 => ?_
    refine At.region ?_
    refine op_assign (nxlf rfl) rfl rfl ?_
    refine At.opsNil ?_
    refine At.norm (hk_9 ?_)
    refine At.seq fun K10 hk_10 => ?_
    refine At.seq fun K11 hk_11 => ?_
    refine At.region ?_
    refine op_move (nxlf rfl) rfl rfl ?_
    refine op_lenS (nxlf rfl) se59 rfl rfl ?_
    refine op_move (nxlf rfl) rfl rfl ?_
    refine At.opsNil ?_
    refine At.norm (hk_11 ?_)
    refine At.block ?_
    refine At.loop (fun fr_ hp_ ms_ => ∃ (k : Nat) (c : UInt64) (p : List UInt64) (N19 : Heaplet), fr_ = [(1, .slice bo m cb), (5, .slice a19 (n + m) (n + m)), (6, .int .i64 (i : Int)), (7, .int .u64 ((a.getD i 0).toNat : Int)), (8, .int .u64 (c.toNat : Int)), (20, .slice ao n ca), (21, .int .i64 (n : Int)), (22, .int .i64 (i : Int)), (27, .slice bo m cb), (28, .int .i64 (m : Int)), (29, .int .i64 (k : Int))] ∧ hp_ = [N19, R] ∧ m - k = ms_ ∧ (k ≤ m) ∧ (p.length = i + m) ∧ (v64 p + c.toNat * 2 ^ (64 * (i + k)) = v64 (a.take i) * v64 b + 2 ^ (64 * i) * ((a.getD i 0).toNat * v64 (b.take k))) ∧ (Row N19 27 1 a19 (n + m) (n + m) (u64s (p ++ List.replicate (n - i) 0)))) ?_ (.refl _) ⟨0, 0, p, N19, rfl, rfl, rfl, by omega, hp, by rw [hv]; simp [v64, n64, val], r19⟩ ?_
    · exact .cons (by first | exact lkI rfl (by omega) | rfl) (.cons (by first | exact lkI rfl (by omega) | rfl) (.cons (by first | exact lkI rfl (by omega) | rfl) (.cons (by first | exact lkI rfl (by omega) | rfl) (.cons (by first | exact lkI rfl (by omega) | rfl) (.cons (by first | exact lkI rfl (by omega) | rfl) (.cons (by first | exact lkI rfl (by omega) | rfl) (.cons (by first | exact lkI rfl (by omega) | rfl) (.cons (by first | exact lkI rfl (by omega) | rfl) (.cons (by first | exact lkI rfl (by omega) | rfl) (.cons (by first | exact lkI rfl (by omega) | rfl) .nil))))))))))
    rintro _ _ _ ⟨k, c, p, N19, rfl, rfl, rfl, hk, hp, hv, r19⟩
    have s19 := r19.rsl
    refine At.seq fun K12 hk_12 => ?_
    refine At.region ?_
    refine op_lss (nxlf rfl) rfl rfl rfl ?_
    refine At.opsNil ?_
    refine At.norm (hk_12 ?_)
    refine At.seq fun K13 hk_13 => ?_
    refine At.condP rfl (fun c30 => ?_) (fun c30 => ?_)
    · refine At.skip ?_
      refine At.norm (hk_13 ?_)
      refine At.seq fun K14 hk_14 => ?_
      refine At.block ?_
      refine At.seq fun K15 hk_15 => ?_
      refine At.region ?_
      refine op_move (nxlf rfl) rfl rfl ?_
      refine op_idx1 (nxlf rfl) se59 rfl rfl hb (show _ = (((k : Nat)) : Int) from by omega) (by omega) rfl ?_
      refine op_loadE (nxlf rfl) sc27 rfl hb (by first | exact get8 (by omega) | exact get64 (by omega) | exact get32 (by omega)) (by first | exact mem0 | exact mem1 | exact mem2 | exact mem3 | exact mem4 | exact mem5 | exact mem6 | exact mem7 | exact mem8 | exact mem9) rfl ?_
      refine op_assign (nxlf rfl) rfl rfl ?_
      refine op_assign (nxlf rfl) rfl rfl ?_
      refine At.opsNil ?_
      refine At.norm (hk_15 ?_)
      refine At.seq fun K16 hk_16 => ?_
      refine At.region ?_
      refine op_move (nxlf rfl) rfl rfl ?_
      refine op_move (nxlf rfl) rfl rfl ?_
      refine op_callA (nxla rfl) (.cons rfl (.cons rfl .nil)) (Mul64_f (a.getD i 0) (b.getD k 0)) Try.func57 rfl rfl (by simp) rfl ?_
      rintro v37 L37 ⟨rfl, rfl⟩
      change At _ _ _ [N19, R] _
      refine op_move (nxlf rfl) rfl rfl ?_
      refine op_extract (nxlf rfl) rfl rfl rfl ?_
      refine op_extract (nxlf rfl) rfl rfl rfl ?_
      refine op_assign (nxlf rfl) rfl rfl ?_
      refine op_assign (nxlf rfl) rfl rfl ?_
      refine At.opsNil ?_
      refine At.norm (hk_16 ?_)
      refine At.seq fun K17 hk_17 => ?_
      refine At.region ?_
      refine op_assign (nxlf rfl) rfl rfl ?_
      refine At.opsNil ?_
      refine At.norm (hk_17 ?_)
      refine At.seq fun K18 hk_18 => ?_
      refine At.region ?_
      refine op_move (nxlf rfl) rfl rfl ?_
      refine op_move (nxlf rfl) rfl rfl ?_
      refine op_move (nxlf rfl) rfl rfl ?_
      refine op_move (nxlf rfl) rfl rfl ?_
      refine op_addI (nxlf rfl) rfl rfl (by omega) (by omega) rfl ?_
      have hpl : (p ++ List.replicate (n - i) (0 : UInt64)).length = n + m := by simp; omega
      refine op_idx1 (nxlf rfl) se59 rfl rfl s19 (show _ = (((i + k : Nat)) : Int) from by omega) (by omega) rfl ?_
      refine op_loadE (nxlf rfl) sc27 rfl s19 (by first | exact get8 (by omega) | exact get64 (by omega) | exact get32 (by omega)) (by first | exact mem0 | exact mem1 | exact mem2 | exact mem3 | exact mem4 | exact mem5 | exact mem6 | exact mem7 | exact mem8 | exact mem9) rfl ?_
      rw [getD_app (p := p) (j := i + k) (by omega)]
      refine op_ext (nxla rfl) (.cons rfl (.cons rfl (.cons rfl .nil))) (Add64_x (a.getD i 0 * b.getD k 0) (p.getD (i + k) 0) 0 (by decide)) rfl ?_
      refine op_move (nxlf rfl) rfl rfl ?_
      refine op_extract (nxlf rfl) rfl rfl rfl ?_
      refine op_extract (nxlf rfl) rfl rfl rfl ?_
      refine op_assign (nxlf rfl) rfl rfl ?_
      refine op_assign (nxlf rfl) rfl rfl ?_
      refine At.opsNil ?_
      refine At.norm (hk_18 ?_)
      refine At.seq fun K19 hk_19 => ?_
      refine At.region ?_
      refine op_move (nxlf rfl) rfl rfl ?_
      refine op_move (nxlf rfl) rfl rfl ?_
      refine op_addU (nxlf rfl) rfl rfl rfl ?_
      refine op_assign (nxlf rfl) rfl rfl ?_
      refine At.opsNil ?_
      refine At.norm (hk_19 ?_)
      refine At.seq fun K20 hk_20 => ?_
      refine At.region ?_
      refine op_move (nxlf rfl) rfl rfl ?_
      refine op_move (nxlf rfl) rfl rfl ?_
      refine op_ext (nxla rfl) (.cons rfl (.cons rfl (.cons rfl .nil))) (Add64_x (addS (a.getD i 0 * b.getD k 0) (p.getD (i + k) 0) 0) c 0 (by decide)) rfl ?_
      refine op_move (nxlf rfl) rfl rfl ?_
      refine op_extract (nxlf rfl) rfl rfl rfl ?_
      refine op_extract (nxlf rfl) rfl rfl rfl ?_
      refine op_assign (nxlf rfl) rfl rfl ?_
      refine op_assign (nxlf rfl) rfl rfl ?_
      refine At.opsNil ?_
      refine At.norm (hk_20 ?_)
      refine At.region ?_
      refine op_move (nxlf rfl) rfl rfl ?_
      refine op_move (nxlf rfl) rfl rfl ?_
      refine op_move (nxlf rfl) rfl rfl ?_
      refine op_addI (nxlf rfl) rfl rfl (by omega) (by omega) rfl ?_
      refine op_move (nxlf rfl) rfl rfl ?_
      refine op_move (nxlf rfl) rfl rfl ?_
      refine op_move (nxlf rfl) rfl rfl ?_
      refine op_addU (nxlf rfl) rfl rfl rfl ?_
      refine op_idx1 (nxlf rfl) se59 rfl rfl s19 (show _ = (((i + k : Nat)) : Int) from by omega) (by omega) rfl ?_
      refine op_storeE (nxl rfl) sz27 rfl rfl rfl rfl rfl r19 (by simp <;> omega) (by simp) sel0 (fun N19 r19 => ?_)
      simp only [setL] at r19
      rw [set_u64s, List.set_append_left (i + k) _ (show i + k < p.length by omega)] at r19
      have s19 := r19.rsl
      refine op_assign (nxlf rfl) rfl rfl ?_
      refine At.opsNil ?_
      refine At.inNorm ?_
      refine At.norm (hk_14 ?_)
      refine At.region ?_
      refine op_addI (nxlf rfl) rfl rfl (by omega) (by omega) rfl ?_
      refine op_move (nxlf rfl) rfl rfl ?_
      refine At.opsNil ?_
      refine At.norm ?_
      refine At.back ?_ (.refl _) ⟨k + 1, mulH (a.getD i 0) (b.getD k 0) + addC (a.getD i 0 * b.getD k 0) (p.getD (i + k) 0) 0 + addC (addS (a.getD i 0 * b.getD k 0) (p.getD (i + k) 0) 0) c 0, p.set (i + k) (addS (addS (a.getD i 0 * b.getD k 0) (p.getD (i + k) 0) 0) c 0), N19, rfl, rfl, rfl, by omega, by simp; omega, mul_round (by omega) hv, r19⟩ ?_
      · exact .cons (by first | exact lkI rfl (by omega) | rfl) (.cons (by first | exact lkI rfl (by omega) | rfl) (.cons (by first | exact lkI rfl (by omega) | rfl) (.cons (by first | exact lkI rfl (by omega) | rfl) (.cons (by first | exact lkI rfl (by omega) | rfl) (.cons (by first | exact lkI rfl (by omega) | rfl) (.cons (by first | exact lkI rfl (by omega) | rfl) (.cons (by first | exact lkI rfl (by omega) | rfl) (.cons (by first | exact lkI rfl (by omega) | rfl) (.cons (by first | exact lkI rfl (by omega) | rfl) (.cons (by first | exact lkI rfl (by omega) | rfl) .nil))))))))))
      · omega
    · refine At.exit (At.thenExit (At.thenExit (At.inHit ?_)))
      refine At.norm (hk_10 ?_)
      refine At.region ?_
      have hkm : k = m := by omega
      refine op_move (nxlf rfl) rfl rfl ?_
      refine op_move (nxlf rfl) rfl rfl ?_
      refine op_move (nxlf rfl) rfl rfl ?_
      refine op_lenS (nxlf rfl) se59 rfl rfl ?_
      refine op_addI (nxlf rfl) rfl rfl (by omega) (by omega) rfl ?_
      refine op_move (nxlf rfl) rfl rfl ?_
      refine op_idx1 (nxlf rfl) se59 rfl rfl s19 (show _ = (((i + m : Nat)) : Int) from by omega) (by omega) rfl ?_
      refine op_storeE (nxl rfl) sz27 rfl rfl rfl rfl rfl r19 (by simp <;> omega) (by simp) sel0 (fun N19 r19 => ?_)
      simp only [setL] at r19
      rw [set_u64s, set_rep hp (by omega)] at r19
      have s19 := r19.rsl
      refine At.opsNil ?_
      refine At.inNorm ?_
      refine At.norm (hk_7 ?_)
      refine At.region ?_
      refine op_addI (nxlf rfl) rfl rfl (by omega) (by omega) rfl ?_
      refine op_move (nxlf rfl) rfl rfl ?_
      refine At.opsNil ?_
      refine At.norm ?_
      refine At.back ?_ (.refl _) ⟨i + 1, p ++ [c], N19, rfl, rfl, rfl, by omega, by simp; omega, by subst hkm; rw [← hbl] at hv hp; exact mul_outer hp hv, by rw [show n - (i + 1) = n - i - 1 by omega]; exact r19⟩ ?_
      · exact .cons (by first | exact lkI rfl (by omega) | rfl) (.cons (by first | exact lkI rfl (by omega) | rfl) (.cons (by first | exact lkI rfl (by omega) | rfl) (.cons (by first | exact lkI rfl (by omega) | rfl) (.cons (by first | exact lkI rfl (by omega) | rfl) .nil))))
      · omega
  · refine At.exit (At.thenExit (At.thenExit (At.inHit ?_)))
    refine At.norm (hk_3 ?_)
    refine At.seq fun K21 hk_21 => ?_
    refine At.region ?_
    refine op_move (nxlf rfl) rfl rfl ?_
    have s19 := r19.rsl
    have hin : i = n := by omega
    rw [hin, Nat.sub_self, List.replicate_zero, List.append_nil] at s19
    rw [hin, v64_take_all (by omega)] at hv
    refine op_callA (nxla rfl) (.cons rfl .nil) (Trim_f s19) Try.func44 rfl rfl (by simp) rfl ?_
    rintro v79 L79 ⟨rfl, rfl, t79, l79⟩
    change At _ _ _ [N19, R] _
    refine op_assign (nxlf rfl) rfl rfl ?_
    refine At.opsNil ?_
    refine At.norm (hk_21 ?_)
    refine At.ret (?_)
    refine At.ret1 (L1 := [N19]) rfl (.tmp rfl .nil) (.refl _) (.refl _) ?_
    have h := s19.trimmed t79 l79
    rw [hv] at h ⊢
    exact ⟨N19, a19, _, rfl, rfl, h⟩
set_option maxRecDepth 100000 in
theorem Cmp_f {N M : Heaplet} {ao bo : Option Addr} {n m ca cb : Nat} {a b : List UInt64} (ha : RSl N 1 ao n ca (u64s a)) (hb : RSl M 1 bo m cb (u64s b)) (hn : n ≤ 1099511627776) (hm : m ≤ 1099511627776) :
    Fn Try.prog 30 #[.slice ao n ca, .slice bo m cb] [] [N, M] (fun v L => v = .int .i64 (cmpN (v64 a) (v64 b)) ∧ L = []) := by
  have hca := ha.cap63
  have hcb := hb.cap63
  refine Fn.enter (vs := [.slice ao n ca, .slice bo m cb]) Try.func30 rfl rfl rfl ?_
  intro E R hR
  have ha := ha.le (hR N (by simp))
  have hb := hb.le (hR M (by simp))
  change At _ _ E [R] _
  refine At.seq fun K1 hk_1 => ?_
  refine At.region ?_
  refine op_assign (nxlf rfl) rfl rfl ?_
  refine At.opsNil ?_
  refine At.norm (hk_1 ?_)
  refine At.seq fun K2 hk_2 => ?_
  refine At.region ?_
  refine op_move (nxlf rfl) rfl rfl ?_
  refine op_callA (nxla rfl) (.cons rfl .nil) (Trim_f ha) Try.func44 rfl rfl (by simp) rfl ?_
  rintro v7 L7 ⟨rfl, rfl, t7, l7⟩
  change At _ _ _ [R] _
  have hx := ha.trimmed t7 l7
  refine op_move (nxlf rfl) rfl rfl ?_
  refine op_callA (nxla rfl) (.cons rfl .nil) (Trim_f hb) Try.func44 rfl rfl (by simp) rfl ?_
  rintro v9 L9 ⟨rfl, rfl, t9, l9⟩
  change At _ _ _ [R] _
  have hy := hb.trimmed t9 l9
  have hxv := v64_limbsOf (v64 a)
  have hyv := v64_limbsOf (v64 b)
  have hxy : ∀ A B : Nat, (limbsOf A).length < (limbsOf B).length → A < B := fun A B => limbs_len_lt
  have h12 := hxy (v64 a) (v64 b)
  have h21 := hxy (v64 b) (v64 a)
  have hxn : (limbsOf (v64 a)).length ≤ 1099511627776 := by omega
  have hyn : (limbsOf (v64 b)).length ≤ 1099511627776 := by omega
  generalize hxe : limbsOf (v64 a) = x at *
  generalize hye : limbsOf (v64 b) = y at *
  refine op_assign (nxlf rfl) rfl rfl ?_
  refine op_assign (nxlf rfl) rfl rfl ?_
  refine At.opsNil ?_
  refine At.norm (hk_2 ?_)
  refine At.seq fun K3 hk_3 => ?_
  refine At.seq fun K4 hk_4 => ?_
  refine At.region ?_
  refine op_move (nxlf rfl) rfl rfl ?_
  refine op_lenS (nxlf rfl) se59 rfl rfl ?_
  refine op_move (nxlf rfl) rfl rfl ?_
  refine op_lenS (nxlf rfl) se59 rfl rfl ?_
  refine op_neq (nxlf rfl) rfl rfl rfl ?_
  refine At.opsNil ?_
  refine At.norm (hk_4 ?_)
  refine At.condP rfl (fun c14 => ?_) (fun c14 => ?_)
  · refine At.seq fun K5 hk_5 => ?_
    refine At.region ?_
    refine op_move (nxlf rfl) rfl rfl ?_
    refine op_lenS (nxlf rfl) se59 rfl rfl ?_
    refine op_conv64 (nxlf rfl) (und_some Try.underlying3) Try.underlying27 rfl (show _ = (((x.length : Nat)) : Int) from by omega) rfl ?_
    refine op_move (nxlf rfl) rfl rfl ?_
    refine op_lenS (nxlf rfl) se59 rfl rfl ?_
    refine op_conv64 (nxlf rfl) (und_some Try.underlying3) Try.underlying27 rfl (show _ = (((y.length : Nat)) : Int) from by omega) rfl ?_
    refine op_callA (nxla rfl) (.cons rfl (.cons rfl .nil)) (order_f (UInt64.ofNat x.length) (UInt64.ofNat y.length)) Try.func59 rfl rfl (by simp) rfl ?_
    rintro v21 L21 ⟨rfl, rfl⟩
    change At _ _ _ [R] _
    refine op_assign (nxlf rfl) rfl rfl ?_
    refine At.opsNil ?_
    refine At.norm (hk_5 ?_)
    refine At.ret (At.thenRet (?_))
    refine At.ret1 (L1 := []) rfl (.tmp rfl .nil) (.refl _) (.refl _) ?_
    have e1 : (UInt64.ofNat x.length).toNat = x.length := by rw [UInt64.toNat_ofNat']; omega
    have e2 : (UInt64.ofNat y.length).toNat = y.length := by rw [UInt64.toNat_ofNat']; omega
    rw [e1, e2]
    refine ⟨?_, rfl⟩
    congr 1
    rcases Nat.lt_or_ge x.length y.length with hlt | hge
    · rw [if_pos hlt, cmpN_lt (h12 hlt)]
    · rw [if_neg (by omega), cmpN_gt (h21 (by omega))]
  · refine At.skip ?_
    refine At.norm (hk_3 ?_)
    refine At.seq fun K6 hk_6 => ?_
    refine At.seq fun K7 hk_7 => ?_
    refine At.region ?_
    refine op_move (nxlf rfl) rfl rfl ?_
    refine op_lenS (nxlf rfl) se59 rfl rfl ?_
    refine op_subI (nxlf rfl) rfl rfl (by omega) (by omega) rfl ?_
    refine op_assign (nxlf rfl) rfl rfl ?_
    refine At.opsNil ?_
    refine At.norm (hk_7 ?_)
    refine At.block ?_
    refine At.loop (fun fr_ hp_ ms_ => ∃ (j : Nat), fr_ = [(0, .slice ao x.length x.length), (1, .slice bo y.length y.length), (5, .int .i64 ((j : Int) - 1))] ∧ hp_ = [R] ∧ j = ms_ ∧ (j ≤ x.length) ∧ (x.drop j = y.drop j)) ?_ (.refl _) ⟨x.length, rfl, rfl, rfl, by omega, by rw [List.drop_of_length_le (by omega), List.drop_of_length_le (by omega)]⟩ ?_
    · exact .cons (by first | exact lkI rfl (by omega) | rfl) (.cons (by first | exact lkI rfl (by omega) | rfl) (.cons (by first | exact lkI rfl (by omega) | rfl) .nil))
    rintro _ _ _ ⟨j, rfl, rfl, rfl, hj, hd⟩
    refine At.seq fun K8 hk_8 => ?_
    refine At.seq fun K9 hk_9 => ?_
    refine At.region ?_
    refine op_move (nxlf rfl) rfl rfl ?_
    refine op_geq (nxlf rfl) rfl rfl rfl ?_
    refine At.opsNil ?_
    refine At.norm (hk_9 ?_)
    refine At.condP rfl (fun c26 => ?_) (fun c26 => ?_)
    · refine At.skip ?_
      refine At.norm (hk_8 ?_)
      refine At.seq fun K10 hk_10 => ?_
      refine At.block ?_
      refine At.seq fun K11 hk_11 => ?_
      refine At.drawnS [R] [] [] [0,1,2,3,4,5,6,7,8] (by kernel_rfl) (by kernel_rfl) (.refl _) ?_
      refine op_move (nxsf rfl rfl rfl) rfl rfl ?_
      refine op_move (nxsf rfl rfl rfl) rfl rfl ?_
      refine op_idx1 (nxsf rfl rfl rfl) se59 rfl rfl hx (show _ = (((j - 1 : Nat)) : Int) from by omega) (by omega) rfl ?_
      refine op_loadE (nxsf rfl rfl rfl) sc27 rfl hx (by first | exact get8 (by omega) | exact get64 (by omega) | exact get32 (by omega)) (by first | exact mem0 | exact mem1 | exact mem2 | exact mem3 | exact mem4 | exact mem5 | exact mem6 | exact mem7 | exact mem8 | exact mem9) rfl ?_
      refine op_move (nxsf rfl rfl rfl) rfl rfl ?_
      refine op_move (nxsf rfl rfl rfl) rfl rfl ?_
      refine op_idx1 (nxsf rfl rfl rfl) se59 rfl rfl hy (show _ = (((j - 1 : Nat)) : Int) from by omega) (by omega) rfl ?_
      refine op_loadE (nxsf rfl rfl rfl) sc27 rfl hy (by first | exact get8 (by omega) | exact get64 (by omega) | exact get32 (by omega)) (by first | exact mem0 | exact mem1 | exact mem2 | exact mem3 | exact mem4 | exact mem5 | exact mem6 | exact mem7 | exact mem8 | exact mem9) rfl ?_
      refine op_neq (nxsf rfl rfl rfl) rfl rfl rfl ?_
      refine At.sNil ?_
      refine At.norm (hk_11 ?_)
      refine At.condP rfl (fun c37 => ?_) (fun c37 => ?_)
      · refine At.seq fun K12 hk_12 => ?_
        refine At.drawnS [R] [8] [] [0,1,2,3,4,5,6,7,8,9] (by kernel_rfl) (by kernel_rfl) (.refl _) ?_
        refine op_move (nxsf rfl rfl rfl) rfl rfl ?_
        refine op_move (nxsf rfl rfl rfl) rfl rfl ?_
        refine op_idx1 (nxsf rfl rfl rfl) se59 rfl rfl hx (show _ = (((j - 1 : Nat)) : Int) from by omega) (by omega) rfl ?_
        refine op_loadE (nxsf rfl rfl rfl) sc27 rfl hx (by first | exact get8 (by omega) | exact get64 (by omega) | exact get32 (by omega)) (by first | exact mem0 | exact mem1 | exact mem2 | exact mem3 | exact mem4 | exact mem5 | exact mem6 | exact mem7 | exact mem8 | exact mem9) rfl ?_
        refine op_move (nxsf rfl rfl rfl) rfl rfl ?_
        refine op_move (nxsf rfl rfl rfl) rfl rfl ?_
        refine op_idx1 (nxsf rfl rfl rfl) se59 rfl rfl hy (show _ = (((j - 1 : Nat)) : Int) from by omega) (by omega) rfl ?_
        refine op_loadE (nxsf rfl rfl rfl) sc27 rfl hy (by first | exact get8 (by omega) | exact get64 (by omega) | exact get32 (by omega)) (by first | exact mem0 | exact mem1 | exact mem2 | exact mem3 | exact mem4 | exact mem5 | exact mem6 | exact mem7 | exact mem8 | exact mem9) rfl ?_
        refine op_callA (Nx.agree (nxss rfl rfl rfl rfl)) (.cons rfl (.cons rfl .nil)) (order_f (x.getD (j - 1) 0) (y.getD (j - 1) 0)) Try.func59 rfl rfl (by simp) rfl ?_
        rintro v46 L46 ⟨rfl, rfl⟩
        change At _ _ _ [R] _
        refine At.anyS (.refl _) ?_
        refine op_assign (nxsf rfl rfl rfl) rfl rfl ?_
        refine At.sNil ?_
        refine At.norm (hk_12 ?_)
        refine At.ret (At.inRet (At.thenRet (At.thenRet (At.inRet (At.thenRet (?_))))))
        refine At.ret1 (L1 := []) rfl (.tmp rfl .nil) (.refl _) (.refl _) ?_
        have hd' : x.drop (j - 1 + 1) = y.drop (j - 1 + 1) := by rw [show j - 1 + 1 = j by omega]; exact hd
        refine ⟨?_, rfl⟩
        congr 1
        rw [← hxv, ← hyv]
        by_cases hlt : (x.getD (j - 1) 0).toNat < (y.getD (j - 1) 0).toNat
        · rw [if_pos hlt, cmpN_lt (cmp_at (by omega) (by omega) hd' hlt)]
        · rw [if_neg hlt, cmpN_gt (cmp_at (by omega) (by omega) hd'.symm (by omega))]
      · refine At.skip ?_
        refine At.inNorm ?_
        refine At.norm (hk_10 ?_)
        refine At.region ?_
        refine op_move (nxlf rfl) rfl rfl ?_
        refine op_subI (nxlf rfl) rfl rfl (by omega) (by omega) rfl ?_
        refine op_assign (nxlf rfl) rfl rfl ?_
        refine At.opsNil ?_
        refine At.norm ?_
        refine At.back ?_ (.refl _) ⟨j - 1, rfl, rfl, rfl, by omega, drop_eq_succ (z := 0) (by omega) (by omega) (UInt64.toNat_inj.1 (by omega)) (by rw [show j - 1 + 1 = j by omega]; exact hd)⟩ ?_
        · exact .cons (by first | exact lkI rfl (by omega) | rfl) (.cons (by first | exact lkI rfl (by omega) | rfl) (.cons (by first | exact lkI rfl (by omega) | rfl) .nil))
        · omega
    · refine At.exit (At.thenExit (At.thenExit (At.inHit ?_)))
      refine At.norm (hk_6 ?_)
      refine At.seq fun K13 hk_13 => ?_
      refine At.region ?_
      refine op_assign (nxlf rfl) rfl rfl ?_
      refine At.opsNil ?_
      refine At.norm (hk_13 ?_)
      refine At.ret (?_)
      refine At.ret1 (L1 := []) rfl (.tmp rfl .nil) (.refl _) (.refl _) ?_
      have e : x = y := by
        rw [show j = 0 by omega] at hd
        simpa using hd
      refine ⟨?_, rfl⟩
      rw [← hxv, ← hyv, e, cmpN_eq]
end Go.Proofs.Ytbmlhdecnfplaaa
/- limb.shifted, limb.step: the parts of a division of numbers in limbs. Condition: numbers of at most 2^40 limbs. -/
namespace Go.Proofs.Ytbmlhdecnfplaaa
set_option linter.unusedVariables false
set_option linter.unusedSimpArgs false
open Go Go.RowKit
set_option maxRecDepth 100000 in
theorem shifted_f {N : Heaplet} {ao : Option Addr} {n ca : Nat} {a : List UInt64} (ha : RSl N 1 ao n ca (u64s a)) (s K : Nat) (hs : s < 64) (hn : n ≤ K) (hK : K ≤ 1099511627776) :
    Fn Try.prog 69 #[.slice ao n ca, .int .i64 (s : Int), .int .i64 (K : Int)] [] [N] (fun v L => ∃ M p, v = .slice p K K ∧ L = [M] ∧ Row M 27 1 p K K (u64s (limbsN K (v64 a * 2 ^ s)))) := by
  have hca := ha.cap63
  have hal := ha.len64
  have ho : (a ++ List.replicate (K - n) (0 : UInt64)).length = K := by simp; omega
  have hov := v64_pad a (K - n)
  refine Fn.enter (vs := [.slice ao n ca, .int .i64 (s : Int), .int .i64 (K : Int)]) Try.func69 rfl rfl rfl ?_
  intro E R hR
  have ha := ha.le (hR N (by simp))
  change At _ _ E [R] _
  refine At.seq fun K1 hk_1 => ?_
  refine At.region ?_
  refine op_assign (nxlf rfl) rfl rfl ?_
  refine At.opsNil ?_
  refine At.norm (hk_1 ?_)
  refine At.seq fun K2 hk_2 => ?_
  refine At.region ?_
  refine op_move (nxlf rfl) rfl rfl ?_
  refine op_make (nxla rfl) Try.underlying59 te27 rfl rfl (show _ = (((K : Nat)) : Int) from by omega) (show _ = (((K : Nat)) : Int) from by omega) (by omega) (by unfold maxLen; omega) rfl (fun N10 a10 r10 => ?_)
  rw [made_one _ _ rfl, zero_u64s] at r10
  have s10 := r10.rsl
  refine op_assign (nxlf rfl) rfl rfl ?_
  refine At.opsNil ?_
  refine At.norm (hk_2 ?_)
  refine At.seq fun K3 hk_3 => ?_
  refine At.region ?_
  refine op_move (nxlf rfl) rfl rfl ?_
  refine op_move (nxlf rfl) rfl rfl ?_
  refine op_copyR (nxl rfl) se59 rfl rfl r10 ha mem1 (one_u64s _) sel0 rfl (fun N10 r10 => ?_)
  rw [Nat.min_eq_left hn, u64s_takeR, u64s_drop, List.take_of_length_le (show a.length ≤ n by omega), List.drop_replicate, show u64s a ++ u64s (List.replicate (K - n) 0) = u64s (a ++ List.replicate (K - n) 0) by simp [u64s]] at r10
  generalize a ++ List.replicate (K - n) (0 : UInt64) = o at *
  have s10 := r10.rsl
  refine At.opsNil ?_
  refine At.norm (hk_3 ?_)
  refine At.seq fun K4 hk_4 => ?_
  refine At.seq fun K5 hk_5 => ?_
  refine At.region ?_
  refine op_move (nxlf rfl) rfl rfl ?_
  refine op_subI (nxlf rfl) rfl rfl (by omega) (by omega) rfl ?_
  refine op_assign (nxlf rfl) rfl rfl ?_
  refine At.opsNil ?_
  refine At.norm (hk_5 ?_)
  refine At.block ?_
  refine At.loop (fun fr_ hp_ ms_ => ∃ (I : Nat) (N10 : Heaplet), fr_ = [(1, .int .i64 (s : Int)), (7, .slice a10 K K), (8, .int .i64 ((I : Int) - 1))] ∧ hp_ = [N10, R] ∧ I = ms_ ∧ (I ≤ K) ∧ (s = 0 → I = K) ∧ (Row N10 27 1 a10 K K (u64s (shSt o K s I)))) ?_ (.refl _) ⟨K, N10, rfl, rfl, rfl, by omega, fun _ => rfl, by rw [shSt_all ho]; exact r10⟩ ?_
  · exact .cons (by first | exact lkI rfl (by omega) | rfl) (.cons (by first | exact lkI rfl (by omega) | rfl) (.cons (by first | exact lkI rfl (by omega) | rfl) .nil))
  rintro _ _ _ ⟨I, N10, rfl, rfl, rfl, hI, h0, r10⟩
  have s10 := r10.rsl
  have hl10 := length_shSt (s := s) ho hI
  refine At.seq fun K6 hk_6 => ?_
  refine At.seq fun K7 hk_7 => ?_
  refine At.region ?_
  refine op_move (nxlf rfl) rfl rfl ?_
  refine op_geq (nxlf rfl) rfl rfl rfl ?_
  refine op_move (nxlf rfl) rfl rfl ?_
  refine At.partP (d := 18) rfl (fun g18 => ?_) (fun g18 => ?_)
  · refine op_move (nxgf rfl rfl rfl rfl) rfl rfl ?_
    refine op_gtr (nxgf rfl rfl rfl rfl) rfl rfl rfl ?_
    refine op_pickT (nxlf rfl) rfl rfl rfl ?_
    refine At.opsNil ?_
    refine At.norm (hk_7 ?_)
    refine At.condP rfl (fun c21 => ?_) (fun c21 => ?_)
    · refine At.skip ?_
      refine At.norm (hk_6 ?_)
      refine At.seq fun K8 hk_8 => ?_
      refine At.block ?_
      refine At.seq fun K9 hk_9 => ?_
      refine At.region ?_
      refine op_move (nxlf rfl) rfl rfl ?_
      refine op_move (nxlf rfl) rfl rfl ?_
      refine op_idx1 (nxlf rfl) se59 rfl rfl s10 (show _ = (((I - 1 : Nat)) : Int) from by omega) (by omega) rfl ?_
      have hx : I - 1 < (shSt o K s I).length := by omega
      refine op_loadE (nxlf rfl) sc27 rfl s10 (by first | exact get8 (by omega) | exact get64 (by omega) | exact get32 (by omega)) (by first | exact mem0 | exact mem1 | exact mem2 | exact mem3 | exact mem4 | exact mem5 | exact mem6 | exact mem7 | exact mem8 | exact mem9) rfl ?_
      rw [shSt_getD ho hI (show I - 1 < I by omega)]
      refine op_move (nxlf rfl) rfl rfl ?_
      refine op_shlU (nxlf rfl) rfl rfl (by first | rfl | exact (Int.toNat_of_nonneg (by omega)).symm) rfl ?_
      refine op_idx1 (nxlf rfl) se59 rfl rfl s10 (show _ = (((I - 1 : Nat)) : Int) from by omega) (by omega) rfl ?_
      refine op_storeE (nxl rfl) sz27 rfl rfl rfl rfl rfl r10 (by simp <;> omega) (by simp) sel0 (fun N10 r10 => ?_)
      simp only [setL] at r10
      rw [set_u64s] at r10
      have s10 := r10.rsl
      refine At.opsNil ?_
      refine At.norm (hk_9 ?_)
      refine At.seq fun K10 hk_10 => ?_
      refine At.region ?_
      refine op_move (nxlf rfl) rfl rfl ?_
      refine op_gtr (nxlf rfl) rfl rfl rfl ?_
      refine At.opsNil ?_
      refine At.norm (hk_10 ?_)
      refine At.condP rfl (fun c32 => ?_) (fun c32 => ?_)
      · have hl11 : ((shSt o K s I).set (I - 1) (shl64 (o.getD (I - 1) 0) s)).length = K := by rw [List.length_set]; exact hl10
        refine At.drawnS [N10, R] [14] [] [0,1,2,3,4,5,6,7,8,9,10,11,12,13,14] (by kernel_rfl) (by kernel_rfl) (.refl _) ?_
        refine op_move (nxsf rfl rfl rfl) rfl rfl ?_
        refine op_move (nxsf rfl rfl rfl) rfl rfl ?_
        refine op_idx1 (nxsf rfl rfl rfl) se59 rfl rfl s10 (show _ = (((I - 1 : Nat)) : Int) from by omega) (by omega) rfl ?_
        refine op_loadE (nxsf rfl rfl rfl) sc27 rfl s10 (by first | exact get8 (by omega) | exact get64 (by omega) | exact get32 (by omega)) (by first | exact mem0 | exact mem1 | exact mem2 | exact mem3 | exact mem4 | exact mem5 | exact mem6 | exact mem7 | exact mem8 | exact mem9) rfl ?_
        rw [getD_set_self (show I - 1 < (shSt o K s I).length by omega)]
        refine op_move (nxsf rfl rfl rfl) rfl rfl ?_
        refine op_move (nxsf rfl rfl rfl) rfl rfl ?_
        refine op_subI (nxsf rfl rfl rfl) rfl rfl (by omega) (by omega) rfl ?_
        refine op_idx1 (nxsf rfl rfl rfl) se59 rfl rfl s10 (show _ = (((I - 1 - 1 : Nat)) : Int) from by omega) (by omega) rfl ?_
        refine op_loadE (nxsf rfl rfl rfl) sc27 rfl s10 (by first | exact get8 (by omega) | exact get64 (by omega) | exact get32 (by omega)) (by first | exact mem0 | exact mem1 | exact mem2 | exact mem3 | exact mem4 | exact mem5 | exact mem6 | exact mem7 | exact mem8 | exact mem9) rfl ?_
        rw [getD_set_ne (show I - 1 ≠ I - 1 - 1 by omega), shSt_getD ho hI (show I - 1 - 1 < I by omega)]
        refine op_move (nxsf rfl rfl rfl) rfl rfl ?_
        refine op_subI (nxsf rfl rfl rfl) rfl rfl (by omega) (by omega) rfl ?_
        refine op_shrU (nxsf rfl rfl rfl) rfl rfl (show _ = (((64 - s : Nat)) : Int) from by omega) rfl ?_
        refine op_orU (nxsf rfl rfl rfl) rfl rfl rfl ?_
        refine op_idx1 (nxsf rfl rfl rfl) se59 rfl rfl s10 (show _ = (((I - 1 : Nat)) : Int) from by omega) (by omega) rfl ?_
        refine op_storeE (nxsl rfl rfl rfl rfl) sz27 rfl rfl rfl rfl rfl r10 (by simp <;> omega) (by simp) sel0 (fun N10 r10 => ?_)
        simp only [setL] at r10
        rw [set_u64s, List.set_set, ← shl_at (show 0 < I - 1 by omega) hs, shSt_set' ho (by omega) hI] at r10
        have s10 := r10.rsl
        refine At.sNil ?_
        refine At.inNorm ?_
        refine At.norm (hk_8 ?_)
        refine At.region ?_
        refine op_move (nxlf rfl) rfl rfl ?_
        refine op_subI (nxlf rfl) rfl rfl (by omega) (by omega) rfl ?_
        refine op_assign (nxlf rfl) rfl rfl ?_
        refine At.opsNil ?_
        refine At.norm ?_
        refine At.back ?_ (.refl _) ⟨I - 1, N10, rfl, rfl, rfl, by omega, fun e => absurd e (by omega), r10⟩ ?_
        · exact .cons (by first | exact lkI rfl (by omega) | rfl) (.cons (by first | exact lkI rfl (by omega) | rfl) (.cons (by first | exact lkI rfl (by omega) | rfl) .nil))
        · omega
      · have e : shl64 (o.getD (I - 1) 0) s = UInt64.ofNat (v64 o * 2 ^ s / 2 ^ (64 * (I - 1))) := by rw [show I - 1 = 0 by omega]; exact (shl_low hs).symm
        rw [e, shSt_set' ho (by omega) hI] at r10
        refine At.skip ?_
        refine At.inNorm ?_
        refine At.norm (hk_8 ?_)
        refine At.region ?_
        refine op_move (nxlf rfl) rfl rfl ?_
        refine op_subI (nxlf rfl) rfl rfl (by omega) (by omega) rfl ?_
        refine op_assign (nxlf rfl) rfl rfl ?_
        refine At.opsNil ?_
        refine At.norm ?_
        refine At.back ?_ (.refl _) ⟨I - 1, N10, rfl, rfl, rfl, by omega, fun e => absurd e (by omega), r10⟩ ?_
        · exact .cons (by first | exact lkI rfl (by omega) | rfl) (.cons (by first | exact lkI rfl (by omega) | rfl) (.cons (by first | exact lkI rfl (by omega) | rfl) .nil))
        · omega
    · refine At.exit (At.thenExit (At.thenExit (At.inHit ?_)))
      refine At.norm (hk_4 ?_)
      refine At.seq fun K11 hk_11 => ?_
      refine At.region ?_
      refine op_move (nxlf rfl) rfl rfl ?_
      refine op_assign (nxlf rfl) rfl rfl ?_
      refine At.opsNil ?_
      refine At.norm (hk_11 ?_)
      refine At.ret (?_)
      refine At.ret1 (L1 := [N10]) rfl (.tmp rfl .nil) (.refl _) (.refl _) ?_
      refine ⟨N10, a10, rfl, rfl, ?_⟩
      have hs0 : s = 0 := by omega
      subst hs0
      rw [h0 rfl, shSt_all ho] at r10
      rw [Nat.pow_zero, Nat.mul_one, ← hov, ← eq_limbsN ho rfl]
      exact r10
  · refine op_skip rfl rfl rfl rfl rfl rfl rfl ?_
    refine op_skip rfl rfl rfl rfl rfl rfl rfl ?_
    refine op_pickF (nxlf rfl) rfl rfl rfl ?_
    refine At.opsNil ?_
    refine At.norm (hk_7 ?_)
    refine At.condF rfl ?_
    refine At.exit (At.thenExit (At.thenExit (At.inHit ?_)))
    refine At.norm (hk_4 ?_)
    refine At.seq fun K12 hk_12 => ?_
    refine At.region ?_
    refine op_move (nxlf rfl) rfl rfl ?_
    refine op_assign (nxlf rfl) rfl rfl ?_
    refine At.opsNil ?_
    refine At.norm (hk_12 ?_)
    refine At.ret (?_)
    refine At.ret1 (L1 := [N10]) rfl (.tmp rfl .nil) (.refl _) (.refl _) ?_
    have hI0 : I = 0 := by omega
    subst hI0
    rw [shSt_none, hov] at r10
    exact ⟨N10, a10, rfl, rfl, r10⟩
theorem Blk.win {N : Heaplet} {b o cu : Nat} {e : TypeId} {pre x post : List UInt64} (h : Blk N b e (u64s (pre ++ x ++ post))) (hp : pre.length = o) (hx : x.length ≤ cu) (hc : cu ≤ 9223372036854775807) :
    RSl N 1 (some ⟨b, o, none⟩) x.length cu (u64s x) := by
  refine ⟨by simp, hx, hc, fun _ => ⟨b, o, rfl, ?_⟩⟩
  have := h.rng.sub (o := o) (ds := u64s x) fun i hi => by
    rw [length_u64s] at hi
    subst hp
    simp only [u64s, List.map_append, List.append_assoc]
    rw [List.getElem?_append_right (by simp), List.getElem?_append_left (by simpa using hi)]
    simp [hi]
  rwa [Nat.zero_add] at this
end Go.Proofs.Ytbmlhdecnfplaaa
