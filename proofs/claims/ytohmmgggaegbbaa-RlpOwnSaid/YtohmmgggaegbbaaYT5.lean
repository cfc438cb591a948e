/- quarryref02's From, Cmp; quarryref01's W. No condition but that bytes are not more than a machine holds. -/
import Derived.Test.YtohmmgggaegbbaaYT4
import Derived.Test.YtohmmgggaegbbaaYA2
namespace Go.Proofs.Ytohmmgggaegbbaa
set_option linter.unusedVariables false
set_option linter.unusedSimpArgs false
open Go Go.RowKit
theorem ofNat_shl32 (x : UInt8) (m : Nat) : shl32 (UInt32.ofNat x.toNat) m = UInt32.ofNat (x.toNat * 2 ^ m) := shl32_of _ (by have := x.toNat_lt; omega) m
theorem rFrom_f {N : Heaplet} {ao : Option Addr} {n cap : Nat} {l : List UInt8} (h : RSl N 1 ao n cap (u8s l)) (hn : n ≤ 140737488351232) :
    Fn Try.prog 40 #[.slice ao n cap] [] [N] (fun v L => ∃ M a c, v = .slice a (digsOf (be l)).length c ∧ L = [M] ∧ RSl M 1 a (digsOf (be l)).length c (u32s (digsOf (be l)))) := by
  have hlen := h.len8
  have hcap := h.cap63
  refine Fn.enter (vs := [.slice ao n cap]) Try.func40 rfl rfl rfl ?_
  intro E R hR
  have h := h.le (hR N (by simp))
  change At _ _ E [R] _
  refine At.seq fun K1 hk_1 => ?_
  refine At.region ?_
  refine op_assign (nxlf rfl) rfl rfl ?_
  refine At.opsNil ?_
  refine At.norm (hk_1 ?_)
  refine At.seq fun K2 hk_2 => ?_
  refine At.region ?_
  refine op_move (nxlf rfl) rfl rfl ?_
  refine op_lenS (nxlf rfl) se22 rfl rfl ?_
  refine op_addI (nxlf rfl) rfl rfl (by omega) (by omega) rfl ?_
  refine op_quoI (nxlf rfl) rfl rfl (by omega) (by omega) (by omega) rfl ?_
  refine op_make (nxla rfl) Try.underlying86 te97 rfl rfl (show _ = ((((n + 3) / 4 : Nat)) : Int) from by omega) (show _ = ((((n + 3) / 4 : Nat)) : Int) from by omega) (by omega) (by unfold maxLen; omega) rfl (fun N10 a10 r10 => ?_)
  rw [made_one _ _ rfl, zero_u32s] at r10
  have s10 := r10.rsl
  refine op_assign (nxlf rfl) rfl rfl ?_
  refine At.opsNil ?_
  refine At.norm (hk_2 ?_)
  refine At.seq fun K3 hk_3 => ?_
  refine At.seq fun K4 hk_4 => ?_
  refine At.region ?_
  refine op_assign (nxlf rfl) rfl rfl ?_
  refine At.opsNil ?_
  refine At.norm (hk_4 ?_)
  refine At.block ?_
  refine At.loop (fun fr_ hp_ ms_ => ∃ (k : Nat) (Nq : Heaplet), fr_ = [(0, .slice ao n cap), (3, .slice a10 ((n + 3) / 4) ((n + 3) / 4)), (4, .int .i64 (k : Int))] ∧ hp_ = [Nq, R] ∧ n - k = ms_ ∧ (k ≤ n) ∧ (Row Nq 97 1 a10 ((n + 3) / 4) ((n + 3) / 4) (u32s (rfromSt l k)))) ?_ (.refl _) ⟨0, N10, rfl, rfl, rfl, by omega, by simpa [rfromSt, hlen] using r10⟩ ?_
  · exact .cons (by first | exact lkI rfl (by omega) | rfl) (.cons (by first | exact lkI rfl (by omega) | rfl) (.cons (by first | exact lkI rfl (by omega) | rfl) .nil))
  rintro _ _ _ ⟨k, Nq, rfl, rfl, rfl, hk, rq⟩
  have sq := rq.rsl
  have hlq := sq.len32
  refine At.seq fun K5 hk_5 => ?_
  refine At.seq fun K6 hk_6 => ?_
  refine At.region ?_
  refine op_move (nxlf rfl) rfl rfl ?_
  refine op_move (nxlf rfl) rfl rfl ?_
  refine op_lenS (nxlf rfl) se22 rfl rfl ?_
  refine op_lss (nxlf rfl) rfl rfl rfl ?_
  refine At.opsNil ?_
  refine At.norm (hk_6 ?_)
  refine At.condP rfl (fun c14 => ?_) (fun c14 => ?_)
  · refine At.skip ?_
    refine At.norm (hk_5 ?_)
    refine At.seq fun K7 hk_7 => ?_
    refine At.block ?_
    refine At.seq fun K8 hk_8 => ?_
    refine At.region ?_
    refine op_move (nxlf rfl) rfl rfl ?_
    refine op_lenS (nxlf rfl) se22 rfl rfl ?_
    refine op_subI (nxlf rfl) rfl rfl (by omega) (by omega) rfl ?_
    refine op_move (nxlf rfl) rfl rfl ?_
    refine op_subI (nxlf rfl) rfl rfl (by omega) (by omega) rfl ?_
    refine op_assign (nxlf rfl) rfl rfl ?_
    refine At.opsNil ?_
    refine At.norm (hk_8 ?_)
    refine At.drawn [19] [0,1,2,3,4,5,6,7,8,9,10,11,12,13,14,15,16,17,18,19] (by kernel_rfl) (by kernel_rfl) ?_
    refine op_move (nxof rfl rfl rfl (by kernel_rfl)) rfl rfl ?_
    refine op_move (nxof rfl rfl rfl (by kernel_rfl)) rfl rfl ?_
    refine op_quoI (nxof rfl rfl rfl (by kernel_rfl)) rfl rfl (by omega) (by omega) (by omega) rfl ?_
    refine op_move (nxof rfl rfl rfl (by kernel_rfl)) rfl rfl ?_
    refine op_move (nxof rfl rfl rfl (by kernel_rfl)) rfl rfl ?_
    refine op_quoI (nxof rfl rfl rfl (by kernel_rfl)) rfl rfl (by omega) (by omega) (by omega) rfl ?_
    refine op_idx1 (nxof rfl rfl rfl (by kernel_rfl)) se86 rfl rfl (by assumption) (show _ = (((k / 4 : Nat)) : Int) from by omega) (by omega) rfl ?_
    refine op_loadE (nxof rfl rfl rfl (by kernel_rfl)) sc97 rfl (by assumption) (by first | exact get8 (by omega) | exact get64 (by omega) | exact get32 (by omega)) (by first | exact mem0 | exact mem1 | exact mem2 | exact mem3 | exact mem4 | exact mem5 | exact mem6 | exact mem7 | exact mem8 | exact mem9) rfl ?_
    refine op_move (nxof rfl rfl rfl (by kernel_rfl)) rfl rfl ?_
    refine op_move (nxof rfl rfl rfl (by kernel_rfl)) rfl rfl ?_
    refine op_idx1 (nxof rfl rfl rfl (by kernel_rfl)) se22 rfl rfl (by assumption) (show _ = (((n - 1 - k : Nat)) : Int) from by omega) (by omega) rfl ?_
    refine op_loadE (nxof rfl rfl rfl (by kernel_rfl)) sc5 rfl (by assumption) (by first | exact get8 (by omega) | exact get64 (by omega) | exact get32 (by omega)) (by first | exact mem0 | exact mem1 | exact mem2 | exact mem3 | exact mem4 | exact mem5 | exact mem6 | exact mem7 | exact mem8 | exact mem9) rfl ?_
    refine op_conv32 (nxof rfl rfl rfl (by kernel_rfl)) (und_some Try.underlying5) Try.underlying97 rfl (by first | rfl | exact (Int.toNat_of_nonneg (by omega)).symm) rfl ?_
    refine op_move (nxof rfl rfl rfl (by kernel_rfl)) rfl rfl ?_
    refine op_rem (nxof rfl rfl rfl (by kernel_rfl)) rfl rfl (by omega) (by omega) rfl ?_
    refine op_mulI (nxof rfl rfl rfl (by kernel_rfl)) rfl rfl (by omega) (by omega) rfl ?_
    refine op_shlU32 (nxof rfl rfl rfl (by kernel_rfl)) rfl rfl (show _ = (((8 * (k % 4) : Nat)) : Int) from by omega) rfl ?_
    refine op_orU32 (nxof rfl rfl rfl (by kernel_rfl)) rfl rfl rfl ?_
    refine op_idx1 (nxof rfl rfl rfl (by kernel_rfl)) se86 rfl rfl (by assumption) (show _ = (((k / 4 : Nat)) : Int) from by omega) (by omega) rfl ?_
    refine op_storeE (nxos rfl rfl rfl rfl) sz97 rfl rfl rfl rfl rfl rq (by simp <;> omega) (by simp) sel0 (fun Nq rq => ?_)
    simp only [setL] at rq
    have sq := rq.rsl
    refine At.oneNil ?_
    refine At.inNorm ?_
    refine At.norm (hk_7 ?_)
    refine At.region ?_
    refine op_move (nxlf rfl) rfl rfl ?_
    refine op_addI (nxlf rfl) rfl rfl (by omega) (by omega) rfl ?_
    refine op_assign (nxlf rfl) rfl rfl ?_
    refine At.opsNil ?_
    refine At.norm ?_
    refine At.back ?_ (.refl _) ⟨k + 1, Nq, rfl, rfl, rfl, by omega, by rw [rfromSt, rfromStep, hlen, ← ofNat_shl32, ← set_u32s]; exact rq⟩ ?_
    · exact .cons (by first | exact lkI rfl (by omega) | rfl) (.cons (by first | exact lkI rfl (by omega) | rfl) (.cons (by first | exact lkI rfl (by omega) | rfl) .nil))
    · omega
  · refine At.exit (At.thenExit (At.thenExit (At.inHit ?_)))
    refine At.norm (hk_3 ?_)
    refine At.seq fun K9 hk_9 => ?_
    refine At.region ?_
    refine op_move (nxlf rfl) rfl rfl ?_
    refine op_callA (nxla rfl) (.cons rfl .nil) (trim32_f sq) Try.func53 rfl rfl (by simp) rfl ?_
    rintro v42 L42 ⟨rfl, rfl, e1, e2⟩
    change At _ _ _ [Nq, R] _
    refine op_assign (nxlf rfl) rfl rfl ?_
    refine At.opsNil ?_
    refine At.norm (hk_9 ?_)
    refine At.ret (?_)
    refine At.ret1 (L1 := [Nq]) rfl (.tmp rfl .nil) (.refl _) (.refl _) ?_
    obtain rfl : k = l.length := by omega
    rw [rfromSt_all] at e1 e2 ⊢
    have h2 := sq.take e2 (Nat.le_refl _) e2
    rw [Nat.mul_one, u32s_take, e1] at h2
    exact ⟨Nq, a10, _, rfl, rfl, h2⟩
/-- How two numbers stand to each other. -/
def cmpI (x y : Nat) : Int := if x < y then -1 else if y < x then 1 else 0
theorem digs_lt {x y : Nat} (h : (digsOf x).length < (digsOf y).length) : x < y := by
  rw [length_digsOf, length_digsOf] at h
  rcases Nat.lt_or_ge x y with h1 | h1
  · exact h1
  · have := bitLen_mono h1; omega
theorem digs_eq_len {x y : Nat} (h : (digsOf x).length = (digsOf y).length) : x / 2 ^ (32 * (digsOf x).length) = y / 2 ^ (32 * (digsOf x).length) := by
  have h1 := v32_lt (digsOf x)
  have h2 := v32_lt (digsOf y)
  rw [v32_digsOf] at h1 h2
  rw [Nat.div_eq_of_lt h1, h, Nat.div_eq_of_lt h2]
theorem digs_at {x j : Nat} (h : j < (digsOf x).length) : x / 2 ^ (32 * j) = x / 2 ^ (32 * (j + 1)) * 2 ^ 32 + ((digsOf x).getD j 0).toNat := by
  have e := dig_v32 h
  rw [v32_digsOf] at e
  rw [List.getD_eq_getElem?_getD, List.getElem?_eq_getElem h, Option.getD_some, ← e, show 32 * (j + 1) = 32 * j + 32 by omega, Nat.pow_add, ← Nat.div_div_eq_div_mul]
  omega
theorem lt_of_div {x y p : Nat} (h : x / p < y / p) : x < y := by
  rcases Nat.lt_or_ge x y with h1 | h1
  · exact h1
  · have := Nat.div_le_div_right (c := p) h1; omega
theorem cmpI_le {x y : Nat} : cmpI x y ≤ 0 ↔ x ≤ y := by
  unfold cmpI
  split
  · omega
  · split <;> omega
theorem Cmp32_f {N M : Heaplet} {ax ay : Option Addr} {nx ny cx cy x y : Nat} (hx : RSl N 1 ax nx cx (u32s (digsOf x))) (hy : RSl M 1 ay ny cy (u32s (digsOf y))) :
    Fn Try.prog 41 #[.slice ax nx cx, .slice ay ny cy] [] [N, M] (fun v L => v = .int .i64 (cmpI x y) ∧ L = []) := by
  have lx := hx.len32
  have ly := hy.len32
  have hcx := hx.cap63
  have hcy := hy.cap63
  refine Fn.enter (vs := [.slice ax nx cx, .slice ay ny cy]) Try.func41 rfl rfl rfl ?_
  intro E R hR
  have hx := hx.le (hR N (by simp))
  have hy := hy.le (hR M (by simp))
  change At _ _ E [R] _
  refine At.seq fun K1 hk_1 => ?_
  refine At.region ?_
  refine op_assign (nxlf rfl) rfl rfl ?_
  refine At.opsNil ?_
  refine At.norm (hk_1 ?_)
  refine At.seq fun K2 hk_2 => ?_
  refine At.seq fun K3 hk_3 => ?_
  refine At.region ?_
  refine op_move (nxlf rfl) rfl rfl ?_
  refine op_lenS (nxlf rfl) se86 rfl rfl ?_
  refine op_move (nxlf rfl) rfl rfl ?_
  refine op_lenS (nxlf rfl) se86 rfl rfl ?_
  refine op_neq (nxlf rfl) rfl rfl rfl ?_
  refine At.opsNil ?_
  refine At.norm (hk_3 ?_)
  refine At.condP rfl (fun c10 => ?_) (fun c10 => ?_)
  · refine At.seq fun K4 hk_4 => ?_
    refine At.seq fun K5 hk_5 => ?_
    refine At.region ?_
    refine op_move (nxlf rfl) rfl rfl ?_
    refine op_lenS (nxlf rfl) se86 rfl rfl ?_
    refine op_move (nxlf rfl) rfl rfl ?_
    refine op_lenS (nxlf rfl) se86 rfl rfl ?_
    refine op_lss (nxlf rfl) rfl rfl rfl ?_
    refine At.opsNil ?_
    refine At.norm (hk_5 ?_)
    refine At.condP rfl (fun c15 => ?_) (fun c15 => ?_)
    · refine At.seq fun K6 hk_6 => ?_
      refine At.region ?_
      refine op_assign (nxlf rfl) rfl rfl ?_
      refine At.opsNil ?_
      refine At.norm (hk_6 ?_)
      refine At.ret (At.thenRet (At.thenRet (?_)))
      refine At.ret1 (L1 := []) rfl (.tmp rfl .nil) (.refl _) (.refl _) ?_
      have := @digs_lt x y (by omega); exact ⟨by rw [cmpI, if_pos this], rfl⟩
    · refine At.skip ?_
      refine At.norm (hk_4 ?_)
      refine At.seq fun K7 hk_7 => ?_
      refine At.region ?_
      refine op_assign (nxlf rfl) rfl rfl ?_
      refine At.opsNil ?_
      refine At.norm (hk_7 ?_)
      refine At.ret (At.thenRet (?_))
      refine At.ret1 (L1 := []) rfl (.tmp rfl .nil) (.refl _) (.refl _) ?_
      have := @digs_lt y x (by omega); exact ⟨by rw [cmpI, if_neg (by omega), if_pos this], rfl⟩
  · refine At.skip ?_
    refine At.norm (hk_2 ?_)
    refine At.seq fun K8 hk_8 => ?_
    refine At.seq fun K9 hk_9 => ?_
    refine At.region ?_
    refine op_move (nxlf rfl) rfl rfl ?_
    refine op_lenS (nxlf rfl) se86 rfl rfl ?_
    refine op_subI (nxlf rfl) rfl rfl (by omega) (by omega) rfl ?_
    refine op_assign (nxlf rfl) rfl rfl ?_
    refine At.opsNil ?_
    refine At.norm (hk_9 ?_)
    refine At.block ?_
    refine At.loop (fun fr_ hp_ ms_ => ∃ (j : Nat), fr_ = [(0, .slice ax nx cx), (1, .slice ay ny cy), (5, .int .i64 ((j : Int) - 1))] ∧ hp_ = [R] ∧ j = ms_ ∧ (j ≤ nx) ∧ (x / 2 ^ (32 * j) = y / 2 ^ (32 * j))) ?_ (.refl _) ⟨nx, rfl, rfl, rfl, Nat.le_refl _, by have e := digs_eq_len (x := x) (y := y) (by omega); rwa [lx] at e⟩ ?_
    · exact .cons (by first | exact lkI rfl (by omega) | rfl) (.cons (by first | exact lkI rfl (by omega) | rfl) (.cons (by first | exact lkI rfl (by omega) | rfl) .nil))
    rintro _ _ _ ⟨j, rfl, rfl, rfl, hj, hd⟩
    have hat : 0 < j → x / 2 ^ (32 * (j - 1)) = x / 2 ^ (32 * j) * 2 ^ 32 + ((digsOf x).getD (j - 1) 0).toNat ∧ y / 2 ^ (32 * (j - 1)) = y / 2 ^ (32 * j) * 2 ^ 32 + ((digsOf y).getD (j - 1) 0).toNat := fun h0 => by
      have e1 := digs_at (x := x) (j := j - 1) (by omega)
      have e2 := digs_at (x := y) (j := j - 1) (by omega)
      rw [show j - 1 + 1 = j by omega] at e1 e2
      exact ⟨e1, e2⟩
    refine At.seq fun K10 hk_10 => ?_
    refine At.seq fun K11 hk_11 => ?_
    refine At.region ?_
    refine op_move (nxlf rfl) rfl rfl ?_
    refine op_geq (nxlf rfl) rfl rfl rfl ?_
    refine At.opsNil ?_
    refine At.norm (hk_11 ?_)
    refine At.condP rfl (fun c20 => ?_) (fun c20 => ?_)
    · refine At.skip ?_
      refine At.norm (hk_10 ?_)
      refine At.seq fun K12 hk_12 => ?_
      refine At.block ?_
      refine At.seq fun K13 hk_13 => ?_
      refine At.seq fun K14 hk_14 => ?_
      refine At.drawn [] [0,1,2,3,4,5,6,7,8] (by kernel_rfl) (by kernel_rfl) ?_
      refine op_move (nxof rfl rfl rfl (by kernel_rfl)) rfl rfl ?_
      refine op_move (nxof rfl rfl rfl (by kernel_rfl)) rfl rfl ?_
      refine op_idx1 (nxof rfl rfl rfl (by kernel_rfl)) se86 rfl rfl (by assumption) (show _ = (((j - 1 : Nat)) : Int) from by omega) (by omega) rfl ?_
      refine op_loadE (nxof rfl rfl rfl (by kernel_rfl)) sc97 rfl (by assumption) (by first | exact get8 (by omega) | exact get64 (by omega) | exact get32 (by omega)) (by first | exact mem0 | exact mem1 | exact mem2 | exact mem3 | exact mem4 | exact mem5 | exact mem6 | exact mem7 | exact mem8 | exact mem9) rfl ?_
      refine op_move (nxof rfl rfl rfl (by kernel_rfl)) rfl rfl ?_
      refine op_move (nxof rfl rfl rfl (by kernel_rfl)) rfl rfl ?_
      refine op_idx1 (nxof rfl rfl rfl (by kernel_rfl)) se86 rfl rfl (by assumption) (show _ = (((j - 1 : Nat)) : Int) from by omega) (by omega) rfl ?_
      refine op_loadE (nxof rfl rfl rfl (by kernel_rfl)) sc97 rfl (by assumption) (by first | exact get8 (by omega) | exact get64 (by omega) | exact get32 (by omega)) (by first | exact mem0 | exact mem1 | exact mem2 | exact mem3 | exact mem4 | exact mem5 | exact mem6 | exact mem7 | exact mem8 | exact mem9) rfl ?_
      refine op_lss (nxof rfl rfl rfl (by kernel_rfl)) rfl rfl rfl ?_
      refine At.oneNil ?_
      refine At.norm (hk_14 ?_)
      refine At.condP rfl (fun c31 => ?_) (fun c31 => ?_)
      · refine At.seq fun K15 hk_15 => ?_
        refine At.region ?_
        refine op_assign (nxlf rfl) rfl rfl ?_
        refine At.opsNil ?_
        refine At.norm (hk_15 ?_)
        refine At.ret (At.thenRet (At.inRet (At.thenRet (At.thenRet (At.inRet (At.thenRet (?_)))))))
        refine At.ret1 (L1 := []) rfl (.tmp rfl .nil) (.refl _) (.refl _) ?_
        have ⟨e1, e2⟩ := hat (by omega)
        have := lt_of_div (x := x) (y := y) (p := 2 ^ (32 * (j - 1))) (by rw [e1, e2, hd]; omega)
        exact ⟨by rw [cmpI, if_pos this], rfl⟩
      · refine At.skip ?_
        refine At.norm (hk_13 ?_)
        refine At.seq fun K16 hk_16 => ?_
        refine At.drawn [] [0,1,2,3,4,5,6,7,8] (by kernel_rfl) (by kernel_rfl) ?_
        refine op_move (nxof rfl rfl rfl (by kernel_rfl)) rfl rfl ?_
        refine op_move (nxof rfl rfl rfl (by kernel_rfl)) rfl rfl ?_
        refine op_idx1 (nxof rfl rfl rfl (by kernel_rfl)) se86 rfl rfl (by assumption) (show _ = (((j - 1 : Nat)) : Int) from by omega) (by omega) rfl ?_
        refine op_loadE (nxof rfl rfl rfl (by kernel_rfl)) sc97 rfl (by assumption) (by first | exact get8 (by omega) | exact get64 (by omega) | exact get32 (by omega)) (by first | exact mem0 | exact mem1 | exact mem2 | exact mem3 | exact mem4 | exact mem5 | exact mem6 | exact mem7 | exact mem8 | exact mem9) rfl ?_
        refine op_move (nxof rfl rfl rfl (by kernel_rfl)) rfl rfl ?_
        refine op_move (nxof rfl rfl rfl (by kernel_rfl)) rfl rfl ?_
        refine op_idx1 (nxof rfl rfl rfl (by kernel_rfl)) se86 rfl rfl (by assumption) (show _ = (((j - 1 : Nat)) : Int) from by omega) (by omega) rfl ?_
        refine op_loadE (nxof rfl rfl rfl (by kernel_rfl)) sc97 rfl (by assumption) (by first | exact get8 (by omega) | exact get64 (by omega) | exact get32 (by omega)) (by first | exact mem0 | exact mem1 | exact mem2 | exact mem3 | exact mem4 | exact mem5 | exact mem6 | exact mem7 | exact mem8 | exact mem9) rfl ?_
        refine op_gtr (nxof rfl rfl rfl (by kernel_rfl)) rfl rfl rfl ?_
        refine At.oneNil ?_
        refine At.norm (hk_16 ?_)
        refine At.condP rfl (fun c40 => ?_) (fun c40 => ?_)
        · refine At.seq fun K17 hk_17 => ?_
          refine At.region ?_
          refine op_assign (nxlf rfl) rfl rfl ?_
          refine At.opsNil ?_
          refine At.norm (hk_17 ?_)
          refine At.ret (At.inRet (At.thenRet (At.thenRet (At.inRet (At.thenRet (?_))))))
          refine At.ret1 (L1 := []) rfl (.tmp rfl .nil) (.refl _) (.refl _) ?_
          have ⟨e1, e2⟩ := hat (by omega)
          have := lt_of_div (x := y) (y := x) (p := 2 ^ (32 * (j - 1))) (by rw [e1, e2, hd]; omega)
          exact ⟨by rw [cmpI, if_neg (by omega), if_pos this], rfl⟩
        · refine At.skip ?_
          refine At.inNorm ?_
          refine At.norm (hk_12 ?_)
          refine At.region ?_
          refine op_move (nxlf rfl) rfl rfl ?_
          refine op_subI (nxlf rfl) rfl rfl (by omega) (by omega) rfl ?_
          refine op_assign (nxlf rfl) rfl rfl ?_
          refine At.opsNil ?_
          refine At.norm ?_
          refine At.back ?_ (.refl _) ⟨j - 1, rfl, rfl, rfl, by omega, by have ⟨e1, e2⟩ := hat (by omega); rw [e1, e2, hd]; omega⟩ ?_
          · exact .cons (by first | exact lkI rfl (by omega) | rfl) (.cons (by first | exact lkI rfl (by omega) | rfl) (.cons (by first | exact lkI rfl (by omega) | rfl) .nil))
          · omega
    · refine At.exit (At.thenExit (At.thenExit (At.inHit ?_)))
      refine At.norm (hk_8 ?_)
      refine At.seq fun K18 hk_18 => ?_
      refine At.region ?_
      refine op_assign (nxlf rfl) rfl rfl ?_
      refine At.opsNil ?_
      refine At.norm (hk_18 ?_)
      refine At.ret (?_)
      refine At.ret1 (L1 := []) rfl (.tmp rfl .nil) (.refl _) (.refl _) ?_
      obtain rfl : j = 0 := by omega
      simp only [Nat.mul_zero, Nat.pow_zero, Nat.div_one] at hd
      exact ⟨by rw [cmpI, if_neg (by omega), if_neg (by omega)], rfl⟩
theorem rW_f {N : Heaplet} {ao : Option Addr} {n cap : Nat} {l : List UInt32} (h : RSl N 1 ao n cap (u32s l)) :
    Fn Try.prog 43 #[.slice ao n cap] [] [N] (fun v L => L = [] ∧ ∃ a b c d : UInt64, v = .agg #[.int .u64 (a.toNat : Int), .int .u64 (b.toNat : Int), .int .u64 (c.toNat : Int), .int .u64 (d.toNat : Int)] ∧ v64 [a, b, c, d] = v32 l % 2 ^ 256) := by
  have hlen := h.len32
  have hcap := h.cap63
  refine Fn.enter (vs := [.slice ao n cap]) Try.func43 rfl rfl rfl ?_
  intro E R hR
  have h := h.le (hR N (by simp))
  change At _ _ E [R] _
  refine At.seq fun K1 hk_1 => ?_
  refine At.region ?_
  refine op_alloc (nxla rfl) ze66 rfl (fun N2 b2 B2 => ?_)
  change Blk N2 b2 _ [.int .u64 0, .int .u64 0, .int .u64 0, .int .u64 0] at B2
  refine At.opsNil ?_
  refine At.norm (hk_1 ?_)
  refine At.seq fun K2 hk_2 => ?_
  refine At.region ?_
  refine op_alloc (nxla rfl) ze66 rfl (fun N3 b3 B3 => ?_)
  change Blk N3 b3 _ [.int .u64 0, .int .u64 0, .int .u64 0, .int .u64 0] at B3
  change Blk N3 b3 _ (u64s [0, 0, 0, 0]) at B3
  refine At.opsNil ?_
  refine At.norm (hk_2 ?_)
  refine At.seq fun K3 hk_3 => ?_
  refine At.seq fun K4 hk_4 => ?_
  refine At.region ?_
  refine op_assign (nxlf rfl) rfl rfl ?_
  refine At.opsNil ?_
  refine At.norm (hk_4 ?_)
  refine At.block ?_
  refine At.perm sel2 ?_
  refine At.perm sel1 ?_
  refine At.perm sel2 ?_
  refine At.loop (fun fr_ hp_ ms_ => ∃ (k : Nat) (m : List UInt64) (N3 : Heaplet), fr_ = [(0, .slice ao n cap), (2, .pointer (some ⟨b2, 0, none⟩)), (3, .pointer (some ⟨b3, 0, none⟩)), (4, .int .i64 (k : Int))] ∧ hp_ = [N2, N3, R] ∧ 8 - k = ms_ ∧ (k ≤ 8) ∧ (k ≤ n) ∧ (m.length = 4) ∧ (v64 m = v32 (l.take k)) ∧ (Blk N3 b3 66 (u64s m))) ?_ (.refl _) ⟨0, [0, 0, 0, 0], N3, rfl, rfl, rfl, by omega, by omega, rfl, rfl, B3⟩ ?_
  · exact .cons (by first | exact lkI rfl (by omega) | rfl) (.cons (by first | exact lkI rfl (by omega) | rfl) (.cons (by first | exact lkI rfl (by omega) | rfl) (.cons (by first | exact lkI rfl (by omega) | rfl) .nil)))
  rintro _ _ _ ⟨k, m, N3, rfl, rfl, rfl, hk, hkn, hm, hv, B3⟩
  refine At.seq fun K5 hk_5 => ?_
  refine At.seq fun K6 hk_6 => ?_
  refine At.region ?_
  refine op_move (nxlf rfl) rfl rfl ?_
  refine op_lss (nxlf rfl) rfl rfl rfl ?_
  refine op_move (nxlf rfl) rfl rfl ?_
  refine At.partP (d := 7) rfl (fun g7 => ?_) (fun g7 => ?_)
  · refine op_move (nxgf rfl rfl rfl rfl) rfl rfl ?_
    refine op_move (nxgf rfl rfl rfl rfl) rfl rfl ?_
    refine op_lenS (nxgf rfl rfl rfl rfl) se86 rfl rfl ?_
    refine op_lss (nxgf rfl rfl rfl rfl) rfl rfl rfl ?_
    refine op_pickT (nxlf rfl) rfl rfl rfl ?_
    refine At.opsNil ?_
    refine At.norm (hk_6 ?_)
    refine At.condP rfl (fun c12 => ?_) (fun c12 => ?_)
    · refine At.skip ?_
      refine At.norm (hk_5 ?_)
      refine At.seq fun K7 hk_7 => ?_
      refine At.block ?_
      refine At.drawn [17] [0,1,2,3,4,5,6,7,8,9,10,11,12,13,14,15,16,17] (by kernel_rfl) (by kernel_rfl) ?_
      refine op_move (nxof rfl rfl rfl (by kernel_rfl)) rfl rfl ?_
      refine op_quoI (nxof rfl rfl rfl (by kernel_rfl)) rfl rfl (by omega) (by omega) (by omega) rfl ?_
      refine op_move (nxof rfl rfl rfl (by kernel_rfl)) rfl rfl ?_
      refine op_quoI (nxof rfl rfl rfl (by kernel_rfl)) rfl rfl (by omega) (by omega) (by omega) rfl ?_
      refine op_idxA (nxof rfl rfl rfl (by kernel_rfl)) ae66 rfl rfl (show _ = (((k / 2 : Nat)) : Int) from by omega) (by omega) rfl ?_
      refine op_loadB (nxof rfl rfl rfl (by kernel_rfl)) sc64 rfl B3 (by first | exact get64A (by omega) | rfl) mem1 rfl ?_
      refine op_move (nxof rfl rfl rfl (by kernel_rfl)) rfl rfl ?_
      refine op_move (nxof rfl rfl rfl (by kernel_rfl)) rfl rfl ?_
      refine op_idx1 (nxof rfl rfl rfl (by kernel_rfl)) se86 rfl rfl (by assumption) (show _ = (((k : Nat)) : Int) from by omega) (by omega) rfl ?_
      refine op_loadE (nxof rfl rfl rfl (by kernel_rfl)) sc97 rfl (by assumption) (by first | exact get8 (by omega) | exact get64 (by omega) | exact get32 (by omega)) (by first | exact mem0 | exact mem1 | exact mem2 | exact mem3 | exact mem4 | exact mem5 | exact mem6 | exact mem7 | exact mem8 | exact mem9) rfl ?_
      refine op_conv64 (nxof rfl rfl rfl (by kernel_rfl)) (und_some Try.underlying97) Try.underlying64 rfl (by first | rfl | exact (Int.toNat_of_nonneg (by omega)).symm) rfl ?_
      refine op_move (nxof rfl rfl rfl (by kernel_rfl)) rfl rfl ?_
      refine op_rem (nxof rfl rfl rfl (by kernel_rfl)) rfl rfl (by omega) (by omega) rfl ?_
      refine op_mulI (nxof rfl rfl rfl (by kernel_rfl)) rfl rfl (by omega) (by omega) rfl ?_
      refine op_shlU (nxof rfl rfl rfl (by kernel_rfl)) rfl rfl (show _ = (((32 * (k % 2) : Nat)) : Int) from by omega) rfl ?_
      refine op_orU (nxof rfl rfl rfl (by kernel_rfl)) rfl rfl rfl ?_
      refine op_idxA (nxof rfl rfl rfl (by kernel_rfl)) ae66 rfl rfl (show _ = (((k / 2 : Nat)) : Int) from by omega) (by omega) rfl ?_
      refine op_store (nxos rfl rfl rfl rfl) sz64 rfl rfl rfl rfl rfl B3 (by simp <;> omega) sel1 (fun N3 B3 => ?_)
      rw [set64A] at B3
      refine At.oneNil ?_
      refine At.inNorm ?_
      refine At.norm (hk_7 ?_)
      refine At.region ?_
      refine op_move (nxlf rfl) rfl rfl ?_
      refine op_addI (nxlf rfl) rfl rfl (by omega) (by omega) rfl ?_
      refine op_assign (nxlf rfl) rfl rfl ?_
      refine At.opsNil ?_
      refine At.norm ?_
      refine At.perm sel2 ?_
      refine At.perm sel1 ?_
      refine At.perm sel2 ?_
      refine At.back ?_ (.refl _) ⟨k + 1, _, N3, rfl, rfl, rfl, by omega, by omega, by simpa using hm, by rw [shl64_of _ (by have := (l.getD k 0).toNat_lt; omega)]; exact w_step hm hv (by omega) (by omega), B3⟩ ?_
      · exact .cons (by first | exact lkI rfl (by omega) | rfl) (.cons (by first | exact lkI rfl (by omega) | rfl) (.cons (by first | exact lkI rfl (by omega) | rfl) (.cons (by first | exact lkI rfl (by omega) | rfl) .nil)))
      · omega
    · refine At.exit (At.thenExit (At.thenExit (At.inHit ?_)))
      refine At.norm (hk_3 ?_)
      refine At.seq fun K8 hk_8 => ?_
      refine At.region ?_
      obtain ⟨a, b, c, d, rfl⟩ := four hm
      have hfin : v64 [a, b, c, d] = v32 l % 2 ^ 256 := by
        rw [hv, v32_take_mod]
        by_cases h8 : k = 8
        · rw [h8]
        · have hk' : l.length ≤ k := by omega
          have := v32_lt l
          have h1 : v32 l < 2 ^ (32 * k) := Nat.lt_of_lt_of_le this (Nat.pow_le_pow_right (by decide) (by omega))
          have h2 : v32 l < 2 ^ 256 := Nat.lt_of_lt_of_le h1 (Nat.pow_le_pow_right (by decide) (by omega))
          rw [Nat.mod_eq_of_lt h1, Nat.mod_eq_of_lt h2]
      change Blk N3 b3 _ [.int .u64 (a.toNat : Int), .int .u64 (b.toNat : Int), .int .u64 (c.toNat : Int), .int .u64 (d.toNat : Int)] at B3
      refine op_loadAggB (ds := [_, _, _, _]) (nxlf rfl) ag66 rfl B3 rfl rfl mem1 rfl ?_
      refine op_store (nxl rfl) sz66 rfl rfl rfl rfl rfl B2 (by simp) sel0 (fun N2 B2 => ?_)
      simp only [setL, List.set] at B2
      refine At.opsNil ?_
      refine At.norm (hk_8 ?_)
      refine At.ret (?_)
      refine At.sub (L' := [N2, R]) (.cons_cons _ (.cons _ (.cons_cons _ (.slnil)))) ?_
      refine At.ret1 (L1 := []) rfl (.cell rfl (res_agg (ds := [_, _, _, _]) ag66 B2 rfl rfl mem0) .nil) (.cons _ (.refl _)) (.refl _) ?_
      exact ⟨rfl, a, b, c, d, rfl, hfin⟩
  · refine op_skip rfl rfl rfl rfl rfl rfl rfl ?_
    refine op_skip rfl rfl rfl rfl rfl rfl rfl ?_
    refine op_skip rfl rfl rfl rfl rfl rfl rfl ?_
    refine op_skip rfl rfl rfl rfl rfl rfl rfl ?_
    refine op_pickF (nxlf rfl) rfl rfl rfl ?_
    refine At.opsNil ?_
    refine At.norm (hk_6 ?_)
    refine At.condF rfl ?_
    refine At.exit (At.thenExit (At.thenExit (At.inHit ?_)))
    refine At.norm (hk_3 ?_)
    refine At.seq fun K9 hk_9 => ?_
    refine At.region ?_
    obtain ⟨a, b, c, d, rfl⟩ := four hm
    have hfin : v64 [a, b, c, d] = v32 l % 2 ^ 256 := by
      rw [hv, v32_take_mod]
      by_cases h8 : k = 8
      · rw [h8]
      · have hk' : l.length ≤ k := by omega
        have := v32_lt l
        have h1 : v32 l < 2 ^ (32 * k) := Nat.lt_of_lt_of_le this (Nat.pow_le_pow_right (by decide) (by omega))
        have h2 : v32 l < 2 ^ 256 := Nat.lt_of_lt_of_le h1 (Nat.pow_le_pow_right (by decide) (by omega))
        rw [Nat.mod_eq_of_lt h1, Nat.mod_eq_of_lt h2]
    change Blk N3 b3 _ [.int .u64 (a.toNat : Int), .int .u64 (b.toNat : Int), .int .u64 (c.toNat : Int), .int .u64 (d.toNat : Int)] at B3
    refine op_loadAggB (ds := [_, _, _, _]) (nxlf rfl) ag66 rfl B3 rfl rfl mem1 rfl ?_
    refine op_store (nxl rfl) sz66 rfl rfl rfl rfl rfl B2 (by simp) sel0 (fun N2 B2 => ?_)
    simp only [setL, List.set] at B2
    refine At.opsNil ?_
    refine At.norm (hk_9 ?_)
    refine At.ret (?_)
    refine At.sub (L' := [N2, R]) (.cons_cons _ (.cons _ (.cons_cons _ (.slnil)))) ?_
    refine At.ret1 (L1 := []) rfl (.cell rfl (res_agg (ds := [_, _, _, _]) ag66 B2 rfl rfl mem0) .nil) (.cons _ (.refl _)) (.refl _) ?_
    exact ⟨rfl, a, b, c, d, rfl, hfin⟩
end Go.Proofs.Ytohmmgggaegbbaa
