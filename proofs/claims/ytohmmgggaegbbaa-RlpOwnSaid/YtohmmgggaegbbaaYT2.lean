/- limb.From: the number of bytes. No condition. -/
import Derived.Test.YtohmmgggaegbbaaYT1
import Derived.Test.YtohmmgggaegbbaaYFromMath
import Derived.Test.YtohmmgggaegbbaaY2
namespace Go.Proofs.Ytohmmgggaegbbaa
set_option linter.unusedVariables false
set_option linter.unusedSimpArgs false
open Go Go.RowKit
theorem From_f {N : Heaplet} {ao : Option Addr} {n cap : Nat} {l : List UInt8} (h : RSl N 1 ao n cap (u8s l)) (hn : n ≤ 140737488351232) :
    Fn Try.prog 52 #[.slice ao n cap] [] [N] (fun v L => ∃ M a, v = .slice a (limbsOf (be l)).length (limbsOf (be l)).length ∧ L = [M] ∧ RSl M 1 a (limbsOf (be l)).length (limbsOf (be l)).length (u64s (limbsOf (be l)))) := by
  have hlen := h.len8
  have hcap := h.cap63
  refine Fn.enter (vs := [.slice ao n cap]) Try.func52 rfl rfl rfl ?_
  intro E R hR
  have h := h.le (hR N (by simp))
  change At _ _ E [R] _
  refine At.seq fun K1 hk_1 => ?_
  refine At.region ?_
  refine op_assign (nxlf rfl) rfl rfl ?_
  refine At.opsNil ?_
  refine At.norm (hk_1 ?_)
  refine At.seq fun K2 hk_2 => ?_
  refine At.region ?_
  refine op_move (nxlf rfl) rfl rfl ?_
  refine op_lenS (nxlf rfl) se22 rfl rfl ?_
  refine op_addI (nxlf rfl) rfl rfl (by omega) (by omega) rfl ?_
  refine op_quoI (nxlf rfl) rfl rfl (by omega) (by omega) (by omega) rfl ?_
  refine op_make (nxla rfl) Try.underlying95 te64 rfl rfl (show _ = ((((n + 7) / 8 : Nat)) : Int) from by omega) (show _ = ((((n + 7) / 8 : Nat)) : Int) from by omega) (by omega) (by unfold maxLen; omega) rfl (fun N11 a11 r11 => ?_)
  rw [made_one _ _ rfl, zero_u64s] at r11
  have s11 := r11.rsl
  refine op_assign (nxlf rfl) rfl rfl ?_
  refine At.opsNil ?_
  refine At.norm (hk_2 ?_)
  refine At.seq fun K3 hk_3 => ?_
  refine At.seq fun K4 hk_4 => ?_
  refine At.region ?_
  refine op_move (nxlf rfl) rfl rfl ?_
  refine op_lenS (nxlf rfl) se22 rfl rfl ?_
  refine op_move (nxlf rfl) rfl rfl ?_
  refine At.opsNil ?_
  refine At.norm (hk_4 ?_)
  refine At.block ?_
  refine At.loop (fun fr_ hp_ ms_ => ∃ (k : Nat) (Nq : Heaplet), fr_ = [(0, .slice ao n cap), (3, .slice a11 ((n + 7) / 8) ((n + 7) / 8)), (12, .slice ao n cap), (13, .int .i64 (n : Int)), (14, .int .i64 (k : Int))] ∧ hp_ = [Nq, R] ∧ n - k = ms_ ∧ (k ≤ n) ∧ (Row Nq 64 1 a11 ((n + 7) / 8) ((n + 7) / 8) (u64s (fromSt l k)))) ?_ (.refl _) ⟨0, N11, rfl, rfl, rfl, by omega, by simpa [fromSt, hlen] using r11⟩ ?_
  · exact .cons (by first | exact lkI rfl (by omega) | rfl) (.cons (by first | exact lkI rfl (by omega) | rfl) (.cons (by first | exact lkI rfl (by omega) | rfl) (.cons (by first | exact lkI rfl (by omega) | rfl) (.cons (by first | exact lkI rfl (by omega) | rfl) .nil))))
  rintro _ _ _ ⟨k, Nq, rfl, rfl, rfl, hk, rq⟩
  have sq := rq.rsl
  have hlq := sq.len64
  refine At.seq fun K5 hk_5 => ?_
  refine At.region ?_
  refine op_lss (nxlf rfl) rfl rfl rfl ?_
  refine At.opsNil ?_
  refine At.norm (hk_5 ?_)
  refine At.seq fun K6 hk_6 => ?_
  refine At.condP rfl (fun c15 => ?_) (fun c15 => ?_)
  · refine At.skip ?_
    refine At.norm (hk_6 ?_)
    refine At.seq fun K7 hk_7 => ?_
    refine At.block ?_
    refine At.seq fun K8 hk_8 => ?_
    refine At.region ?_
    refine op_move (nxlf rfl) rfl rfl ?_
    refine op_idx1 (nxlf rfl) se22 rfl rfl (by assumption) (show _ = (((k : Nat)) : Int) from by omega) (by omega) rfl ?_
    refine op_loadE (nxlf rfl) sc5 rfl (by assumption) (by first | exact get8 (by omega) | exact get64 (by omega) | exact get32 (by omega)) (by first | exact mem0 | exact mem1 | exact mem2 | exact mem3 | exact mem4 | exact mem5 | exact mem6 | exact mem7 | exact mem8 | exact mem9) rfl ?_
    refine op_assign (nxlf rfl) rfl rfl ?_
    refine op_assign (nxlf rfl) rfl rfl ?_
    refine At.opsNil ?_
    refine At.norm (hk_8 ?_)
    refine At.seq fun K9 hk_9 => ?_
    refine At.region ?_
    refine op_move (nxlf rfl) rfl rfl ?_
    refine op_lenS (nxlf rfl) se22 rfl rfl ?_
    refine op_subI (nxlf rfl) rfl rfl (by omega) (by omega) rfl ?_
    refine op_move (nxlf rfl) rfl rfl ?_
    refine op_subI (nxlf rfl) rfl rfl (by omega) (by omega) rfl ?_
    refine op_assign (nxlf rfl) rfl rfl ?_
    refine At.opsNil ?_
    refine At.norm (hk_9 ?_)
    refine At.drawn [13] [0,1,2,3,4,5,6,7,8,9,10,11,12,13] (by kernel_rfl) (by kernel_rfl) ?_
    refine op_move (nxof rfl rfl rfl (by kernel_rfl)) rfl rfl ?_
    refine op_move (nxof rfl rfl rfl (by kernel_rfl)) rfl rfl ?_
    refine op_quoI (nxof rfl rfl rfl (by kernel_rfl)) rfl rfl (by omega) (by omega) (by omega) rfl ?_
    refine op_idx1 (nxof rfl rfl rfl (by kernel_rfl)) se95 rfl rfl (by assumption) (show _ = ((((n - 1 - k) / 8 : Nat)) : Int) from by omega) (by omega) rfl ?_
    refine op_loadE (nxof rfl rfl rfl (by kernel_rfl)) sc64 rfl (by assumption) (by first | exact get8 (by omega) | exact get64 (by omega) | exact get32 (by omega)) (by first | exact mem0 | exact mem1 | exact mem2 | exact mem3 | exact mem4 | exact mem5 | exact mem6 | exact mem7 | exact mem8 | exact mem9) rfl ?_
    refine op_move (nxof rfl rfl rfl (by kernel_rfl)) rfl rfl ?_
    refine op_conv64 (nxof rfl rfl rfl (by kernel_rfl)) (und_some Try.underlying5) Try.underlying64 rfl (by first | rfl | exact (Int.toNat_of_nonneg (by omega)).symm) rfl ?_
    refine op_move (nxof rfl rfl rfl (by kernel_rfl)) rfl rfl ?_
    refine op_rem (nxof rfl rfl rfl (by kernel_rfl)) rfl rfl (by omega) (by omega) rfl ?_
    refine op_mulI (nxof rfl rfl rfl (by kernel_rfl)) rfl rfl (by omega) (by omega) rfl ?_
    refine op_shlU (nxof rfl rfl rfl (by kernel_rfl)) rfl rfl (show _ = ((((n - 1 - k) % 8 * 8 : Nat)) : Int) from by omega) rfl ?_
    refine op_orU (nxof rfl rfl rfl (by kernel_rfl)) rfl rfl rfl ?_
    refine op_idx1 (nxof rfl rfl rfl (by kernel_rfl)) se95 rfl rfl (by assumption) (show _ = ((((n - 1 - k) / 8 : Nat)) : Int) from by omega) (by omega) rfl ?_
    refine op_storeE (nxos rfl rfl rfl rfl) sz64 rfl rfl rfl rfl rfl rq (by simp <;> omega) (by simp) sel0 (fun Nq rq => ?_)
    simp only [setL] at rq
    have sq := rq.rsl
    refine At.oneNil ?_
    refine At.inNorm ?_
    refine At.norm (hk_7 ?_)
    refine At.region ?_
    refine op_addI (nxlf rfl) rfl rfl (by omega) (by omega) rfl ?_
    refine op_move (nxlf rfl) rfl rfl ?_
    refine At.opsNil ?_
    refine At.norm ?_
    refine At.back ?_ (.refl _) ⟨k + 1, Nq, rfl, rfl, rfl, by omega, by rw [fromSt, fromStep, hlen, ← ofNat_shl, ← set_u64s]; exact rq⟩ ?_
    · exact .cons (by first | exact lkI rfl (by omega) | rfl) (.cons (by first | exact lkI rfl (by omega) | rfl) (.cons (by first | exact lkI rfl (by omega) | rfl) (.cons (by first | exact lkI rfl (by omega) | rfl) (.cons (by first | exact lkI rfl (by omega) | rfl) .nil))))
    · omega
  · refine At.exit (At.thenExit (At.thenExit (At.inHit ?_)))
    refine At.norm (hk_3 ?_)
    refine At.seq fun K10 hk_10 => ?_
    refine At.region ?_
    refine op_move (nxlf rfl) rfl rfl ?_
    refine op_callA (nxla rfl) (.cons rfl .nil) (Trim_f sq) Try.func60 rfl rfl (by simp) rfl ?_
    rintro v39 L39 ⟨rfl, rfl, e1, e2⟩
    change At _ _ _ [Nq, R] _
    refine op_assign (nxlf rfl) rfl rfl ?_
    refine At.opsNil ?_
    refine At.norm (hk_10 ?_)
    refine At.ret (?_)
    refine At.ret1 (L1 := [Nq]) rfl (.tmp rfl .nil) (.refl _) (.refl _) ?_
    obtain rfl : k = l.length := by omega
    rw [fromSt_all] at e1 e2 ⊢
    have h2 := sq.take (Nat.le_refl _) e2 e2
    rw [Nat.mul_one, u64s_takeR, e1] at h2
    exact ⟨Nq, a11, rfl, rfl, h2⟩
end Go.Proofs.Ytohmmgggaegbbaa
