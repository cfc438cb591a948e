/- Several texts in one: see the remarks ahead of each part. No condition but those told there. -/
import Derived.Test.YtbmlhdecnfplaaaK8
import Derived.Test.YtbmlhdecnfplaaaK13
import Derived.Test.YtbmlhdecnfplaaaK9
import Derived.Test.YtbmlhdecnfplaaaK10
/- quarryref02's trim, Of, Bytes: numbers in digits of 32 bits. No condition. -/
namespace Go.Proofs.Ytbmlhdecnfplaaa
set_option linter.unusedVariables false
set_option linter.unusedSimpArgs false
open Go Go.RowKit
theorem u32_zero {x : UInt32} (h : (x.toNat : Int) = 0) : x = 0 := by rw [← UInt32.toNat_inj]; simpa using h
theorem trim32_f {N : Heaplet} {ao : Option Addr} {n cap : Nat} {l : List UInt32} (h : RSl N 1 ao n cap (u32s l)) :
    Fn Try.prog 48 #[.slice ao n cap] [] [N] (fun v L => v = .slice ao (digsOf (v32 l)).length cap ∧ L = [] ∧ l.take (digsOf (v32 l)).length = digsOf (v32 l) ∧ (digsOf (v32 l)).length ≤ n) := by
  have hlen := h.len32
  have hcap := h.cap63
  refine Fn.enter (vs := [.slice ao n cap]) Try.func48 rfl rfl rfl ?_
  intro E R hR
  have h := h.le (hR N (by simp))
  change At _ _ E [R] _
  refine At.seq fun K1 hk_1 => ?_
  refine At.region ?_
  refine op_assign (nxlf rfl) rfl rfl ?_
  refine At.opsNil ?_
  refine At.norm (hk_1 ?_)
  refine At.seq fun K2 hk_2 => ?_
  refine At.region ?_
  refine op_move (nxlf rfl) rfl rfl ?_
  refine op_lenS (nxlf rfl) se43 rfl rfl ?_
  refine op_assign (nxlf rfl) rfl rfl ?_
  refine At.opsNil ?_
  refine At.norm (hk_2 ?_)
  refine At.seq fun K3 hk_3 => ?_
  refine At.block ?_
  refine At.loop (fun fr_ hp_ ms_ => ∃ (k : Nat), fr_ = [(0, .slice ao n cap), (3, .int .i64 (k : Int))] ∧ hp_ = [R] ∧ k = ms_ ∧ (k ≤ n) ∧ (∀ i, k ≤ i → l.getD i 0 = 0)) ?_ (.refl _) ⟨n, rfl, rfl, rfl, Nat.le_refl _, fun i hi => by rw [List.getD_eq_getElem?_getD, List.getElem?_eq_none (by omega)]; rfl⟩ ?_
  · exact .cons (by first | exact lkI rfl (by omega) | rfl) (.cons (by first | exact lkI rfl (by omega) | rfl) .nil)
  rintro _ _ _ ⟨k, rfl, rfl, rfl, hk, hz⟩
  refine At.seq fun K4 hk_4 => ?_
  refine At.seq fun K5 hk_5 => ?_
  refine At.region ?_
  refine op_move (nxlf rfl) rfl rfl ?_
  refine op_gtr (nxlf rfl) rfl rfl rfl ?_
  refine op_move (nxlf rfl) rfl rfl ?_
  refine At.partP (d := 8) rfl (fun g8 => ?_) (fun g8 => ?_)
  · refine op_move (nxgf rfl rfl rfl rfl) rfl rfl ?_
    refine op_move (nxgf rfl rfl rfl rfl) rfl rfl ?_
    refine op_subI (nxgf rfl rfl rfl rfl) rfl rfl (by omega) (by omega) rfl ?_
    refine op_idx1 (nxgf rfl rfl rfl rfl) se43 rfl rfl (by assumption) (show _ = (((k - 1 : Nat)) : Int) from by omega) (by omega) rfl ?_
    refine op_loadE (nxgf rfl rfl rfl rfl) sc80 rfl (by assumption) (by first | exact get8 (by omega) | exact get64 (by omega) | exact get32 (by omega)) (by first | exact mem0 | exact mem1 | exact mem2 | exact mem3 | exact mem4 | exact mem5 | exact mem6 | exact mem7 | exact mem8 | exact mem9) rfl ?_
    refine op_eql (nxgf rfl rfl rfl rfl) rfl rfl rfl ?_
    refine op_pickT (nxlf rfl) rfl rfl rfl ?_
    refine At.opsNil ?_
    refine At.norm (hk_5 ?_)
    refine At.condP rfl (fun c15 => ?_) (fun c15 => ?_)
    · refine At.skip ?_
      refine At.norm (hk_4 ?_)
      refine At.block ?_
      refine At.region ?_
      refine op_move (nxlf rfl) rfl rfl ?_
      refine op_subI (nxlf rfl) rfl rfl (by omega) (by omega) rfl ?_
      refine op_assign (nxlf rfl) rfl rfl ?_
      refine At.opsNil ?_
      refine At.inNorm ?_
      refine At.norm ?_
      refine At.back ?_ (.refl _) ⟨k - 1, rfl, rfl, rfl, by omega, fun i hi => by rcases Nat.lt_or_ge i k with h | h; (rw [show i = k - 1 by omega]; exact u32_zero c15); exact hz i h⟩ ?_
      · exact .cons (by first | exact lkI rfl (by omega) | rfl) (.cons (by first | exact lkI rfl (by omega) | rfl) .nil)
      · omega
    · refine At.exit (At.thenExit (At.thenExit (At.inHit ?_)))
      refine At.norm (hk_3 ?_)
      refine At.seq fun K6 hk_6 => ?_
      refine At.region ?_
      refine op_move (nxlf rfl) rfl rfl ?_
      refine op_move (nxlf rfl) rfl rfl ?_
      refine op_slice0 (nxlf rfl) se43 rfl (.some rfl (show _ = (((k : Nat)) : Int) from by omega)) .none (by omega) (by omega) (by simp) rfl ?_
      refine op_assign (nxlf rfl) rfl rfl ?_
      refine At.opsNil ?_
      refine At.norm (hk_6 ?_)
      refine At.ret (?_)
      refine At.ret1 (L1 := []) rfl (.tmp rfl .nil) (.refl _) (.refl _) ?_
      have ⟨e1, e2⟩ := trim_len32 (by omega) hz (.inr ⟨by omega, fun e => c15 (by rw [e]; rfl)⟩); rw [e2]; exact ⟨rfl, rfl, e1, hk⟩
  · refine op_skip rfl rfl rfl rfl rfl rfl rfl ?_
    refine op_skip rfl rfl rfl rfl rfl rfl rfl ?_
    refine op_skip rfl rfl rfl rfl rfl rfl rfl ?_
    refine op_skip rfl rfl rfl rfl rfl rfl rfl ?_
    refine op_skip rfl rfl rfl rfl rfl rfl rfl ?_
    refine op_skip rfl rfl rfl rfl rfl rfl rfl ?_
    refine op_pickF (nxlf rfl) rfl rfl rfl ?_
    refine At.opsNil ?_
    refine At.norm (hk_5 ?_)
    refine At.condF rfl ?_
    refine At.exit (At.thenExit (At.thenExit (At.inHit ?_)))
    refine At.norm (hk_3 ?_)
    refine At.seq fun K7 hk_7 => ?_
    refine At.region ?_
    refine op_move (nxlf rfl) rfl rfl ?_
    refine op_move (nxlf rfl) rfl rfl ?_
    refine op_slice0 (nxlf rfl) se43 rfl (.some rfl (show _ = (((k : Nat)) : Int) from by omega)) .none (by omega) (by omega) (by simp) rfl ?_
    refine op_assign (nxlf rfl) rfl rfl ?_
    refine At.opsNil ?_
    refine At.norm (hk_7 ?_)
    refine At.ret (?_)
    refine At.ret1 (L1 := []) rfl (.tmp rfl .nil) (.refl _) (.refl _) ?_
    have ⟨e1, e2⟩ := trim_len32 (by omega) hz (.inl (by omega)); rw [e2]; exact ⟨rfl, rfl, e1, hk⟩
theorem Of32_f (x : UInt64) : Fn Try.prog 16 #[.int .u64 (x.toNat : Int)] [] [] (fun v L => ∃ M a cap, v = .slice a (digsOf x.toNat).length cap ∧ L = [M] ∧ RSl M 1 a (digsOf x.toNat).length cap (u32s (digsOf x.toNat))) := by
  refine Fn.enter (vs := [.int .u64 (x.toNat : Int)]) Try.func16 rfl rfl rfl ?_
  intro E R hR
  change At _ _ E [R] _
  refine At.seq fun K1 hk_1 => ?_
  refine At.region ?_
  refine op_assign (nxlf rfl) rfl rfl ?_
  refine At.opsNil ?_
  refine At.norm (hk_1 ?_)
  refine At.seq fun K2 hk_2 => ?_
  refine At.region ?_
  refine op_move (nxlf rfl) rfl rfl ?_
  refine op_conv32 (nxlf rfl) (und_some Try.underlying27) Try.underlying80 rfl (by first | rfl | exact (Int.toNat_of_nonneg (by omega)).symm) rfl ?_
  refine op_move (nxlf rfl) rfl rfl ?_
  refine op_shrU (nxlf rfl) rfl rfl (show _ = ((32 : Nat) : Int) from rfl) rfl ?_
  refine op_conv32 (nxlf rfl) (und_some Try.underlying27) Try.underlying80 rfl (by first | rfl | exact (Int.toNat_of_nonneg (by omega)).symm) rfl ?_
  refine op_lit (nxla rfl) Try.underlying43 ze80 sz80 (.cons rfl (.cons rfl .nil)) rfl rfl (by simp [Value.cells]) rfl rfl rfl (fun N8 a8 r8 => ?_)
  simp only [flatV, List.flatMap_cons, List.flatMap_nil, Value.cells, List.append_nil, List.cons_append, List.nil_append] at r8
  have s8 := r8.rsl
  refine op_callA (nxla rfl) (.cons rfl .nil) (trim32_f (l := [UInt32.ofNat x.toNat, UInt32.ofNat (shr64 x 32).toNat]) s8) Try.func48 rfl rfl (by simp) rfl ?_
  rintro v9 L9 ⟨rfl, rfl, e1, e2⟩
  change At _ _ _ [N8, R] _
  rw [v32_two] at e1 e2 ⊢
  have s9 := s8.take e2 (Nat.le_refl _) e2
  refine op_assign (nxlf rfl) rfl rfl ?_
  refine At.opsNil ?_
  refine At.norm (hk_2 ?_)
  refine At.ret (?_)
  refine At.ret1 (L1 := [N8]) rfl (.tmp rfl .nil) (.refl _) (.refl _) ?_
  refine ⟨N8, a8, 2, rfl, rfl, ?_⟩
  have e : List.take ((digsOf x.toNat).length * 1) [Value.int IntKind.u32 ↑(UInt32.ofNat x.toNat).toNat, Value.int IntKind.u32 ↑(UInt32.ofNat (shr64 x 32).toNat).toNat] = u32s (digsOf x.toNat) := by
    rw [Nat.mul_one, ← e1, ← u32s_take, e1]; rfl
  rw [e] at s9
  exact s9
end Go.Proofs.Ytbmlhdecnfplaaa
/- quarryref02's From, Cmp; quarryref01's W. No condition but that bytes are not more than a machine holds. -/
namespace Go.Proofs.Ytbmlhdecnfplaaa
set_option linter.unusedVariables false
set_option linter.unusedSimpArgs false
open Go Go.RowKit
theorem ofNat_shl32 (x : UInt8) (m : Nat) : shl32 (UInt32.ofNat x.toNat) m = UInt32.ofNat (x.toNat * 2 ^ m) := shl32_of _ (by have := x.toNat_lt; omega) m
theorem rFrom_f {N : Heaplet} {ao : Option Addr} {n cap : Nat} {l : List UInt8} (h : RSl N 1 ao n cap (u8s l)) (hn : n ≤ 140737488351232) :
    Fn Try.prog 47 #[.slice ao n cap] [] [N] (fun v L => ∃ M a c, v = .slice a (digsOf (be l)).length c ∧ L = [M] ∧ RSl M 1 a (digsOf (be l)).length c (u32s (digsOf (be l)))) := by
  have hlen := h.len8
  have hcap := h.cap63
  refine Fn.enter (vs := [.slice ao n cap]) Try.func47 rfl rfl rfl ?_
  intro E R hR
  have h := h.le (hR N (by simp))
  change At _ _ E [R] _
  refine At.seq fun K1 hk_1 => ?_
  refine At.region ?_
  refine op_assign (nxlf rfl) rfl rfl ?_
  refine At.opsNil ?_
  refine At.norm (hk_1 ?_)
  refine At.seq fun K2 hk_2 => ?_
  refine At.region ?_
  refine op_move (nxlf rfl) rfl rfl ?_
  refine op_lenS (nxlf rfl) se30 rfl rfl ?_
  refine op_addI (nxlf rfl) rfl rfl (by omega) (by omega) rfl ?_
  refine op_quoI (nxlf rfl) rfl rfl (by omega) (by omega) (by omega) rfl ?_
  refine op_make (nxla rfl) Try.underlying43 te80 rfl rfl (show _ = ((((n + 3) / 4 : Nat)) : Int) from by omega) (show _ = ((((n + 3) / 4 : Nat)) : Int) from by omega) (by omega) (by unfold maxLen; omega) rfl (fun N10 a10 r10 => ?_)
  rw [made_one _ _ rfl, zero_u32s] at r10
  have s10 := r10.rsl
  refine op_assign (nxlf rfl) rfl rfl ?_
  refine At.opsNil ?_
  refine At.norm (hk_2 ?_)
  refine At.seq fun K3 hk_3 => ?_
  refine At.seq fun K4 hk_4 => ?_
  refine At.region ?_
  refine op_assign (nxlf rfl) rfl rfl ?_
  refine At.opsNil ?_
  refine At.norm (hk_4 ?_)
  refine At.block ?_
  refine At.loop (fun fr_ hp_ ms_ => ∃ (k : Nat) (Nq : Heaplet), fr_ = [(0, .slice ao n cap), (3, .slice a10 ((n + 3) / 4) ((n + 3) / 4)), (4, .int .i64 (k : Int))] ∧ hp_ = [Nq, R] ∧ n - k = ms_ ∧ (k ≤ n) ∧ (Row Nq 80 1 a10 ((n + 3) / 4) ((n + 3) / 4) (u32s (rfromSt l k)))) ?_ (.refl _) ⟨0, N10, rfl, rfl, rfl, by omega, by simpa [rfromSt, hlen] using r10⟩ ?_
  · exact .cons (by first | exact lkI rfl (by omega) | rfl) (.cons (by first | exact lkI rfl (by omega) | rfl) (.cons (by first | exact lkI rfl (by omega) | rfl) .nil))
  rintro _ _ _ ⟨k, Nq, rfl, rfl, rfl, hk, rq⟩
  have sq := rq.rsl
  have hlq := sq.len32
  refine At.seq fun K5 hk_5 => ?_
  refine At.seq fun K6 hk_6 => ?_
  refine At.region ?_
  refine op_move (nxlf rfl) rfl rfl ?_
  refine op_move (nxlf rfl) rfl rfl ?_
  refine op_lenS (nxlf rfl) se30 rfl rfl ?_
  refine op_lss (nxlf rfl) rfl rfl rfl ?_
  refine At.opsNil ?_
  refine At.norm (hk_6 ?_)
  refine At.condP rfl (fun c14 => ?_) (fun c14 => ?_)
  · refine At.skip ?_
    refine At.norm (hk_5 ?_)
    refine At.seq fun K7 hk_7 => ?_
    refine At.block ?_
    refine At.seq fun K8 hk_8 => ?_
    refine At.region ?_
    refine op_move (nxlf rfl) rfl rfl ?_
    refine op_lenS (nxlf rfl) se30 rfl rfl ?_
    refine op_subI (nxlf rfl) rfl rfl (by omega) (by omega) rfl ?_
    refine op_move (nxlf rfl) rfl rfl ?_
    refine op_subI (nxlf rfl) rfl rfl (by omega) (by omega) rfl ?_
    refine op_assign (nxlf rfl) rfl rfl ?_
    refine At.opsNil ?_
    refine At.norm (hk_8 ?_)
    refine At.drawn [19] [0,1,2,3,4,5,6,7,8,9,10,11,12,13,14,15,16,17,18,19] (by kernel_rfl) (by kernel_rfl) ?_
    refine op_move (nxof rfl rfl rfl (by kernel_rfl)) rfl rfl ?_
    refine op_move (nxof rfl rfl rfl (by kernel_rfl)) rfl rfl ?_
    refine op_quoI (nxof rfl rfl rfl (by kernel_rfl)) rfl rfl (by omega) (by omega) (by omega) rfl ?_
    refine op_move (nxof rfl rfl rfl (by kernel_rfl)) rfl rfl ?_
    refine op_move (nxof rfl rfl rfl (by kernel_rfl)) rfl rfl ?_
    refine op_quoI (nxof rfl rfl rfl (by kernel_rfl)) rfl rfl (by omega) (by omega) (by omega) rfl ?_
    refine op_idx1 (nxof rfl rfl rfl (by kernel_rfl)) se43 rfl rfl (by assumption) (show _ = (((k / 4 : Nat)) : Int) from by omega) (by omega) rfl ?_
    refine op_loadE (nxof rfl rfl rfl (by kernel_rfl)) sc80 rfl (by assumption) (by first | exact get8 (by omega) | exact get64 (by omega) | exact get32 (by omega)) (by first | exact mem0 | exact mem1 | exact mem2 | exact mem3 | exact mem4 | exact mem5 | exact mem6 | exact mem7 | exact mem8 | exact mem9) rfl ?_
    refine op_move (nxof rfl rfl rfl (by kernel_rfl)) rfl rfl ?_
    refine op_move (nxof rfl rfl rfl (by kernel_rfl)) rfl rfl ?_
    refine op_idx1 (nxof rfl rfl rfl (by kernel_rfl)) se30 rfl rfl (by assumption) (show _ = (((n - 1 - k : Nat)) : Int) from by omega) (by omega) rfl ?_
    refine op_loadE (nxof rfl rfl rfl (by kernel_rfl)) sc5 rfl (by assumption) (by first | exact get8 (by omega) | exact get64 (by omega) | exact get32 (by omega)) (by first | exact mem0 | exact mem1 | exact mem2 | exact mem3 | exact mem4 | exact mem5 | exact mem6 | exact mem7 | exact mem8 | exact mem9) rfl ?_
    refine op_conv32 (nxof rfl rfl rfl (by kernel_rfl)) (und_some Try.underlying5) Try.underlying80 rfl (by first | rfl | exact (Int.toNat_of_nonneg (by omega)).symm) rfl ?_
    refine op_move (nxof rfl rfl rfl (by kernel_rfl)) rfl rfl ?_
    refine op_rem (nxof rfl rfl rfl (by kernel_rfl)) rfl rfl (by omega) (by omega) rfl ?_
    refine op_mulI (nxof rfl rfl rfl (by kernel_rfl)) rfl rfl (by omega) (by omega) rfl ?_
    refine op_shlU32 (nxof rfl rfl rfl (by kernel_rfl)) rfl rfl (show _ = (((8 * (k % 4) : Nat)) : Int) from by omega) rfl ?_
    refine op_orU32 (nxof rfl rfl rfl (by kernel_rfl)) rfl rfl rfl ?_
    refine op_idx1 (nxof rfl rfl rfl (by kernel_rfl)) se43 rfl rfl (by assumption) (show _ = (((k / 4 : Nat)) : Int) from by omega) (by omega) rfl ?_
    refine op_storeE (nxos rfl rfl rfl rfl) sz80 rfl rfl rfl rfl rfl rq (by simp <;> omega) (by simp) sel0 (fun Nq rq => ?_)
    simp only [setL] at rq
    have sq := rq.rsl
    refine At.oneNil ?_
    refine At.inNorm ?_
    refine At.norm (hk_7 ?_)
    refine At.region ?_
    refine op_move (nxlf rfl) rfl rfl ?_
    refine op_addI (nxlf rfl) rfl rfl (by omega) (by omega) rfl ?_
    refine op_assign (nxlf rfl) rfl rfl ?_
    refine At.opsNil ?_
    refine At.norm ?_
    refine At.back ?_ (.refl _) ⟨k + 1, Nq, rfl, rfl, rfl, by omega, by rw [rfromSt, rfromStep, hlen, ← ofNat_shl32, ← set_u32s]; exact rq⟩ ?_
    · exact .cons (by first | exact lkI rfl (by omega) | rfl) (.cons (by first | exact lkI rfl (by omega) | rfl) (.cons (by first | exact lkI rfl (by omega) | rfl) .nil))
    · omega
  · refine At.exit (At.thenExit (At.thenExit (At.inHit ?_)))
    refine At.norm (hk_3 ?_)
    refine At.seq fun K9 hk_9 => ?_
    refine At.region ?_
    refine op_move (nxlf rfl) rfl rfl ?_
    refine op_callA (nxla rfl) (.cons rfl .nil) (trim32_f sq) Try.func48 rfl rfl (by simp) rfl ?_
    rintro v42 L42 ⟨rfl, rfl, e1, e2⟩
    change At _ _ _ [Nq, R] _
    refine op_assign (nxlf rfl) rfl rfl ?_
    refine At.opsNil ?_
    refine At.norm (hk_9 ?_)
    refine At.ret (?_)
    refine At.ret1 (L1 := [Nq]) rfl (.tmp rfl .nil) (.refl _) (.refl _) ?_
    obtain rfl : k = l.length := by omega
    rw [rfromSt_all] at e1 e2 ⊢
    have h2 := sq.take e2 (Nat.le_refl _) e2
    rw [Nat.mul_one, u32s_take, e1] at h2
    exact ⟨Nq, a10, _, rfl, rfl, h2⟩
/-- How two numbers stand to each other. -/
def cmpI (x y : Nat) : Int := if x < y then -1 else if y < x then 1 else 0
theorem digs_lt {x y : Nat} (h : (digsOf x).length < (digsOf y).length) : x < y := by
  rw [length_digsOf, length_digsOf] at h
  rcases Nat.lt_or_ge x y with h1 | h1
  · exact h1
  · have := bitLen_mono h1; omega
theorem digs_eq_len {x y : Nat} (h : (digsOf x).length = (digsOf y).length) : x / 2 ^ (32 * (digsOf x).length) = y / 2 ^ (32 * (digsOf x).length) := by
  have h1 := v32_lt (digsOf x)
  have h2 := v32_lt (digsOf y)
  rw [v32_digsOf] at h1 h2
  rw [Nat.div_eq_of_lt h1, h, Nat.div_eq_of_lt h2]
theorem digs_at {x j : Nat} (h : j < (digsOf x).length) : x / 2 ^ (32 * j) = x / 2 ^ (32 * (j + 1)) * 2 ^ 32 + ((digsOf x).getD j 0).toNat := by
  have e := dig_v32 h
  rw [v32_digsOf] at e
  rw [List.getD_eq_getElem?_getD, List.getElem?_eq_getElem h, Option.getD_some, ← e, show 32 * (j + 1) = 32 * j + 32 by omega, Nat.pow_add, ← Nat.div_div_eq_div_mul]
  omega
theorem lt_of_div {x y p : Nat} (h : x / p < y / p) : x < y := by
  rcases Nat.lt_or_ge x y with h1 | h1
  · exact h1
  · have := Nat.div_le_div_right (c := p) h1; omega
theorem cmpI_le {x y : Nat} : cmpI x y ≤ 0 ↔ x ≤ y := by
  unfold cmpI
  split
  · omega
  · split <;> omega
theorem Cmp32_f {N M : Heaplet} {ax ay : Option Addr} {nx ny cx cy x y : Nat} (hx : RSl N 1 ax nx cx (u32s (digsOf x))) (hy : RSl M 1 ay ny cy (u32s (digsOf y))) :
    Fn Try.prog 17 #[.slice ax nx cx, .slice ay ny cy] [] [N, M] (fun v L => v = .int .i64 (cmpI x y) ∧ L = []) := by
  have lx := hx.len32
  have ly := hy.len32
  have hcx := hx.cap63
  have hcy := hy.cap63
  refine Fn.enter (vs := [.slice ax nx cx, .slice ay ny cy]) Try.func17 rfl rfl rfl ?_
  intro E R hR
  have hx := hx.le (hR N (by simp))
  have hy := hy.le (hR M (by simp))
  change At _ _ E [R] _
  refine At.seq fun K1 hk_1 => ?_
  refine At.region ?_
  refine op_assign (nxlf rfl) rfl rfl ?_
  refine At.opsNil ?_
  refine At.norm (hk_1 ?_)
  refine At.seq fun K2 hk_2 => ?_
  refine At.seq fun K3 hk_3 => ?_
  refine At.region ?_
  refine op_move (nxlf rfl) rfl rfl ?_
  refine op_lenS (nxlf rfl) se43 rfl rfl ?_
  refine op_move (nxlf rfl) rfl rfl ?_
  refine op_lenS (nxlf rfl) se43 rfl rfl ?_
  refine op_neq (nxlf rfl) rfl rfl rfl ?_
  refine At.opsNil ?_
  refine At.norm (hk_3 ?_)
  refine At.condP rfl (fun c10 => ?_) (fun c10 => ?_)
  · refine At.seq fun K4 hk_4 => ?_
    refine At.seq fun K5 hk_5 => ?_
    refine At.region ?_
    refine op_move (nxlf rfl) rfl rfl ?_
    refine op_lenS (nxlf rfl) se43 rfl rfl ?_
    refine op_move (nxlf rfl) rfl rfl ?_
    refine op_lenS (nxlf rfl) se43 rfl rfl ?_
    refine op_lss (nxlf rfl) rfl rfl rfl ?_
    refine At.opsNil ?_
    refine At.norm (hk_5 ?_)
    refine At.condP rfl (fun c15 => ?_) (fun c15 => ?_)
    · refine At.seq fun K6 hk_6 => ?_
      refine At.region ?_
      refine op_assign (nxlf rfl) rfl rfl ?_
      refine At.opsNil ?_
      refine At.norm (hk_6 ?_)
      refine At.ret (At.thenRet (At.thenRet (?_)))
      refine At.ret1 (L1 := []) rfl (.tmp rfl .nil) (.refl _) (.refl _) ?_
      have := @digs_lt x y (by omega); exact ⟨by rw [cmpI, if_pos this], rfl⟩
    · refine At.skip ?_
      refine At.norm (hk_4 ?_)
      refine At.seq fun K7 hk_7 => ?_
      refine At.region ?_
      refine op_assign (nxlf rfl) rfl rfl ?_
      refine At.opsNil ?_
      refine At.norm (hk_7 ?_)
      refine At.ret (At.thenRet (?_))
      refine At.ret1 (L1 := []) rfl (.tmp rfl .nil) (.refl _) (.refl _) ?_
      have := @digs_lt y x (by omega); exact ⟨by rw [cmpI, if_neg (by omega), if_pos this], rfl⟩
  · refine At.skip ?_
    refine At.norm (hk_2 ?_)
    refine At.seq fun K8 hk_8 => ?_
    refine At.seq fun K9 hk_9 => ?_
    refine At.region ?_
    refine op_move (nxlf rfl) rfl rfl ?_
    refine op_lenS (nxlf rfl) se43 rfl rfl ?_
    refine op_subI (nxlf rfl) rfl rfl (by omega) (by omega) rfl ?_
    refine op_assign (nxlf rfl) rfl rfl ?_
    refine At.opsNil ?_
    refine At.norm (hk_9 ?_)
    refine At.block ?_
    refine At.loop (fun fr_ hp_ ms_ => ∃ (j : Nat), fr_ = [(0, .slice ax nx cx), (1, .slice ay ny cy), (5, .int .i64 ((j : Int) - 1))] ∧ hp_ = [R] ∧ j = ms_ ∧ (j ≤ nx) ∧ (x / 2 ^ (32 * j) = y / 2 ^ (32 * j))) ?_ (.refl _) ⟨nx, rfl, rfl, rfl, Nat.le_refl _, by have e := digs_eq_len (x := x) (y := y) (by omega); rwa [lx] at e⟩ ?_
    · exact .cons (by first | exact lkI rfl (by omega) | rfl) (.cons (by first | exact lkI rfl (by omega) | rfl) (.cons (by first | exact lkI rfl (by omega) | rfl) .nil))
    rintro _ _ _ ⟨j, rfl, rfl, rfl, hj, hd⟩
    have hat : 0 < j → x / 2 ^ (32 * (j - 1)) = x / 2 ^ (32 * j) * 2 ^ 32 + ((digsOf x).getD (j - 1) 0).toNat ∧ y / 2 ^ (32 * (j - 1)) = y / 2 ^ (32 * j) * 2 ^ 32 + ((digsOf y).getD (j - 1) 0).toNat := fun h0 => by
      have e1 := digs_at (x := x) (j := j - 1) (by omega)
      have e2 := digs_at (x := y) (j := j - 1) (by omega)
      rw [show j - 1 + 1 = j by omega] at e1 e2
      exact ⟨e1, e2⟩
    refine At.seq fun K10 hk_10 => ?_
    refine At.seq fun K11 hk_11 => ?_
    refine At.region ?_
    refine op_move (nxlf rfl) rfl rfl ?_
    refine op_geq (nxlf rfl) rfl rfl rfl ?_
    refine At.opsNil ?_
    refine At.norm (hk_11 ?_)
    refine At.condP rfl (fun c20 => ?_) (fun c20 => ?_)
    · refine At.skip ?_
      refine At.norm (hk_10 ?_)
      refine At.seq fun K12 hk_12 => ?_
      refine At.block ?_
      refine At.seq fun K13 hk_13 => ?_
      refine At.seq fun K14 hk_14 => ?_
      refine At.drawn [] [0,1,2,3,4,5,6,7,8] (by kernel_rfl) (by kernel_rfl) ?_
      refine op_move (nxof rfl rfl rfl (by kernel_rfl)) rfl rfl ?_
      refine op_move (nxof rfl rfl rfl (by kernel_rfl)) rfl rfl ?_
      refine op_idx1 (nxof rfl rfl rfl (by kernel_rfl)) se43 rfl rfl (by assumption) (show _ = (((j - 1 : Nat)) : Int) from by omega) (by omega) rfl ?_
      refine op_loadE (nxof rfl rfl rfl (by kernel_rfl)) sc80 rfl (by assumption) (by first | exact get8 (by omega) | exact get64 (by omega) | exact get32 (by omega)) (by first | exact mem0 | exact mem1 | exact mem2 | exact mem3 | exact mem4 | exact mem5 | exact mem6 | exact mem7 | exact mem8 | exact mem9) rfl ?_
      refine op_move (nxof rfl rfl rfl (by kernel_rfl)) rfl rfl ?_
      refine op_move (nxof rfl rfl rfl (by kernel_rfl)) rfl rfl ?_
      refine op_idx1 (nxof rfl rfl rfl (by kernel_rfl)) se43 rfl rfl (by assumption) (show _ = (((j - 1 : Nat)) : Int) from by omega) (by omega) rfl ?_
      refine op_loadE (nxof rfl rfl rfl (by kernel_rfl)) sc80 rfl (by assumption) (by first | exact get8 (by omega) | exact get64 (by omega) | exact get32 (by omega)) (by first | exact mem0 | exact mem1 | exact mem2 | exact mem3 | exact mem4 | exact mem5 | exact mem6 | exact mem7 | exact mem8 | exact mem9) rfl ?_
      refine op_lss (nxof rfl rfl rfl (by kernel_rfl)) rfl rfl rfl ?_
      refine At.oneNil ?_
      refine At.norm (hk_14 ?_)
      refine At.condP rfl (fun c31 => ?_) (fun c31 => ?_)
      · refine At.seq fun K15 hk_15 => ?_
        refine At.region ?_
        refine op_assign (nxlf rfl) rfl rfl ?_
        refine At.opsNil ?_
        refine At.norm (hk_15 ?_)
        refine At.ret (At.thenRet (At.inRet (At.thenRet (At.thenRet (At.inRet (At.thenRet (?_)))))))
        refine At.ret1 (L1 := []) rfl (.tmp rfl .nil) (.refl _) (.refl _) ?_
        have ⟨e1, e2⟩ := hat (by omega)
        have := lt_of_div (x := x) (y := y) (p := 2 ^ (32 * (j - 1))) (by rw [e1, e2, hd]; omega)
        exact ⟨by rw [cmpI, if_pos this], rfl⟩
      · refine At.skip ?_
        refine At.norm (hk_13 ?_)
        refine At.seq fun K16 hk_16 => ?_
        refine At.drawn [] [0,1,2,3,4,5,6,7,8] (by kernel_rfl) (by kernel_rfl) ?_
        refine op_move (nxof rfl rfl rfl (by kernel_rfl)) rfl rfl ?_
        refine op_move (nxof rfl rfl rfl (by kernel_rfl)) rfl rfl ?_
        refine op_idx1 (nxof rfl rfl rfl (by kernel_rfl)) se43 rfl rfl (by assumption) (show _ = (((j - 1 : Nat)) : Int) from by omega) (by omega) rfl ?_
        refine op_loadE (nxof rfl rfl rfl (by kernel_rfl)) sc80 rfl (by assumption) (by first | exact get8 (by omega) | exact get64 (by omega) | exact get32 (by omega)) (by first | exact mem0 | exact mem1 | exact mem2 | exact mem3 | exact mem4 | exact mem5 | exact mem6 | exact mem7 | exact mem8 | exact mem9) rfl ?_
        refine op_move (nxof rfl rfl rfl (by kernel_rfl)) rfl rfl ?_
        refine op_move (nxof rfl rfl rfl (by kernel_rfl)) rfl rfl ?_
        refine op_idx1 (nxof rfl rfl rfl (by kernel_rfl)) se43 rfl rfl (by assumption) (show _ = (((j - 1 : Nat)) : Int) from by omega) (by omega) rfl ?_
        refine op_loadE (nxof rfl rfl rfl (by kernel_rfl)) sc80 rfl (by assumption) (by first | exact get8 (by omega) | exact get64 (by omega) | exact get32 (by omega)) (by first | exact mem0 | exact mem1 | exact mem2 | exact mem3 | exact mem4 | exact mem5 | exact mem6 | exact mem7 | exact mem8 | exact mem9) rfl ?_
        refine op_gtr (nxof rfl rfl rfl (by kernel_rfl)) rfl rfl rfl ?_
        refine At.oneNil ?_
        refine At.norm (hk_16 ?_)
        refine At.condP rfl (fun c40 => ?_) (fun c40 => ?_)
        · refine At.seq fun K17 hk_17 => ?_
          refine At.region ?_
          refine op_assign (nxlf rfl) rfl rfl ?_
          refine At.opsNil ?_
          refine At.norm (hk_17 ?_)
          refine At.ret (At.inRet (At.thenRet (At.thenRet (At.inRet (At.thenRet (?_))))))
          refine At.ret1 (L1 := []) rfl (.tmp rfl .nil) (.refl _) (.refl _) ?_
          have ⟨e1, e2⟩ := hat (by omega)
          have := lt_of_div (x := y) (y := x) (p := 2 ^ (32 * (j - 1))) (by rw [e1, e2, hd]; omega)
          exact ⟨by rw [cmpI, if_neg (by omega), if_pos this], rfl⟩
        · refine At.skip ?_
          refine At.inNorm ?_
          refine At.norm (hk_12 ?_)
          refine At.region ?_
          refine op_move (nxlf rfl) rfl rfl ?_
          refine op_subI (nxlf rfl) rfl rfl (by omega) (by omega) rfl ?_
          refine op_assign (nxlf rfl) rfl rfl ?_
          refine At.opsNil ?_
          refine At.norm ?_
          refine At.back ?_ (.refl _) ⟨j - 1, rfl, rfl, rfl, by omega, by have ⟨e1, e2⟩ := hat (by omega); rw [e1, e2, hd]; omega⟩ ?_
          · exact .cons (by first | exact lkI rfl (by omega) | rfl) (.cons (by first | exact lkI rfl (by omega) | rfl) (.cons (by first | exact lkI rfl (by omega) | rfl) .nil))
          · omega
    · refine At.exit (At.thenExit (At.thenExit (At.inHit ?_)))
      refine At.norm (hk_8 ?_)
      refine At.seq fun K18 hk_18 => ?_
      refine At.region ?_
      refine op_assign (nxlf rfl) rfl rfl ?_
      refine At.opsNil ?_
      refine At.norm (hk_18 ?_)
      refine At.ret (?_)
      refine At.ret1 (L1 := []) rfl (.tmp rfl .nil) (.refl _) (.refl _) ?_
      obtain rfl : j = 0 := by omega
      simp only [Nat.mul_zero, Nat.pow_zero, Nat.div_one] at hd
      exact ⟨by rw [cmpI, if_neg (by omega), if_neg (by omega)], rfl⟩
theorem rW_f {N : Heaplet} {ao : Option Addr} {n cap : Nat} {l : List UInt32} (h : RSl N 1 ao n cap (u32s l)) :
    Fn Try.prog 40 #[.slice ao n cap] [] [N] (fun v L => L = [] ∧ ∃ a b c d : UInt64, v = .agg #[.int .u64 (a.toNat : Int), .int .u64 (b.toNat : Int), .int .u64 (c.toNat : Int), .int .u64 (d.toNat : Int)] ∧ v64 [a, b, c, d] = v32 l % 2 ^ 256) := by
  have hlen := h.len32
  have hcap := h.cap63
  refine Fn.enter (vs := [.slice ao n cap]) Try.func40 rfl rfl rfl ?_
  intro E R hR
  have h := h.le (hR N (by simp))
  change At _ _ E [R] _
  refine At.seq fun K1 hk_1 => ?_
  refine At.region ?_
  refine op_alloc (nxla rfl) ze29 rfl (fun N2 b2 B2 => ?_)
  change Blk N2 b2 _ [.int .u64 0, .int .u64 0, .int .u64 0, .int .u64 0] at B2
  refine At.opsNil ?_
  refine At.norm (hk_1 ?_)
  refine At.seq fun K2 hk_2 => ?_
  refine At.region ?_
  refine op_alloc (nxla rfl) ze29 rfl (fun N3 b3 B3 => ?_)
  change Blk N3 b3 _ [.int .u64 0, .int .u64 0, .int .u64 0, .int .u64 0] at B3
  change Blk N3 b3 _ (u64s [0, 0, 0, 0]) at B3
  refine At.opsNil ?_
  refine At.norm (hk_2 ?_)
  refine At.seq fun K3 hk_3 => ?_
  refine At.seq fun K4 hk_4 => ?_
  refine At.region ?_
  refine op_assign (nxlf rfl) rfl rfl ?_
  refine At.opsNil ?_
  refine At.norm (hk_4 ?_)
  refine At.block ?_
  refine At.perm sel2 ?_
  refine At.perm sel1 ?_
  refine At.perm sel2 ?_
  refine At.loop (fun fr_ hp_ ms_ => ∃ (k : Nat) (m : List UInt64) (N3 : Heaplet), fr_ = [(0, .slice ao n cap), (2, .pointer (some ⟨b2, 0, none⟩)), (3, .pointer (some ⟨b3, 0, none⟩)), (4, .int .i64 (k : Int))] ∧ hp_ = [N2, N3, R] ∧ 8 - k = ms_ ∧ (k ≤ 8) ∧ (k ≤ n) ∧ (m.length = 4) ∧ (v64 m = v32 (l.take k)) ∧ (Blk N3 b3 29 (u64s m))) ?_ (.refl _) ⟨0, [0, 0, 0, 0], N3, rfl, rfl, rfl, by omega, by omega, rfl, rfl, B3⟩ ?_
  · exact .cons (by first | exact lkI rfl (by omega) | rfl) (.cons (by first | exact lkI rfl (by omega) | rfl) (.cons (by first | exact lkI rfl (by omega) | rfl) (.cons (by first | exact lkI rfl (by omega) | rfl) .nil)))
  rintro _ _ _ ⟨k, m, N3, rfl, rfl, rfl, hk, hkn, hm, hv, B3⟩
  refine At.seq fun K5 hk_5 => ?_
  refine At.seq fun K6 hk_6 => ?_
  refine At.region ?_
  refine op_move (nxlf rfl) rfl rfl ?_
  refine op_lss (nxlf rfl) rfl rfl rfl ?_
  refine op_move (nxlf rfl) rfl rfl ?_
  refine At.partP (d := 7) rfl (fun g7 => ?_) (fun g7 => ?_)
  · refine op_move (nxgf rfl rfl rfl rfl) rfl rfl ?_
    refine op_move (nxgf rfl rfl rfl rfl) rfl rfl ?_
    refine op_lenS (nxgf rfl rfl rfl rfl) se43 rfl rfl ?_
    refine op_lss (nxgf rfl rfl rfl rfl) rfl rfl rfl ?_
    refine op_pickT (nxlf rfl) rfl rfl rfl ?_
    refine At.opsNil ?_
    refine At.norm (hk_6 ?_)
    refine At.condP rfl (fun c12 => ?_) (fun c12 => ?_)
    · refine At.skip ?_
      refine At.norm (hk_5 ?_)
      refine At.seq fun K7 hk_7 => ?_
      refine At.block ?_
      refine At.drawn [17] [0,1,2,3,4,5,6,7,8,9,10,11,12,13,14,15,16,17] (by kernel_rfl) (by kernel_rfl) ?_
      refine op_move (nxof rfl rfl rfl (by kernel_rfl)) rfl rfl ?_
      refine op_quoI (nxof rfl rfl rfl (by kernel_rfl)) rfl rfl (by omega) (by omega) (by omega) rfl ?_
      refine op_move (nxof rfl rfl rfl (by kernel_rfl)) rfl rfl ?_
      refine op_quoI (nxof rfl rfl rfl (by kernel_rfl)) rfl rfl (by omega) (by omega) (by omega) rfl ?_
      refine op_idxA (nxof rfl rfl rfl (by kernel_rfl)) ae29 rfl rfl (show _ = (((k / 2 : Nat)) : Int) from by omega) (by omega) rfl ?_
      refine op_loadB (nxof rfl rfl rfl (by kernel_rfl)) sc27 rfl B3 (by first | exact get64A (by omega) | rfl) mem1 rfl ?_
      refine op_move (nxof rfl rfl rfl (by kernel_rfl)) rfl rfl ?_
      refine op_move (nxof rfl rfl rfl (by kernel_rfl)) rfl rfl ?_
      refine op_idx1 (nxof rfl rfl rfl (by kernel_rfl)) se43 rfl rfl (by assumption) (show _ = (((k : Nat)) : Int) from by omega) (by omega) rfl ?_
      refine op_loadE (nxof rfl rfl rfl (by kernel_rfl)) sc80 rfl (by assumption) (by first | exact get8 (by omega) | exact get64 (by omega) | exact get32 (by omega)) (by first | exact mem0 | exact mem1 | exact mem2 | exact mem3 | exact mem4 | exact mem5 | exact mem6 | exact mem7 | exact mem8 | exact mem9) rfl ?_
      refine op_conv64 (nxof rfl rfl rfl (by kernel_rfl)) (und_some Try.underlying80) Try.underlying27 rfl (by first | rfl | exact (Int.toNat_of_nonneg (by omega)).symm) rfl ?_
      refine op_move (nxof rfl rfl rfl (by kernel_rfl)) rfl rfl ?_
      refine op_rem (nxof rfl rfl rfl (by kernel_rfl)) rfl rfl (by omega) (by omega) rfl ?_
      refine op_mulI (nxof rfl rfl rfl (by kernel_rfl)) rfl rfl (by omega) (by omega) rfl ?_
      refine op_shlU (nxof rfl rfl rfl (by kernel_rfl)) rfl rfl (show _ = (((32 * (k % 2) : Nat)) : Int) from by omega) rfl ?_
      refine op_orU (nxof rfl rfl rfl (by kernel_rfl)) rfl rfl rfl ?_
      refine op_idxA (nxof rfl rfl rfl (by kernel_rfl)) ae29 rfl rfl (show _ = (((k / 2 : Nat)) : Int) from by omega) (by omega) rfl ?_
      refine op_store (nxos rfl rfl rfl rfl) sz27 rfl rfl rfl rfl rfl B3 (by simp <;> omega) sel1 (fun N3 B3 => ?_)
      rw [set64A] at B3
      refine At.oneNil ?_
      refine At.inNorm ?_
      refine At.norm (hk_7 ?_)
      refine At.region ?_
      refine op_move (nxlf rfl) rfl rfl ?_
      refine op_addI (nxlf rfl) rfl rfl (by omega) (by omega) rfl ?_
      refine op_assign (nxlf rfl) rfl rfl ?_
      refine At.opsNil ?_
      refine At.norm ?_
      refine At.perm sel2 ?_
      refine At.perm sel1 ?_
      refine At.perm sel2 ?_
      refine At.back ?_ (.refl _) ⟨k + 1, _, N3, rfl, rfl, rfl, by omega, by omega, by simpa using hm, by rw [shl64_of _ (by have := (l.getD k 0).toNat_lt; omega)]; exact w_step hm hv (by omega) (by omega), B3⟩ ?_
      · exact .cons (by first | exact lkI rfl (by omega) | rfl) (.cons (by first | exact lkI rfl (by omega) | rfl) (.cons (by first | exact lkI rfl (by omega) | rfl) (.cons (by first | exact lkI rfl (by omega) | rfl) .nil)))
      · omega
    · refine At.exit (At.thenExit (At.thenExit (At.inHit ?_)))
      refine At.norm (hk_3 ?_)
      refine At.seq fun K8 hk_8 => ?_
      refine At.region ?_
      obtain ⟨a, b, c, d, rfl⟩ := four hm
      have hfin : v64 [a, b, c, d] = v32 l % 2 ^ 256 := by
        rw [hv, v32_take_mod]
        by_cases h8 : k = 8
        · rw [h8]
        · have hk' : l.length ≤ k := by omega
          have := v32_lt l
          have h1 : v32 l < 2 ^ (32 * k) := Nat.lt_of_lt_of_le this (Nat.pow_le_pow_right (by decide) (by omega))
          have h2 : v32 l < 2 ^ 256 := Nat.lt_of_lt_of_le h1 (Nat.pow_le_pow_right (by decide) (by omega))
          rw [Nat.mod_eq_of_lt h1, Nat.mod_eq_of_lt h2]
      change Blk N3 b3 _ [.int .u64 (a.toNat : Int), .int .u64 (b.toNat : Int), .int .u64 (c.toNat : Int), .int .u64 (d.toNat : Int)] at B3
      refine op_loadAggB (ds := [_, _, _, _]) (nxlf rfl) ag29 rfl B3 rfl rfl mem1 rfl ?_
      refine op_store (nxl rfl) sz29 rfl rfl rfl rfl rfl B2 (by simp) sel0 (fun N2 B2 => ?_)
      simp only [setL, List.set] at B2
      refine At.opsNil ?_
      refine At.norm (hk_8 ?_)
      refine At.ret (?_)
      refine At.sub (L' := [N2, R]) (.cons_cons _ (.cons _ (.cons_cons _ (.slnil)))) ?_
      refine At.ret1 (L1 := []) rfl (.cell rfl (res_agg (ds := [_, _, _, _]) ag29 B2 rfl rfl mem0) .nil) (.cons _ (.refl _)) (.refl _) ?_
      exact ⟨rfl, a, b, c, d, rfl, hfin⟩
  · refine op_skip rfl rfl rfl rfl rfl rfl rfl ?_
    refine op_skip rfl rfl rfl rfl rfl rfl rfl ?_
    refine op_skip rfl rfl rfl rfl rfl rfl rfl ?_
    refine op_skip rfl rfl rfl rfl rfl rfl rfl ?_
    refine op_pickF (nxlf rfl) rfl rfl rfl ?_
    refine At.opsNil ?_
    refine At.norm (hk_6 ?_)
    refine At.condF rfl ?_
    refine At.exit (At.thenExit (At.thenExit (At.inHit ?_)))
    refine At.norm (hk_3 ?_)
    refine At.seq fun K9 hk_9 => ?_
    refine At.region ?_
    obtain ⟨a, b, c, d, rfl⟩ := four hm
    have hfin : v64 [a, b, c, d] = v32 l % 2 ^ 256 := by
      rw [hv, v32_take_mod]
      by_cases h8 : k = 8
      · rw [h8]
      · have hk' : l.length ≤ k := by omega
        have := v32_lt l
        have h1 : v32 l < 2 ^ (32 * k) := Nat.lt_of_lt_of_le this (Nat.pow_le_pow_right (by decide) (by omega))
        have h2 : v32 l < 2 ^ 256 := Nat.lt_of_lt_of_le h1 (Nat.pow_le_pow_right (by decide) (by omega))
        rw [Nat.mod_eq_of_lt h1, Nat.mod_eq_of_lt h2]
    change Blk N3 b3 _ [.int .u64 (a.toNat : Int), .int .u64 (b.toNat : Int), .int .u64 (c.toNat : Int), .int .u64 (d.toNat : Int)] at B3
    refine op_loadAggB (ds := [_, _, _, _]) (nxlf rfl) ag29 rfl B3 rfl rfl mem1 rfl ?_
    refine op_store (nxl rfl) sz29 rfl rfl rfl rfl rfl B2 (by simp) sel0 (fun N2 B2 => ?_)
    simp only [setL, List.set] at B2
    refine At.opsNil ?_
    refine At.norm (hk_9 ?_)
    refine At.ret (?_)
    refine At.sub (L' := [N2, R]) (.cons_cons _ (.cons _ (.cons_cons _ (.slnil)))) ?_
    refine At.ret1 (L1 := []) rfl (.cell rfl (res_agg (ds := [_, _, _, _]) ag29 B2 rfl rfl mem0) .nil) (.cons _ (.refl _)) (.refl _) ?_
    exact ⟨rfl, a, b, c, d, rfl, hfin⟩
end Go.Proofs.Ytbmlhdecnfplaaa
/- package word's From, Bits, Bytes, Short; the reference's N, Short. No condition. -/
namespace Go.Proofs.Ytbmlhdecnfplaaa
set_option linter.unusedVariables false
set_option linter.unusedSimpArgs false
open Go Go.RowKit
end Go.Proofs.Ytbmlhdecnfplaaa
/- package word's Bytes, Short; the reference's N, Short. No condition. -/
namespace Go.Proofs.Ytbmlhdecnfplaaa
set_option linter.unusedVariables false
set_option linter.unusedSimpArgs false
open Go Go.RowKit
theorem nbyte {m : List UInt64} {I K : Nat} (hm : m.length = 4) (h1 : 1 ≤ I) (h2 : I ≤ 4) (h3 : 1 ≤ K) (h4 : K ≤ 8) : UInt8.ofNat (shr64 (m.getD (I - 1) 0) (8 * (K - 1))).toNat = UInt8.ofNat (v64 m / 256 ^ (31 - (8 * (4 - I) + (8 - K)))) := by
  have hq : (8 * (I - 1) + (K - 1)) / 8 < m.length := by omega
  have e := byte_of_limb (l := m) (at_ := 8 * (I - 1) + (K - 1)) hq
  have e1 : (8 * (I - 1) + (K - 1)) / 8 = I - 1 := by omega
  have e2 : (8 * (I - 1) + (K - 1)) % 8 * 8 = 8 * (K - 1) := by omega
  simp only [e1, e2] at e
  rw [shr64, UInt64.toNat_ofNat', Nat.mod_eq_of_lt (Nat.lt_of_le_of_lt (Nat.div_le_self _ _) (UInt64.toNat_lt _)), List.getD_eq_getElem?_getD, List.getElem?_eq_getElem (by omega), Option.getD_some, e]
  congr 3
  omega
theorem rN_f (a b c d : UInt64) : Fn Try.prog 13 #[.agg #[.int .u64 (a.toNat : Int), .int .u64 (b.toNat : Int), .int .u64 (c.toNat : Int), .int .u64 (d.toNat : Int)]] [] [] (fun v L => ∃ M p k, v = .slice p (digsOf (v64 [a, b, c, d])).length k ∧ L = [M] ∧ RSl M 1 p (digsOf (v64 [a, b, c, d])).length k (u32s (digsOf (v64 [a, b, c, d])))) := by
  obtain ⟨m, hm⟩ : ∃ m, m = [a, b, c, d] := ⟨_, rfl⟩
  have hm4 : m.length = 4 := by rw [hm]; rfl
  have hlt : v64 m < 2 ^ 256 := by rw [hm]; exact v64_four_lt a b c d
  refine Fn.enter (vs := [.agg #[.int .u64 (a.toNat : Int), .int .u64 (b.toNat : Int), .int .u64 (c.toNat : Int), .int .u64 (d.toNat : Int)]]) Try.func13 rfl rfl rfl ?_
  intro E R hR
  change At _ _ E [R] _
  refine At.seq fun K1 hk_1 => ?_
  refine At.region ?_
  refine op_box (nxla rfl) rfl rfl rfl (fun N1 b1 B1 => ?_)
  change Blk N1 b1 _ (u64s [a, b, c, d]) at B1
  rw [← hm] at B1 ⊢
  refine op_assign (nxlf rfl) rfl rfl ?_
  refine At.opsNil ?_
  refine At.norm (hk_1 ?_)
  refine At.seq fun K2 hk_2 => ?_
  refine At.region ?_
  refine op_assign (nxlf rfl) rfl rfl ?_
  refine At.opsNil ?_
  refine At.norm (hk_2 ?_)
  refine At.seq fun K3 hk_3 => ?_
  refine At.seq fun K4 hk_4 => ?_
  refine At.region ?_
  refine op_assign (nxlf rfl) rfl rfl ?_
  refine At.opsNil ?_
  refine At.norm (hk_4 ?_)
  refine At.block ?_
  refine At.empty ?_
  refine At.perm sel2 ?_
  refine At.perm sel1 ?_
  refine At.perm sel2 ?_
  refine At.loop (fun fr_ hp_ ms_ => ∃ (I : Nat) (ap : Option Addr) (np cp : Nat) (Np : Heaplet), fr_ = [(1, .pointer (some ⟨b1, 0, none⟩)), (3, .slice ap np cp), (4, .int .i64 ((I : Int) - 1))] ∧ hp_ = [N1, Np, R] ∧ I = ms_ ∧ (I ≤ 4) ∧ (np = 8 * (4 - I)) ∧ (Row Np 5 1 ap np cp (u8s ((bytesN 32 (v64 m)).take (8 * (4 - I)))))) ?_ (.refl _) ⟨4, none, 0, 0, nilH, rfl, rfl, rfl, by omega, by omega, Row.nil _ _ _⟩ ?_
  · exact .cons (by first | exact lkI rfl (by omega) | rfl) (.cons (by first | exact lkI rfl (by omega) | rfl) (.cons (by first | exact lkI rfl (by omega) | rfl) .nil))
  rintro _ _ _ ⟨I, ap, np, cp, Np, rfl, rfl, rfl, hI, hnp, rp⟩
  refine At.seq fun K5 hk_5 => ?_
  refine At.seq fun K6 hk_6 => ?_
  refine At.region ?_
  refine op_move (nxlf rfl) rfl rfl ?_
  refine op_geq (nxlf rfl) rfl rfl rfl ?_
  refine At.opsNil ?_
  refine At.norm (hk_6 ?_)
  refine At.condP rfl (fun c7 => ?_) (fun c7 => ?_)
  · refine At.skip ?_
    refine At.norm (hk_5 ?_)
    refine At.seq fun K7 hk_7 => ?_
    refine At.block ?_
    refine At.seq fun K8 hk_8 => ?_
    refine At.region ?_
    refine op_assign (nxlf rfl) rfl rfl ?_
    refine At.opsNil ?_
    refine At.norm (hk_8 ?_)
    refine At.block ?_
    refine At.loop (fun fr_ hp_ ms_ => ∃ (K : Nat) (aq : Option Addr) (nq cq : Nat) (Nq : Heaplet), fr_ = [(1, .pointer (some ⟨b1, 0, none⟩)), (3, .slice aq nq cq), (4, .int .i64 ((I : Int) - 1)), (5, .int .i64 ((K : Int) - 1))] ∧ hp_ = [N1, Nq, R] ∧ K = ms_ ∧ (K ≤ 8) ∧ (nq = 8 * (4 - I) + (8 - K)) ∧ (Row Nq 5 1 aq nq cq (u8s ((bytesN 32 (v64 m)).take (8 * (4 - I) + (8 - K)))))) ?_ (.refl _) ⟨8, ap, np, cp, Np, rfl, rfl, rfl, by omega, by omega, by rw [Nat.sub_self, Nat.add_zero]; exact rp⟩ ?_
    · exact .cons (by first | exact lkI rfl (by omega) | rfl) (.cons (by first | exact lkI rfl (by omega) | rfl) (.cons (by first | exact lkI rfl (by omega) | rfl) (.cons (by first | exact lkI rfl (by omega) | rfl) .nil)))
    rintro _ _ _ ⟨K, aq, nq, cq, Nq, rfl, rfl, rfl, hK, hnq, rq⟩
    refine At.seq fun K9 hk_9 => ?_
    refine At.seq fun K10 hk_10 => ?_
    refine At.region ?_
    refine op_move (nxlf rfl) rfl rfl ?_
    refine op_geq (nxlf rfl) rfl rfl rfl ?_
    refine At.opsNil ?_
    refine At.norm (hk_10 ?_)
    refine At.condP rfl (fun c11 => ?_) (fun c11 => ?_)
    · refine At.skip ?_
      refine At.norm (hk_9 ?_)
      refine At.seq fun K11 hk_11 => ?_
      refine At.block ?_
      refine At.region ?_
      refine op_move (nxlf rfl) rfl rfl ?_
      refine op_move (nxlf rfl) rfl rfl ?_
      refine op_idxA (nxlf rfl) ae29 rfl rfl (show _ = (((I - 1 : Nat)) : Int) from by omega) (by omega) rfl ?_
      refine op_loadB (nxlf rfl) sc27 rfl B1 (by first | exact get64A (by omega) | rfl) mem0 rfl ?_
      refine op_move (nxlf rfl) rfl rfl ?_
      refine op_mulI (nxlf rfl) rfl rfl (by omega) (by omega) rfl ?_
      refine op_shrU (nxlf rfl) rfl rfl (show _ = (((8 * (K - 1) : Nat)) : Int) from by omega) rfl ?_
      refine op_conv8 (nxlf rfl) (und_some Try.underlying27) Try.underlying5 rfl (by first | rfl | exact (Int.toNat_of_nonneg (by omega)).symm) rfl ?_
      refine op_lit (nxla rfl) Try.underlying30 ze5 sz5 (.cons rfl .nil) rfl rfl (by simp [Value.cells]) rfl rfl rfl (fun N22 a22 r22 => ?_)
      simp only [flatV, List.flatMap_cons, List.flatMap_nil, Value.cells, List.append_nil, List.cons_append, List.nil_append] at r22
      have s22 := r22.rsl
      refine op_append (nxl rfl) Try.underlying30 Try.underlying30 te5 rfl rfl rq (by assumption) (by first | exact mem0 | exact mem1 | exact mem2 | exact mem3 | exact mem4 | exact mem5 | exact mem6 | exact mem7 | exact mem8 | exact mem9) (by first | exact one_u8s _ | exact one_u64s _ | exact one_u32s _ | (intro u hu; simp at hu; subst hu; rfl)) (by omega) (by omega) sel2 rfl (fun N23 a23 p23 r23 => ?_)
      have s23 := r23.rsl
      refine op_assign (nxlf rfl) rfl rfl ?_
      refine At.opsNil ?_
      refine At.inNorm ?_
      refine At.norm (hk_11 ?_)
      refine At.region ?_
      refine op_move (nxlf rfl) rfl rfl ?_
      refine op_subI (nxlf rfl) rfl rfl (by omega) (by omega) rfl ?_
      refine op_assign (nxlf rfl) rfl rfl ?_
      refine At.opsNil ?_
      refine At.norm ?_
      refine At.sub (L' := [N23, N1, R]) (.cons_cons _ (.cons _ (.cons_cons _ (.cons_cons _ (.slnil))))) ?_
      refine At.perm sel2 ?_
      refine At.perm sel1 ?_
      refine At.perm sel2 ?_
      refine At.back ?_ (.refl _) ⟨K - 1, a23, nq + 1, p23, N23, rfl, rfl, rfl, by omega, by omega, by rw [show 8 * (4 - I) + (8 - (K - 1)) = (8 * (4 - I) + (8 - K)) + 1 by omega, bytesN_take_succ (by omega), u8s, List.map_append, ← nbyte hm4 (by omega) (by omega) (by omega) (by omega)]; exact r23⟩ ?_
      · exact .cons (by first | exact lkI rfl (by omega) | rfl) (.cons (by first | exact lkI rfl (by omega) | rfl) (.cons (by first | exact lkI rfl (by omega) | rfl) (.cons (by first | exact lkI rfl (by omega) | rfl) .nil)))
      · omega
    · refine At.exit (At.thenExit (At.thenExit (At.inHit ?_)))
      refine At.inNorm ?_
      refine At.norm (hk_7 ?_)
      refine At.region ?_
      refine op_move (nxlf rfl) rfl rfl ?_
      refine op_subI (nxlf rfl) rfl rfl (by omega) (by omega) rfl ?_
      refine op_assign (nxlf rfl) rfl rfl ?_
      refine At.opsNil ?_
      refine At.norm ?_
      refine At.back ?_ (.refl _) ⟨I - 1, aq, nq, cq, Nq, rfl, rfl, rfl, by omega, by omega, by rw [show 8 * (4 - (I - 1)) = 8 * (4 - I) + (8 - K) by omega]; exact rq⟩ ?_
      · exact .cons (by first | exact lkI rfl (by omega) | rfl) (.cons (by first | exact lkI rfl (by omega) | rfl) (.cons (by first | exact lkI rfl (by omega) | rfl) .nil))
      · omega
  · refine At.exit (At.thenExit (At.thenExit (At.inHit ?_)))
    refine At.norm (hk_3 ?_)
    refine At.seq fun K12 hk_12 => ?_
    refine At.region ?_
    refine op_move (nxlf rfl) rfl rfl ?_
    have sp : RSl Np 1 ap np cp (u8s (bytesN 32 (v64 m))) := by
      have e := rp.rsl
      rwa [show I = 0 by omega, List.take_of_length_le (by simp)] at e
    refine op_callA (nxla rfl) (.cons rfl .nil) (rFrom_f sp (by omega)) Try.func47 rfl rfl (by simp) rfl ?_
    rintro v25 L25 ⟨M25, a25, c25, rfl, rfl, s25⟩
    change At _ _ _ [M25, N1, Np, R] _
    refine op_assign (nxlf rfl) rfl rfl ?_
    refine At.opsNil ?_
    refine At.norm (hk_12 ?_)
    refine At.ret (?_)
    refine At.sub (L' := [M25, R]) (.cons_cons _ (.cons _ (.cons _ (.cons_cons _ (.slnil))))) ?_
    refine At.ret1 (L1 := [M25]) rfl (.tmp rfl .nil) (.refl _) (.refl _) ?_
    rw [be_bytes32 hlt] at s25 ⊢
    rw [← hm]
    exact ⟨M25, a25, c25, rfl, rfl, s25⟩
end Go.Proofs.Ytbmlhdecnfplaaa
/- package word's Bytes, Short. No condition. -/
namespace Go.Proofs.Ytbmlhdecnfplaaa
set_option linter.unusedVariables false
set_option linter.unusedSimpArgs false
open Go Go.RowKit
theorem setL_at (vs : List Value) : ∀ (p cs : List Value), cs.length = vs.length → setL (p ++ cs) p.length vs = p ++ vs := by
  induction vs with
  | nil => intro p cs h; rw [List.eq_nil_of_length_eq_zero h]; rfl
  | cons v t ih =>
    intro p cs h
    match cs, h with
    | c :: cs, h =>
      rw [setL]
      have e : (p ++ c :: cs).set p.length v = (p ++ [v]) ++ cs := by simp
      rw [e]
      have := ih (p ++ [v]) cs (by simpa using h)
      rw [List.length_append] at this
      simpa using this
theorem setL_whole {cs vs : List Value} (h : cs.length = vs.length) : setL cs 0 vs = vs := by simpa using setL_at vs [] cs h
theorem wbyte {m : List UInt64} {k : Nat} (hm : m.length = 4) (h : k < 32) : UInt8.ofNat (shr64 (m.getD ((31 - k) / 8) 0) ((31 - k) % 8 * 8)).toNat = UInt8.ofNat (v64 m / 256 ^ (31 - k)) := by
  have hq : (31 - k) / 8 < m.length := by omega
  rw [shr64, UInt64.toNat_ofNat', Nat.mod_eq_of_lt (Nat.lt_of_le_of_lt (Nat.div_le_self _ _) (UInt64.toNat_lt _)), List.getD_eq_getElem?_getD, List.getElem?_eq_getElem hq, Option.getD_some, byte_of_limb hq]
theorem RSl.arr8 {N : Heaplet} {b lo : Nat} {e : TypeId} {L : List UInt8} (h : Blk N b e (u8s L)) (hl : L.length = 32) (hlo : lo ≤ 32) : RSl N 1 (some (if 32 = lo then ⟨b, 0, none⟩ else ⟨b, 0 + lo * 1, none⟩)) (32 - lo) (32 - lo) (u8s (L.drop lo)) := by
  refine ⟨by simp [u8s]; omega, Nat.le_refl _, Nat.le_trans (by omega : 32 - lo ≤ 32) (by decide), fun h0 => ⟨b, lo, by rw [if_neg (by omega), Nat.zero_add, Nat.mul_one], ?_⟩⟩
  have e := h.rng.sub (o := lo) (ds := u8s (L.drop lo)) fun i hi => by
    rw [List.getElem?_eq_getElem (by simp [u8s] at hi ⊢; omega)]
    simp [u8s]
  rwa [Nat.zero_add] at e
end Go.Proofs.Ytbmlhdecnfplaaa
/- Plain laws: words. No condition. -/
namespace Go.Proofs.Ytbmlhdecnfplaaa
set_option linter.unusedVariables false
set_option linter.unusedSimpArgs false
open Go Go.RowKit
/-- How many words there are. -/
def WW : Nat := 2 ^ 256
theorem WW_eq : WW = 2 ^ (64 * 4) := rfl
theorem WW_pos : 0 < WW := Nat.pow_pos (by decide)
/-- The word of a number modulo 2^256, as limbs and as a value. -/
def wl (x : Nat) : List UInt64 := limbsN 4 x
def wo (x : Nat) : Value := .agg (u64s (wl x)).toArray
@[simp] theorem length_wl (x : Nat) : (wl x).length = 4 := rfl
theorem v64_wl (x : Nat) : v64 (wl x) = x % WW := v64_limbsN 4 x
theorem v64_wl_lt {x : Nat} (h : x < WW) : v64 (wl x) = x := by rw [v64_wl, Nat.mod_eq_of_lt h]
theorem v64_lt4 {w : List UInt64} (h : w.length = 4) : v64 w < WW := by have := v64_lt w; rwa [h] at this
theorem wl_of {w : List UInt64} {N : Nat} (hw : w.length = 4) (h : v64 w = N % WW) : w = wl N := eq_words4 hw rfl (h.trans (v64_wl N).symm)
theorem wl_self {w : List UInt64} (hw : w.length = 4) : w = wl (v64 w) := wl_of hw (Nat.mod_eq_of_lt (v64_lt4 hw)).symm
theorem wl_mod (x : Nat) : wl (x % WW) = wl x := wl_of (w := wl (x % WW)) rfl (by rw [v64_wl, Nat.mod_mod])
theorem wl_inj {x y : Nat} (hx : x < WW) (hy : y < WW) (h : wl x = wl y) : x = y := by
  have := congrArg v64 h
  rwa [v64_wl_lt hx, v64_wl_lt hy] at this
theorem wl_congr {x y : Nat} (h : x % WW = y % WW) : wl x = wl y := by rw [← wl_mod x, h, wl_mod]
theorem wo_mod (x : Nat) : wo (x % WW) = wo x := by rw [wo, wl_mod]; rfl
theorem wo_congr {x y : Nat} (h : x % WW = y % WW) : wo x = wo y := by rw [wo, wl_congr h]; rfl
theorem wo_list {w : List UInt64} (hw : w.length = 4) : Value.agg (u64s w).toArray = wo (v64 w) := by rw [wo, ← wl_self hw]
theorem wl_small (n : UInt64) : wl n.toNat = [n, 0, 0, 0] := by
  have h := n.toNat_lt
  refine (wl_of rfl ?_).symm
  have e : v64 [n, 0, 0, 0] = n.toNat := by simp [v64, n64, val]
  rw [e]
  exact (Nat.mod_eq_of_lt (Nat.lt_trans h (Nat.pow_lt_pow_right (by decide) (by decide)))).symm
theorem wl_zero : wl 0 = [0, 0, 0, 0] := wl_small 0
theorem wo_zero : wo 0 = .agg #[.int .u64 0, .int .u64 0, .int .u64 0, .int .u64 0] := by rw [wo, wl_zero]; rfl
theorem wo_small (n : UInt64) : wo n.toNat = .agg #[.int .u64 (n.toNat : Int), .int .u64 0, .int .u64 0, .int .u64 0] := by rw [wo, wl_small]; rfl
/-- The limbs behind the first are naught just for small numbers. -/
theorem small_iff {x : Nat} (hx : x < WW) : (wl x).getD 1 0 ||| (wl x).getD 2 0 ||| (wl x).getD 3 0 = 0 ↔ x < 2 ^ 64 := by
  have hv := v64_wl_lt hx
  obtain ⟨a, b, c, d, h⟩ := four (length_wl x)
  rw [h] at hv ⊢
  have e : v64 [a, b, c, d] = a.toNat + 18446744073709551616 * (b.toNat + 18446744073709551616 * (c.toNat + 18446744073709551616 * d.toNat)) := by simp [v64, n64, val]
  rw [e] at hv
  have ha := a.toNat_lt
  show b ||| c ||| d = 0 ↔ x < 2 ^ 64
  constructor
  · intro h0
    have h1 := congrArg UInt64.toNat h0
    rw [UInt64.toNat_or, UInt64.toNat_or] at h1
    have h2 : (b.toNat ||| c.toNat) = 0 ∧ d.toNat = 0 := Nat.or_eq_zero_iff.1 h1
    have h3 : b.toNat = 0 ∧ c.toNat = 0 := Nat.or_eq_zero_iff.1 h2.1
    rw [h2.2, h3.1, h3.2] at hv
    omega
  · intro h0
    have h1 : b.toNat = 0 ∧ c.toNat = 0 ∧ d.toNat = 0 := by omega
    apply UInt64.toNat_inj.1
    rw [UInt64.toNat_or, UInt64.toNat_or, h1.1, h1.2.1, h1.2.2]; rfl
theorem small_val {x : Nat} (h : x < 2 ^ 64) : ((wl x).getD 0 0).toNat = x := by
  have e : wl x = [UInt64.ofNat x, 0, 0, 0] := by
    have := wl_small (UInt64.ofNat x)
    rwa [UInt64.toNat_ofNat', Nat.mod_eq_of_lt h] at this
  rw [e]
  show (UInt64.ofNat x).toNat = x
  rw [UInt64.toNat_ofNat', Nat.mod_eq_of_lt h]
end Go.Proofs.Ytbmlhdecnfplaaa
