/- Several texts in one: see the remarks ahead of each part. No condition but those told there. -/
import Derived.Test.YtbmlhdecnfplaaaK18
/- The reference's Shl, Shr, Bit, Len, Fill. Condition: numbers of at most 2^40 digits, shifts of at most 2^40 places. -/
namespace Go.Proofs.Ytbmlhdecnfplaaa
set_option linter.unusedVariables false
set_option linter.unusedSimpArgs false
open Go Go.RowKit
theorem or_hi32 {x y : UInt32} : (UInt64.ofNat x.toNat ||| shl64 (UInt64.ofNat y.toNat) 32).toNat = x.toNat + y.toNat * 4294967296 := by
  have hx := x.toNat_lt
  have hy := y.toNat_lt
  rw [UInt64.toNat_or, of32, shl64_nat, of32, Nat.mod_eq_of_lt (show y.toNat * 2 ^ 32 < 2 ^ 64 by omega), Nat.or_comm, Nat.mul_comm, ← Nat.two_pow_add_eq_or_of_lt hx, Nat.add_comm, Nat.mul_comm]
set_option maxRecDepth 100000 in
theorem rShl_f {N : Heaplet} {ao : Option Addr} {n ca : Nat} {a : List UInt32} (ha : RSl N 1 ao n ca (u32s a)) (s : Nat) (hn : n ≤ 1099511627776) (hs : s ≤ 1099511627776) :
    Fn Try.prog 41 #[.slice ao n ca, .int .i64 (s : Int)] [] [N] (DigsP (v32 a * 2 ^ s)) := by
  have hca := ha.cap63
  have hal := ha.len32
  refine Fn.enter (vs := [.slice ao n ca, .int .i64 (s : Int)]) Try.func41 rfl rfl rfl ?_
  intro E R hR
  have ha := ha.le (hR N (by simp))
  change At _ _ E [R] _
  refine At.seq fun K1 hk_1 => ?_
  refine At.region ?_
  refine op_assign (nxlf rfl) rfl rfl ?_
  refine At.opsNil ?_
  refine At.norm (hk_1 ?_)
  refine At.seq fun K2 hk_2 => ?_
  refine At.region ?_
  refine op_move (nxlf rfl) rfl rfl ?_
  refine op_lenS (nxlf rfl) se43 rfl rfl ?_
  refine op_move (nxlf rfl) rfl rfl ?_
  refine op_quoI (nxlf rfl) rfl rfl (by omega) (by omega) (by omega) rfl ?_
  refine op_addI (nxlf rfl) rfl rfl (by omega) (by omega) rfl ?_
  refine op_addI (nxlf rfl) rfl rfl (by omega) (by omega) rfl ?_
  refine op_make (nxla rfl) Try.underlying43 te80 rfl rfl (show _ = (((n + s / 32 + 1 : Nat)) : Int) from by omega) (show _ = (((n + s / 32 + 1 : Nat)) : Int) from by omega) (by omega) (by unfold maxLen; omega) rfl (fun N14 a14 r14 => ?_)
  rw [made_one _ _ rfl, zero_u32s] at r14
  have s14 := r14.rsl
  refine op_assign (nxlf rfl) rfl rfl ?_
  refine At.opsNil ?_
  refine At.norm (hk_2 ?_)
  refine At.seq fun K3 hk_3 => ?_
  refine At.seq fun K4 hk_4 => ?_
  refine At.region ?_
  refine op_assign (nxlf rfl) rfl rfl ?_
  refine At.opsNil ?_
  refine At.norm (hk_4 ?_)
  refine At.block ?_
  refine At.loop (fun fr_ hp_ ms_ => ∃ (k : Nat) (c : List UInt32) (N14 : Heaplet), fr_ = [(0, .slice ao n ca), (1, .int .i64 (s : Int)), (5, .slice a14 (n + s / 32 + 1) (n + s / 32 + 1)), (6, .int .i64 (k : Int))] ∧ hp_ = [N14, R] ∧ n - k = ms_ ∧ (k ≤ n) ∧ (c.length = n + s / 32 + 1) ∧ (v32 c = v32 (a.take k) * 2 ^ s) ∧ (Row N14 80 1 a14 (n + s / 32 + 1) (n + s / 32 + 1) (u32s c))) ?_ (.refl _) ⟨0, List.replicate (n + s / 32 + 1) 0, N14, rfl, rfl, rfl, by omega, by simp, by rw [v32_replicate]; simp [v32, n32, val], r14⟩ ?_
  · exact .cons (by first | exact lkI rfl (by omega) | rfl) (.cons (by first | exact lkI rfl (by omega) | rfl) (.cons (by first | exact lkI rfl (by omega) | rfl) (.cons (by first | exact lkI rfl (by omega) | rfl) .nil)))
  rintro _ _ _ ⟨k, c, N14, rfl, rfl, rfl, hk, hcl, hv, r14⟩
  have s14 := r14.rsl
  refine At.seq fun K5 hk_5 => ?_
  refine At.seq fun K6 hk_6 => ?_
  refine At.region ?_
  refine op_move (nxlf rfl) rfl rfl ?_
  refine op_move (nxlf rfl) rfl rfl ?_
  refine op_lenS (nxlf rfl) se43 rfl rfl ?_
  refine op_lss (nxlf rfl) rfl rfl rfl ?_
  refine At.opsNil ?_
  refine At.norm (hk_6 ?_)
  refine At.condP rfl (fun c18 => ?_) (fun c18 => ?_)
  · refine At.skip ?_
    refine At.norm (hk_5 ?_)
    refine At.seq fun K7 hk_7 => ?_
    refine At.block ?_
    refine At.seq fun K8 hk_8 => ?_
    refine At.region ?_
    refine op_move (nxlf rfl) rfl rfl ?_
    refine op_move (nxlf rfl) rfl rfl ?_
    refine op_idx1 (nxlf rfl) se43 rfl rfl ha (show _ = (((k : Nat)) : Int) from by omega) (by omega) rfl ?_
    refine op_loadE (nxlf rfl) sc80 rfl ha (by first | exact get8 (by omega) | exact get64 (by omega) | exact get32 (by omega)) (by first | exact mem0 | exact mem1 | exact mem2 | exact mem3 | exact mem4 | exact mem5 | exact mem6 | exact mem7 | exact mem8 | exact mem9) rfl ?_
    refine op_conv64 (nxlf rfl) (und_some Try.underlying80) Try.underlying27 rfl (by first | rfl | exact (Int.toNat_of_nonneg (by omega)).symm) rfl ?_
    refine op_move (nxlf rfl) rfl rfl ?_
    refine op_rem (nxlf rfl) rfl rfl (by omega) (by omega) rfl ?_
    refine op_shlU (nxlf rfl) rfl rfl (show _ = (((s % 32 : Nat)) : Int) from by omega) rfl ?_
    have hak := dlt a k
    have hw : (shl64 (UInt64.ofNat (a.getD k 0).toNat) (s % 32)).toNat = (a.getD k 0).toNat * 2 ^ (s % 32) := by
      rw [shl64_nat, of32]
      refine Nat.mod_eq_of_lt ?_
      have h1 : (2 : Nat) ^ (s % 32) ≤ 2 ^ 31 := Nat.pow_le_pow_right (by decide) (by omega)
      have h2 := Nat.mul_le_mul hak h1
      exact Nat.lt_of_le_of_lt h2 (by decide)
    generalize shl64 (UInt64.ofNat (a.getD k 0).toNat) (s % 32) = w at *
    have hlim : v32 c < 2 ^ (32 * (k + s / 32) + s % 32) := by
      rw [hv, show 32 * (k + s / 32) + s % 32 = 32 * k + s by omega, Nat.pow_add]
      exact Nat.mul_lt_mul_of_pos_right (v32_take_lt a k) (Nat.pow_pos (by decide))
    have hst := shl_step (c := c) (j := k + s / 32) (r := s % 32) (x := (a.getD k 0).toNat) (by omega) (by omega) (by omega) hlim hw
    have hv' : v32 ((c.set (k + s / 32) (c.getD (k + s / 32) 0 ||| lo32 w)).set (k + s / 32 + 1) ((c.set (k + s / 32) (c.getD (k + s / 32) 0 ||| lo32 w)).getD (k + s / 32 + 1) 0 ||| lo32 (shr64 w 32))) = v32 (a.take (k + 1)) * 2 ^ s := by
      rw [hst, hv, v32_take_succD, Nat.add_mul, show 32 * (k + s / 32) + s % 32 = 32 * k + s by omega, Nat.pow_add, Nat.mul_comm (2 ^ (32 * k)) (a.getD k 0).toNat, Nat.mul_assoc]
    refine op_assign (nxlf rfl) rfl rfl ?_
    refine At.opsNil ?_
    refine At.norm (hk_8 ?_)
    refine At.seq fun K9 hk_9 => ?_
    refine At.region ?_
    refine op_move (nxlf rfl) rfl rfl ?_
    refine op_move (nxlf rfl) rfl rfl ?_
    refine op_move (nxlf rfl) rfl rfl ?_
    refine op_quoI (nxlf rfl) rfl rfl (by omega) (by omega) (by omega) rfl ?_
    refine op_addI (nxlf rfl) rfl rfl (by omega) (by omega) rfl ?_
    refine op_move (nxlf rfl) rfl rfl ?_
    refine op_move (nxlf rfl) rfl rfl ?_
    refine op_move (nxlf rfl) rfl rfl ?_
    refine op_quoI (nxlf rfl) rfl rfl (by omega) (by omega) (by omega) rfl ?_
    refine op_addI (nxlf rfl) rfl rfl (by omega) (by omega) rfl ?_
    refine op_idx1 (nxlf rfl) se43 rfl rfl s14 (show _ = (((k + s / 32 : Nat)) : Int) from by omega) (by omega) rfl ?_
    refine op_loadE (nxlf rfl) sc80 rfl s14 (by first | exact get8 (by omega) | exact get64 (by omega) | exact get32 (by omega)) (by first | exact mem0 | exact mem1 | exact mem2 | exact mem3 | exact mem4 | exact mem5 | exact mem6 | exact mem7 | exact mem8 | exact mem9) rfl ?_
    refine op_move (nxlf rfl) rfl rfl ?_
    refine op_conv32 (nxlf rfl) (und_some Try.underlying27) Try.underlying80 rfl (by first | rfl | exact (Int.toNat_of_nonneg (by omega)).symm) rfl ?_
    refine op_orU32 (nxlf rfl) rfl rfl rfl ?_
    refine op_idx1 (nxlf rfl) se43 rfl rfl s14 (show _ = (((k + s / 32 : Nat)) : Int) from by omega) (by omega) rfl ?_
    refine op_storeE (nxl rfl) sz80 rfl rfl rfl rfl rfl r14 (by simp <;> omega) (by simp) sel0 (fun N14 r14 => ?_)
    simp only [setL] at r14
    rw [set_u32s] at r14
    change Row N14 _ 1 a14 _ _ (u32s (c.set (k + s / 32) (c.getD (k + s / 32) 0 ||| lo32 w))) at r14
    have hcl1 : (c.set (k + s / 32) (c.getD (k + s / 32) 0 ||| lo32 w)).length = n + s / 32 + 1 := by rw [List.length_set]; exact hcl
    have s14 := r14.rsl
    refine At.opsNil ?_
    refine At.norm (hk_9 ?_)
    refine At.region ?_
    refine op_move (nxlf rfl) rfl rfl ?_
    refine op_move (nxlf rfl) rfl rfl ?_
    refine op_move (nxlf rfl) rfl rfl ?_
    refine op_quoI (nxlf rfl) rfl rfl (by omega) (by omega) (by omega) rfl ?_
    refine op_addI (nxlf rfl) rfl rfl (by omega) (by omega) rfl ?_
    refine op_addI (nxlf rfl) rfl rfl (by omega) (by omega) rfl ?_
    refine op_move (nxlf rfl) rfl rfl ?_
    refine op_move (nxlf rfl) rfl rfl ?_
    refine op_move (nxlf rfl) rfl rfl ?_
    refine op_quoI (nxlf rfl) rfl rfl (by omega) (by omega) (by omega) rfl ?_
    refine op_addI (nxlf rfl) rfl rfl (by omega) (by omega) rfl ?_
    refine op_addI (nxlf rfl) rfl rfl (by omega) (by omega) rfl ?_
    refine op_idx1 (nxlf rfl) se43 rfl rfl s14 (show _ = (((k + s / 32 + 1 : Nat)) : Int) from by omega) (by omega) rfl ?_
    refine op_loadE (nxlf rfl) sc80 rfl s14 (by first | exact get8 (by omega) | exact get64 (by omega) | exact get32 (by omega)) (by first | exact mem0 | exact mem1 | exact mem2 | exact mem3 | exact mem4 | exact mem5 | exact mem6 | exact mem7 | exact mem8 | exact mem9) rfl ?_
    refine op_move (nxlf rfl) rfl rfl ?_
    refine op_shrU (nxlf rfl) rfl rfl (show _ = ((32 : Nat) : Int) from rfl) rfl ?_
    refine op_conv32 (nxlf rfl) (und_some Try.underlying27) Try.underlying80 rfl (by first | rfl | exact (Int.toNat_of_nonneg (by omega)).symm) rfl ?_
    refine op_orU32 (nxlf rfl) rfl rfl rfl ?_
    refine op_idx1 (nxlf rfl) se43 rfl rfl s14 (show _ = (((k + s / 32 + 1 : Nat)) : Int) from by omega) (by omega) rfl ?_
    refine op_storeE (nxl rfl) sz80 rfl rfl rfl rfl rfl r14 (by simp <;> omega) (by simp) sel0 (fun N14 r14 => ?_)
    simp only [setL] at r14
    rw [set_u32s] at r14
    change Row N14 _ 1 a14 _ _ (u32s ((c.set (k + s / 32) (c.getD (k + s / 32) 0 ||| lo32 w)).set (k + s / 32 + 1) ((c.set (k + s / 32) (c.getD (k + s / 32) 0 ||| lo32 w)).getD (k + s / 32 + 1) 0 ||| lo32 (shr64 w 32)))) at r14
    have s14 := r14.rsl
    refine At.opsNil ?_
    refine At.inNorm ?_
    refine At.norm (hk_7 ?_)
    refine At.region ?_
    refine op_move (nxlf rfl) rfl rfl ?_
    refine op_addI (nxlf rfl) rfl rfl (by omega) (by omega) rfl ?_
    refine op_assign (nxlf rfl) rfl rfl ?_
    refine At.opsNil ?_
    refine At.norm ?_
    refine At.back ?_ (.refl _) ⟨k + 1, (c.set (k + s / 32) (c.getD (k + s / 32) 0 ||| lo32 w)).set (k + s / 32 + 1) ((c.set (k + s / 32) (c.getD (k + s / 32) 0 ||| lo32 w)).getD (k + s / 32 + 1) 0 ||| lo32 (shr64 w 32)), N14, rfl, rfl, rfl, by omega, by simp; omega, hv', r14⟩ ?_
    · exact .cons (by first | exact lkI rfl (by omega) | rfl) (.cons (by first | exact lkI rfl (by omega) | rfl) (.cons (by first | exact lkI rfl (by omega) | rfl) (.cons (by first | exact lkI rfl (by omega) | rfl) .nil)))
    · omega
  · refine At.exit (At.thenExit (At.thenExit (At.inHit ?_)))
    refine At.norm (hk_3 ?_)
    refine At.seq fun K10 hk_10 => ?_
    refine At.region ?_
    refine op_move (nxlf rfl) rfl rfl ?_
    have hkn : k = n := by omega
    rw [hkn, v32_take_all (by omega)] at hv
    refine op_callA (nxla rfl) (.cons rfl .nil) (trim32_f s14) Try.func48 rfl rfl (by simp) rfl ?_
    rintro v65 L65 ⟨rfl, rfl, t65, l65⟩
    change At _ _ _ [N14, R] _
    refine op_assign (nxlf rfl) rfl rfl ?_
    refine At.opsNil ?_
    refine At.norm (hk_10 ?_)
    refine At.ret (?_)
    refine At.ret1 (L1 := [N14]) rfl (.tmp rfl .nil) (.refl _) (.refl _) ?_
    have h := trim32d s14 t65 l65
    rw [hv] at h ⊢
    exact ⟨N14, a14, _, rfl, rfl, h⟩
set_option maxRecDepth 100000 in
theorem rShr_f {N : Heaplet} {ao : Option Addr} {n ca : Nat} {a : List UInt32} (ha : RSl N 1 ao n ca (u32s a)) (s : Nat) (hn : n ≤ 1099511627776) (hs : s ≤ 1099511627776) :
    Fn Try.prog 15 #[.slice ao n ca, .int .i64 (s : Int)] [] [N] (DigsP (v32 a / 2 ^ s)) := by
  have hca := ha.cap63
  have hal := ha.len32
  refine Fn.enter (vs := [.slice ao n ca, .int .i64 (s : Int)]) Try.func15 rfl rfl rfl ?_
  intro E R hR
  have ha := ha.le (hR N (by simp))
  change At _ _ E [R] _
  refine At.seq fun K1 hk_1 => ?_
  refine At.region ?_
  refine op_assign (nxlf rfl) rfl rfl ?_
  refine At.opsNil ?_
  refine At.norm (hk_1 ?_)
  refine At.seq fun K2 hk_2 => ?_
  refine At.seq fun K3 hk_3 => ?_
  refine At.region ?_
  refine op_move (nxlf rfl) rfl rfl ?_
  refine op_quoI (nxlf rfl) rfl rfl (by omega) (by omega) (by omega) rfl ?_
  refine op_move (nxlf rfl) rfl rfl ?_
  refine op_lenS (nxlf rfl) se43 rfl rfl ?_
  refine op_geq (nxlf rfl) rfl rfl rfl ?_
  refine At.opsNil ?_
  refine At.norm (hk_3 ?_)
  refine At.condP rfl (fun c12 => ?_) (fun c12 => ?_)
  · refine At.seq fun K4 hk_4 => ?_
    refine At.region ?_
    refine op_assign (nxlf rfl) rfl rfl ?_
    refine At.opsNil ?_
    refine At.norm (hk_4 ?_)
    refine At.ret (At.thenRet (?_))
    refine At.empty ?_
    refine At.ret1 (L1 := [nilH]) rfl (.tmp rfl .nil) (.refl _) (.refl _) ?_
    have hz : v32 a / 2 ^ s = 0 := Nat.div_eq_of_lt (Nat.lt_of_lt_of_le (v32_lt a) (Nat.pow_le_pow_right (by decide) (by omega)))
    rw [hz]
    exact ⟨nilH, none, 0, rfl, rfl, RSl.nil _ _⟩
  · refine At.skip ?_
    refine At.norm (hk_2 ?_)
    refine At.seq fun K5 hk_5 => ?_
    refine At.region ?_
    refine op_move (nxlf rfl) rfl rfl ?_
    refine op_lenS (nxlf rfl) se43 rfl rfl ?_
    refine op_move (nxlf rfl) rfl rfl ?_
    refine op_quoI (nxlf rfl) rfl rfl (by omega) (by omega) (by omega) rfl ?_
    refine op_subI (nxlf rfl) rfl rfl (by omega) (by omega) rfl ?_
    refine op_make (nxla rfl) Try.underlying43 te80 rfl rfl (show _ = (((n - s / 32 : Nat)) : Int) from by omega) (show _ = (((n - s / 32 : Nat)) : Int) from by omega) (by omega) (by unfold maxLen; omega) rfl (fun N18 a18 r18 => ?_)
    rw [made_one _ _ rfl, zero_u32s] at r18
    have s18 := r18.rsl
    refine op_assign (nxlf rfl) rfl rfl ?_
    refine At.opsNil ?_
    refine At.norm (hk_5 ?_)
    refine At.seq fun K6 hk_6 => ?_
    refine At.seq fun K7 hk_7 => ?_
    refine At.region ?_
    refine op_assign (nxlf rfl) rfl rfl ?_
    refine At.opsNil ?_
    refine At.norm (hk_7 ?_)
    refine At.block ?_
    refine At.loop (fun fr_ hp_ ms_ => ∃ (k : Nat) (N18 : Heaplet), fr_ = [(0, .slice ao n ca), (1, .int .i64 (s : Int)), (5, .slice a18 (n - s / 32) (n - s / 32)), (6, .int .i64 (k : Int))] ∧ hp_ = [N18, R] ∧ n - s / 32 - k = ms_ ∧ (k ≤ n - s / 32) ∧ (Row N18 80 1 a18 (n - s / 32) (n - s / 32) (u32s (digsN k (v32 a / 2 ^ s) ++ List.replicate (n - s / 32 - k) 0)))) ?_ (.refl _) ⟨0, N18, rfl, rfl, rfl, by omega, by simpa [digsN] using r18⟩ ?_
    · exact .cons (by first | exact lkI rfl (by omega) | rfl) (.cons (by first | exact lkI rfl (by omega) | rfl) (.cons (by first | exact lkI rfl (by omega) | rfl) (.cons (by first | exact lkI rfl (by omega) | rfl) .nil)))
    rintro _ _ _ ⟨k, N18, rfl, rfl, rfl, hk, r18⟩
    have s18 := r18.rsl
    have hlk : (digsN k (v32 a / 2 ^ s)).length = k := by simp [digsN]
    refine At.seq fun K8 hk_8 => ?_
    refine At.seq fun K9 hk_9 => ?_
    refine At.region ?_
    refine op_move (nxlf rfl) rfl rfl ?_
    refine op_move (nxlf rfl) rfl rfl ?_
    refine op_lenS (nxlf rfl) se43 rfl rfl ?_
    refine op_lss (nxlf rfl) rfl rfl rfl ?_
    refine At.opsNil ?_
    refine At.norm (hk_9 ?_)
    refine At.condP rfl (fun c22 => ?_) (fun c22 => ?_)
    · refine At.skip ?_
      refine At.norm (hk_8 ?_)
      refine At.seq fun K10 hk_10 => ?_
      refine At.block ?_
      refine At.seq fun K11 hk_11 => ?_
      refine At.region ?_
      refine op_move (nxlf rfl) rfl rfl ?_
      refine op_move (nxlf rfl) rfl rfl ?_
      refine op_move (nxlf rfl) rfl rfl ?_
      refine op_quoI (nxlf rfl) rfl rfl (by omega) (by omega) (by omega) rfl ?_
      refine op_addI (nxlf rfl) rfl rfl (by omega) (by omega) rfl ?_
      refine op_idx1 (nxlf rfl) se43 rfl rfl ha (show _ = (((k + s / 32 : Nat)) : Int) from by omega) (by omega) rfl ?_
      refine op_loadE (nxlf rfl) sc80 rfl ha (by first | exact get8 (by omega) | exact get64 (by omega) | exact get32 (by omega)) (by first | exact mem0 | exact mem1 | exact mem2 | exact mem3 | exact mem4 | exact mem5 | exact mem6 | exact mem7 | exact mem8 | exact mem9) rfl ?_
      refine op_conv64 (nxlf rfl) (und_some Try.underlying80) Try.underlying27 rfl (by first | rfl | exact (Int.toNat_of_nonneg (by omega)).symm) rfl ?_
      refine op_assign (nxlf rfl) rfl rfl ?_
      refine At.opsNil ?_
      refine At.norm (hk_11 ?_)
      refine At.seq fun K12 hk_12 => ?_
      refine At.meet (fun fr_ hp_ => ∃ (w : UInt64), fr_ = [(0, .slice ao n ca), (1, .int .i64 (s : Int)), (5, .slice a18 (n - s / 32) (n - s / 32)), (6, .int .i64 (k : Int)), (7, .int .u64 (w.toNat : Int))] ∧ hp_ = [N18, R] ∧ (w.toNat = (a.getD (k + s / 32) 0).toNat + (a.getD (k + s / 32 + 1) 0).toNat * 4294967296)) ?_ (fun K12_ jk_12 => ?_)
      rotate_left
      · skip
        refine At.seq fun K13 hk_13 => ?_
        refine At.region ?_
        refine op_move (nxlf rfl) rfl rfl ?_
        refine op_move (nxlf rfl) rfl rfl ?_
        refine op_quoI (nxlf rfl) rfl rfl (by omega) (by omega) (by omega) rfl ?_
        refine op_addI (nxlf rfl) rfl rfl (by omega) (by omega) rfl ?_
        refine op_addI (nxlf rfl) rfl rfl (by omega) (by omega) rfl ?_
        refine op_move (nxlf rfl) rfl rfl ?_
        refine op_lenS (nxlf rfl) se43 rfl rfl ?_
        refine op_lss (nxlf rfl) rfl rfl rfl ?_
        refine At.opsNil ?_
        refine At.norm (hk_13 ?_)
        refine At.condP rfl (fun c40 => ?_) (fun c40 => ?_)
        · refine At.region ?_
          refine op_move (nxlf rfl) rfl rfl ?_
          refine op_move (nxlf rfl) rfl rfl ?_
          refine op_move (nxlf rfl) rfl rfl ?_
          refine op_move (nxlf rfl) rfl rfl ?_
          refine op_quoI (nxlf rfl) rfl rfl (by omega) (by omega) (by omega) rfl ?_
          refine op_addI (nxlf rfl) rfl rfl (by omega) (by omega) rfl ?_
          refine op_addI (nxlf rfl) rfl rfl (by omega) (by omega) rfl ?_
          refine op_idx1 (nxlf rfl) se43 rfl rfl ha (show _ = (((k + s / 32 + 1 : Nat)) : Int) from by omega) (by omega) rfl ?_
          refine op_loadE (nxlf rfl) sc80 rfl ha (by first | exact get8 (by omega) | exact get64 (by omega) | exact get32 (by omega)) (by first | exact mem0 | exact mem1 | exact mem2 | exact mem3 | exact mem4 | exact mem5 | exact mem6 | exact mem7 | exact mem8 | exact mem9) rfl ?_
          refine op_conv64 (nxlf rfl) (und_some Try.underlying80) Try.underlying27 rfl (by first | rfl | exact (Int.toNat_of_nonneg (by omega)).symm) rfl ?_
          refine op_shlU (nxlf rfl) rfl rfl (show _ = ((32 : Nat) : Int) from rfl) rfl ?_
          refine op_orU (nxlf rfl) rfl rfl rfl ?_
          refine op_assign (nxlf rfl) rfl rfl ?_
          refine At.opsNil ?_
          refine At.norm (jk_12 ?_ (.refl _) ⟨UInt64.ofNat (a.getD (k + s / 32) 0).toNat ||| shl64 (UInt64.ofNat (a.getD (k + s / 32 + 1) 0).toNat) 32, rfl, rfl, or_hi32⟩)
          exact .cons (by first | exact lkI rfl (by omega) | rfl) (.cons (by first | exact lkI rfl (by omega) | rfl) (.cons (by first | exact lkI rfl (by omega) | rfl) (.cons (by first | exact lkI rfl (by omega) | rfl) (.cons (by first | exact lkI rfl (by omega) | rfl) .nil))))
        · have hz : (a.getD (k + s / 32 + 1) 0).toNat = 0 := by rw [getD_big (by omega)]; rfl
          refine At.skip ?_
          refine At.norm (jk_12 ?_ (.refl _) ⟨UInt64.ofNat (a.getD (k + s / 32) 0).toNat, rfl, rfl, by rw [hz, of32]; omega⟩)
          exact .cons (by first | exact lkI rfl (by omega) | rfl) (.cons (by first | exact lkI rfl (by omega) | rfl) (.cons (by first | exact lkI rfl (by omega) | rfl) (.cons (by first | exact lkI rfl (by omega) | rfl) (.cons (by first | exact lkI rfl (by omega) | rfl) .nil))))
      rintro _ _ ⟨w, rfl, rfl, hw⟩
      refine hk_12 ?_
      refine At.region ?_
      refine op_move (nxlf rfl) rfl rfl ?_
      refine op_move (nxlf rfl) rfl rfl ?_
      refine op_move (nxlf rfl) rfl rfl ?_
      refine op_move (nxlf rfl) rfl rfl ?_
      refine op_rem (nxlf rfl) rfl rfl (by omega) (by omega) rfl ?_
      refine op_shrU (nxlf rfl) rfl rfl (show _ = (((s % 32 : Nat)) : Int) from by omega) rfl ?_
      refine op_conv32 (nxlf rfl) (und_some Try.underlying27) Try.underlying80 rfl (by first | rfl | exact (Int.toNat_of_nonneg (by omega)).symm) rfl ?_
      refine op_idx1 (nxlf rfl) se43 rfl rfl s18 (show _ = (((k : Nat)) : Int) from by omega) (by omega) rfl ?_
      refine op_storeE (nxl rfl) sz80 rfl rfl rfl rfl rfl r18 (by simp <;> omega) (by simp) sel0 (fun N18 r18 => ?_)
      have hd := shr_digit (l := a) (j := k + s / 32) (r := s % 32) (by omega) hw
      simp only [setL] at r18
      rw [set_u32s, set_fill hlk (by omega)] at r18
      change Row N18 _ 1 a18 _ _ (u32s (digsN k (v32 a / 2 ^ s) ++ [lo32 (shr64 w (s % 32))] ++ List.replicate (n - s / 32 - (k + 1)) 0)) at r18
      rw [← hd, show 32 * (k + s / 32) + s % 32 = s + 32 * k by omega, Nat.pow_add, ← Nat.div_div_eq_div_mul, ← digsN_succ] at r18
      have s18 := r18.rsl
      refine At.opsNil ?_
      refine At.inNorm ?_
      refine At.norm (hk_10 ?_)
      refine At.region ?_
      refine op_move (nxlf rfl) rfl rfl ?_
      refine op_addI (nxlf rfl) rfl rfl (by omega) (by omega) rfl ?_
      refine op_assign (nxlf rfl) rfl rfl ?_
      refine At.opsNil ?_
      refine At.norm ?_
      refine At.back ?_ (.refl _) ⟨k + 1, N18, rfl, rfl, rfl, by omega, r18⟩ ?_
      · exact .cons (by first | exact lkI rfl (by omega) | rfl) (.cons (by first | exact lkI rfl (by omega) | rfl) (.cons (by first | exact lkI rfl (by omega) | rfl) (.cons (by first | exact lkI rfl (by omega) | rfl) .nil)))
      · omega
    · refine At.exit (At.thenExit (At.thenExit (At.inHit ?_)))
      refine At.norm (hk_6 ?_)
      refine At.seq fun K14 hk_14 => ?_
      refine At.region ?_
      refine op_move (nxlf rfl) rfl rfl ?_
      have hkn : k = n - s / 32 := by omega
      rw [hkn, Nat.sub_self, List.replicate_zero, List.append_nil] at s18
      have hfin : v32 (digsN (n - s / 32) (v32 a / 2 ^ s)) = v32 a / 2 ^ s := by
        rw [v32_digsN]
        refine Nat.mod_eq_of_lt ?_
        rw [Nat.div_lt_iff_lt_mul (Nat.pow_pos (by decide)), ← Nat.pow_add]
        exact Nat.lt_of_lt_of_le (v32_lt a) (Nat.pow_le_pow_right (by decide) (by omega))
      refine op_callA (nxla rfl) (.cons rfl .nil) (trim32_f s18) Try.func48 rfl rfl (by simp) rfl ?_
      rintro v62 L62 ⟨rfl, rfl, t62, l62⟩
      change At _ _ _ [N18, R] _
      refine op_assign (nxlf rfl) rfl rfl ?_
      refine At.opsNil ?_
      refine At.norm (hk_14 ?_)
      refine At.ret (?_)
      refine At.ret1 (L1 := [N18]) rfl (.tmp rfl .nil) (.refl _) (.refl _) ?_
      have h := trim32d s18 t62 l62
      rw [hfin] at h ⊢
      exact ⟨N18, a18, _, rfl, rfl, h⟩
theorem rBit_f {N : Heaplet} {ao : Option Addr} {n cap : Nat} {l : List UInt32} (h : RSl N 1 ao n cap (u32s l)) (i : Nat) (hi : i ≤ 9223372036854775807) : Fn Try.prog 65 #[.slice ao n cap, .int .i64 (i : Int)] [] [N] (fun v L => v = .int .u32 ((v32 l / 2 ^ i % 2 : Nat) : Int) ∧ L = []) := by
  have hlen := h.len32
  have hcap := h.cap63
  refine Fn.enter (vs := [.slice ao n cap, .int .i64 (i : Int)]) Try.func65 rfl rfl rfl ?_
  intro E R hR
  have h := h.le (hR N (by simp))
  change At _ _ E [R] _
  refine At.seq fun K1 hk_1 => ?_
  refine At.region ?_
  refine op_assign (nxlf rfl) rfl rfl ?_
  refine At.opsNil ?_
  refine At.norm (hk_1 ?_)
  refine At.seq fun K2 hk_2 => ?_
  refine At.seq fun K3 hk_3 => ?_
  refine At.region ?_
  refine op_move (nxlf rfl) rfl rfl ?_
  refine op_quoI (nxlf rfl) rfl rfl (by omega) (by omega) (by omega) rfl ?_
  refine op_move (nxlf rfl) rfl rfl ?_
  refine op_lenS (nxlf rfl) se43 rfl rfl ?_
  refine op_geq (nxlf rfl) rfl rfl rfl ?_
  refine At.opsNil ?_
  refine At.norm (hk_3 ?_)
  refine At.condP rfl (fun c9 => ?_) (fun c9 => ?_)
  · refine At.seq fun K4 hk_4 => ?_
    refine At.region ?_
    refine op_assign (nxlf rfl) rfl rfl ?_
    refine At.opsNil ?_
    refine At.norm (hk_4 ?_)
    refine At.ret (At.thenRet (?_))
    refine At.ret1 (L1 := []) rfl (.tmp rfl .nil) (.refl _) (.refl _) ?_
    exact ⟨by rw [bit_big32 (by omega)]; rfl, rfl⟩
  · refine At.skip ?_
    refine At.norm (hk_2 ?_)
    refine At.seq fun K5 hk_5 => ?_
    refine At.region ?_
    refine op_move (nxlf rfl) rfl rfl ?_
    refine op_move (nxlf rfl) rfl rfl ?_
    refine op_quoI (nxlf rfl) rfl rfl (by omega) (by omega) (by omega) rfl ?_
    refine op_idx1 (nxlf rfl) se43 rfl rfl (by assumption) (show _ = (((i / 32 : Nat)) : Int) from by omega) (by omega) rfl ?_
    refine op_loadE (nxlf rfl) sc80 rfl (by assumption) (by first | exact get8 (by omega) | exact get64 (by omega) | exact get32 (by omega)) (by first | exact mem0 | exact mem1 | exact mem2 | exact mem3 | exact mem4 | exact mem5 | exact mem6 | exact mem7 | exact mem8 | exact mem9) rfl ?_
    refine op_move (nxlf rfl) rfl rfl ?_
    refine op_rem (nxlf rfl) rfl rfl (by omega) (by omega) rfl ?_
    refine op_shrU32 (nxlf rfl) rfl rfl (show _ = (((i % 32 : Nat)) : Int) from by omega) rfl ?_
    refine op_andU32 (b := 1) (nxlf rfl) rfl rfl rfl ?_
    refine op_assign (nxlf rfl) rfl rfl ?_
    refine At.opsNil ?_
    refine At.norm (hk_5 ?_)
    refine At.ret (?_)
    refine At.ret1 (L1 := []) rfl (.tmp rfl .nil) (.refl _) (.refl _) ?_
    exact ⟨by rw [← bit_at32], rfl⟩
theorem rLen_f {N : Heaplet} {ao : Option Addr} {n cap : Nat} {l : List UInt32} (h : RSl N 1 ao n cap (u32s l)) (hn : n ≤ 1099511627776) : Fn Try.prog 53 #[.slice ao n cap] [] [N] (fun v L => v = .int .i64 ((bitLen (v32 l) : Nat) : Int) ∧ L = []) := by
  have hlen := h.len32
  have hcap := h.cap63
  refine Fn.enter (vs := [.slice ao n cap]) Try.func53 rfl rfl rfl ?_
  intro E R hR
  have h := h.le (hR N (by simp))
  change At _ _ E [R] _
  refine At.seq fun K1 hk_1 => ?_
  refine At.region ?_
  refine op_assign (nxlf rfl) rfl rfl ?_
  refine At.opsNil ?_
  refine At.norm (hk_1 ?_)
  refine At.seq fun K2 hk_2 => ?_
  refine At.region ?_
  refine op_move (nxlf rfl) rfl rfl ?_
  refine op_lenS (nxlf rfl) se43 rfl rfl ?_
  refine op_mulI (nxlf rfl) rfl rfl (by omega) (by omega) rfl ?_
  refine op_assign (nxlf rfl) rfl rfl ?_
  refine At.opsNil ?_
  refine At.norm (hk_2 ?_)
  refine At.seq fun K3 hk_3 => ?_
  refine At.block ?_
  refine At.loop (fun fr_ hp_ ms_ => ∃ (j : Nat), fr_ = [(0, .slice ao n cap), (3, .int .i64 (j : Int))] ∧ hp_ = [R] ∧ j = ms_ ∧ (j ≤ 32 * n) ∧ (v32 l < 2 ^ j)) ?_ (.refl _) ⟨32 * n, rfl, rfl, rfl, by omega, by rw [← hlen]; exact v32_lt l⟩ ?_
  · exact .cons (by first | exact lkI rfl (by omega) | rfl) (.cons (by first | exact lkI rfl (by omega) | rfl) .nil)
  rintro _ _ _ ⟨j, rfl, rfl, rfl, hj, hv⟩
  refine At.seq fun K4 hk_4 => ?_
  refine At.seq fun K5 hk_5 => ?_
  refine At.region ?_
  refine op_move (nxlf rfl) rfl rfl ?_
  refine op_gtr (nxlf rfl) rfl rfl rfl ?_
  refine op_move (nxlf rfl) rfl rfl ?_
  refine At.partP (d := 9) rfl (fun g9 => ?_) (fun g9 => ?_)
  · refine op_move (nxgf rfl rfl rfl rfl) rfl rfl ?_
    refine op_move (nxgf rfl rfl rfl rfl) rfl rfl ?_
    refine op_subI (nxgf rfl rfl rfl rfl) rfl rfl (by omega) (by omega) rfl ?_
    rw [show (j : Int) - 1 = ((j - 1 : Nat) : Int) by omega]
    refine op_callA (nxga rfl rfl rfl rfl) (.cons rfl (.cons rfl .nil)) (rBit_f h (j - 1) (by omega)) Try.func65 rfl rfl (by simp) rfl ?_
    rintro v13 L13 ⟨rfl, rfl⟩
    change At _ _ _ [R] _
    refine op_eql (nxgf rfl rfl rfl rfl) rfl rfl rfl ?_
    refine op_pickT (nxlf rfl) rfl rfl rfl ?_
    refine At.opsNil ?_
    refine At.norm (hk_5 ?_)
    refine At.condP rfl (fun c15 => ?_) (fun c15 => ?_)
    · have hv' : v32 l < 2 ^ (j - 1) := by
        have e : v32 l / 2 ^ (j - 1) < 2 := by
          rw [Nat.div_lt_iff_lt_mul (Nat.pow_pos (by decide)), ← Nat.pow_succ', show (j - 1).succ = j by omega]; exact hv
        have e2 : v32 l / 2 ^ (j - 1) = 0 := by
          generalize v32 l / 2 ^ (j - 1) = X at *
          omega
        exact (Nat.div_eq_zero_iff_lt (Nat.pow_pos (by decide))).1 e2
      refine At.skip ?_
      refine At.norm (hk_4 ?_)
      refine At.block ?_
      refine At.region ?_
      refine op_move (nxlf rfl) rfl rfl ?_
      refine op_subI (nxlf rfl) rfl rfl (by omega) (by omega) rfl ?_
      refine op_assign (nxlf rfl) rfl rfl ?_
      refine At.opsNil ?_
      refine At.inNorm ?_
      refine At.norm ?_
      refine At.back ?_ (.refl _) ⟨j - 1, rfl, rfl, rfl, by omega, hv'⟩ ?_
      · exact .cons (by first | exact lkI rfl (by omega) | rfl) (.cons (by first | exact lkI rfl (by omega) | rfl) .nil)
      · omega
    · refine At.exit (At.thenExit (At.thenExit (At.inHit ?_)))
      refine At.norm (hk_3 ?_)
      refine At.seq fun K6 hk_6 => ?_
      refine At.region ?_
      refine op_move (nxlf rfl) rfl rfl ?_
      refine op_assign (nxlf rfl) rfl rfl ?_
      refine At.opsNil ?_
      refine At.norm (hk_6 ?_)
      refine At.ret (?_)
      refine At.ret1 (L1 := []) rfl (.tmp rfl .nil) (.refl _) (.refl _) ?_
      refine ⟨?_, rfl⟩
      congr 2
      symm
      refine bitLen_eq hv (.inr ?_)
      rcases Nat.lt_or_ge (v32 l) (2 ^ (j - 1)) with h1 | h1
      · rw [Nat.div_eq_of_lt h1] at c15; exact absurd rfl c15
      · exact h1
  · refine op_skip rfl rfl rfl rfl rfl rfl rfl ?_
    refine op_skip rfl rfl rfl rfl rfl rfl rfl ?_
    refine op_skip rfl rfl rfl rfl rfl rfl rfl ?_
    refine op_skip rfl rfl rfl rfl rfl rfl rfl ?_
    refine op_skip rfl rfl rfl rfl rfl rfl rfl ?_
    refine op_pickF (nxlf rfl) rfl rfl rfl ?_
    refine At.opsNil ?_
    refine At.norm (hk_5 ?_)
    refine At.condF rfl ?_
    refine At.exit (At.thenExit (At.thenExit (At.inHit ?_)))
    refine At.norm (hk_3 ?_)
    refine At.seq fun K7 hk_7 => ?_
    refine At.region ?_
    refine op_move (nxlf rfl) rfl rfl ?_
    refine op_assign (nxlf rfl) rfl rfl ?_
    refine At.opsNil ?_
    refine At.norm (hk_7 ?_)
    refine At.ret (?_)
    refine At.ret1 (L1 := []) rfl (.tmp rfl .nil) (.refl _) (.refl _) ?_
    refine ⟨?_, rfl⟩
    congr 2
    symm
    exact bitLen_eq hv (.inl (by omega))
end Go.Proofs.Ytbmlhdecnfplaaa
/- The reference's less and back: the parts of a division. Condition: numbers of at most 2^40 digits. -/
namespace Go.Proofs.Ytbmlhdecnfplaaa
set_option linter.unusedVariables false
set_option linter.unusedSimpArgs false
open Go Go.RowKit
theorem less_round {w u v : List UInt32} {k q cy cy' bw bw' m : Nat} {d : UInt32} (hw : w.length = k) (hv : v32 w + q * v32 (v.take k) = v32 (u.take k) + (cy + bw) * 2 ^ (32 * k)) (hm : m = cy + q * (v.getD k 0).toNat) (hcy : cy' = m / 4294967296)
    (hd : d.toNat + (m % 4294967296 + bw) = (u.getD k 0).toNat + bw' * 4294967296) : v32 (w ++ [d]) + q * v32 (v.take (k + 1)) = v32 (u.take (k + 1)) + (cy' + bw') * 2 ^ (32 * (k + 1)) := by
  have h1 : cy + q * (v.getD k 0).toNat = m % 4294967296 + cy' * 4294967296 := by rw [hcy, Nat.mul_comm (m / 4294967296), Nat.mod_add_div, hm]
  clear hm hcy
  generalize m % 4294967296 = ml at *
  have h4 := congrArg (2 ^ (32 * k) * ·) h1
  have h5 := congrArg (2 ^ (32 * k) * ·) hd
  simp only [Nat.mul_add] at h4 h5
  rw [v32_snoc, hw, v32_take_succD, v32_take_succD, pow32, Nat.mul_add, Nat.add_mul]
  have e1 : q * (2 ^ (32 * k) * (v.getD k 0).toNat) = 2 ^ (32 * k) * (q * (v.getD k 0).toNat) := Nat.mul_left_comm ..
  have e2 : cy' * (2 ^ (32 * k) * 4294967296) = 2 ^ (32 * k) * (cy' * 4294967296) := by rw [Nat.mul_left_comm]
  have e3 : bw' * (2 ^ (32 * k) * 4294967296) = 2 ^ (32 * k) * (bw' * 4294967296) := by rw [Nat.mul_left_comm]
  rw [e1, e2, e3]
  rw [Nat.add_mul, Nat.mul_comm cy, Nat.mul_comm bw] at hv
  omega
theorem and32' (z : UInt64) : (z &&& 4294967295).toNat = z.toNat % 4294967296 := and32 z
def LessP (co : Option Addr) (nc cc : Nat) (pre u v post : List UInt32) (q : Nat) (r : Value) (L : List Heaplet) : Prop :=
  ∃ M x, ∃ bw : Nat, r = .bool (decide (bw = 1)) ∧ L = [M] ∧ Row M 80 1 co nc cc (u32s (pre ++ x ++ post)) ∧ x.length = u.length ∧ bw ≤ 1 ∧ v32 x + q * v32 v = v32 u + bw * 2 ^ (32 * u.length)
set_option maxRecDepth 100000 in
theorem less_f {Nc Nv : Heaplet} {co vo : Option Addr} {nc cc i n cv : Nat} {pre u post v : List UInt32} {q : UInt64} (rc : Row Nc 80 1 co nc cc (u32s (pre ++ u ++ post))) (hv : RSl Nv 1 vo n cv (u32s v)) (hp : pre.length = i) (hul : u.length = n + 1)
    (hn : n ≤ 1099511627776) (hi : i ≤ 1099511627776) (hq : q.toNat ≤ 4294967295) :
    Fn Try.prog 63 #[.slice co nc cc, .slice vo n cv, .int .i64 (i : Int), .int .u64 (q.toNat : Int)] [Nc] [Nv] (LessP co nc cc pre u v post q.toNat) := by
  have hcv := hv.cap63
  have hvl := hv.len32
  have hcl := rc.rsl.len32
  have hcn := rc.rsl.cap63
  rw [List.length_append, List.length_append, hp, hul] at hcl
  refine Fn.enter (vs := [.slice co nc cc, .slice vo n cv, .int .i64 (i : Int), .int .u64 (q.toNat : Int)]) Try.func63 rfl rfl rfl ?_
  intro E R hR
  have hv := hv.le (hR Nv (by simp))
  change At _ _ E [Nc, R] _
  refine At.seq fun K1 hk_1 => ?_
  refine At.region ?_
  refine op_assign (nxlf rfl) rfl rfl ?_
  refine At.opsNil ?_
  refine At.norm (hk_1 ?_)
  refine At.seq fun K2 hk_2 => ?_
  refine At.region ?_
  refine op_assign (nxlf rfl) rfl rfl ?_
  refine At.opsNil ?_
  refine At.norm (hk_2 ?_)
  refine At.seq fun K3 hk_3 => ?_
  refine At.region ?_
  refine op_assign (nxlf rfl) rfl rfl ?_
  refine At.opsNil ?_
  refine At.norm (hk_3 ?_)
  refine At.seq fun K4 hk_4 => ?_
  refine At.seq fun K5 hk_5 => ?_
  refine At.region ?_
  refine op_assign (nxlf rfl) rfl rfl ?_
  refine At.opsNil ?_
  refine At.norm (hk_5 ?_)
  refine At.block ?_
  refine At.loop (fun fr_ hp_ ms_ => ∃ (k : Nat) (w : List UInt32) (cy bw : UInt64) (Nc : Heaplet), fr_ = [(0, .slice co nc cc), (1, .slice vo n cv), (2, .int .i64 (i : Int)), (3, .int .u64 (q.toNat : Int)), (9, .int .u64 (cy.toNat : Int)), (10, .int .u64 (bw.toNat : Int)), (11, .int .i64 (k : Int))] ∧ hp_ = [Nc, R] ∧ n + 1 - k = ms_ ∧ (k ≤ n + 1) ∧ (w.length = k) ∧ (cy.toNat < 4294967296) ∧ (bw.toNat ≤ 1) ∧ (k = n + 1 → cy.toNat = 0) ∧ (v32 w + q.toNat * v32 (v.take k) = v32 (u.take k) + (cy.toNat + bw.toNat) * 2 ^ (32 * k)) ∧ (Row Nc 80 1 co nc cc (u32s (pre ++ (w ++ u.drop k) ++ post)))) ?_ (.refl _) ⟨0, [], 0, 0, Nc, rfl, rfl, rfl, by omega, rfl, by decide, by decide, by intro h; rfl, by simp [v32, n32, val], by simpa using rc⟩ ?_
  · exact .cons (by first | exact lkI rfl (by omega) | rfl) (.cons (by first | exact lkI rfl (by omega) | rfl) (.cons (by first | exact lkI rfl (by omega) | rfl) (.cons (by first | exact lkI rfl (by omega) | rfl) (.cons (by first | exact lkI rfl (by omega) | rfl) (.cons (by first | exact lkI rfl (by omega) | rfl) (.cons (by first | exact lkI rfl (by omega) | rfl) .nil))))))
  rintro _ _ _ ⟨k, w, cy, bw, Nc, rfl, rfl, rfl, hk, hw, hcy, hbw, hz0, hv2, rc⟩
  have hwl : (w ++ u.drop k).length = n + 1 := by rw [List.length_append, List.length_drop]; omega
  have hal : (pre ++ (w ++ u.drop k) ++ post).length = nc := by rw [List.length_append, List.length_append, hp, hwl]; exact hcl
  have sc := rc.rsl
  refine At.seq fun K6 hk_6 => ?_
  refine At.seq fun K7 hk_7 => ?_
  refine At.region ?_
  refine op_move (nxlf rfl) rfl rfl ?_
  refine op_move (nxlf rfl) rfl rfl ?_
  refine op_lenS (nxlf rfl) se43 rfl rfl ?_
  refine op_leq (nxlf rfl) rfl rfl rfl ?_
  refine At.opsNil ?_
  refine At.norm (hk_7 ?_)
  refine At.condP rfl (fun c18 => ?_) (fun c18 => ?_)
  · refine At.skip ?_
    refine At.norm (hk_6 ?_)
    refine At.seq fun K8 hk_8 => ?_
    refine At.block ?_
    refine At.seq fun K9 hk_9 => ?_
    refine At.region ?_
    refine op_move (nxlf rfl) rfl rfl ?_
    refine op_assign (nxlf rfl) rfl rfl ?_
    refine At.opsNil ?_
    refine At.norm (hk_9 ?_)
    refine At.seq fun K10 hk_10 => ?_
    refine At.meet (fun fr_ hp_ => ∃ (m : UInt64), fr_ = [(0, .slice co nc cc), (1, .slice vo n cv), (2, .int .i64 (i : Int)), (3, .int .u64 (q.toNat : Int)), (10, .int .u64 (bw.toNat : Int)), (11, .int .i64 (k : Int)), (12, .int .u64 (m.toNat : Int))] ∧ hp_ = [Nc, R] ∧ (m.toNat = cy.toNat + q.toNat * (v.getD k 0).toNat)) ?_ (fun K10_ jk_10 => ?_)
    rotate_left
    · skip
      refine At.seq fun K11 hk_11 => ?_
      refine At.region ?_
      refine op_move (nxlf rfl) rfl rfl ?_
      refine op_move (nxlf rfl) rfl rfl ?_
      refine op_lenS (nxlf rfl) se43 rfl rfl ?_
      refine op_lss (nxlf rfl) rfl rfl rfl ?_
      refine At.opsNil ?_
      refine At.norm (hk_11 ?_)
      refine At.condP rfl (fun c25 => ?_) (fun c25 => ?_)
      · refine At.region ?_
        refine op_move (nxlf rfl) rfl rfl ?_
        refine op_move (nxlf rfl) rfl rfl ?_
        refine op_move (nxlf rfl) rfl rfl ?_
        refine op_move (nxlf rfl) rfl rfl ?_
        refine op_idx1 (nxlf rfl) se43 rfl rfl hv (show _ = (((k : Nat)) : Int) from by omega) (by omega) rfl ?_
        refine op_loadE (nxlf rfl) sc80 rfl hv (by first | exact get8 (by omega) | exact get64 (by omega) | exact get32 (by omega)) (by first | exact mem0 | exact mem1 | exact mem2 | exact mem3 | exact mem4 | exact mem5 | exact mem6 | exact mem7 | exact mem8 | exact mem9) rfl ?_
        refine op_conv64 (nxlf rfl) (und_some Try.underlying80) Try.underlying27 rfl (by first | rfl | exact (Int.toNat_of_nonneg (by omega)).symm) rfl ?_
        refine op_mulU (nxlf rfl) rfl rfl rfl ?_
        refine op_addU (nxlf rfl) rfl rfl rfl ?_
        have hbk := dlt v k
        obtain ⟨p1, p2⟩ := mul64n (a := q) (b := UInt64.ofNat (v.getD k 0).toNat) hq (by rw [of32]; exact hbk)
        rw [of32] at p1 p2
        refine op_assign (nxlf rfl) rfl rfl ?_
        refine At.opsNil ?_
        refine At.norm (jk_10 ?_ (.refl _) ⟨cy + q * UInt64.ofNat (v.getD k 0).toNat, rfl, rfl, by rw [add64n (by rw [p1]; omega), p1]⟩)
        exact .cons (by first | exact lkI rfl (by omega) | rfl) (.cons (by first | exact lkI rfl (by omega) | rfl) (.cons (by first | exact lkI rfl (by omega) | rfl) (.cons (by first | exact lkI rfl (by omega) | rfl) (.cons (by first | exact lkI rfl (by omega) | rfl) (.cons (by first | exact lkI rfl (by omega) | rfl) (.cons (by first | exact lkI rfl (by omega) | rfl) .nil))))))
      · have hz : (v.getD k 0).toNat = 0 := by rw [getD_big (by omega)]; rfl
        refine At.skip ?_
        refine At.norm (jk_10 ?_ (.refl _) ⟨cy, rfl, rfl, by rw [hz]; omega⟩)
        exact .cons (by first | exact lkI rfl (by omega) | rfl) (.cons (by first | exact lkI rfl (by omega) | rfl) (.cons (by first | exact lkI rfl (by omega) | rfl) (.cons (by first | exact lkI rfl (by omega) | rfl) (.cons (by first | exact lkI rfl (by omega) | rfl) (.cons (by first | exact lkI rfl (by omega) | rfl) (.cons (by first | exact lkI rfl (by omega) | rfl) .nil))))))
    rintro _ _ ⟨m, rfl, rfl, hm⟩
    refine hk_10 ?_
    refine At.seq fun K12 hk_12 => ?_
    refine At.region ?_
    refine op_move (nxlf rfl) rfl rfl ?_
    refine op_shrU (nxlf rfl) rfl rfl (show _ = ((32 : Nat) : Int) from rfl) rfl ?_
    refine op_assign (nxlf rfl) rfl rfl ?_
    refine At.opsNil ?_
    refine At.norm (hk_12 ?_)
    refine At.seq fun K13 hk_13 => ?_
    refine At.region ?_
    refine op_move (nxlf rfl) rfl rfl ?_
    refine op_andU (b := 4294967295) (nxlf rfl) rfl rfl rfl ?_
    refine op_move (nxlf rfl) rfl rfl ?_
    refine op_addU (nxlf rfl) rfl rfl rfl ?_
    have hsh : (shr64 m 32).toNat = m.toNat / 4294967296 := shr32n m
    have hz' : k + 1 = n + 1 → (shr64 m 32).toNat = 0 := fun h => by
      rw [hsh, hm, getD_big (show v.length ≤ k by omega)]
      show (cy.toNat + q.toNat * 0) / 4294967296 = 0
      rw [Nat.mul_zero]; omega
    have hs : ((m &&& 4294967295) + bw).toNat = m.toNat % 4294967296 + bw.toNat := by rw [add64n (by rw [and32]; omega), and32]
    generalize (m &&& 4294967295) + bw = s at *
    refine op_assign (nxlf rfl) rfl rfl ?_
    refine At.opsNil ?_
    refine At.norm (hk_13 ?_)
    refine At.seq fun K14 hk_14 => ?_
    refine At.region ?_
    refine op_move (nxlf rfl) rfl rfl ?_
    refine op_move (nxlf rfl) rfl rfl ?_
    refine op_move (nxlf rfl) rfl rfl ?_
    refine op_addI (nxlf rfl) rfl rfl (by omega) (by omega) rfl ?_
    refine op_idx1 (nxlf rfl) se43 rfl rfl sc (show _ = (((i + k : Nat)) : Int) from by omega) (by omega) rfl ?_
    refine op_loadE (nxlf rfl) sc80 rfl sc (by first | exact get8 (by omega) | exact get64 (by omega) | exact get32 (by omega)) (by first | exact mem0 | exact mem1 | exact mem2 | exact mem3 | exact mem4 | exact mem5 | exact mem6 | exact mem7 | exact mem8 | exact mem9) rfl ?_
    rw [show (pre ++ (w ++ u.drop k) ++ post).getD (i + k) 0 = u.getD k 0 by rw [List.append_assoc, getD_right hp, getD_app (show k < (w ++ u.drop k).length by omega), getD_drop hw (by omega)]]
    refine op_conv64 (nxlf rfl) (und_some Try.underlying80) Try.underlying27 rfl (by first | rfl | exact (Int.toNat_of_nonneg (by omega)).symm) rfl ?_
    have hx0 := of32 (u.getD k 0)
    have huk := dlt u k
    generalize UInt64.ofNat (u.getD k 0).toNat = x0 at *
    refine op_assign (nxlf rfl) rfl rfl ?_
    refine At.opsNil ?_
    refine At.norm (hk_14 ?_)
    refine At.seq fun K15 hk_15 => ?_
    refine At.region ?_
    refine op_assign (nxlf rfl) rfl rfl ?_
    refine At.opsNil ?_
    refine At.norm (hk_15 ?_)
    refine At.seq fun K16 hk_16 => ?_
    refine At.meet (fun fr_ hp_ => ∃ (x bw' : UInt64), fr_ = [(0, .slice co nc cc), (1, .slice vo n cv), (2, .int .i64 (i : Int)), (3, .int .u64 (q.toNat : Int)), (9, .int .u64 ((shr64 m 32).toNat : Int)), (10, .int .u64 (bw'.toNat : Int)), (11, .int .i64 (k : Int)), (13, .int .u64 (s.toNat : Int)), (14, .int .u64 (x.toNat : Int))] ∧ hp_ = [Nc, R] ∧ (x.toNat = (u.getD k 0).toNat + bw'.toNat * 4294967296) ∧ (s.toNat ≤ x.toNat ∧ x.toNat - s.toNat < 4294967296) ∧ (bw'.toNat ≤ 1)) ?_ (fun K16_ jk_16 => ?_)
    rotate_left
    · skip
      refine At.seq fun K17 hk_17 => ?_
      refine At.region ?_
      refine op_move (nxlf rfl) rfl rfl ?_
      refine op_move (nxlf rfl) rfl rfl ?_
      refine op_lss (nxlf rfl) rfl rfl rfl ?_
      refine At.opsNil ?_
      refine At.norm (hk_17 ?_)
      refine At.condP rfl (fun c50 => ?_) (fun c50 => ?_)
      · refine At.seq fun K18 hk_18 => ?_
        refine At.region ?_
        refine op_move (nxlf rfl) rfl rfl ?_
        refine op_addU (b := 4294967296) (nxlf rfl) rfl rfl rfl ?_
        refine op_assign (nxlf rfl) rfl rfl ?_
        refine At.opsNil ?_
        refine At.norm (hk_18 ?_)
        refine At.region ?_
        refine op_assign (nxlf rfl) rfl rfl ?_
        refine At.opsNil ?_
        refine At.norm (jk_16 ?_ (.refl _) ⟨x0 + 4294967296, 1, rfl, rfl, by rw [add64n (by show x0.toNat + 4294967296 < _; omega)]; show x0.toNat + 4294967296 = _ + 1 * 4294967296; omega, by rw [add64n (by show x0.toNat + 4294967296 < _; omega)]; show s.toNat ≤ x0.toNat + 4294967296 ∧ x0.toNat + 4294967296 - s.toNat < 4294967296; omega, by decide⟩)
        exact .cons (by first | exact lkI rfl (by omega) | rfl) (.cons (by first | exact lkI rfl (by omega) | rfl) (.cons (by first | exact lkI rfl (by omega) | rfl) (.cons (by first | exact lkI rfl (by omega) | rfl) (.cons (by first | exact lkI rfl (by omega) | rfl) (.cons (by first | exact lkI rfl (by omega) | rfl) (.cons (by first | exact lkI rfl (by omega) | rfl) (.cons (by first | exact lkI rfl (by omega) | rfl) (.cons (by first | exact lkI rfl (by omega) | rfl) .nil))))))))
      · refine At.skip ?_
        refine At.norm (jk_16 ?_ (.refl _) ⟨x0, 0, rfl, rfl, by show _ = _ + 0 * 4294967296; omega, by omega, by decide⟩)
        exact .cons (by first | exact lkI rfl (by omega) | rfl) (.cons (by first | exact lkI rfl (by omega) | rfl) (.cons (by first | exact lkI rfl (by omega) | rfl) (.cons (by first | exact lkI rfl (by omega) | rfl) (.cons (by first | exact lkI rfl (by omega) | rfl) (.cons (by first | exact lkI rfl (by omega) | rfl) (.cons (by first | exact lkI rfl (by omega) | rfl) (.cons (by first | exact lkI rfl (by omega) | rfl) (.cons (by first | exact lkI rfl (by omega) | rfl) .nil))))))))
    rintro _ _ ⟨x, bw', rfl, rfl, hx, hxs, hbw'⟩
    refine hk_16 ?_
    refine At.region ?_
    refine op_move (nxlf rfl) rfl rfl ?_
    refine op_move (nxlf rfl) rfl rfl ?_
    refine op_move (nxlf rfl) rfl rfl ?_
    refine op_addI (nxlf rfl) rfl rfl (by omega) (by omega) rfl ?_
    refine op_move (nxlf rfl) rfl rfl ?_
    refine op_move (nxlf rfl) rfl rfl ?_
    refine op_subU (nxlf rfl) rfl rfl rfl ?_
    refine op_conv32 (nxlf rfl) (und_some Try.underlying27) Try.underlying80 rfl (by first | rfl | exact (Int.toNat_of_nonneg (by omega)).symm) rfl ?_
    refine op_idx1 (nxlf rfl) se43 rfl rfl sc (show _ = (((i + k : Nat)) : Int) from by omega) (by omega) rfl ?_
    refine op_storeE (nxl rfl) sz80 rfl rfl rfl rfl rfl rc (by simp [u32s]; omega) (by simp) sel0 (fun Nc rc => ?_)
    simp only [setL] at rc
    rw [set_u32s, win_set hp (show k < (w ++ u.drop k).length by omega), set_drop hw (show k < u.length by omega)] at rc
    change Row Nc _ 1 co nc cc (u32s (pre ++ (w ++ [lo32 (x - s)] ++ u.drop (k + 1)) ++ post)) at rc
    have sc := rc.rsl
    refine At.opsNil ?_
    refine At.inNorm ?_
    refine At.norm (hk_8 ?_)
    refine At.region ?_
    refine op_move (nxlf rfl) rfl rfl ?_
    refine op_addI (nxlf rfl) rfl rfl (by omega) (by omega) rfl ?_
    refine op_assign (nxlf rfl) rfl rfl ?_
    refine At.opsNil ?_
    refine At.norm ?_
    refine At.back ?_ (.refl _) ⟨k + 1, w ++ [lo32 (x - s)], shr64 m 32, bw', Nc, rfl, rfl, rfl, by omega, by simp; omega, carry_lt, hbw', hz', less_round hw hv2 hm hsh (by rw [lo32_nat, sub64n (by omega)]; omega), rc⟩ ?_
    · exact .cons (by first | exact lkI rfl (by omega) | rfl) (.cons (by first | exact lkI rfl (by omega) | rfl) (.cons (by first | exact lkI rfl (by omega) | rfl) (.cons (by first | exact lkI rfl (by omega) | rfl) (.cons (by first | exact lkI rfl (by omega) | rfl) (.cons (by first | exact lkI rfl (by omega) | rfl) (.cons (by first | exact lkI rfl (by omega) | rfl) .nil))))))
    · omega
  · refine At.exit (At.thenExit (At.thenExit (At.inHit ?_)))
    refine At.norm (hk_4 ?_)
    refine At.seq fun K19 hk_19 => ?_
    refine At.region ?_
    refine op_move (nxlf rfl) rfl rfl ?_
    refine op_eql (nxlf rfl) rfl rfl rfl ?_
    refine op_assign (nxlf rfl) rfl rfl ?_
    refine At.opsNil ?_
    refine At.norm (hk_19 ?_)
    refine At.ret (?_)
    refine At.ret1 (L1 := [Nc]) rfl (.tmp rfl .nil) (.refl _) (.refl _) ?_
    have hkn : k = n + 1 := by omega
    rw [hkn, v32_take_all (by omega), v32_take_all (by omega), hz0 hkn, Nat.zero_add] at hv2
    rw [hkn, List.drop_of_length_le (by omega), List.append_nil] at rc
    exact ⟨Nc, w, bw.toNat, by congr 1; rw [decide_eq_decide]; show ((bw.toNat : Int) = 1) ↔ _; omega, rfl, rc, by omega, hbw, by rw [hul]; exact hv2⟩
def BackP (co : Option Addr) (nc cc : Nat) (pre u v post : List UInt32) (r : Value) (L : List Heaplet) : Prop :=
  ∃ M x, ∃ c : Nat, r = .tuple #[] ∧ L = [M] ∧ Row M 80 1 co nc cc (u32s (pre ++ x ++ post)) ∧ x.length = u.length ∧ c ≤ 1 ∧ v32 x + c * 2 ^ (32 * u.length) = v32 u + v32 v ∧ ((u.getD v.length 0).toNat ≤ (x.getD v.length 0).toNat ↔ c = 0)
set_option maxRecDepth 100000 in
theorem back_f {Nc Nv : Heaplet} {co vo : Option Addr} {nc cc i n cv : Nat} {pre u post v : List UInt32} (rc : Row Nc 80 1 co nc cc (u32s (pre ++ u ++ post))) (hv : RSl Nv 1 vo n cv (u32s v)) (hp : pre.length = i) (hul : u.length = n + 1)
    (hn : n ≤ 1099511627776) (hi : i ≤ 1099511627776) :
    Fn Try.prog 64 #[.slice co nc cc, .slice vo n cv, .int .i64 (i : Int)] [Nc] [Nv] (BackP co nc cc pre u v post) := by
  have hcv := hv.cap63
  have hvl := hv.len32
  have hcl := rc.rsl.len32
  have hcn := rc.rsl.cap63
  rw [List.length_append, List.length_append, hp, hul] at hcl
  refine Fn.enter (vs := [.slice co nc cc, .slice vo n cv, .int .i64 (i : Int)]) Try.func64 rfl rfl rfl ?_
  intro E R hR
  have hv := hv.le (hR Nv (by simp))
  change At _ _ E [Nc, R] _
  refine At.seq fun K1 hk_1 => ?_
  refine At.region ?_
  refine op_assign (nxlf rfl) rfl rfl ?_
  refine At.opsNil ?_
  refine At.norm (hk_1 ?_)
  refine At.seq fun K2 hk_2 => ?_
  refine At.region ?_
  refine op_assign (nxlf rfl) rfl rfl ?_
  refine At.opsNil ?_
  refine At.norm (hk_2 ?_)
  refine At.block ?_
  refine At.loop (fun fr_ hp_ ms_ => ∃ (k : Nat) (w : List UInt32) (cy : UInt64) (Nc : Heaplet), fr_ = [(0, .slice co nc cc), (1, .slice vo n cv), (2, .int .i64 (i : Int)), (6, .int .u64 (cy.toNat : Int)), (7, .int .i64 (k : Int))] ∧ hp_ = [Nc, R] ∧ n + 1 - k = ms_ ∧ (k ≤ n + 1) ∧ (w.length = k) ∧ (cy.toNat ≤ 1) ∧ (k = n + 1 → ((u.getD n 0).toNat ≤ (w.getD n 0).toNat ↔ cy.toNat = 0)) ∧ (v32 w + cy.toNat * 2 ^ (32 * k) = v32 (u.take k) + v32 (v.take k)) ∧ (Row Nc 80 1 co nc cc (u32s (pre ++ (w ++ u.drop k) ++ post)))) ?_ (.refl _) ⟨0, [], 0, Nc, rfl, rfl, rfl, by omega, rfl, by decide, by intro h; omega, by simp [v32, n32, val], by simpa using rc⟩ ?_
  · exact .cons (by first | exact lkI rfl (by omega) | rfl) (.cons (by first | exact lkI rfl (by omega) | rfl) (.cons (by first | exact lkI rfl (by omega) | rfl) (.cons (by first | exact lkI rfl (by omega) | rfl) (.cons (by first | exact lkI rfl (by omega) | rfl) .nil))))
  rintro _ _ _ ⟨k, w, cy, Nc, rfl, rfl, rfl, hk, hw, hcy, htop, hv2, rc⟩
  have hwl : (w ++ u.drop k).length = n + 1 := by rw [List.length_append, List.length_drop]; omega
  have hal : (pre ++ (w ++ u.drop k) ++ post).length = nc := by rw [List.length_append, List.length_append, hp, hwl]; exact hcl
  have sc := rc.rsl
  have huk := dlt u k
  have hbk := dlt v k
  refine At.seq fun K3 hk_3 => ?_
  refine At.seq fun K4 hk_4 => ?_
  refine At.region ?_
  refine op_move (nxlf rfl) rfl rfl ?_
  refine op_move (nxlf rfl) rfl rfl ?_
  refine op_lenS (nxlf rfl) se43 rfl rfl ?_
  refine op_leq (nxlf rfl) rfl rfl rfl ?_
  refine At.opsNil ?_
  refine At.norm (hk_4 ?_)
  refine At.condP rfl (fun c12 => ?_) (fun c12 => ?_)
  · refine At.skip ?_
    refine At.norm (hk_3 ?_)
    refine At.seq fun K5 hk_5 => ?_
    refine At.block ?_
    refine At.seq fun K6 hk_6 => ?_
    refine At.region ?_
    refine op_move (nxlf rfl) rfl rfl ?_
    refine op_move (nxlf rfl) rfl rfl ?_
    refine op_move (nxlf rfl) rfl rfl ?_
    refine op_addI (nxlf rfl) rfl rfl (by omega) (by omega) rfl ?_
    refine op_idx1 (nxlf rfl) se43 rfl rfl sc (show _ = (((i + k : Nat)) : Int) from by omega) (by omega) rfl ?_
    refine op_loadE (nxlf rfl) sc80 rfl sc (by first | exact get8 (by omega) | exact get64 (by omega) | exact get32 (by omega)) (by first | exact mem0 | exact mem1 | exact mem2 | exact mem3 | exact mem4 | exact mem5 | exact mem6 | exact mem7 | exact mem8 | exact mem9) rfl ?_
    rw [show (pre ++ (w ++ u.drop k) ++ post).getD (i + k) 0 = u.getD k 0 by rw [List.append_assoc, getD_right hp, getD_app (show k < (w ++ u.drop k).length by omega), getD_drop hw (by omega)]]
    refine op_conv64 (nxlf rfl) (und_some Try.underlying80) Try.underlying27 rfl (by first | rfl | exact (Int.toNat_of_nonneg (by omega)).symm) rfl ?_
    refine op_move (nxlf rfl) rfl rfl ?_
    refine op_addU (nxlf rfl) rfl rfl rfl ?_
    have hs1 : (UInt64.ofNat (u.getD k 0).toNat + cy).toNat = (u.getD k 0).toNat + cy.toNat := by rw [add64n (by rw [of32]; omega), of32]
    generalize UInt64.ofNat (u.getD k 0).toNat + cy = s1 at *
    refine op_assign (nxlf rfl) rfl rfl ?_
    refine At.opsNil ?_
    refine At.norm (hk_6 ?_)
    refine At.seq fun K7 hk_7 => ?_
    refine At.meet (fun fr_ hp_ => ∃ (s2 : UInt64), fr_ = [(0, .slice co nc cc), (1, .slice vo n cv), (2, .int .i64 (i : Int)), (7, .int .i64 (k : Int)), (8, .int .u64 (s2.toNat : Int))] ∧ hp_ = [Nc, R] ∧ (s2.toNat = s1.toNat + (v.getD k 0).toNat)) ?_ (fun K7_ jk_7 => ?_)
    rotate_left
    · skip
      refine At.seq fun K8 hk_8 => ?_
      refine At.region ?_
      refine op_move (nxlf rfl) rfl rfl ?_
      refine op_move (nxlf rfl) rfl rfl ?_
      refine op_lenS (nxlf rfl) se43 rfl rfl ?_
      refine op_lss (nxlf rfl) rfl rfl rfl ?_
      refine At.opsNil ?_
      refine At.norm (hk_8 ?_)
      refine At.condP rfl (fun c27 => ?_) (fun c27 => ?_)
      · refine At.region ?_
        refine op_move (nxlf rfl) rfl rfl ?_
        refine op_move (nxlf rfl) rfl rfl ?_
        refine op_move (nxlf rfl) rfl rfl ?_
        refine op_idx1 (nxlf rfl) se43 rfl rfl hv (show _ = (((k : Nat)) : Int) from by omega) (by omega) rfl ?_
        refine op_loadE (nxlf rfl) sc80 rfl hv (by first | exact get8 (by omega) | exact get64 (by omega) | exact get32 (by omega)) (by first | exact mem0 | exact mem1 | exact mem2 | exact mem3 | exact mem4 | exact mem5 | exact mem6 | exact mem7 | exact mem8 | exact mem9) rfl ?_
        refine op_conv64 (nxlf rfl) (und_some Try.underlying80) Try.underlying27 rfl (by first | rfl | exact (Int.toNat_of_nonneg (by omega)).symm) rfl ?_
        refine op_addU (nxlf rfl) rfl rfl rfl ?_
        refine op_assign (nxlf rfl) rfl rfl ?_
        refine At.opsNil ?_
        refine At.norm (jk_7 ?_ (.refl _) ⟨s1 + UInt64.ofNat (v.getD k 0).toNat, rfl, rfl, by rw [add64n (by rw [of32]; omega), of32]⟩)
        exact .cons (by first | exact lkI rfl (by omega) | rfl) (.cons (by first | exact lkI rfl (by omega) | rfl) (.cons (by first | exact lkI rfl (by omega) | rfl) (.cons (by first | exact lkI rfl (by omega) | rfl) (.cons (by first | exact lkI rfl (by omega) | rfl) .nil))))
      · have hz : (v.getD k 0).toNat = 0 := by rw [getD_big (by omega)]; rfl
        refine At.skip ?_
        refine At.norm (jk_7 ?_ (.refl _) ⟨s1, rfl, rfl, by omega⟩)
        exact .cons (by first | exact lkI rfl (by omega) | rfl) (.cons (by first | exact lkI rfl (by omega) | rfl) (.cons (by first | exact lkI rfl (by omega) | rfl) (.cons (by first | exact lkI rfl (by omega) | rfl) (.cons (by first | exact lkI rfl (by omega) | rfl) .nil))))
    rintro _ _ ⟨s2, rfl, rfl, hs2⟩
    refine hk_7 ?_
    refine At.seq fun K9 hk_9 => ?_
    refine At.region ?_
    refine op_move (nxlf rfl) rfl rfl ?_
    refine op_move (nxlf rfl) rfl rfl ?_
    refine op_move (nxlf rfl) rfl rfl ?_
    refine op_addI (nxlf rfl) rfl rfl (by omega) (by omega) rfl ?_
    refine op_move (nxlf rfl) rfl rfl ?_
    refine op_conv32 (nxlf rfl) (und_some Try.underlying27) Try.underlying80 rfl (by first | rfl | exact (Int.toNat_of_nonneg (by omega)).symm) rfl ?_
    refine op_idx1 (nxlf rfl) se43 rfl rfl sc (show _ = (((i + k : Nat)) : Int) from by omega) (by omega) rfl ?_
    refine op_storeE (nxl rfl) sz80 rfl rfl rfl rfl rfl rc (by simp [u32s]; omega) (by simp) sel0 (fun Nc rc => ?_)
    simp only [setL] at rc
    rw [set_u32s, win_set hp (show k < (w ++ u.drop k).length by omega), set_drop hw (show k < u.length by omega)] at rc
    change Row Nc _ 1 co nc cc (u32s (pre ++ (w ++ [lo32 s2] ++ u.drop (k + 1)) ++ post)) at rc
    have sc := rc.rsl
    refine At.opsNil ?_
    refine At.norm (hk_9 ?_)
    refine At.region ?_
    refine op_move (nxlf rfl) rfl rfl ?_
    refine op_shrU (nxlf rfl) rfl rfl (show _ = ((32 : Nat) : Int) from rfl) rfl ?_
    have htop' : k + 1 = n + 1 → ((u.getD n 0).toNat ≤ ((w ++ [lo32 s2]).getD n 0).toNat ↔ (shr64 s2 32).toNat = 0) := fun h => by
      have hkn : k = n := by omega
      subst hkn
      rw [getD_mid hw, lo32_nat, shr32n, hs2, hs1, getD_big (show v.length ≤ k by omega)]
      show (u.getD k 0).toNat ≤ ((u.getD k 0).toNat + cy.toNat + 0) % 4294967296 ↔ ((u.getD k 0).toNat + cy.toNat + 0) / 4294967296 = 0
      omega
    refine op_assign (nxlf rfl) rfl rfl ?_
    refine At.opsNil ?_
    refine At.inNorm ?_
    refine At.norm (hk_5 ?_)
    refine At.region ?_
    refine op_move (nxlf rfl) rfl rfl ?_
    refine op_addI (nxlf rfl) rfl rfl (by omega) (by omega) rfl ?_
    refine op_assign (nxlf rfl) rfl rfl ?_
    refine At.opsNil ?_
    refine At.norm ?_
    refine At.back ?_ (.refl _) ⟨k + 1, w ++ [lo32 s2], shr64 s2 32, Nc, rfl, rfl, rfl, by omega, by simp; omega, by rw [shr32n]; omega, htop', add_round32 hw hv2 (by omega), rc⟩ ?_
    · exact .cons (by first | exact lkI rfl (by omega) | rfl) (.cons (by first | exact lkI rfl (by omega) | rfl) (.cons (by first | exact lkI rfl (by omega) | rfl) (.cons (by first | exact lkI rfl (by omega) | rfl) (.cons (by first | exact lkI rfl (by omega) | rfl) .nil))))
    · omega
  · refine At.exit (At.thenExit (At.thenExit (At.inHit ?_)))
    refine At.retNE (L1 := [Nc]) rfl .nil rfl (.refl _) (.refl _) ?_
    have hkn : k = n + 1 := by omega
    have ht := htop hkn
    rw [hkn, v32_take_all (by omega), v32_take_all (by omega)] at hv2
    rw [hkn, List.drop_of_length_le (by omega), List.append_nil] at rc
    exact ⟨Nc, w, cy.toNat, rfl, rfl, rc, by omega, hcy, by rw [hul]; exact hv2, by rw [hvl]; exact ht⟩
end Go.Proofs.Ytbmlhdecnfplaaa
