/- package word's From, Bits, Bytes, Short; the reference's N, Short. No condition. -/
import Derived.Test.YtohmmgggaegbbaaYT5
import Derived.Test.YtohmmgggaegbbaaYA3
import Derived.Test.YtohmmgggaegbbaaYT3
namespace Go.Proofs.Ytohmmgggaegbbaa
set_option linter.unusedVariables false
set_option linter.unusedSimpArgs false
open Go Go.RowKit
theorem WFrom_long {N : Heaplet} {ao : Option Addr} {n cap : Nat} {l : List UInt8} (h : RSl N 1 ao n cap (u8s l)) (hn : 32 < n) :
    Fn Try.prog 48 #[.slice ao n cap] [] [N] (fun v L => v = .tuple #[.agg #[.int .u64 0, .int .u64 0, .int .u64 0, .int .u64 0], .bool false] ∧ L = []) := by
  have hcap := h.cap63
  refine Fn.enter (vs := [.slice ao n cap]) Try.func48 rfl rfl rfl ?_
  intro E R hR
  change At _ _ E [R] _
  refine At.seq fun K1 hk_1 => ?_
  refine At.region ?_
  refine op_alloc (nxla rfl) ze66 rfl (fun N2 b2 B2 => ?_)
  change Blk N2 b2 _ [.int .u64 0, .int .u64 0, .int .u64 0, .int .u64 0] at B2
  refine op_assign (nxlf rfl) rfl rfl ?_
  refine At.opsNil ?_
  refine At.norm (hk_1 ?_)
  refine At.seq fun K2 hk_2 => ?_
  refine At.seq fun K3 hk_3 => ?_
  refine At.region ?_
  refine op_move (nxlf rfl) rfl rfl ?_
  refine op_lenS (nxlf rfl) se22 rfl rfl ?_
  refine op_gtr (nxlf rfl) rfl rfl rfl ?_
  refine At.opsNil ?_
  refine At.norm (hk_3 ?_)
  refine At.condP rfl (fun c10 => ?_) (fun c10 => ?_)
  · refine At.seq fun K4 hk_4 => ?_
    refine At.region ?_
    refine op_buildA (out := [.int .u64 0, .int .u64 0, .int .u64 0, .int .u64 0]) (nxlf rfl) ze66 ae66 .nil rfl rfl ?_
    refine op_store (nxl rfl) sz66 rfl rfl rfl rfl rfl B2 (by simp) sel0 (fun N2 B2 => ?_)
    simp only [setL, List.set] at B2
    refine op_assign (nxlf rfl) rfl rfl ?_
    refine At.opsNil ?_
    refine At.norm (hk_4 ?_)
    refine At.ret (At.thenRet (?_))
    refine At.retN (L1 := []) rfl (.cell rfl (res_agg (ds := [_, _, _, _]) ag66 B2 rfl rfl mem0) (.tmp rfl .nil)) rfl (.cons _ (.refl _)) (.refl _) ?_
    exact ⟨rfl, rfl⟩
  · exfalso; omega
theorem WFrom_f {N : Heaplet} {ao : Option Addr} {n cap : Nat} {l : List UInt8} (h : RSl N 1 ao n cap (u8s l)) (hn : n ≤ 32) :
    Fn Try.prog 48 #[.slice ao n cap] [] [N] (fun v L => ∃ a b c d : UInt64, v = .tuple #[.agg #[.int .u64 (a.toNat : Int), .int .u64 (b.toNat : Int), .int .u64 (c.toNat : Int), .int .u64 (d.toNat : Int)], .bool true] ∧ L = [] ∧ v64 [a, b, c, d] = be l) := by
  have hlen := h.len8
  have hcap := h.cap63
  refine Fn.enter (vs := [.slice ao n cap]) Try.func48 rfl rfl rfl ?_
  intro E R hR
  have h := h.le (hR N (by simp))
  change At _ _ E [R] _
  refine At.seq fun K1 hk_1 => ?_
  refine At.region ?_
  refine op_alloc (nxla rfl) ze66 rfl (fun N2 b2 B2 => ?_)
  change Blk N2 b2 _ [.int .u64 0, .int .u64 0, .int .u64 0, .int .u64 0] at B2
  refine op_assign (nxlf rfl) rfl rfl ?_
  refine At.opsNil ?_
  refine At.norm (hk_1 ?_)
  refine At.seq fun K2 hk_2 => ?_
  refine At.seq fun K3 hk_3 => ?_
  refine At.region ?_
  refine op_move (nxlf rfl) rfl rfl ?_
  refine op_lenS (nxlf rfl) se22 rfl rfl ?_
  refine op_gtr (nxlf rfl) rfl rfl rfl ?_
  refine At.opsNil ?_
  refine At.norm (hk_3 ?_)
  refine At.condP rfl (fun c10 => ?_) (fun c10 => ?_)
  · exfalso; omega
  · refine At.skip ?_
    refine At.norm (hk_2 ?_)
    refine At.seq fun K4 hk_4 => ?_
    refine At.region ?_
    refine op_alloc (nxla rfl) ze66 rfl (fun N4 b4 B4 => ?_)
    change Blk N4 b4 _ [.int .u64 0, .int .u64 0, .int .u64 0, .int .u64 0] at B4
    change Blk N4 b4 _ (u64s [0, 0, 0, 0]) at B4
    refine At.opsNil ?_
    refine At.norm (hk_4 ?_)
    refine At.seq fun K5 hk_5 => ?_
    refine At.seq fun K6 hk_6 => ?_
    refine At.region ?_
    refine op_move (nxlf rfl) rfl rfl ?_
    refine op_lenS (nxlf rfl) se22 rfl rfl ?_
    refine op_move (nxlf rfl) rfl rfl ?_
    refine At.opsNil ?_
    refine At.norm (hk_6 ?_)
    refine At.block ?_
    refine At.perm sel2 ?_
    refine At.perm sel1 ?_
    refine At.perm sel2 ?_
    refine At.loop (fun fr_ hp_ ms_ => ∃ (k : Nat) (m : List UInt64) (N4 : Heaplet), fr_ = [(0, .slice ao n cap), (2, .pointer (some ⟨b2, 0, none⟩)), (4, .pointer (some ⟨b4, 0, none⟩)), (12, .slice ao n cap), (13, .int .i64 (n : Int)), (14, .int .i64 (k : Int))] ∧ hp_ = [N2, N4, R] ∧ n - k = ms_ ∧ (k ≤ n) ∧ (m.length = 4) ∧ (v64 m = be (l.take k) * 256 ^ (l.length - k)) ∧ (Blk N4 b4 66 (u64s m))) ?_ (.refl _) ⟨0, [0, 0, 0, 0], N4, rfl, rfl, rfl, by omega, rfl, by simp [be]; rfl, B4⟩ ?_
    · exact .cons (by first | exact lkI rfl (by omega) | rfl) (.cons (by first | exact lkI rfl (by omega) | rfl) (.cons (by first | exact lkI rfl (by omega) | rfl) (.cons (by first | exact lkI rfl (by omega) | rfl) (.cons (by first | exact lkI rfl (by omega) | rfl) (.cons (by first | exact lkI rfl (by omega) | rfl) .nil)))))
    rintro _ _ _ ⟨k, m, N4, rfl, rfl, rfl, hk, hm, hv, B4⟩
    refine At.seq fun K7 hk_7 => ?_
    refine At.region ?_
    refine op_lss (nxlf rfl) rfl rfl rfl ?_
    refine At.opsNil ?_
    refine At.norm (hk_7 ?_)
    refine At.seq fun K8 hk_8 => ?_
    refine At.condP rfl (fun c15 => ?_) (fun c15 => ?_)
    · refine At.skip ?_
      refine At.norm (hk_8 ?_)
      refine At.seq fun K9 hk_9 => ?_
      refine At.block ?_
      refine At.seq fun K10 hk_10 => ?_
      refine At.region ?_
      refine op_move (nxlf rfl) rfl rfl ?_
      refine op_idx1 (nxlf rfl) se22 rfl rfl (by assumption) (show _ = (((k : Nat)) : Int) from by omega) (by omega) rfl ?_
      refine op_loadE (nxlf rfl) sc5 rfl (by assumption) (by first | exact get8 (by omega) | exact get64 (by omega) | exact get32 (by omega)) (by first | exact mem0 | exact mem1 | exact mem2 | exact mem3 | exact mem4 | exact mem5 | exact mem6 | exact mem7 | exact mem8 | exact mem9) rfl ?_
      refine op_assign (nxlf rfl) rfl rfl ?_
      refine op_assign (nxlf rfl) rfl rfl ?_
      refine At.opsNil ?_
      refine At.norm (hk_10 ?_)
      refine At.seq fun K11 hk_11 => ?_
      refine At.region ?_
      refine op_move (nxlf rfl) rfl rfl ?_
      refine op_lenS (nxlf rfl) se22 rfl rfl ?_
      refine op_subI (nxlf rfl) rfl rfl (by omega) (by omega) rfl ?_
      refine op_move (nxlf rfl) rfl rfl ?_
      refine op_subI (nxlf rfl) rfl rfl (by omega) (by omega) rfl ?_
      refine op_assign (nxlf rfl) rfl rfl ?_
      refine At.opsNil ?_
      refine At.norm (hk_11 ?_)
      refine At.drawn [12] [0,1,2,3,4,5,6,7,8,9,10,11,12] (by kernel_rfl) (by kernel_rfl) ?_
      refine op_move (nxof rfl rfl rfl (by kernel_rfl)) rfl rfl ?_
      refine op_quoI (nxof rfl rfl rfl (by kernel_rfl)) rfl rfl (by omega) (by omega) (by omega) rfl ?_
      refine op_idxA (nxof rfl rfl rfl (by kernel_rfl)) ae66 rfl rfl (show _ = ((((n - 1 - k) / 8 : Nat)) : Int) from by omega) (by omega) rfl ?_
      refine op_loadB (nxof rfl rfl rfl (by kernel_rfl)) sc64 rfl B4 (by first | exact get64A (by omega) | rfl) mem1 rfl ?_
      refine op_move (nxof rfl rfl rfl (by kernel_rfl)) rfl rfl ?_
      refine op_conv64 (nxof rfl rfl rfl (by kernel_rfl)) (und_some Try.underlying5) Try.underlying64 rfl (by first | rfl | exact (Int.toNat_of_nonneg (by omega)).symm) rfl ?_
      refine op_move (nxof rfl rfl rfl (by kernel_rfl)) rfl rfl ?_
      refine op_rem (nxof rfl rfl rfl (by kernel_rfl)) rfl rfl (by omega) (by omega) rfl ?_
      refine op_mulI (nxof rfl rfl rfl (by kernel_rfl)) rfl rfl (by omega) (by omega) rfl ?_
      refine op_shlU (nxof rfl rfl rfl (by kernel_rfl)) rfl rfl (show _ = ((((n - 1 - k) % 8 * 8 : Nat)) : Int) from by omega) rfl ?_
      refine op_orU (nxof rfl rfl rfl (by kernel_rfl)) rfl rfl rfl ?_
      refine op_idxA (nxof rfl rfl rfl (by kernel_rfl)) ae66 rfl rfl (show _ = ((((n - 1 - k) / 8 : Nat)) : Int) from by omega) (by omega) rfl ?_
      refine op_store (nxos rfl rfl rfl rfl) sz64 rfl rfl rfl rfl rfl B4 (by simp <;> omega) sel1 (fun N4 B4 => ?_)
      rw [set64A] at B4
      refine At.oneNil ?_
      refine At.inNorm ?_
      refine At.norm (hk_9 ?_)
      refine At.region ?_
      refine op_addI (nxlf rfl) rfl rfl (by omega) (by omega) rfl ?_
      refine op_move (nxlf rfl) rfl rfl ?_
      refine At.opsNil ?_
      refine At.norm ?_
      refine At.perm sel2 ?_
      refine At.perm sel1 ?_
      refine At.perm sel2 ?_
      refine At.back ?_ (.refl _) ⟨k + 1, _, N4, rfl, rfl, rfl, by omega, by simpa using hm, by rw [shl64_of _ (by have := (l.getD k 0).toNat_lt; omega), ← hlen]; exact wfrom_step hm (by omega) (by omega) hv, B4⟩ ?_
      · exact .cons (by first | exact lkI rfl (by omega) | rfl) (.cons (by first | exact lkI rfl (by omega) | rfl) (.cons (by first | exact lkI rfl (by omega) | rfl) (.cons (by first | exact lkI rfl (by omega) | rfl) (.cons (by first | exact lkI rfl (by omega) | rfl) (.cons (by first | exact lkI rfl (by omega) | rfl) .nil)))))
      · omega
    · refine At.exit (At.thenExit (At.thenExit (At.inHit ?_)))
      refine At.norm (hk_5 ?_)
      refine At.seq fun K12 hk_12 => ?_
      refine At.region ?_
      obtain ⟨a, b, c, d, rfl⟩ := four hm
      have hfin : v64 [a, b, c, d] = be l := by
        rw [hv, show k = l.length by omega, List.take_length, Nat.sub_self, Nat.pow_zero, Nat.mul_one]
      change Blk N4 b4 _ [.int .u64 (a.toNat : Int), .int .u64 (b.toNat : Int), .int .u64 (c.toNat : Int), .int .u64 (d.toNat : Int)] at B4
      refine op_loadAggB (ds := [_, _, _, _]) (nxlf rfl) ag66 rfl B4 rfl rfl mem1 rfl ?_
      refine op_store (nxl rfl) sz66 rfl rfl rfl rfl rfl B2 (by simp) sel0 (fun N2 B2 => ?_)
      simp only [setL, List.set] at B2
      refine op_assign (nxlf rfl) rfl rfl ?_
      refine At.opsNil ?_
      refine At.norm (hk_12 ?_)
      refine At.ret (?_)
      refine At.sub (L' := [N2, R]) (.cons_cons _ (.cons _ (.cons_cons _ (.slnil)))) ?_
      refine At.retN (L1 := []) rfl (.cell rfl (res_agg (ds := [_, _, _, _]) ag66 B2 rfl rfl mem0) (.tmp rfl .nil)) rfl (.cons _ (.refl _)) (.refl _) ?_
      exact ⟨a, b, c, d, rfl, rfl, hfin⟩
theorem WBits_f (a b c d : UInt64) : Fn Try.prog 55 #[.agg #[.int .u64 (a.toNat : Int), .int .u64 (b.toNat : Int), .int .u64 (c.toNat : Int), .int .u64 (d.toNat : Int)]] [] [] (fun v L => v = .int .i64 (bitLen (v64 [a, b, c, d]) : Nat) ∧ L = []) := by
  obtain ⟨m, hm⟩ : ∃ m, m = [a, b, c, d] := ⟨_, rfl⟩
  have hm4 : m.length = 4 := by rw [hm]; rfl
  refine Fn.enter (vs := [.agg #[.int .u64 (a.toNat : Int), .int .u64 (b.toNat : Int), .int .u64 (c.toNat : Int), .int .u64 (d.toNat : Int)]]) Try.func55 rfl rfl rfl ?_
  intro E R hR
  change At _ _ E [R] _
  refine At.seq fun K1 hk_1 => ?_
  refine At.region ?_
  refine op_box (nxla rfl) rfl rfl rfl (fun N1 b1 B1 => ?_)
  change Blk N1 b1 _ (u64s [a, b, c, d]) at B1
  rw [← hm] at B1 ⊢
  refine op_assign (nxlf rfl) rfl rfl ?_
  refine At.opsNil ?_
  refine At.norm (hk_1 ?_)
  refine At.seq fun K2 hk_2 => ?_
  refine At.seq fun K3 hk_3 => ?_
  refine At.region ?_
  refine op_assign (nxlf rfl) rfl rfl ?_
  refine At.opsNil ?_
  refine At.norm (hk_3 ?_)
  refine At.block ?_
  refine At.loop (fun fr_ hp_ ms_ => ∃ (j : Nat), fr_ = [(1, .pointer (some ⟨b1, 0, none⟩)), (3, .int .i64 ((j : Int) - 1))] ∧ hp_ = [N1, R] ∧ j = ms_ ∧ (j ≤ 4) ∧ (v64 m = v64 (m.take j))) ?_ (.refl _) ⟨4, rfl, rfl, rfl, by omega, by rw [List.take_of_length_le (by omega)]⟩ ?_
  · exact .cons (by first | exact lkI rfl (by omega) | rfl) (.cons (by first | exact lkI rfl (by omega) | rfl) .nil)
  rintro _ _ _ ⟨j, rfl, rfl, rfl, hj, hv⟩
  refine At.seq fun K4 hk_4 => ?_
  refine At.seq fun K5 hk_5 => ?_
  refine At.region ?_
  refine op_move (nxlf rfl) rfl rfl ?_
  refine op_geq (nxlf rfl) rfl rfl rfl ?_
  refine At.opsNil ?_
  refine At.norm (hk_5 ?_)
  refine At.condP rfl (fun c5 => ?_) (fun c5 => ?_)
  · refine At.skip ?_
    refine At.norm (hk_4 ?_)
    refine At.seq fun K6 hk_6 => ?_
    refine At.block ?_
    refine At.seq fun K7 hk_7 => ?_
    refine At.region ?_
    refine op_move (nxlf rfl) rfl rfl ?_
    refine op_idxA (nxlf rfl) ae66 rfl rfl (show _ = (((j - 1 : Nat)) : Int) from by omega) (by omega) rfl ?_
    refine op_loadB (nxlf rfl) sc64 rfl B1 (by first | exact get64A (by omega) | rfl) mem0 rfl ?_
    refine op_neq (nxlf rfl) rfl rfl rfl ?_
    refine At.opsNil ?_
    refine At.norm (hk_7 ?_)
    refine At.condP rfl (fun c11 => ?_) (fun c11 => ?_)
    · refine At.seq fun K8 hk_8 => ?_
      refine At.region ?_
      refine op_move (nxlf rfl) rfl rfl ?_
      refine op_mulI (nxlf rfl) rfl rfl (by omega) (by omega) rfl ?_
      refine op_move (nxlf rfl) rfl rfl ?_
      refine op_idxA (nxlf rfl) ae66 rfl rfl (show _ = (((j - 1 : Nat)) : Int) from by omega) (by omega) rfl ?_
      refine op_loadB (nxlf rfl) sc64 rfl B1 (by first | exact get64A (by omega) | rfl) mem0 rfl ?_
      refine op_callA (nxla rfl) (.cons rfl .nil) (Len64_f (m.getD (j - 1) 0)) Try.func61 rfl rfl (by simp) rfl ?_
      rintro v17 L17 ⟨rfl, rfl⟩
      change At _ _ _ [N1, R] _
      have h64 := bitLen_le.2 (m.getD (j - 1) 0).toNat_lt
      refine op_addI (nxlf rfl) rfl rfl (by omega) (by omega) rfl ?_
      refine op_assign (nxlf rfl) rfl rfl ?_
      refine At.opsNil ?_
      refine At.norm (hk_8 ?_)
      refine At.ret (At.inRet (At.thenRet (At.thenRet (At.inRet (At.thenRet (?_))))))
      refine At.sub (L' := [R]) (.cons _ (.cons_cons _ (.slnil))) ?_
      refine At.ret1 (L1 := []) rfl (.tmp rfl .nil) (.refl _) (.refl _) ?_
      exact ⟨by rw [← hm, bits_at (k := j - 1) (by omega) (by omega) (by rw [show j - 1 + 1 = j by omega]; exact hv)]; congr 1; omega, rfl⟩
    · refine At.skip ?_
      refine At.inNorm ?_
      refine At.norm (hk_6 ?_)
      refine At.region ?_
      refine op_move (nxlf rfl) rfl rfl ?_
      refine op_subI (nxlf rfl) rfl rfl (by omega) (by omega) rfl ?_
      refine op_assign (nxlf rfl) rfl rfl ?_
      refine At.opsNil ?_
      refine At.norm ?_
      refine At.back ?_ (.refl _) ⟨j - 1, rfl, rfl, rfl, by omega, v64_take_zero (by omega) (by omega) (by rw [show j - 1 + 1 = j by omega]; exact hv)⟩ ?_
      · exact .cons (by first | exact lkI rfl (by omega) | rfl) (.cons (by first | exact lkI rfl (by omega) | rfl) .nil)
      · omega
  · refine At.exit (At.thenExit (At.thenExit (At.inHit ?_)))
    refine At.norm (hk_2 ?_)
    refine At.seq fun K9 hk_9 => ?_
    refine At.region ?_
    refine op_assign (nxlf rfl) rfl rfl ?_
    refine At.opsNil ?_
    refine At.norm (hk_9 ?_)
    refine At.ret (?_)
    refine At.sub (L' := [R]) (.cons _ (.cons_cons _ (.slnil))) ?_
    refine At.ret1 (L1 := []) rfl (.tmp rfl .nil) (.refl _) (.refl _) ?_
    exact ⟨by rw [← hm, hv, show j = 0 by omega]; rfl, rfl⟩
end Go.Proofs.Ytohmmgggaegbbaa
