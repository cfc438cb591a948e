/- package word's Bytes, Short; the reference's N, Short. No condition. -/
import Derived.Test.YtohmmgggaegbbaaYT6
namespace Go.Proofs.Ytohmmgggaegbbaa
set_option linter.unusedVariables false
set_option linter.unusedSimpArgs false
open Go Go.RowKit
theorem nbyte {m : List UInt64} {I K : Nat} (hm : m.length = 4) (h1 : 1 ≤ I) (h2 : I ≤ 4) (h3 : 1 ≤ K) (h4 : K ≤ 8) : UInt8.ofNat (shr64 (m.getD (I - 1) 0) (8 * (K - 1))).toNat = UInt8.ofNat (v64 m / 256 ^ (31 - (8 * (4 - I) + (8 - K)))) := by
  have hq : (8 * (I - 1) + (K - 1)) / 8 < m.length := by omega
  have e := byte_of_limb (l := m) (at_ := 8 * (I - 1) + (K - 1)) hq
  have e1 : (8 * (I - 1) + (K - 1)) / 8 = I - 1 := by omega
  have e2 : (8 * (I - 1) + (K - 1)) % 8 * 8 = 8 * (K - 1) := by omega
  simp only [e1, e2] at e
  rw [shr64, UInt64.toNat_ofNat', Nat.mod_eq_of_lt (Nat.lt_of_le_of_lt (Nat.div_le_self _ _) (UInt64.toNat_lt _)), List.getD_eq_getElem?_getD, List.getElem?_eq_getElem (by omega), Option.getD_some, e]
  congr 3
  omega
theorem rN_f (a b c d : UInt64) : Fn Try.prog 58 #[.agg #[.int .u64 (a.toNat : Int), .int .u64 (b.toNat : Int), .int .u64 (c.toNat : Int), .int .u64 (d.toNat : Int)]] [] [] (fun v L => ∃ M p k, v = .slice p (digsOf (v64 [a, b, c, d])).length k ∧ L = [M] ∧ RSl M 1 p (digsOf (v64 [a, b, c, d])).length k (u32s (digsOf (v64 [a, b, c, d])))) := by
  obtain ⟨m, hm⟩ : ∃ m, m = [a, b, c, d] := ⟨_, rfl⟩
  have hm4 : m.length = 4 := by rw [hm]; rfl
  have hlt : v64 m < 2 ^ 256 := by rw [hm]; exact v64_four_lt a b c d
  refine Fn.enter (vs := [.agg #[.int .u64 (a.toNat : Int), .int .u64 (b.toNat : Int), .int .u64 (c.toNat : Int), .int .u64 (d.toNat : Int)]]) Try.func58 rfl rfl rfl ?_
  intro E R hR
  change At _ _ E [R] _
  refine At.seq fun K1 hk_1 => ?_
  refine At.region ?_
  refine op_box (nxla rfl) rfl rfl rfl (fun N1 b1 B1 => ?_)
  change Blk N1 b1 _ (u64s [a, b, c, d]) at B1
  rw [← hm] at B1 ⊢
  refine op_assign (nxlf rfl) rfl rfl ?_
  refine At.opsNil ?_
  refine At.norm (hk_1 ?_)
  refine At.seq fun K2 hk_2 => ?_
  refine At.region ?_
  refine op_assign (nxlf rfl) rfl rfl ?_
  refine At.opsNil ?_
  refine At.norm (hk_2 ?_)
  refine At.seq fun K3 hk_3 => ?_
  refine At.seq fun K4 hk_4 => ?_
  refine At.region ?_
  refine op_assign (nxlf rfl) rfl rfl ?_
  refine At.opsNil ?_
  refine At.norm (hk_4 ?_)
  refine At.block ?_
  refine At.empty ?_
  refine At.perm sel2 ?_
  refine At.perm sel1 ?_
  refine At.perm sel2 ?_
  refine At.loop (fun fr_ hp_ ms_ => ∃ (I : Nat) (ap : Option Addr) (np cp : Nat) (Np : Heaplet), fr_ = [(1, .pointer (some ⟨b1, 0, none⟩)), (3, .slice ap np cp), (4, .int .i64 ((I : Int) - 1))] ∧ hp_ = [N1, Np, R] ∧ I = ms_ ∧ (I ≤ 4) ∧ (np = 8 * (4 - I)) ∧ (Row Np 5 1 ap np cp (u8s ((bytesN 32 (v64 m)).take (8 * (4 - I)))))) ?_ (.refl _) ⟨4, none, 0, 0, nilH, rfl, rfl, rfl, by omega, by omega, Row.nil _ _ _⟩ ?_
  · exact .cons (by first | exact lkI rfl (by omega) | rfl) (.cons (by first | exact lkI rfl (by omega) | rfl) (.cons (by first | exact lkI rfl (by omega) | rfl) .nil))
  rintro _ _ _ ⟨I, ap, np, cp, Np, rfl, rfl, rfl, hI, hnp, rp⟩
  refine At.seq fun K5 hk_5 => ?_
  refine At.seq fun K6 hk_6 => ?_
  refine At.region ?_
  refine op_move (nxlf rfl) rfl rfl ?_
  refine op_geq (nxlf rfl) rfl rfl rfl ?_
  refine At.opsNil ?_
  refine At.norm (hk_6 ?_)
  refine At.condP rfl (fun c7 => ?_) (fun c7 => ?_)
  · refine At.skip ?_
    refine At.norm (hk_5 ?_)
    refine At.seq fun K7 hk_7 => ?_
    refine At.block ?_
    refine At.seq fun K8 hk_8 => ?_
    refine At.region ?_
    refine op_assign (nxlf rfl) rfl rfl ?_
    refine At.opsNil ?_
    refine At.norm (hk_8 ?_)
    refine At.block ?_
    refine At.loop (fun fr_ hp_ ms_ => ∃ (K : Nat) (aq : Option Addr) (nq cq : Nat) (Nq : Heaplet), fr_ = [(1, .pointer (some ⟨b1, 0, none⟩)), (3, .slice aq nq cq), (4, .int .i64 ((I : Int) - 1)), (5, .int .i64 ((K : Int) - 1))] ∧ hp_ = [N1, Nq, R] ∧ K = ms_ ∧ (K ≤ 8) ∧ (nq = 8 * (4 - I) + (8 - K)) ∧ (Row Nq 5 1 aq nq cq (u8s ((bytesN 32 (v64 m)).take (8 * (4 - I) + (8 - K)))))) ?_ (.refl _) ⟨8, ap, np, cp, Np, rfl, rfl, rfl, by omega, by omega, by rw [Nat.sub_self, Nat.add_zero]; exact rp⟩ ?_
    · exact .cons (by first | exact lkI rfl (by omega) | rfl) (.cons (by first | exact lkI rfl (by omega) | rfl) (.cons (by first | exact lkI rfl (by omega) | rfl) (.cons (by first | exact lkI rfl (by omega) | rfl) .nil)))
    rintro _ _ _ ⟨K, aq, nq, cq, Nq, rfl, rfl, rfl, hK, hnq, rq⟩
    refine At.seq fun K9 hk_9 => ?_
    refine At.seq fun K10 hk_10 => ?_
    refine At.region ?_
    refine op_move (nxlf rfl) rfl rfl ?_
    refine op_geq (nxlf rfl) rfl rfl rfl ?_
    refine At.opsNil ?_
    refine At.norm (hk_10 ?_)
    refine At.condP rfl (fun c11 => ?_) (fun c11 => ?_)
    · refine At.skip ?_
      refine At.norm (hk_9 ?_)
      refine At.seq fun K11 hk_11 => ?_
      refine At.block ?_
      refine At.region ?_
      refine op_move (nxlf rfl) rfl rfl ?_
      refine op_move (nxlf rfl) rfl rfl ?_
      refine op_idxA (nxlf rfl) ae66 rfl rfl (show _ = (((I - 1 : Nat)) : Int) from by omega) (by omega) rfl ?_
      refine op_loadB (nxlf rfl) sc64 rfl B1 (by first | exact get64A (by omega) | rfl) mem0 rfl ?_
      refine op_move (nxlf rfl) rfl rfl ?_
      refine op_mulI (nxlf rfl) rfl rfl (by omega) (by omega) rfl ?_
      refine op_shrU (nxlf rfl) rfl rfl (show _ = (((8 * (K - 1) : Nat)) : Int) from by omega) rfl ?_
      refine op_conv8 (nxlf rfl) (und_some Try.underlying64) Try.underlying5 rfl (by first | rfl | exact (Int.toNat_of_nonneg (by omega)).symm) rfl ?_
      refine op_lit (nxla rfl) Try.underlying22 ze5 sz5 (.cons rfl .nil) rfl rfl (by simp [Value.cells]) rfl rfl rfl (fun N22 a22 r22 => ?_)
      simp only [flatV, List.flatMap_cons, List.flatMap_nil, Value.cells, List.append_nil, List.cons_append, List.nil_append] at r22
      have s22 := r22.rsl
      refine op_append (nxl rfl) Try.underlying22 Try.underlying22 te5 rfl rfl rq (by assumption) (by first | exact mem0 | exact mem1 | exact mem2 | exact mem3 | exact mem4 | exact mem5 | exact mem6 | exact mem7 | exact mem8 | exact mem9) (by first | exact one_u8s _ | exact one_u64s _ | exact one_u32s _ | (intro u hu; simp at hu; subst hu; rfl)) (by omega) (by omega) sel2 rfl (fun N23 a23 p23 r23 => ?_)
      have s23 := r23.rsl
      refine op_assign (nxlf rfl) rfl rfl ?_
      refine At.opsNil ?_
      refine At.inNorm ?_
      refine At.norm (hk_11 ?_)
      refine At.region ?_
      refine op_move (nxlf rfl) rfl rfl ?_
      refine op_subI (nxlf rfl) rfl rfl (by omega) (by omega) rfl ?_
      refine op_assign (nxlf rfl) rfl rfl ?_
      refine At.opsNil ?_
      refine At.norm ?_
      refine At.sub (L' := [N23, N1, R]) (.cons_cons _ (.cons _ (.cons_cons _ (.cons_cons _ (.slnil))))) ?_
      refine At.perm sel2 ?_
      refine At.perm sel1 ?_
      refine At.perm sel2 ?_
      refine At.back ?_ (.refl _) ⟨K - 1, a23, nq + 1, p23, N23, rfl, rfl, rfl, by omega, by omega, by rw [show 8 * (4 - I) + (8 - (K - 1)) = (8 * (4 - I) + (8 - K)) + 1 by omega, bytesN_take_succ (by omega), u8s, List.map_append, ← nbyte hm4 (by omega) (by omega) (by omega) (by omega)]; exact r23⟩ ?_
      · exact .cons (by first | exact lkI rfl (by omega) | rfl) (.cons (by first | exact lkI rfl (by omega) | rfl) (.cons (by first | exact lkI rfl (by omega) | rfl) (.cons (by first | exact lkI rfl (by omega) | rfl) .nil)))
      · omega
    · refine At.exit (At.thenExit (At.thenExit (At.inHit ?_)))
      refine At.inNorm ?_
      refine At.norm (hk_7 ?_)
      refine At.region ?_
      refine op_move (nxlf rfl) rfl rfl ?_
      refine op_subI (nxlf rfl) rfl rfl (by omega) (by omega) rfl ?_
      refine op_assign (nxlf rfl) rfl rfl ?_
      refine At.opsNil ?_
      refine At.norm ?_
      refine At.back ?_ (.refl _) ⟨I - 1, aq, nq, cq, Nq, rfl, rfl, rfl, by omega, by omega, by rw [show 8 * (4 - (I - 1)) = 8 * (4 - I) + (8 - K) by omega]; exact rq⟩ ?_
      · exact .cons (by first | exact lkI rfl (by omega) | rfl) (.cons (by first | exact lkI rfl (by omega) | rfl) (.cons (by first | exact lkI rfl (by omega) | rfl) .nil))
      · omega
  · refine At.exit (At.thenExit (At.thenExit (At.inHit ?_)))
    refine At.norm (hk_3 ?_)
    refine At.seq fun K12 hk_12 => ?_
    refine At.region ?_
    refine op_move (nxlf rfl) rfl rfl ?_
    have sp : RSl Np 1 ap np cp (u8s (bytesN 32 (v64 m))) := by
      have e := rp.rsl
      rwa [show I = 0 by omega, List.take_of_length_le (by simp)] at e
    refine op_callA (nxla rfl) (.cons rfl .nil) (rFrom_f sp (by omega)) Try.func40 rfl rfl (by simp) rfl ?_
    rintro v25 L25 ⟨M25, a25, c25, rfl, rfl, s25⟩
    change At _ _ _ [M25, N1, Np, R] _
    refine op_assign (nxlf rfl) rfl rfl ?_
    refine At.opsNil ?_
    refine At.norm (hk_12 ?_)
    refine At.ret (?_)
    refine At.sub (L' := [M25, R]) (.cons_cons _ (.cons _ (.cons _ (.cons_cons _ (.slnil))))) ?_
    refine At.ret1 (L1 := [M25]) rfl (.tmp rfl .nil) (.refl _) (.refl _) ?_
    rw [be_bytes32 hlt] at s25 ⊢
    rw [← hm]
    exact ⟨M25, a25, c25, rfl, rfl, s25⟩
theorem rShort_f (a b c d : UInt64) : Fn Try.prog 49 #[.agg #[.int .u64 (a.toNat : Int), .int .u64 (b.toNat : Int), .int .u64 (c.toNat : Int), .int .u64 (d.toNat : Int)]] [] [] (fun v L => ∃ M p k, v = .slice p (bytesOf (v64 [a, b, c, d])).length k ∧ L = [M] ∧ Row M 5 1 p (bytesOf (v64 [a, b, c, d])).length k (u8s (bytesOf (v64 [a, b, c, d])))) := by
  have hdl : (digsOf (v64 [a, b, c, d])).length ≤ 8 := by
    rw [length_digsOf]
    exact digLen_le.2 (v64_four_lt a b c d)
  refine Fn.enter (vs := [.agg #[.int .u64 (a.toNat : Int), .int .u64 (b.toNat : Int), .int .u64 (c.toNat : Int), .int .u64 (d.toNat : Int)]]) Try.func49 rfl rfl rfl ?_
  intro E R hR
  change At _ _ E [R] _
  refine At.seq fun K1 hk_1 => ?_
  refine At.region ?_
  refine op_box (nxla rfl) rfl rfl rfl (fun N1 b1 B1 => ?_)
  refine op_assign (nxlf rfl) rfl rfl ?_
  refine At.opsNil ?_
  refine At.norm (hk_1 ?_)
  refine At.seq fun K2 hk_2 => ?_
  refine At.region ?_
  refine op_loadAggB (ds := [_, _, _, _]) (nxlf rfl) ag66 rfl B1 rfl rfl mem0 rfl ?_
  refine op_callA (nxla rfl) (.cons rfl .nil) (rN_f a b c d) Try.func58 rfl rfl (by simp) rfl ?_
  rintro v4 L4 ⟨M4, a4, c4, rfl, rfl, s4⟩
  change At _ _ _ [M4, N1, R] _
  refine op_callA (nxla rfl) (.cons rfl .nil) (Bytes32_f s4 (by omega)) Try.func57 rfl rfl (by simp) rfl ?_
  rintro v5 L5 ⟨M5, a5, c5, rfl, rfl, r5⟩
  change At _ _ _ [M5, M4, N1, R] _
  refine op_assign (nxlf rfl) rfl rfl ?_
  refine At.opsNil ?_
  refine At.norm (hk_2 ?_)
  refine At.ret (?_)
  refine At.sub (L' := [M5, R]) (.cons_cons _ (.cons _ (.cons _ (.cons_cons _ (.slnil))))) ?_
  refine At.ret1 (L1 := [M5]) rfl (.tmp rfl .nil) (.refl _) (.refl _) ?_
  rw [v32_digsOf] at r5 ⊢
  exact ⟨M5, a5, c5, rfl, rfl, r5⟩
end Go.Proofs.Ytohmmgggaegbbaa
