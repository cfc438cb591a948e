/- package word's Bytes, Short. No condition. -/
import Derived.Test.YtohmmgggaegbbaaYT7
namespace Go.Proofs.Ytohmmgggaegbbaa
set_option linter.unusedVariables false
set_option linter.unusedSimpArgs false
open Go Go.RowKit
theorem setL_at (vs : List Value) : ∀ (p cs : List Value), cs.length = vs.length → setL (p ++ cs) p.length vs = p ++ vs := by
  induction vs with
  | nil => intro p cs h; rw [List.eq_nil_of_length_eq_zero h]; rfl
  | cons v t ih =>
    intro p cs h
    match cs, h with
    | c :: cs, h =>
      rw [setL]
      have e : (p ++ c :: cs).set p.length v = (p ++ [v]) ++ cs := by simp
      rw [e]
      have := ih (p ++ [v]) cs (by simpa using h)
      rw [List.length_append] at this
      simpa using this
theorem setL_whole {cs vs : List Value} (h : cs.length = vs.length) : setL cs 0 vs = vs := by simpa using setL_at vs [] cs h
theorem wbyte {m : List UInt64} {k : Nat} (hm : m.length = 4) (h : k < 32) : UInt8.ofNat (shr64 (m.getD ((31 - k) / 8) 0) ((31 - k) % 8 * 8)).toNat = UInt8.ofNat (v64 m / 256 ^ (31 - k)) := by
  have hq : (31 - k) / 8 < m.length := by omega
  rw [shr64, UInt64.toNat_ofNat', Nat.mod_eq_of_lt (Nat.lt_of_le_of_lt (Nat.div_le_self _ _) (UInt64.toNat_lt _)), List.getD_eq_getElem?_getD, List.getElem?_eq_getElem hq, Option.getD_some, byte_of_limb hq]
theorem RSl.arr8 {N : Heaplet} {b lo : Nat} {e : TypeId} {L : List UInt8} (h : Blk N b e (u8s L)) (hl : L.length = 32) (hlo : lo ≤ 32) : RSl N 1 (some (if 32 = lo then ⟨b, 0, none⟩ else ⟨b, 0 + lo * 1, none⟩)) (32 - lo) (32 - lo) (u8s (L.drop lo)) := by
  refine ⟨by simp [u8s]; omega, Nat.le_refl _, Nat.le_trans (by omega : 32 - lo ≤ 32) (by decide), fun h0 => ⟨b, lo, by rw [if_neg (by omega), Nat.zero_add, Nat.mul_one], ?_⟩⟩
  have e := h.rng.sub (o := lo) (ds := u8s (L.drop lo)) fun i hi => by
    rw [List.getElem?_eq_getElem (by simp [u8s] at hi ⊢; omega)]
    simp [u8s]
  rwa [Nat.zero_add] at e
set_option maxRecDepth 100000 in
theorem WBytes_f (a b c d : UInt64) : Fn Try.prog 54 #[.agg #[.int .u64 (a.toNat : Int), .int .u64 (b.toNat : Int), .int .u64 (c.toNat : Int), .int .u64 (d.toNat : Int)]] [] [] (fun v L => v = .agg (u8s (bytesN 32 (v64 [a, b, c, d]))).toArray ∧ L = []) := by
  obtain ⟨m, hm⟩ : ∃ m, m = [a, b, c, d] := ⟨_, rfl⟩
  have hm4 : m.length = 4 := by rw [hm]; rfl
  refine Fn.enter (vs := [.agg #[.int .u64 (a.toNat : Int), .int .u64 (b.toNat : Int), .int .u64 (c.toNat : Int), .int .u64 (d.toNat : Int)]]) Try.func54 rfl rfl rfl ?_
  intro E R hR
  change At _ _ E [R] _
  refine At.seq fun K1 hk_1 => ?_
  refine At.region ?_
  refine op_box (nxla rfl) rfl rfl rfl (fun N1 b1 B1 => ?_)
  change Blk N1 b1 _ (u64s [a, b, c, d]) at B1
  rw [← hm] at B1 ⊢
  refine op_alloc (nxla rfl) ze100 rfl (fun N2 b2 B2 => ?_)
  change Blk N2 b2 _ [.int .u8 0, .int .u8 0, .int .u8 0, .int .u8 0, .int .u8 0, .int .u8 0, .int .u8 0, .int .u8 0, .int .u8 0, .int .u8 0, .int .u8 0, .int .u8 0, .int .u8 0, .int .u8 0, .int .u8 0, .int .u8 0, .int .u8 0, .int .u8 0, .int .u8 0, .int .u8 0, .int .u8 0, .int .u8 0, .int .u8 0, .int .u8 0, .int .u8 0, .int .u8 0, .int .u8 0, .int .u8 0, .int .u8 0, .int .u8 0, .int .u8 0, .int .u8 0] at B2
  refine At.opsNil ?_
  refine At.norm (hk_1 ?_)
  refine At.seq fun K2 hk_2 => ?_
  refine At.region ?_
  refine op_alloc (nxla rfl) ze100 rfl (fun N3 b3 B3 => ?_)
  change Blk N3 b3 _ [.int .u8 0, .int .u8 0, .int .u8 0, .int .u8 0, .int .u8 0, .int .u8 0, .int .u8 0, .int .u8 0, .int .u8 0, .int .u8 0, .int .u8 0, .int .u8 0, .int .u8 0, .int .u8 0, .int .u8 0, .int .u8 0, .int .u8 0, .int .u8 0, .int .u8 0, .int .u8 0, .int .u8 0, .int .u8 0, .int .u8 0, .int .u8 0, .int .u8 0, .int .u8 0, .int .u8 0, .int .u8 0, .int .u8 0, .int .u8 0, .int .u8 0, .int .u8 0] at B3
  change Blk N3 b3 _ (u8s (List.replicate 32 0)) at B3
  rw [← bytesSt_zero 32 (v64 m)] at B3
  refine At.opsNil ?_
  refine At.norm (hk_2 ?_)
  refine At.seq fun K3 hk_3 => ?_
  refine At.seq fun K4 hk_4 => ?_
  refine At.region ?_
  refine op_move (nxlf rfl) rfl rfl ?_
  refine At.opsNil ?_
  refine At.norm (hk_4 ?_)
  refine At.block ?_
  refine At.perm sel3 ?_
  refine At.perm sel1 ?_
  refine At.perm sel2 ?_
  refine At.perm sel3 ?_
  refine At.loop (fun fr_ hp_ ms_ => ∃ (k : Nat) (N3 : Heaplet), fr_ = [(1, .pointer (some ⟨b1, 0, none⟩)), (2, .pointer (some ⟨b2, 0, none⟩)), (3, .pointer (some ⟨b3, 0, none⟩)), (6, .int .i64 (k : Int))] ∧ hp_ = [N1, N2, N3, R] ∧ 32 - k = ms_ ∧ (k ≤ 32) ∧ (Blk N3 b3 100 (u8s (bytesSt 32 (v64 m) k)))) ?_ (.refl _) ⟨0, N3, rfl, rfl, rfl, by omega, B3⟩ ?_
  · exact .cons (by first | exact lkI rfl (by omega) | rfl) (.cons (by first | exact lkI rfl (by omega) | rfl) (.cons (by first | exact lkI rfl (by omega) | rfl) (.cons (by first | exact lkI rfl (by omega) | rfl) .nil)))
  rintro _ _ _ ⟨k, N3, rfl, rfl, rfl, hk, B3⟩
  have hbl := length_bytesSt (m := 32) (N := v64 m) hk
  refine At.seq fun K5 hk_5 => ?_
  refine At.region ?_
  refine op_lss (nxlf rfl) rfl rfl rfl ?_
  refine At.opsNil ?_
  refine At.norm (hk_5 ?_)
  refine At.seq fun K6 hk_6 => ?_
  refine At.condP rfl (fun c7 => ?_) (fun c7 => ?_)
  · refine At.skip ?_
    refine At.norm (hk_6 ?_)
    refine At.seq fun K7 hk_7 => ?_
    refine At.block ?_
    refine At.seq fun K8 hk_8 => ?_
    refine At.region ?_
    refine op_move (nxlf rfl) rfl rfl ?_
    refine op_assign (nxlf rfl) rfl rfl ?_
    refine At.opsNil ?_
    refine At.norm (hk_8 ?_)
    refine At.seq fun K9 hk_9 => ?_
    refine At.region ?_
    refine op_move (nxlf rfl) rfl rfl ?_
    refine op_subI (nxlf rfl) rfl rfl (by omega) (by omega) rfl ?_
    refine op_assign (nxlf rfl) rfl rfl ?_
    refine At.opsNil ?_
    refine At.norm (hk_9 ?_)
    refine At.region ?_
    refine op_move (nxlf rfl) rfl rfl ?_
    refine op_move (nxlf rfl) rfl rfl ?_
    refine op_quoI (nxlf rfl) rfl rfl (by omega) (by omega) (by omega) rfl ?_
    refine op_idxA (nxlf rfl) ae66 rfl rfl (show _ = ((((31 - k) / 8 : Nat)) : Int) from by omega) (by omega) rfl ?_
    refine op_loadB (nxlf rfl) sc64 rfl B1 (by first | exact get64A (by omega) | rfl) mem0 rfl ?_
    refine op_move (nxlf rfl) rfl rfl ?_
    refine op_rem (nxlf rfl) rfl rfl (by omega) (by omega) rfl ?_
    refine op_mulI (nxlf rfl) rfl rfl (by omega) (by omega) rfl ?_
    refine op_shrU (nxlf rfl) rfl rfl (show _ = ((((31 - k) % 8 * 8 : Nat)) : Int) from by omega) rfl ?_
    refine op_conv8 (nxlf rfl) (und_some Try.underlying64) Try.underlying5 rfl (by first | rfl | exact (Int.toNat_of_nonneg (by omega)).symm) rfl ?_
    refine op_idxA (nxlf rfl) ae100 rfl rfl (show _ = (((k : Nat)) : Int) from by omega) (by omega) rfl ?_
    refine op_store (nxl rfl) sz5 rfl rfl rfl rfl rfl B3 (by simp <;> omega) sel2 (fun N3 B3 => ?_)
    rw [set8A] at B3
    refine At.opsNil ?_
    refine At.inNorm ?_
    refine At.norm (hk_7 ?_)
    refine At.region ?_
    refine op_addI (nxlf rfl) rfl rfl (by omega) (by omega) rfl ?_
    refine op_move (nxlf rfl) rfl rfl ?_
    refine At.opsNil ?_
    refine At.norm ?_
    refine At.perm sel3 ?_
    refine At.perm sel1 ?_
    refine At.perm sel3 ?_
    refine At.perm sel3 ?_
    refine At.back ?_ (.refl _) ⟨k + 1, N3, rfl, rfl, rfl, by omega, by rw [bytesSt_succ (by omega), show 32 - 1 - k = 31 - k by omega, ← wbyte hm4 (by omega)]; exact B3⟩ ?_
    · exact .cons (by first | exact lkI rfl (by omega) | rfl) (.cons (by first | exact lkI rfl (by omega) | rfl) (.cons (by first | exact lkI rfl (by omega) | rfl) (.cons (by first | exact lkI rfl (by omega) | rfl) .nil)))
    · omega
  · refine At.exit (At.thenExit (At.thenExit (At.inHit ?_)))
    refine At.norm (hk_3 ?_)
    refine At.seq fun K10 hk_10 => ?_
    refine At.region ?_
    have hk32 : k = 32 := by omega
    rw [hk32, bytesSt_all] at B3
    refine op_loadAggB (ds := u8s (bytesN 32 (v64 m))) (nxlf rfl) ag100 rfl B3 (by first | (rw [List.drop_zero, List.take_of_length_le (by first | (simp; done) | (simp; omega))]; done) | rfl) (by first | (simp; done) | (simp; omega)) mem2 rfl ?_
    refine op_store (nxl rfl) sz100 rfl rfl rfl rfl rfl B2 (by simp) sel1 (fun N2 B2 => ?_)
    rw [setL_whole (by simp)] at B2
    refine At.opsNil ?_
    refine At.norm (hk_10 ?_)
    refine At.ret (?_)
    refine At.sub (L' := [N2, R]) (.cons_cons _ (.cons _ (.cons _ (.cons_cons _ (.slnil))))) ?_
    refine At.ret1 (L1 := []) rfl (.cell rfl (res_agg (ds := u8s (bytesN 32 (v64 m))) ag100 B2 (by first | (rw [List.drop_zero, List.take_of_length_le (by first | (simp; done) | (simp; omega))]; done) | rfl) (by first | (simp; done) | (simp; omega)) mem0) .nil) (.cons _ (.refl _)) (.refl _) ?_
    exact ⟨by rw [← hm], rfl⟩
set_option maxRecDepth 100000 in
theorem WShort_f (a b c d : UInt64) : Fn Try.prog 45 #[.agg #[.int .u64 (a.toNat : Int), .int .u64 (b.toNat : Int), .int .u64 (c.toNat : Int), .int .u64 (d.toNat : Int)]] [] [] (fun v L => ∃ M p k, v = .slice p (bytesOf (v64 [a, b, c, d])).length k ∧ L = [M] ∧ Row M 5 1 p (bytesOf (v64 [a, b, c, d])).length k (u8s (bytesOf (v64 [a, b, c, d])))) := by
  have hlt := v64_four_lt a b c d
  have hbl := bitLen_le.2 hlt
  have hlen := length_bytesOf (v64 [a, b, c, d])
  have hdr := bytes_drop32 hlt
  refine Fn.enter (vs := [.agg #[.int .u64 (a.toNat : Int), .int .u64 (b.toNat : Int), .int .u64 (c.toNat : Int), .int .u64 (d.toNat : Int)]]) Try.func45 rfl rfl rfl ?_
  intro E R hR
  change At _ _ E [R] _
  refine At.seq fun K1 hk_1 => ?_
  refine At.region ?_
  refine op_box (nxla rfl) rfl rfl rfl (fun N1 b1 B1 => ?_)
  refine op_assign (nxlf rfl) rfl rfl ?_
  refine At.opsNil ?_
  refine At.norm (hk_1 ?_)
  refine At.seq fun K2 hk_2 => ?_
  refine At.region ?_
  refine op_loadAggB (ds := [_, _, _, _]) (nxlf rfl) ag66 rfl B1 rfl rfl mem0 rfl ?_
  refine op_callA (nxla rfl) (.cons rfl .nil) (WBytes_f a b c d) Try.func54 rfl rfl (by simp) rfl ?_
  rintro v6 L6 ⟨rfl, rfl⟩
  change At _ _ _ [N1, R] _
  refine op_alloc (nxla rfl) ze100 rfl (fun N3 b3 B3 => ?_)
  change Blk N3 b3 _ [.int .u8 0, .int .u8 0, .int .u8 0, .int .u8 0, .int .u8 0, .int .u8 0, .int .u8 0, .int .u8 0, .int .u8 0, .int .u8 0, .int .u8 0, .int .u8 0, .int .u8 0, .int .u8 0, .int .u8 0, .int .u8 0, .int .u8 0, .int .u8 0, .int .u8 0, .int .u8 0, .int .u8 0, .int .u8 0, .int .u8 0, .int .u8 0, .int .u8 0, .int .u8 0, .int .u8 0, .int .u8 0, .int .u8 0, .int .u8 0, .int .u8 0, .int .u8 0] at B3
  refine op_store (nxl rfl) sz100 rfl rfl rfl rfl rfl B3 (by simp) sel0 (fun N3 B3 => ?_)
  rw [setL_whole (by simp)] at B3
  refine At.opsNil ?_
  refine At.norm (hk_2 ?_)
  refine At.seq fun K3 hk_3 => ?_
  refine At.region ?_
  refine op_loadAggB (ds := [_, _, _, _]) (nxlf rfl) ag66 rfl B1 rfl rfl mem1 rfl ?_
  refine op_callA (nxla rfl) (.cons rfl .nil) (WBits_f a b c d) Try.func55 rfl rfl (by simp) rfl ?_
  rintro v8 L8 ⟨rfl, rfl⟩
  change At _ _ _ [N3, N1, R] _
  refine op_addI (nxlf rfl) rfl rfl (by omega) (by omega) rfl ?_
  refine op_quoI (nxlf rfl) rfl rfl (by omega) (by omega) (by omega) rfl ?_
  refine op_assign (nxlf rfl) rfl rfl ?_
  refine At.opsNil ?_
  refine At.norm (hk_3 ?_)
  refine At.seq fun K4 hk_4 => ?_
  refine At.region ?_
  refine op_move (nxlf rfl) rfl rfl ?_
  refine op_subI (nxlf rfl) rfl rfl (by omega) (by omega) rfl ?_
  refine op_sliceA (nxlf rfl) ae100 rfl (.some rfl (show _ = (((32 - (bitLen (v64 [a, b, c, d]) + 7) / 8 : Nat)) : Int) from by omega)) .none .none (by omega) (by omega) (by omega) (by simp) rfl ?_
  have s13 := RSl.arr8 B3 (by simp) (show 32 - (bitLen (v64 [a, b, c, d]) + 7) / 8 ≤ 32 by omega)
  rw [hdr] at s13
  refine op_append0 (nxla rfl) Try.underlying22 Try.underlying22 te5 rfl rfl (by assumption) (by first | exact mem0 | exact mem1 | exact mem2 | exact mem3 | exact mem4 | exact mem5 | exact mem6 | exact mem7 | exact mem8 | exact mem9) (by first | exact one_u8s _ | exact one_u64s _ | exact one_u32s _ | (intro u hu; simp at hu; subst hu; rfl)) (by omega) (by omega) rfl (fun N14 a14 p14 r14 => ?_)
  have s14 := r14.rsl
  refine op_assign (nxlf rfl) rfl rfl ?_
  refine At.opsNil ?_
  refine At.norm (hk_4 ?_)
  refine At.ret (?_)
  refine At.sub (L' := [N14, R]) (.cons_cons _ (.cons _ (.cons _ (.cons_cons _ (.slnil))))) ?_
  refine At.ret1 (L1 := [N14]) rfl (.tmp rfl .nil) (.refl _) (.refl _) ?_
  rw [show 32 - (32 - (bitLen (v64 [a, b, c, d]) + 7) / 8) = (bytesOf (v64 [a, b, c, d])).length by omega] at r14 ⊢
  exact ⟨N14, a14, p14, rfl, rfl, r14⟩
end Go.Proofs.Ytohmmgggaegbbaa
