/- Several texts in one: see the remarks ahead of each part. No condition but those told there. -/
import Derived.Test.YtljacjjeinmfnaaU9
import Derived.Test.YtljacjjeinmfnaaU7
/- Package hash: Keccak-256 of any bytes. Condition: at most 2^40 bytes. -/
namespace Go.Proofs.Ytljacjjeinmfnaa
set_option linter.unusedVariables false
set_option linter.unusedSimpArgs false
open Go Go.RowKit
theorem or128 (x : UInt8) : bits .or .u8 (x.toNat : Int) 128 = ((x ||| 128).toNat : Int) := by
  have h : ∀ i : Fin 256, bits .or .u8 (i.1 : Int) 128 = (((UInt8.ofNat i.1) ||| 128).toNat : Int) := by decide +kernel
  have e : UInt8.ofNat x.toNat = x := by
    apply UInt8.toNat_inj.1
    rw [UInt8.toNat_ofNat']; exact Nat.mod_eq_of_lt x.toNat_lt
  have := h ⟨x.toNat, x.toNat_lt⟩
  simp only [e] at this
  exact this
theorem all8 (l : List UInt8) : (u8s l).all (·.oneCell') = true := List.all_eq_true.2 (one_u8s l)
theorem blk8 {N : Heaplet} {b : Nat} {e : TypeId} {L : List UInt8} {k : Nat} (h : Blk N b e (u8s L)) (hk : L.length = k) (hm : k ≤ 9223372036854775807) : RSl N 1 (some ⟨b, 0 + 0 * 1, none⟩) (k - 0) (k - 0) (u8s L) := by
  refine ⟨by simp [u8s, hk], Nat.le_refl _, by unfold maxLen; omega, fun h0 => ⟨b, 0, rfl, h.rng⟩⟩
set_option maxRecDepth 100000 in
set_option maxHeartbeats 1000000 in
theorem FAbsorb_f {N M : Heaplet} {b0 : Nat} {e0 : TypeId} {a : List UInt64} {T : List Value} {ao : Option Addr} {n cap : Nat} {l : List UInt8} (ha : a.length = 25) (B0 : Blk N b0 e0 (u64s a ++ T)) (hb : RSl M 1 ao n cap (u8s l)) (hn : n = 136) : Fn Try.prog 93 #[.pointer (some ⟨b0, 0, none⟩), .slice ao n cap] [N] [M] (fun v L => ∃ M, v = .tuple #[] ∧ L = [M] ∧ Blk M b0 e0 (u64s (absorb a l) ++ T)) := by
  obtain ⟨N0, h0⟩ : ∃ N0, N0 = N := ⟨_, rfl⟩
  rw [← h0] at B0 ⊢
  have hlen := hb.len8
  have hcap := hb.cap63
  refine Fn.enter (vs := [.pointer (some ⟨b0, 0, none⟩), .slice ao n cap]) Try.func93 rfl rfl rfl ?_
  intro E R hR
  have hb := hb.le (hR M (by simp))
  change At _ _ E [N0, R] _
  refine At.seq fun K1 hk_1 => ?_
  refine At.seq fun K2 hk_2 => ?_
  refine At.region ?_
  refine op_move (nxlf rfl) rfl rfl ?_
  refine op_lenS (nxlf rfl) se27 rfl rfl ?_
  refine op_move (nxlf rfl) rfl rfl ?_
  refine At.opsNil ?_
  refine At.norm (hk_2 ?_)
  refine At.block ?_
  change Blk N0 b0 _ (u64s (abI a l 0) ++ T) at B0
  refine At.loop (fun fr_ hp_ ms_ => ∃ (i : Nat) (N0 : Heaplet), fr_ = [(0, .pointer (some ⟨b0, 0, none⟩)), (6, .slice ao n cap), (7, .int .i64 (n : Int)), (8, .int .i64 (i : Int))] ∧ hp_ = [N0, R] ∧ 136 - i = ms_ ∧ (i ≤ 136) ∧ (Blk N0 b0 e0 (u64s (abI a l i) ++ T))) ?_ (.refl _) ⟨0, N0, rfl, rfl, rfl, by omega, B0⟩ ?_
  · exact .cons (by first | exact lkI rfl (by omega) | rfl) (.cons (by first | exact lkI rfl (by omega) | rfl) (.cons (by first | exact lkI rfl (by omega) | rfl) (.cons (by first | exact lkI rfl (by omega) | rfl) .nil)))
  rintro _ _ _ ⟨i, N0, rfl, rfl, rfl, hi, B0⟩
  have hal := (abI_len a l i).trans ha
  refine At.seq fun K3 hk_3 => ?_
  refine At.region ?_
  refine op_lss (nxlf rfl) rfl rfl rfl ?_
  refine At.opsNil ?_
  refine At.norm (hk_3 ?_)
  refine At.seq fun K4 hk_4 => ?_
  refine At.condP rfl (fun c9 => ?_) (fun c9 => ?_)
  · refine At.skip ?_
    refine At.norm (hk_4 ?_)
    refine At.seq fun K5 hk_5 => ?_
    refine At.block ?_
    refine At.seq fun K6 hk_6 => ?_
    refine At.region ?_
    refine op_move (nxlf rfl) rfl rfl ?_
    refine op_idx1 (nxlf rfl) se27 rfl rfl hb (show _ = (((i : Nat)) : Int) from by omega) (by omega) rfl ?_
    refine op_loadE (nxlf rfl) sc5 rfl hb (by first | exact get8 (by omega) | exact get64 (by omega) | exact get32 (by omega)) (by first | exact mem0 | exact mem1 | exact mem2 | exact mem3 | exact mem4 | exact mem5 | exact mem6 | exact mem7 | exact mem8 | exact mem9) rfl ?_
    refine op_assign (nxlf rfl) rfl rfl ?_
    refine op_assign (nxlf rfl) rfl rfl ?_
    refine At.opsNil ?_
    refine At.norm (hk_6 ?_)
    refine At.drawn [15] [0,1,2,3,4,5,6,7,8,9,10,11,12,13,14,15] (by kernel_rfl) (by kernel_rfl) ?_
    refine op_move (nxof rfl rfl rfl (by kernel_rfl)) rfl rfl ?_
    refine op_move (nxof rfl rfl rfl (by kernel_rfl)) rfl rfl ?_
    refine op_quoI (nxof rfl rfl rfl (by kernel_rfl)) rfl rfl (by omega) (by omega) (by omega) rfl ?_
    refine op_nilChk (nxof rfl rfl rfl (by kernel_rfl)) rfl rfl ?_
    refine op_idxA (nxof rfl rfl rfl (by kernel_rfl)) ae142 rfl rfl (show _ = (((i / 8 : Nat)) : Int) from by omega) (by omega) rfl ?_
    refine op_loadB (nxof rfl rfl rfl (by kernel_rfl)) sc24 rfl B0 (by first | exact get64A (by omega) | rfl | exact getT (by omega)) mem0 rfl ?_
    refine op_move (nxof rfl rfl rfl (by kernel_rfl)) rfl rfl ?_
    refine op_conv64 (nxof rfl rfl rfl (by kernel_rfl)) (und_some Try.underlying5) Try.underlying24 rfl (show _ = ((((l.getD i 0).toNat : Nat)) : Int) from by omega) rfl ?_
    refine op_move (nxof rfl rfl rfl (by kernel_rfl)) rfl rfl ?_
    refine op_rem (nxof rfl rfl rfl (by kernel_rfl)) rfl rfl (by omega) (by omega) rfl ?_
    refine op_mulI (nxof rfl rfl rfl (by kernel_rfl)) rfl rfl (by omega) (by omega) rfl ?_
    refine op_shlU (nxof rfl rfl rfl (by kernel_rfl)) rfl rfl (show _ = (((i % 8 * 8 : Nat)) : Int) from by omega) rfl ?_
    refine op_xorU (nxof rfl rfl rfl (by kernel_rfl)) rfl rfl rfl ?_
    refine op_nilChk (nxof rfl rfl rfl (by kernel_rfl)) rfl rfl ?_
    refine op_idxA (nxof rfl rfl rfl (by kernel_rfl)) ae142 rfl rfl (show _ = (((i / 8 : Nat)) : Int) from by omega) (by omega) rfl ?_
    refine op_store (nxos rfl rfl rfl rfl) sz24 rfl rfl rfl rfl rfl B0 (by rw [lenT]; simp; omega) sel0 (fun N0 B0 => ?_)
    rw [setT (by omega)] at B0
    refine At.oneNil ?_
    refine At.inNorm ?_
    refine At.norm (hk_5 ?_)
    refine At.region ?_
    refine op_addI (nxlf rfl) rfl rfl (by omega) (by omega) rfl ?_
    refine op_move (nxlf rfl) rfl rfl ?_
    refine At.opsNil ?_
    refine At.norm ?_
    refine At.back ?_ (.refl _) ⟨i + 1, N0, rfl, rfl, rfl, by omega, B0⟩ ?_
    · exact .cons (by first | exact lkI rfl (by omega) | rfl) (.cons (by first | exact lkI rfl (by omega) | rfl) (.cons (by first | exact lkI rfl (by omega) | rfl) (.cons (by first | exact lkI rfl (by omega) | rfl) .nil)))
    · omega
  · refine At.exit (At.thenExit (At.thenExit (At.inHit ?_)))
    refine At.norm (hk_1 ?_)
    refine At.region ?_
    obtain rfl : i = 136 := by omega
    refine op_move (nxlf rfl) rfl rfl ?_
    refine op_call (nxl rfl) (.cons rfl .nil) (FPermute_f hal B0) (F := [R]) Try.func118 rfl rfl (.refl _) (by simp) rfl ?_
    rintro v30 L30 ⟨N0, rfl, rfl, B0⟩
    change At _ _ _ [N0, R] _
    refine At.opsNil ?_
    refine At.retNE (L1 := [N0]) rfl .nil rfl (.refl _) (.refl _) ?_
    exact ⟨N0, rfl, rfl, B0⟩
set_option maxRecDepth 100000 in
theorem FNew_f : Fn Try.prog 92 #[] [] [] (fun v L => ∃ M b e, v = .pointer (some ⟨b, 0, none⟩) ∧ L = [M] ∧ Blk M b e (u64s (List.replicate 25 0) ++ [.slice none 0 0])) := by
  refine Fn.enter (vs := []) Try.func92 rfl rfl rfl ?_
  intro E R hR
  change At _ _ E [R] _
  refine At.seq fun K1 hk_1 => ?_
  refine At.region ?_
  refine op_assign (nxlf rfl) rfl rfl ?_
  refine At.opsNil ?_
  refine At.norm (hk_1 ?_)
  refine At.seq fun K2 hk_2 => ?_
  refine At.region ?_
  refine op_build (out := [.int .u64 0, .int .u64 0, .int .u64 0, .int .u64 0, .int .u64 0, .int .u64 0, .int .u64 0, .int .u64 0, .int .u64 0, .int .u64 0, .int .u64 0, .int .u64 0, .int .u64 0, .int .u64 0, .int .u64 0, .int .u64 0, .int .u64 0, .int .u64 0, .int .u64 0, .int .u64 0, .int .u64 0, .int .u64 0, .int .u64 0, .int .u64 0, .int .u64 0, .slice none 0 0]) (nxlf rfl) ze144 pl144 .nil rfl rfl ?_
  refine op_box (nxla rfl) rfl rfl rfl (fun N2 b2 B2 => ?_)
  refine op_assign (nxlf rfl) rfl rfl ?_
  refine At.opsNil ?_
  refine At.norm (hk_2 ?_)
  refine At.ret (?_)
  refine At.ret1 (L1 := [N2]) rfl (.tmp rfl .nil) (.refl _) (.refl _) ?_
  exact ⟨N2, b2, _, rfl, rfl, B2⟩
theorem copy_last {r : List UInt8} {o k : Nat} (ho : o = 0) (hk : k = r.length) (hr : r.length ≤ 136) : (u8s (List.replicate 136 0)).take o ++ (u8s r).take k ++ (u8s (List.replicate 136 0)).drop (o + k) = u8s (r ++ List.replicate (136 - r.length) 0) := by
  subst ho; subst hk
  rw [List.take_zero, List.nil_append, Nat.zero_add, List.take_of_length_le (by simp [u8s]), show u8s (List.replicate 136 0) = List.replicate 136 (vb 0) from List.map_replicate, List.drop_replicate, u8s, u8s, List.map_append, List.map_replicate]
theorem padZ_len {r : List UInt8} (hr : r.length < 136) : (r ++ List.replicate (136 - r.length) 0).length = 136 := by
  rw [List.length_append, List.length_replicate]; omega
theorem padL_len {r : List UInt8} (hr : r.length < 136) : (padL r).length = 136 := by
  unfold padL
  simp only [List.length_set]
  exact padZ_len hr
theorem zeBlk : zer Try.prog 174 = some (.agg (u8s (List.replicate 136 0)).toArray) := by kernel_rfl
set_option maxRecDepth 100000 in
set_option maxHeartbeats 2000000 in
theorem FSum_f {N M : Heaplet} {b0 : Nat} {e0 : TypeId} {a : List UInt64} {ao : Option Addr} {n cap : Nat} {r : List UInt8} (ha : a.length = 25) (B0 : Blk N b0 e0 (u64s a ++ [.slice ao n cap])) (hb : RSl M 1 ao n cap (u8s r)) (hn : n < 136) : Fn Try.prog 94 #[.pointer (some ⟨b0, 0, none⟩)] [N] [M] (fun v L => v = .agg (u8s (ouI (absorb a (padL r)) 32)).toArray ∧ L = []) := by
  obtain ⟨N0, h0⟩ : ∃ N0, N0 = N := ⟨_, rfl⟩
  rw [← h0] at B0 ⊢
  have hlen := hb.len8
  have hcap := hb.cap63
  have hrest : (u64s a ++ [Value.slice ao n cap])[0 + 25]? = some (.slice ao n cap) := by
    rw [List.getElem?_append_right (by simp [u64s, ha]), show 0 + 25 - (u64s a).length = 0 by simp [u64s, ha]]; rfl
  have hlan : ((u64s a ++ [Value.slice ao n cap]).drop (0 + 0)).take 25 = u64s a := by
    rw [List.drop_zero, List.take_append_of_le_length (by simp [u64s, ha]), List.take_of_length_le (by simp [u64s, ha])]
  have hpz := padZ_len (r := r) (by omega)
  have hpl := padL_len (r := r) (by omega)
  obtain ⟨A, hA⟩ : ∃ A, absorb a (padL r) = A := ⟨_, rfl⟩
  have hAl : A.length = 25 := by rw [← hA, absorb_len]; exact ha
  refine Fn.enter (vs := [.pointer (some ⟨b0, 0, none⟩)]) Try.func94 rfl rfl rfl ?_
  intro E R hR
  have hb := hb.le (hR M (by simp))
  change At _ _ E [N0, R] _
  refine At.seq fun K1 hk_1 => ?_
  refine At.region ?_
  refine op_alloc (nxla rfl) ze39 rfl (fun N2 b2 B2 => ?_)
  change Blk N2 b2 _ [.int .u8 0, .int .u8 0, .int .u8 0, .int .u8 0, .int .u8 0, .int .u8 0, .int .u8 0, .int .u8 0, .int .u8 0, .int .u8 0, .int .u8 0, .int .u8 0, .int .u8 0, .int .u8 0, .int .u8 0, .int .u8 0, .int .u8 0, .int .u8 0, .int .u8 0, .int .u8 0, .int .u8 0, .int .u8 0, .int .u8 0, .int .u8 0, .int .u8 0, .int .u8 0, .int .u8 0, .int .u8 0, .int .u8 0, .int .u8 0, .int .u8 0, .int .u8 0] at B2
  refine At.opsNil ?_
  refine At.norm (hk_1 ?_)
  refine At.seq fun K2 hk_2 => ?_
  refine At.region ?_
  refine op_alloc (nxla rfl) zeBlk rfl (fun N3 b3 B3 => ?_)
  change Blk N3 b3 _ (u8s (List.replicate 136 0)) at B3
  refine At.opsNil ?_
  refine At.norm (hk_2 ?_)
  refine At.seq fun K3 hk_3 => ?_
  refine At.drawn [5] [0,1,2,3,4,5] (by kernel_rfl) (by kernel_rfl) ?_
  refine op_sliceA (nxof rfl rfl rfl (by kernel_rfl)) ae174 rfl .none .none .none (by omega) (by omega) (by omega) (by simp) rfl ?_
  refine op_move (nxof rfl rfl rfl (by kernel_rfl)) rfl rfl ?_
  refine op_nilChk (nxof rfl rfl rfl (by kernel_rfl)) rfl rfl ?_
  refine op_fieldAddr (nxof rfl rfl rfl (by kernel_rfl)) fl144_1 rfl rfl ?_
  refine op_loadB (nxof rfl rfl rfl (by kernel_rfl)) sc27 rfl B0 (by first | rfl | exact hrest) mem2 rfl ?_
  refine op_copyB (nxos rfl rfl rfl rfl) se27 rfl rfl B3 hb (by first | exact mem0 | exact mem1 | exact mem2 | exact mem3 | exact mem4 | exact mem5 | exact mem6 | exact mem7 | exact mem8 | exact mem9) (by first | exact one_u8s _ | exact one_u64s _ | exact one_u32s _ | (intro u hu; simp at hu; subst hu; rfl)) (by simp [u8s]; omega) sel0 rfl (fun N3 B3 => ?_)
  rw [copy_last rfl (by omega) (by omega)] at B3
  refine At.oneNil ?_
  refine At.norm (hk_3 ?_)
  refine At.seq fun K4 hk_4 => ?_
  refine At.region ?_
  refine op_move (nxlf rfl) rfl rfl ?_
  refine op_nilChk (nxlf rfl) rfl rfl ?_
  refine op_fieldAddr (nxlf rfl) fl144_1 rfl rfl ?_
  refine op_loadB (nxlf rfl) sc27 rfl B0 (by first | rfl | exact hrest) mem2 rfl ?_
  refine op_lenS (nxlf rfl) se27 rfl rfl ?_
  refine op_idxA (nxlf rfl) ae174 rfl rfl (show _ = (((n : Nat)) : Int) from by omega) (by omega) rfl ?_
  refine op_store (nxl rfl) sz5 rfl rfl rfl rfl rfl B3 (by simp [u8s]; omega) sel0 (fun N3 B3 => ?_)
  rw [show Value.int .u8 1 = .int .u8 ((1 : UInt8).toNat : Int) from rfl, set8A] at B3
  obtain ⟨z, hz⟩ : ∃ z, (r ++ List.replicate (136 - r.length) 0).set n 1 = z := ⟨_, rfl⟩
  have hzl : z.length = 136 := by rw [← hz, List.length_set]; exact hpz
  have hpad : padL r = z.set 135 (z.getD 135 0 ||| 128) := by rw [← hz, padL, hlen]
  rw [hz] at B3
  refine At.opsNil ?_
  refine At.norm (hk_4 ?_)
  refine At.seq fun K5 hk_5 => ?_
  refine At.region ?_
  refine op_idxA (nxlf rfl) ae174 rfl rfl (show _ = (((135 : Nat)) : Int) from by omega) (by omega) rfl ?_
  refine op_loadB (nxlf rfl) sc5 rfl B3 (get8A (by omega)) (by first | exact mem0 | exact mem1 | exact mem2) rfl ?_
  refine op_bits (by simp) (nxlf rfl) rfl rfl rfl ?_
  rw [or128]
  refine op_idxA (nxlf rfl) ae174 rfl rfl (show _ = (((135 : Nat)) : Int) from by omega) (by omega) rfl ?_
  refine op_store (nxl rfl) sz5 rfl rfl rfl rfl rfl B3 (by simp [u8s]; omega) sel0 (fun N3 B3 => ?_)
  rw [set8A, ← hpad] at B3
  refine At.opsNil ?_
  refine At.norm (hk_5 ?_)
  refine At.seq fun K6 hk_6 => ?_
  refine At.region ?_
  refine op_move (nxlf rfl) rfl rfl ?_
  refine op_nilChk (nxlf rfl) rfl rfl ?_
  refine op_fieldAddr (nxlf rfl) fl144_0 rfl rfl ?_
  refine op_loadAggB (ds := u64s a) (nxlf rfl) ag142 rfl B0 hlan (by simp [u64s, ha]) (by first | exact mem0 | exact mem1 | exact mem2) rfl ?_
  refine op_alloc (nxla rfl) ze142 rfl (fun N4 b4 B4 => ?_)
  change Blk N4 b4 _ [.int .u64 0, .int .u64 0, .int .u64 0, .int .u64 0, .int .u64 0, .int .u64 0, .int .u64 0, .int .u64 0, .int .u64 0, .int .u64 0, .int .u64 0, .int .u64 0, .int .u64 0, .int .u64 0, .int .u64 0, .int .u64 0, .int .u64 0, .int .u64 0, .int .u64 0, .int .u64 0, .int .u64 0, .int .u64 0, .int .u64 0, .int .u64 0, .int .u64 0] at B4
  refine op_store (nxl rfl) sz142 rfl rfl rfl (by simp [u64s, ha]) (all64 _) B4 (by simp [u64s, ha]) sel0 (fun N4 B4 => ?_)
  rw [setL_whole (by simp [u64s, ha]), ← List.append_nil (u64s a)] at B4
  refine At.opsNil ?_
  refine At.norm (hk_6 ?_)
  refine At.seq fun K7 hk_7 => ?_
  refine At.region ?_
  refine op_sliceA (nxlf rfl) ae174 rfl .none .none .none (by omega) (by omega) (by omega) (by simp) rfl ?_
  have sL := blk8 B3 hpl (by omega)
  refine op_call (nxl rfl) (.cons rfl (.cons rfl .nil)) (FAbsorb_f ha B4 sL rfl) (F := [N3, N2, N0, R]) Try.func93 rfl rfl (.refl _) (by simp) rfl ?_
  rintro v28 L28 ⟨N4, rfl, rfl, B4⟩
  change At _ _ _ [N4, N3, N2, N0, R] _
  rw [List.append_nil, hA] at B4
  refine At.opsNil ?_
  refine At.norm (hk_7 ?_)
  refine At.seq fun K8 hk_8 => ?_
  refine At.region ?_
  refine op_alloc (nxla rfl) ze39 rfl (fun N5 b5 B5 => ?_)
  change Blk N5 b5 _ [.int .u8 0, .int .u8 0, .int .u8 0, .int .u8 0, .int .u8 0, .int .u8 0, .int .u8 0, .int .u8 0, .int .u8 0, .int .u8 0, .int .u8 0, .int .u8 0, .int .u8 0, .int .u8 0, .int .u8 0, .int .u8 0, .int .u8 0, .int .u8 0, .int .u8 0, .int .u8 0, .int .u8 0, .int .u8 0, .int .u8 0, .int .u8 0, .int .u8 0, .int .u8 0, .int .u8 0, .int .u8 0, .int .u8 0, .int .u8 0, .int .u8 0, .int .u8 0] at B5
  change Blk N5 b5 _ (u8s (ouI A 0)) at B5
  refine At.opsNil ?_
  refine At.norm (hk_8 ?_)
  refine At.seq fun K9 hk_9 => ?_
  refine At.seq fun K10 hk_10 => ?_
  refine At.region ?_
  refine op_move (nxlf rfl) rfl rfl ?_
  refine At.opsNil ?_
  refine At.norm (hk_10 ?_)
  refine At.block ?_
  refine At.sub (L' := [N5, N4, N2, R]) (.cons_cons _ (.cons_cons _ (.cons _ (.cons_cons _ (.cons _ (.cons_cons _ (.slnil))))))) ?_
  refine At.loop (fun fr_ hp_ ms_ => ∃ (i : Nat) (N5 : Heaplet), fr_ = [(2, .pointer (some ⟨b2, 0, none⟩)), (4, .pointer (some ⟨b4, 0, none⟩)), (5, .pointer (some ⟨b5, 0, none⟩)), (29, .int .i64 (i : Int))] ∧ hp_ = [N5, N4, N2, R] ∧ 32 - i = ms_ ∧ (i ≤ 32) ∧ (Blk N5 b5 39 (u8s (ouI A i)))) ?_ (.refl _) ⟨0, N5, rfl, rfl, rfl, by omega, B5⟩ ?_
  · exact .cons (by first | exact lkI rfl (by omega) | rfl) (.cons (by first | exact lkI rfl (by omega) | rfl) (.cons (by first | exact lkI rfl (by omega) | rfl) (.cons (by first | exact lkI rfl (by omega) | rfl) .nil)))
  rintro _ _ _ ⟨i, N5, rfl, rfl, rfl, hi, B5⟩
  have hol := ouI_len A i
  refine At.seq fun K11 hk_11 => ?_
  refine At.region ?_
  refine op_lss (nxlf rfl) rfl rfl rfl ?_
  refine At.opsNil ?_
  refine At.norm (hk_11 ?_)
  refine At.seq fun K12 hk_12 => ?_
  refine At.condP rfl (fun c30 => ?_) (fun c30 => ?_)
  · refine At.skip ?_
    refine At.norm (hk_12 ?_)
    refine At.seq fun K13 hk_13 => ?_
    refine At.block ?_
    refine At.seq fun K14 hk_14 => ?_
    refine At.region ?_
    refine op_move (nxlf rfl) rfl rfl ?_
    refine op_assign (nxlf rfl) rfl rfl ?_
    refine At.opsNil ?_
    refine At.norm (hk_14 ?_)
    refine At.region ?_
    refine op_move (nxlf rfl) rfl rfl ?_
    refine op_move (nxlf rfl) rfl rfl ?_
    refine op_quoI (nxlf rfl) rfl rfl (by omega) (by omega) (by omega) rfl ?_
    refine op_idxA (nxlf rfl) ae142 rfl rfl (show _ = (((i / 8 : Nat)) : Int) from by omega) (by omega) rfl ?_
    refine op_loadB (nxlf rfl) sc24 rfl B4 (get64A (by omega)) (by first | exact mem0 | exact mem1 | exact mem2) rfl ?_
    refine op_move (nxlf rfl) rfl rfl ?_
    refine op_rem (nxlf rfl) rfl rfl (by omega) (by omega) rfl ?_
    refine op_mulI (nxlf rfl) rfl rfl (by omega) (by omega) rfl ?_
    refine op_shrU (nxlf rfl) rfl rfl (show _ = (((i % 8 * 8 : Nat)) : Int) from by omega) rfl ?_
    refine op_conv8 (nxlf rfl) (und_some Try.underlying24) Try.underlying5 rfl (show _ = ((((shr64 (A.getD (i / 8) 0) (i % 8 * 8)).toNat : Nat)) : Int) from by omega) rfl ?_
    refine op_idxA (nxlf rfl) ae39 rfl rfl (show _ = (((i : Nat)) : Int) from by omega) (by omega) rfl ?_
    refine op_store (nxl rfl) sz5 rfl rfl rfl rfl rfl B5 (by simp <;> omega) sel0 (fun N5 B5 => ?_)
    rw [set8A] at B5
    refine At.opsNil ?_
    refine At.inNorm ?_
    refine At.norm (hk_13 ?_)
    refine At.region ?_
    refine op_addI (nxlf rfl) rfl rfl (by omega) (by omega) rfl ?_
    refine op_move (nxlf rfl) rfl rfl ?_
    refine At.opsNil ?_
    refine At.norm ?_
    refine At.back ?_ (.refl _) ⟨i + 1, N5, rfl, rfl, rfl, by omega, B5⟩ ?_
    · exact .cons (by first | exact lkI rfl (by omega) | rfl) (.cons (by first | exact lkI rfl (by omega) | rfl) (.cons (by first | exact lkI rfl (by omega) | rfl) (.cons (by first | exact lkI rfl (by omega) | rfl) .nil)))
    · omega
  · refine At.exit (At.thenExit (At.thenExit (At.inHit ?_)))
    refine At.norm (hk_9 ?_)
    refine At.seq fun K15 hk_15 => ?_
    refine At.region ?_
    obtain rfl : i = 32 := by omega
    obtain ⟨o, ho⟩ : ∃ o, ouI A 32 = o := ⟨_, rfl⟩
    rw [ho] at B5 hol
    refine op_loadAggB (ds := u8s o) (nxlf rfl) ag39 rfl B5 (by rw [List.drop_zero, List.take_of_length_le (by simp [u8s, hol])]) (by simp [u8s, hol]) (by first | exact mem0 | exact mem1 | exact mem2) rfl ?_
    refine op_store (nxl rfl) sz39 rfl rfl rfl (by simp [u8s, hol]) (all8 _) B2 (by simp [u8s, hol]) sel2 (fun N2 B2 => ?_)
    rw [setL_whole (by simp [u8s, hol])] at B2
    refine At.opsNil ?_
    refine At.norm (hk_15 ?_)
    refine At.ret (?_)
    refine At.sub (L' := [N2, R]) (.cons_cons _ (.cons _ (.cons _ (.cons_cons _ (.slnil))))) ?_
    refine At.ret1 (L1 := []) rfl (.cell rfl (res_agg (ds := u8s o) ag39 B2 (by rw [List.drop_zero, List.take_of_length_le (by simp [u8s, hol])]) (by simp [u8s, hol]) mem0) .nil) (.cons _ (.refl _)) (.refl _) ?_
    exact ⟨by rw [hA, ho], rfl⟩
end Go.Proofs.Ytljacjjeinmfnaa
/- The reference's Keccak: turning, constants, permutation. No condition. -/
namespace Go.Proofs.Ytljacjjeinmfnaa
set_option linter.unusedVariables false
set_option linter.unusedSimpArgs false
open Go Go.RowKit
theorem rRol_f (x : UInt64) (k : Nat) (hk : k < 64) : Fn Try.prog 97 #[.int .u64 (x.toNat : Int), .int .i64 (k : Int)] [] [] (fun v L => v = .int .u64 ((rolN x k).toNat : Int) ∧ L = []) := by
  refine Fn.enter (vs := [.int .u64 (x.toNat : Int), .int .i64 (k : Int)]) Try.func97 rfl rfl rfl ?_
  intro E R hR
  change At _ _ E [R] _
  refine At.seq fun K1 hk_1 => ?_
  refine At.region ?_
  refine op_assign (nxlf rfl) rfl rfl ?_
  refine At.opsNil ?_
  refine At.norm (hk_1 ?_)
  refine At.seq fun K2 hk_2 => ?_
  refine At.seq fun K3 hk_3 => ?_
  refine At.region ?_
  refine op_move (nxlf rfl) rfl rfl ?_
  refine op_eql (nxlf rfl) rfl rfl rfl ?_
  refine At.opsNil ?_
  refine At.norm (hk_3 ?_)
  refine At.condP rfl (fun c6 => ?_) (fun c6 => ?_)
  · obtain rfl : k = 0 := by omega
    refine At.seq fun K4 hk_4 => ?_
    refine At.region ?_
    refine op_move (nxlf rfl) rfl rfl ?_
    refine op_assign (nxlf rfl) rfl rfl ?_
    refine At.opsNil ?_
    refine At.norm (hk_4 ?_)
    refine At.ret (At.thenRet (?_))
    refine At.ret1 (L1 := []) rfl (.tmp rfl .nil) (.refl _) (.refl _) ?_
    exact ⟨by rw [rolN, if_pos rfl], rfl⟩
  · refine At.skip ?_
    refine At.norm (hk_2 ?_)
    refine At.seq fun K5 hk_5 => ?_
    refine At.drawn [] [0,1,2,3,4,5,6,7,8] (by kernel_rfl) (by kernel_rfl) ?_
    refine op_move (nxof rfl rfl rfl (by kernel_rfl)) rfl rfl ?_
    refine op_move (nxof rfl rfl rfl (by kernel_rfl)) rfl rfl ?_
    refine op_shlU (nxof rfl rfl rfl (by kernel_rfl)) rfl rfl (show _ = (((k : Nat)) : Int) from by omega) rfl ?_
    refine op_move (nxof rfl rfl rfl (by kernel_rfl)) rfl rfl ?_
    refine op_move (nxof rfl rfl rfl (by kernel_rfl)) rfl rfl ?_
    refine op_subI (nxof rfl rfl rfl (by kernel_rfl)) rfl rfl (by omega) (by omega) rfl ?_
    refine op_shrU (nxof rfl rfl rfl (by kernel_rfl)) rfl rfl (show _ = (((64 - k : Nat)) : Int) from by omega) rfl ?_
    refine op_orU (nxof rfl rfl rfl (by kernel_rfl)) rfl rfl rfl ?_
    refine op_assign (nxof rfl rfl rfl (by kernel_rfl)) rfl rfl ?_
    refine At.oneNil ?_
    refine At.norm (hk_5 ?_)
    refine At.ret (?_)
    refine At.ret1 (L1 := []) rfl (.tmp rfl .nil) (.refl _) (.refl _) ?_
    exact ⟨by rw [rolN, if_neg (by omega)], rfl⟩
theorem wrap2 {x : Int} (h0 : 0 ≤ x) (h1 : x ≤ 255) : IntKind.i64.wrap (x * 2 ^ (min (1 : Int).toNat IntKind.i64.bits)) = x * 2 := by
  rw [show (2 : Int) ^ (min (1 : Int).toNat IntKind.i64.bits) = 2 from rfl]
  exact wrap_i64 (by omega) (by omega)
set_option maxRecDepth 100000 in
set_option maxHeartbeats 1000000 in
theorem rConst_f (r : Nat) (hr : r < 24) : Fn Try.prog 98 #[.int .i64 (r : Int)] [] [] (fun v L => v = .int .u64 ((rcL.getD r 0).toNat : Int) ∧ L = []) := by
  have hfin : wJ r (7 * r + 7) = rcL.getD r 0 := wJ_ok ⟨r, hr⟩
  refine Fn.enter (vs := [.int .i64 (r : Int)]) Try.func98 rfl rfl rfl ?_
  intro E R hR
  change At _ _ E [R] _
  refine At.seq fun K1 hk_1 => ?_
  refine At.region ?_
  refine op_assign (nxlf rfl) rfl rfl ?_
  refine At.opsNil ?_
  refine At.norm (hk_1 ?_)
  refine At.seq fun K2 hk_2 => ?_
  refine At.region ?_
  refine op_assign (nxlf rfl) rfl rfl ?_
  refine At.opsNil ?_
  refine At.norm (hk_2 ?_)
  refine At.seq fun K3 hk_3 => ?_
  refine At.region ?_
  refine op_assign (nxlf rfl) rfl rfl ?_
  refine At.opsNil ?_
  refine At.norm (hk_3 ?_)
  refine At.seq fun K4 hk_4 => ?_
  refine At.seq fun K5 hk_5 => ?_
  refine At.region ?_
  refine op_assign (nxlf rfl) rfl rfl ?_
  refine At.opsNil ?_
  refine At.norm (hk_5 ?_)
  refine At.block ?_
  refine At.loop (fun fr_ hp_ ms_ => ∃ (n : Nat), fr_ = [(0, .int .i64 (r : Int)), (3, .int .i64 (rJ n)), (4, .int .u64 ((wJ r n).toNat : Int)), (5, .int .i64 (n : Int))] ∧ hp_ = [R] ∧ 7 * r + 7 - n = ms_ ∧ (n ≤ 7 * r + 7)) ?_ (.refl _) ⟨0, rfl, rfl, rfl, by omega⟩ ?_
  · exact .cons (by first | exact lkI rfl (by omega) | rfl) (.cons (by first | exact lkI rfl (by omega) | rfl) (.cons (by first | exact lkI rfl (by omega) | rfl) (.cons (by first | exact lkI rfl (by omega) | rfl) .nil)))
  rintro _ _ _ ⟨n, rfl, rfl, rfl, hn⟩
  obtain ⟨hj0, hj1⟩ := rJ_ok ⟨n, by omega⟩
  simp only at hj0 hj1
  refine At.seq fun K6 hk_6 => ?_
  refine At.seq fun K7 hk_7 => ?_
  refine At.region ?_
  refine op_move (nxlf rfl) rfl rfl ?_
  refine op_move (nxlf rfl) rfl rfl ?_
  refine op_mulI (nxlf rfl) rfl rfl (by omega) (by omega) rfl ?_
  refine op_addI (nxlf rfl) rfl rfl (by omega) (by omega) rfl ?_
  refine op_lss (nxlf rfl) rfl rfl rfl ?_
  refine At.opsNil ?_
  refine At.norm (hk_7 ?_)
  refine At.condP rfl (fun c10 => ?_) (fun c10 => ?_)
  · refine At.skip ?_
    refine At.norm (hk_6 ?_)
    refine At.seq fun K8 hk_8 => ?_
    refine At.block ?_
    refine At.seq fun K9 hk_9 => ?_
    refine At.meet (fun fr_ hp_ => fr_ = [(0, .int .i64 (r : Int)), (3, .int .i64 (rJ n)), (4, .int .u64 ((wJ r (n + 1)).toNat : Int)), (5, .int .i64 (n : Int))] ∧ hp_ = [R] ∧ (True)) ?_ (fun K9_ jk_9 => ?_)
    rotate_left
    · skip
      refine At.seq fun K10 hk_10 => ?_
      refine At.region ?_
      refine op_move (nxlf rfl) rfl rfl ?_
      refine op_move (nxlf rfl) rfl rfl ?_
      refine op_mulI (nxlf rfl) rfl rfl (by omega) (by omega) rfl ?_
      refine op_geq (nxlf rfl) rfl rfl rfl ?_
      refine op_move (nxlf rfl) rfl rfl ?_
      refine At.partP (d := 17) rfl (fun g17 => ?_) (fun g17 => ?_)
      · have hge : 7 * r ≤ n := by omega
        refine op_move (nxgf rfl rfl rfl rfl) rfl rfl ?_
        refine op_bits (by simp) (nxgf rfl rfl rfl rfl) rfl rfl rfl ?_
        refine op_eql (nxgf rfl rfl rfl rfl) rfl rfl rfl ?_
        refine op_pickT (nxlf rfl) rfl rfl rfl ?_
        refine At.opsNil ?_
        refine At.norm (hk_10 ?_)
        refine At.condP rfl (fun c21 => ?_) (fun c21 => ?_)
        · have hw : wJ r (n + 1) = wJ r n ||| shl64 1 (shl64 1 (n - 7 * r) - 1).toNat := by rw [wJ, if_pos ⟨hge, by assumption⟩]
          refine At.region ?_
          refine op_move (nxlf rfl) rfl rfl ?_
          refine op_move (nxlf rfl) rfl rfl ?_
          refine op_move (nxlf rfl) rfl rfl ?_
          refine op_mulI (nxlf rfl) rfl rfl (by omega) (by omega) rfl ?_
          refine op_subI (nxlf rfl) rfl rfl (by omega) (by omega) rfl ?_
          refine op_shlU (a := 1) (nxlf rfl) rfl rfl (show _ = (((n - 7 * r : Nat)) : Int) from by omega) rfl ?_
          refine op_subU (b := 1) (nxlf rfl) rfl rfl rfl ?_
          refine op_shlU (a := 1) (nxlf rfl) rfl rfl (show _ = ((((shl64 1 (n - 7 * r) - 1).toNat : Nat)) : Int) from by omega) rfl ?_
          refine op_orU (nxlf rfl) rfl rfl rfl ?_
          rw [← hw]
          refine op_assign (nxlf rfl) rfl rfl ?_
          refine At.opsNil ?_
          refine At.norm (jk_9 ?_ (.refl _) ⟨rfl, rfl, trivial⟩)
          exact .cons (by first | exact lkI rfl (by omega) | rfl) (.cons (by first | exact lkI rfl (by omega) | rfl) (.cons (by first | exact lkI rfl (by omega) | rfl) (.cons (by first | exact lkI rfl (by omega) | rfl) .nil)))
        · have hw : wJ r (n + 1) = wJ r n := by rw [wJ, if_neg (fun h => by have := h.2; contradiction)]
          refine At.skip ?_
          rw [← hw]
          refine At.norm (jk_9 ?_ (.refl _) ⟨rfl, rfl, trivial⟩)
          exact .cons (by first | exact lkI rfl (by omega) | rfl) (.cons (by first | exact lkI rfl (by omega) | rfl) (.cons (by first | exact lkI rfl (by omega) | rfl) (.cons (by first | exact lkI rfl (by omega) | rfl) .nil)))
      · have hw : wJ r (n + 1) = wJ r n := by rw [wJ, if_neg (fun h => by omega)]
        refine op_skip rfl rfl rfl rfl rfl rfl rfl ?_
        refine op_skip rfl rfl rfl rfl rfl rfl rfl ?_
        refine op_skip rfl rfl rfl rfl rfl rfl rfl ?_
        refine op_pickF (nxlf rfl) rfl rfl rfl ?_
        refine At.opsNil ?_
        refine At.norm (hk_10 ?_)
        refine At.condF rfl ?_
        refine At.skip ?_
        rw [← hw]
        refine At.norm (jk_9 ?_ (.refl _) ⟨rfl, rfl, trivial⟩)
        exact .cons (by first | exact lkI rfl (by omega) | rfl) (.cons (by first | exact lkI rfl (by omega) | rfl) (.cons (by first | exact lkI rfl (by omega) | rfl) (.cons (by first | exact lkI rfl (by omega) | rfl) .nil)))
    rintro _ _ ⟨rfl, rfl, ht⟩
    refine hk_9 ?_
    refine At.seq fun K11 hk_11 => ?_
    refine At.region ?_
    refine op_move (nxlf rfl) rfl rfl ?_
    refine op_shlW (nxlf rfl) rfl rfl (by omega) rfl ?_
    rw [wrap2 hj0 hj1]
    refine op_assign (nxlf rfl) rfl rfl ?_
    refine At.opsNil ?_
    refine At.norm (hk_11 ?_)
    refine At.seq fun K12 hk_12 => ?_
    refine At.region ?_
    refine op_move (nxlf rfl) rfl rfl ?_
    refine op_geq (nxlf rfl) rfl rfl rfl ?_
    refine At.opsNil ?_
    refine At.norm (hk_12 ?_)
    refine At.condP rfl (fun c34 => ?_) (fun c34 => ?_)
    · have hx : rJ (n + 1) = bits .xor .i64 (rJ n * 2 - 256) 113 := by rw [rJ, if_pos (by omega)]
      refine At.region ?_
      refine op_move (nxlf rfl) rfl rfl ?_
      refine op_subI (nxlf rfl) rfl rfl (by omega) (by omega) rfl ?_
      refine op_bits (by simp) (nxlf rfl) rfl rfl rfl ?_
      rw [← hx]
      refine op_assign (nxlf rfl) rfl rfl ?_
      refine At.opsNil ?_
      refine At.inNorm ?_
      refine At.norm (hk_8 ?_)
      refine At.region ?_
      refine op_move (nxlf rfl) rfl rfl ?_
      refine op_addI (nxlf rfl) rfl rfl (by omega) (by omega) rfl ?_
      refine op_assign (nxlf rfl) rfl rfl ?_
      refine At.opsNil ?_
      refine At.norm ?_
      refine At.back ?_ (.refl _) ⟨n + 1, rfl, rfl, rfl, by omega⟩ ?_
      · exact .cons (by first | exact lkI rfl (by omega) | rfl) (.cons (by first | exact lkI rfl (by omega) | rfl) (.cons (by first | exact lkI rfl (by omega) | rfl) (.cons (by first | exact lkI rfl (by omega) | rfl) .nil)))
      · omega
    · have hx : rJ (n + 1) = rJ n * 2 := by rw [rJ, if_neg (by omega)]
      rw [← hx]
      refine At.skip ?_
      refine At.inNorm ?_
      refine At.norm (hk_8 ?_)
      refine At.region ?_
      refine op_move (nxlf rfl) rfl rfl ?_
      refine op_addI (nxlf rfl) rfl rfl (by omega) (by omega) rfl ?_
      refine op_assign (nxlf rfl) rfl rfl ?_
      refine At.opsNil ?_
      refine At.norm ?_
      refine At.back ?_ (.refl _) ⟨n + 1, rfl, rfl, rfl, by omega⟩ ?_
      · exact .cons (by first | exact lkI rfl (by omega) | rfl) (.cons (by first | exact lkI rfl (by omega) | rfl) (.cons (by first | exact lkI rfl (by omega) | rfl) (.cons (by first | exact lkI rfl (by omega) | rfl) .nil)))
      · omega
  · refine At.exit (At.thenExit (At.thenExit (At.inHit ?_)))
    refine At.norm (hk_4 ?_)
    refine At.seq fun K13 hk_13 => ?_
    refine At.region ?_
    refine op_move (nxlf rfl) rfl rfl ?_
    refine op_assign (nxlf rfl) rfl rfl ?_
    refine At.opsNil ?_
    refine At.norm (hk_13 ?_)
    refine At.ret (?_)
    refine At.ret1 (L1 := []) rfl (.tmp rfl .nil) (.refl _) (.refl _) ?_
    obtain rfl : n = 7 * r + 7 := by omega
    exact ⟨by rw [hfin], rfl⟩
end Go.Proofs.Ytljacjjeinmfnaa
/- The reference's permutation. No condition. -/
namespace Go.Proofs.Ytljacjjeinmfnaa
set_option linter.unusedVariables false
set_option linter.unusedSimpArgs false
open Go Go.RowKit
theorem all_take {xs : List Value} {k : Nat} (h : xs.length = k) : (xs.drop 0).take k = xs := by rw [List.drop_zero, List.take_of_length_le (by omega)]
theorem len64s {l : List UInt64} {k : Nat} (h : l.length = k) : (u64s l).length = k := by simp [u64s, h]
set_option maxRecDepth 100000 in
set_option maxHeartbeats 4000000 in
theorem rPermute_f {a : List UInt64} (ha : a.length = 25) : Fn Try.prog 49 #[.agg (u64s a).toArray] [] [] (fun v L => v = .agg (u64s (prm a 24)).toArray ∧ L = []) := by
  refine Fn.enter (vs := [.agg (u64s a).toArray]) Try.func49 rfl rfl rfl ?_
  intro E R hR
  change At _ _ E [R] _
  refine At.seq fun K1 hk_1 => ?_
  refine At.region ?_
  refine op_box (nxla rfl) rfl rfl rfl (fun N1 b1 B1 => ?_)
  change Blk N1 b1 _ (u64s (prm a 0)) at B1
  refine op_alloc (nxla rfl) ze101 rfl (fun N2 b2 B2 => ?_)
  change Blk N2 b2 _ [.int .u64 0, .int .u64 0, .int .u64 0, .int .u64 0, .int .u64 0, .int .u64 0, .int .u64 0, .int .u64 0, .int .u64 0, .int .u64 0, .int .u64 0, .int .u64 0, .int .u64 0, .int .u64 0, .int .u64 0, .int .u64 0, .int .u64 0, .int .u64 0, .int .u64 0, .int .u64 0, .int .u64 0, .int .u64 0, .int .u64 0, .int .u64 0, .int .u64 0] at B2
  refine At.opsNil ?_
  refine At.norm (hk_1 ?_)
  refine At.seq fun K2 hk_2 => ?_
  refine At.seq fun K3 hk_3 => ?_
  refine At.region ?_
  refine op_assign (nxlf rfl) rfl rfl ?_
  refine At.opsNil ?_
  refine At.norm (hk_3 ?_)
  refine At.block ?_
  refine At.perm sel2 ?_
  refine At.perm sel1 ?_
  refine At.perm sel2 ?_
  refine At.loop (fun fr_ hp_ ms_ => ∃ (k : Nat) (N1 : Heaplet), fr_ = [(1, .pointer (some ⟨b1, 0, none⟩)), (2, .pointer (some ⟨b2, 0, none⟩)), (3, .int .i64 (k : Int))] ∧ hp_ = [N1, N2, R] ∧ 24 - k = ms_ ∧ (k ≤ 24) ∧ (Blk N1 b1 101 (u64s (prm a k)))) ?_ (.refl _) ⟨0, N1, rfl, rfl, rfl, by omega, B1⟩ ?_
  · exact .cons (by first | exact lkI rfl (by omega) | rfl) (.cons (by first | exact lkI rfl (by omega) | rfl) (.cons (by first | exact lkI rfl (by omega) | rfl) .nil))
  rintro _ _ _ ⟨k, N1, rfl, rfl, rfl, hk, B1⟩
  have hpl := (prm_len a k).trans ha
  refine At.seq fun K4 hk_4 => ?_
  refine At.seq fun K5 hk_5 => ?_
  refine At.region ?_
  refine op_move (nxlf rfl) rfl rfl ?_
  refine op_lss (nxlf rfl) rfl rfl rfl ?_
  refine At.opsNil ?_
  refine At.norm (hk_5 ?_)
  refine At.condP rfl (fun c16 => ?_) (fun c16 => ?_)
  · refine At.skip ?_
    refine At.norm (hk_4 ?_)
    refine At.seq fun K6 hk_6 => ?_
    refine At.block ?_
    refine At.seq fun K7 hk_7 => ?_
    refine At.region ?_
    refine op_alloc (nxla rfl) ze150 rfl (fun N4 b4 B4 => ?_)
    change Blk N4 b4 _ [.int .u64 0, .int .u64 0, .int .u64 0, .int .u64 0, .int .u64 0] at B4
    obtain ⟨p, hp⟩ : ∃ p, prm a k = p := ⟨_, rfl⟩
    rw [hp] at B1 hpl
    change Blk N4 b4 _ (u64s (thC p 0)) at B4
    refine At.opsNil ?_
    refine At.norm (hk_7 ?_)
    refine At.seq fun K8 hk_8 => ?_
    refine At.seq fun K9 hk_9 => ?_
    refine At.region ?_
    refine op_assign (nxlf rfl) rfl rfl ?_
    refine At.opsNil ?_
    refine At.norm (hk_9 ?_)
    refine At.block ?_
    refine At.loop (fun fr_ hp_ ms_ => ∃ (i : Nat) (N4 : Heaplet), fr_ = [(1, .pointer (some ⟨b1, 0, none⟩)), (2, .pointer (some ⟨b2, 0, none⟩)), (3, .int .i64 (k : Int)), (4, .pointer (some ⟨b4, 0, none⟩)), (5, .int .i64 (i : Int))] ∧ hp_ = [N4, N1, N2, R] ∧ 25 - i = ms_ ∧ (i ≤ 25) ∧ (Blk N4 b4 150 (u64s (thC p i)))) ?_ (.refl _) ⟨0, N4, rfl, rfl, rfl, by omega, B4⟩ ?_
    · exact .cons (by first | exact lkI rfl (by omega) | rfl) (.cons (by first | exact lkI rfl (by omega) | rfl) (.cons (by first | exact lkI rfl (by omega) | rfl) (.cons (by first | exact lkI rfl (by omega) | rfl) (.cons (by first | exact lkI rfl (by omega) | rfl) .nil))))
    rintro _ _ _ ⟨i, N4, rfl, rfl, rfl, hi, B4⟩
    have hcl := thC_len p i
    refine At.seq fun K10 hk_10 => ?_
    refine At.seq fun K11 hk_11 => ?_
    refine At.region ?_
    refine op_move (nxlf rfl) rfl rfl ?_
    refine op_lss (nxlf rfl) rfl rfl rfl ?_
    refine At.opsNil ?_
    refine At.norm (hk_11 ?_)
    refine At.condP rfl (fun c20 => ?_) (fun c20 => ?_)
    · refine At.skip ?_
      refine At.norm (hk_10 ?_)
      refine At.seq fun K12 hk_12 => ?_
      refine At.block ?_
      refine At.drawn [11] [0,1,2,3,4,5,6,7,8,9,10,11] (by kernel_rfl) (by kernel_rfl) ?_
      refine op_move (nxof rfl rfl rfl (by kernel_rfl)) rfl rfl ?_
      refine op_rem (nxof rfl rfl rfl (by kernel_rfl)) rfl rfl (by omega) (by omega) rfl ?_
      refine op_move (nxof rfl rfl rfl (by kernel_rfl)) rfl rfl ?_
      refine op_rem (nxof rfl rfl rfl (by kernel_rfl)) rfl rfl (by omega) (by omega) rfl ?_
      refine op_idxA (nxof rfl rfl rfl (by kernel_rfl)) ae150 rfl rfl (show _ = (((i % 5 : Nat)) : Int) from by omega) (by omega) rfl ?_
      -- an operation that writes, not last
      refine op_loadB (nxof rfl rfl rfl (by kernel_rfl)) sc24 rfl B4 (get64A (by omega)) (by first | exact mem0 | exact mem1 | exact mem2) rfl ?_
      refine op_move (nxof rfl rfl rfl (by kernel_rfl)) rfl rfl ?_
      refine op_idxA (nxof rfl rfl rfl (by kernel_rfl)) ae101 rfl rfl (show _ = (((i : Nat)) : Int) from by omega) (by omega) rfl ?_
      -- an operation that writes, not last
      refine op_loadB (nxof rfl rfl rfl (by kernel_rfl)) sc24 rfl B1 (get64A (by omega)) (by first | exact mem0 | exact mem1 | exact mem2) rfl ?_
      refine op_xorU (nxof rfl rfl rfl (by kernel_rfl)) rfl rfl rfl ?_
      refine op_idxA (nxof rfl rfl rfl (by kernel_rfl)) ae150 rfl rfl (show _ = (((i % 5 : Nat)) : Int) from by omega) (by omega) rfl ?_
      refine op_store (nxos rfl rfl rfl rfl) sz24 rfl rfl rfl rfl rfl B4 (by simp <;> omega) sel0 (fun N4 B4 => ?_)
      rw [set64A] at B4
      refine At.oneNil ?_
      refine At.inNorm ?_
      refine At.norm (hk_12 ?_)
      refine At.region ?_
      refine op_move (nxlf rfl) rfl rfl ?_
      refine op_addI (nxlf rfl) rfl rfl (by omega) (by omega) rfl ?_
      refine op_assign (nxlf rfl) rfl rfl ?_
      refine At.opsNil ?_
      refine At.norm ?_
      refine At.back ?_ (.refl _) ⟨i + 1, N4, rfl, rfl, rfl, by omega, B4⟩ ?_
      · exact .cons (by first | exact lkI rfl (by omega) | rfl) (.cons (by first | exact lkI rfl (by omega) | rfl) (.cons (by first | exact lkI rfl (by omega) | rfl) (.cons (by first | exact lkI rfl (by omega) | rfl) (.cons (by first | exact lkI rfl (by omega) | rfl) .nil))))
      · omega
    · refine At.exit (At.thenExit (At.thenExit (At.inHit ?_)))
      refine At.norm (hk_8 ?_)
      refine At.seq fun K13 hk_13 => ?_
      refine At.seq fun K14 hk_14 => ?_
      refine At.region ?_
      refine op_assign (nxlf rfl) rfl rfl ?_
      refine At.opsNil ?_
      refine At.norm (hk_14 ?_)
      refine At.block ?_
      obtain rfl : i = 25 := by omega
      obtain ⟨c, hc⟩ : ∃ c, thC p 25 = c := ⟨_, rfl⟩
      rw [hc] at B4 hcl
      change Blk N1 b1 _ (u64s (thA c p 0)) at B1
      refine At.loop (fun fr_ hp_ ms_ => ∃ (j : Nat) (N1 : Heaplet), fr_ = [(1, .pointer (some ⟨b1, 0, none⟩)), (2, .pointer (some ⟨b2, 0, none⟩)), (3, .int .i64 (k : Int)), (4, .pointer (some ⟨b4, 0, none⟩)), (6, .int .i64 (j : Int))] ∧ hp_ = [N4, N1, N2, R] ∧ 25 - j = ms_ ∧ (j ≤ 25) ∧ (Blk N1 b1 101 (u64s (thA c p j)))) ?_ (.refl _) ⟨0, N1, rfl, rfl, rfl, by omega, B1⟩ ?_
      · exact .cons (by first | exact lkI rfl (by omega) | rfl) (.cons (by first | exact lkI rfl (by omega) | rfl) (.cons (by first | exact lkI rfl (by omega) | rfl) (.cons (by first | exact lkI rfl (by omega) | rfl) (.cons (by first | exact lkI rfl (by omega) | rfl) .nil))))
      rintro _ _ _ ⟨j, N1, rfl, rfl, rfl, hj, B1⟩
      have htl := (thA_len c p j).trans hpl
      refine At.seq fun K15 hk_15 => ?_
      refine At.seq fun K16 hk_16 => ?_
      refine At.region ?_
      refine op_move (nxlf rfl) rfl rfl ?_
      refine op_lss (nxlf rfl) rfl rfl rfl ?_
      refine At.opsNil ?_
      refine At.norm (hk_16 ?_)
      refine At.condP rfl (fun c35 => ?_) (fun c35 => ?_)
      · refine At.skip ?_
        refine At.norm (hk_15 ?_)
        refine At.seq fun K17 hk_17 => ?_
        refine At.block ?_
        refine At.drawn [19] [0,1,2,3,4,5,6,7,8,9,10,11,12,13,14,15,16,17,18,19] (by kernel_rfl) (by kernel_rfl) ?_
        refine op_move (nxof rfl rfl rfl (by kernel_rfl)) rfl rfl ?_
        refine op_move (nxof rfl rfl rfl (by kernel_rfl)) rfl rfl ?_
        refine op_idxA (nxof rfl rfl rfl (by kernel_rfl)) ae101 rfl rfl (show _ = (((j : Nat)) : Int) from by omega) (by omega) rfl ?_
        -- an operation that writes, not last
        refine op_loadB (nxof rfl rfl rfl (by kernel_rfl)) sc24 rfl B1 (get64A (by omega)) (by first | exact mem0 | exact mem1 | exact mem2) rfl ?_
        refine op_move (nxof rfl rfl rfl (by kernel_rfl)) rfl rfl ?_
        refine op_addI (nxof rfl rfl rfl (by kernel_rfl)) rfl rfl (by omega) (by omega) rfl ?_
        refine op_rem (nxof rfl rfl rfl (by kernel_rfl)) rfl rfl (by omega) (by omega) rfl ?_
        refine op_idxA (nxof rfl rfl rfl (by kernel_rfl)) ae150 rfl rfl (show _ = ((((j % 5 + 4) % 5 : Nat)) : Int) from by omega) (by omega) rfl ?_
        -- an operation that writes, not last
        refine op_loadB (nxof rfl rfl rfl (by kernel_rfl)) sc24 rfl B4 (get64A (by omega)) (by first | exact mem0 | exact mem1 | exact mem2) rfl ?_
        refine op_xorU (nxof rfl rfl rfl (by kernel_rfl)) rfl rfl rfl ?_
        refine op_move (nxof rfl rfl rfl (by kernel_rfl)) rfl rfl ?_
        refine op_rem (nxof rfl rfl rfl (by kernel_rfl)) rfl rfl (by omega) (by omega) rfl ?_
        refine op_addI (nxof rfl rfl rfl (by kernel_rfl)) rfl rfl (by omega) (by omega) rfl ?_
        refine op_rem (nxof rfl rfl rfl (by kernel_rfl)) rfl rfl (by omega) (by omega) rfl ?_
        refine op_idxA (nxof rfl rfl rfl (by kernel_rfl)) ae150 rfl rfl (show _ = ((((j % 5 + 1) % 5 : Nat)) : Int) from by omega) (by omega) rfl ?_
        -- an operation that writes, not last
        refine op_loadB (nxof rfl rfl rfl (by kernel_rfl)) sc24 rfl B4 (get64A (by omega)) (by first | exact mem0 | exact mem1 | exact mem2) rfl ?_
        refine op_callA (nxoa rfl rfl rfl) (.cons rfl (.cons rfl .nil)) (rRol_f (c.getD ((j % 5 + 1) % 5) 0) 1 (by decide)) Try.func97 rfl rfl (by simp) rfl ?_
        rintro v54 L54 ⟨rfl, rfl⟩
        change At _ _ _ [N4, N1, N2, R] _
        refine op_xorU (nxof rfl rfl rfl (by kernel_rfl)) rfl rfl rfl ?_
        rw [UInt64.xor_assoc]
        refine op_idxA (nxof rfl rfl rfl (by kernel_rfl)) ae101 rfl rfl (show _ = (((j : Nat)) : Int) from by omega) (by omega) rfl ?_
        refine op_store (nxos rfl rfl rfl rfl) sz24 rfl rfl rfl rfl rfl B1 (by simp <;> omega) sel1 (fun N1 B1 => ?_)
        rw [set64A] at B1
        refine At.oneNil ?_
        refine At.inNorm ?_
        refine At.norm (hk_17 ?_)
        refine At.region ?_
        refine op_move (nxlf rfl) rfl rfl ?_
        refine op_addI (nxlf rfl) rfl rfl (by omega) (by omega) rfl ?_
        refine op_assign (nxlf rfl) rfl rfl ?_
        refine At.opsNil ?_
        refine At.norm ?_
        refine At.perm sel3 ?_
        refine At.perm sel3 ?_
        refine At.perm sel2 ?_
        refine At.perm sel3 ?_
        refine At.back ?_ (.refl _) ⟨j + 1, N1, rfl, rfl, rfl, by omega, B1⟩ ?_
        · exact .cons (by first | exact lkI rfl (by omega) | rfl) (.cons (by first | exact lkI rfl (by omega) | rfl) (.cons (by first | exact lkI rfl (by omega) | rfl) (.cons (by first | exact lkI rfl (by omega) | rfl) (.cons (by first | exact lkI rfl (by omega) | rfl) .nil))))
        · omega
      · refine At.exit (At.thenExit (At.thenExit (At.inHit ?_)))
        refine At.norm (hk_13 ?_)
        refine At.seq fun K18 hk_18 => ?_
        refine At.region ?_
        refine op_alloc (nxla rfl) ze101 rfl (fun N7 b7 B7 => ?_)
        change Blk N7 b7 _ [.int .u64 0, .int .u64 0, .int .u64 0, .int .u64 0, .int .u64 0, .int .u64 0, .int .u64 0, .int .u64 0, .int .u64 0, .int .u64 0, .int .u64 0, .int .u64 0, .int .u64 0, .int .u64 0, .int .u64 0, .int .u64 0, .int .u64 0, .int .u64 0, .int .u64 0, .int .u64 0, .int .u64 0, .int .u64 0, .int .u64 0, .int .u64 0, .int .u64 0] at B7
        obtain rfl : j = 25 := by omega
        have hth : thA c p 25 = theta p := by rw [theta, hc]
        obtain ⟨q, hq⟩ : ∃ q, theta p = q := ⟨_, rfl⟩
        rw [hth, hq] at B1 htl
        change Blk N7 b7 _ (u64s (List.replicate 25 0)) at B7
        refine At.opsNil ?_
        refine At.norm (hk_18 ?_)
        refine At.seq fun K19 hk_19 => ?_
        refine At.region ?_
        refine op_idxA (nxlf rfl) ae101 rfl rfl (show _ = (((0 : Nat)) : Int) from by omega) (by omega) rfl ?_
        refine op_loadB (nxlf rfl) sc24 rfl B1 (get64A (by omega)) (by first | exact mem0 | exact mem1 | exact mem2) rfl ?_
        refine op_idxA (nxlf rfl) ae101 rfl rfl (show _ = (((0 : Nat)) : Int) from by omega) (by omega) rfl ?_
        refine op_store (nxl rfl) sz24 rfl rfl rfl rfl rfl B7 (by simp <;> omega) sel0 (fun N7 B7 => ?_)
        rw [set64A] at B7
        refine At.opsNil ?_
        refine At.norm (hk_19 ?_)
        refine At.seq fun K20 hk_20 => ?_
        refine At.region ?_
        refine op_assign (nxlf rfl) rfl rfl ?_
        refine op_assign (nxlf rfl) rfl rfl ?_
        refine At.opsNil ?_
        refine At.norm (hk_20 ?_)
        refine At.seq fun K21 hk_21 => ?_
        refine At.seq fun K22 hk_22 => ?_
        refine At.region ?_
        refine op_assign (nxlf rfl) rfl rfl ?_
        refine At.opsNil ?_
        refine At.norm (hk_22 ?_)
        refine At.block ?_
        change Blk N7 b7 _ (u64s (tuR q 0)) at B7
        refine At.sub (L' := [N7, N1, N2, R]) (.cons_cons _ (.cons _ (.cons_cons _ (.cons_cons _ (.cons_cons _ (.slnil)))))) ?_
        refine At.loop (fun fr_ hp_ ms_ => ∃ (t : Nat) (N7 : Heaplet), fr_ = [(1, .pointer (some ⟨b1, 0, none⟩)), (2, .pointer (some ⟨b2, 0, none⟩)), (3, .int .i64 (k : Int)), (7, .pointer (some ⟨b7, 0, none⟩)), (8, .int .i64 ((pX t).1 : Int)), (9, .int .i64 ((pX t).2 : Int)), (10, .int .i64 (t : Int))] ∧ hp_ = [N7, N1, N2, R] ∧ 24 - t = ms_ ∧ (t ≤ 24) ∧ (Blk N7 b7 101 (u64s (tuR q t)))) ?_ (.refl _) ⟨0, N7, rfl, rfl, rfl, by omega, B7⟩ ?_
        · exact .cons (by first | exact lkI rfl (by omega) | rfl) (.cons (by first | exact lkI rfl (by omega) | rfl) (.cons (by first | exact lkI rfl (by omega) | rfl) (.cons (by first | exact lkI rfl (by omega) | rfl) (.cons (by first | exact lkI rfl (by omega) | rfl) (.cons (by first | exact lkI rfl (by omega) | rfl) (.cons (by first | exact lkI rfl (by omega) | rfl) .nil))))))
        rintro _ _ _ ⟨t, N7, rfl, rfl, rfl, ht, B7⟩
        have hul := tuR_len q t
        have hx := pX_lt t
        have hp1 : (pX (t + 1)).1 = (pX t).2 := rfl
        have hp2 : (pX (t + 1)).2 = (2 * (pX t).1 + 3 * (pX t).2) % 5 := rfl
        have hpos : pos (t + 1) = (pX t).2 + 5 * ((2 * (pX t).1 + 3 * (pX t).2) % 5) := rfl
        have hpo0 : pos t = (pX t).1 + 5 * (pX t).2 := rfl
        have hpl1 := pos_lt (t + 1)
        have hpl0 := pos_lt t
        have hm : ((t : Int) + 1) * ((t : Int) + 2) = (((t + 1) * (t + 2) : Nat) : Int) := by simp
        have hm2 : (t + 1) * (t + 2) ≤ 25 * 26 := Nat.mul_le_mul (by omega) (by omega)
        obtain ⟨m, hmm⟩ : ∃ m, (t + 1) * (t + 2) = m := ⟨_, rfl⟩
        have hrot : rot t = m / 2 % 64 := by rw [rot, hmm]
        rw [hmm] at hm hm2
        refine At.seq fun K23 hk_23 => ?_
        refine At.seq fun K24 hk_24 => ?_
        refine At.region ?_
        refine op_move (nxlf rfl) rfl rfl ?_
        refine op_lss (nxlf rfl) rfl rfl rfl ?_
        refine At.opsNil ?_
        refine At.norm (hk_24 ?_)
        refine At.condP rfl (fun c61 => ?_) (fun c61 => ?_)
        · refine At.skip ?_
          refine At.norm (hk_23 ?_)
          refine At.seq fun K25 hk_25 => ?_
          refine At.block ?_
          refine At.seq fun K26 hk_26 => ?_
          refine At.region ?_
          refine op_move (nxlf rfl) rfl rfl ?_
          refine op_move (nxlf rfl) rfl rfl ?_
          refine op_mulI (nxlf rfl) rfl rfl (by omega) (by omega) rfl ?_
          refine op_move (nxlf rfl) rfl rfl ?_
          refine op_mulI (nxlf rfl) rfl rfl (by omega) (by omega) rfl ?_
          refine op_addI (nxlf rfl) rfl rfl (by omega) (by omega) rfl ?_
          refine op_rem (nxlf rfl) rfl rfl (by omega) (by omega) rfl ?_
          refine op_assign (nxlf rfl) rfl rfl ?_
          refine op_assign (nxlf rfl) rfl rfl ?_
          refine At.opsNil ?_
          refine At.norm (hk_26 ?_)
          refine At.seq fun K27 hk_27 => ?_
          refine At.region ?_
          refine op_move (nxlf rfl) rfl rfl ?_
          refine op_move (nxlf rfl) rfl rfl ?_
          refine op_mulI (nxlf rfl) rfl rfl (by omega) (by omega) rfl ?_
          refine op_addI (nxlf rfl) rfl rfl (by omega) (by omega) rfl ?_
          refine op_move (nxlf rfl) rfl rfl ?_
          refine op_move (nxlf rfl) rfl rfl ?_
          refine op_mulI (nxlf rfl) rfl rfl (by omega) (by omega) rfl ?_
          refine op_addI (nxlf rfl) rfl rfl (by omega) (by omega) rfl ?_
          refine op_idxA (nxlf rfl) ae101 rfl rfl (show _ = (((pos t : Nat)) : Int) from by omega) (by omega) rfl ?_
          refine op_loadB (nxlf rfl) sc24 rfl B1 (get64A (by omega)) (by first | exact mem0 | exact mem1 | exact mem2) rfl ?_
          refine op_move (nxlf rfl) rfl rfl ?_
          refine op_addI (nxlf rfl) rfl rfl (by omega) (by omega) rfl ?_
          refine op_move (nxlf rfl) rfl rfl ?_
          refine op_addI (nxlf rfl) rfl rfl (by omega) (by omega) rfl ?_
          refine op_mulI (nxlf rfl) rfl rfl (by rw [hm]; omega) (by rw [hm]; omega) rfl ?_
          rw [hm]
          refine op_quoI (nxlf rfl) rfl rfl (by omega) (by omega) (by omega) rfl ?_
          refine op_rem (nxlf rfl) rfl rfl (by omega) (by omega) rfl ?_
          rw [show (m : Int) / 2 % 64 = ((rot t : Nat) : Int) from by omega]
          refine op_callA (nxla rfl) (.cons rfl (.cons rfl .nil)) (rRol_f (q.getD (pos t) 0) (rot t) (by omega)) Try.func97 rfl rfl (by simp) rfl ?_
          rintro v88 L88 ⟨rfl, rfl⟩
          change At _ _ _ [N7, N1, N2, R] _
          refine op_idxA (nxlf rfl) ae101 rfl rfl (show _ = (((pos (t + 1) : Nat)) : Int) from by omega) (by omega) rfl ?_
          refine op_store (nxl rfl) sz24 rfl rfl rfl rfl rfl B7 (by simp <;> omega) sel0 (fun N7 B7 => ?_)
          rw [set64A] at B7
          refine At.opsNil ?_
          refine At.norm (hk_27 ?_)
          refine At.region ?_
          refine op_move (nxlf rfl) rfl rfl ?_
          refine op_move (nxlf rfl) rfl rfl ?_
          refine op_assign (nxlf rfl) rfl rfl ?_
          refine op_assign (nxlf rfl) rfl rfl ?_
          refine At.opsNil ?_
          refine At.inNorm ?_
          refine At.norm (hk_25 ?_)
          refine At.region ?_
          refine op_move (nxlf rfl) rfl rfl ?_
          refine op_addI (nxlf rfl) rfl rfl (by omega) (by omega) rfl ?_
          refine op_assign (nxlf rfl) rfl rfl ?_
          refine At.opsNil ?_
          refine At.norm ?_
          refine At.back ?_ (.refl _) ⟨t + 1, N7, rfl, rfl, rfl, by omega, B7⟩ ?_
          · exact .cons (by first | exact lkI rfl (by omega) | rfl) (.cons (by first | exact lkI rfl (by omega) | rfl) (.cons (by first | exact lkI rfl (by omega) | rfl) (.cons (by first | exact lkI rfl (by omega) | rfl) (.cons (by first | exact lkI rfl (by omega) | rfl) (.cons (by first | exact lkI rfl (by omega) | rfl) (.cons (by first | exact lkI rfl (by omega) | rfl) .nil))))))
          · omega
        · refine At.exit (At.thenExit (At.thenExit (At.inHit ?_)))
          refine At.norm (hk_21 ?_)
          refine At.seq fun K28 hk_28 => ?_
          refine At.seq fun K29 hk_29 => ?_
          refine At.region ?_
          refine op_assign (nxlf rfl) rfl rfl ?_
          refine At.opsNil ?_
          refine At.norm (hk_29 ?_)
          refine At.block ?_
          obtain rfl : t = 24 := by omega
          obtain ⟨w, hw⟩ : ∃ w, tuR q 24 = w := ⟨_, rfl⟩
          rw [hw] at B7 hul
          change Blk N1 b1 _ (u64s (chR w q 0)) at B1
          refine At.loop (fun fr_ hp_ ms_ => ∃ (i : Nat) (N1 : Heaplet), fr_ = [(1, .pointer (some ⟨b1, 0, none⟩)), (2, .pointer (some ⟨b2, 0, none⟩)), (3, .int .i64 (k : Int)), (7, .pointer (some ⟨b7, 0, none⟩)), (13, .int .i64 (i : Int))] ∧ hp_ = [N7, N1, N2, R] ∧ 25 - i = ms_ ∧ (i ≤ 25) ∧ (Blk N1 b1 101 (u64s (chR w q i)))) ?_ (.refl _) ⟨0, N1, rfl, rfl, rfl, by omega, B1⟩ ?_
          · exact .cons (by first | exact lkI rfl (by omega) | rfl) (.cons (by first | exact lkI rfl (by omega) | rfl) (.cons (by first | exact lkI rfl (by omega) | rfl) (.cons (by first | exact lkI rfl (by omega) | rfl) (.cons (by first | exact lkI rfl (by omega) | rfl) .nil))))
          rintro _ _ _ ⟨i, N1, rfl, rfl, rfl, hi, B1⟩
          have hrl := (chR_len w q i).trans htl
          refine At.seq fun K30 hk_30 => ?_
          refine At.seq fun K31 hk_31 => ?_
          refine At.region ?_
          refine op_move (nxlf rfl) rfl rfl ?_
          refine op_lss (nxlf rfl) rfl rfl rfl ?_
          refine At.opsNil ?_
          refine At.norm (hk_31 ?_)
          refine At.condP rfl (fun c93 => ?_) (fun c93 => ?_)
          · refine At.skip ?_
            refine At.norm (hk_30 ?_)
            refine At.seq fun K32 hk_32 => ?_
            refine At.block ?_
            refine At.seq fun K33 hk_33 => ?_
            refine At.region ?_
            refine op_move (nxlf rfl) rfl rfl ?_
            refine op_move (nxlf rfl) rfl rfl ?_
            refine op_rem (nxlf rfl) rfl rfl (by omega) (by omega) rfl ?_
            refine op_subI (nxlf rfl) rfl rfl (by omega) (by omega) rfl ?_
            refine op_assign (nxlf rfl) rfl rfl ?_
            refine At.opsNil ?_
            refine At.norm (hk_33 ?_)
            refine At.drawn [22] [0,1,2,3,4,5,6,7,8,9,10,11,12,13,14,15,16,17,18,19,20,21,22] (by kernel_rfl) (by kernel_rfl) ?_
            refine op_move (nxof rfl rfl rfl (by kernel_rfl)) rfl rfl ?_
            refine op_move (nxof rfl rfl rfl (by kernel_rfl)) rfl rfl ?_
            refine op_idxA (nxof rfl rfl rfl (by kernel_rfl)) ae101 rfl rfl (show _ = (((i : Nat)) : Int) from by omega) (by omega) rfl ?_
            -- an operation that writes, not last
            refine op_loadB (nxof rfl rfl rfl (by kernel_rfl)) sc24 rfl B7 (get64A (by omega)) (by first | exact mem0 | exact mem1 | exact mem2) rfl ?_
            refine op_move (nxof rfl rfl rfl (by kernel_rfl)) rfl rfl ?_
            refine op_move (nxof rfl rfl rfl (by kernel_rfl)) rfl rfl ?_
            refine op_addI (nxof rfl rfl rfl (by kernel_rfl)) rfl rfl (by omega) (by omega) rfl ?_
            refine op_rem (nxof rfl rfl rfl (by kernel_rfl)) rfl rfl (by omega) (by omega) rfl ?_
            refine op_addI (nxof rfl rfl rfl (by kernel_rfl)) rfl rfl (by omega) (by omega) rfl ?_
            refine op_idxA (nxof rfl rfl rfl (by kernel_rfl)) ae101 rfl rfl (show _ = (((i - i % 5 + (i + 1) % 5 : Nat)) : Int) from by omega) (by omega) rfl ?_
            -- an operation that writes, not last
            refine op_loadB (nxof rfl rfl rfl (by kernel_rfl)) sc24 rfl B7 (get64A (by omega)) (by first | exact mem0 | exact mem1 | exact mem2) rfl ?_
            refine op_compU (nxof rfl rfl rfl (by kernel_rfl)) rfl rfl ?_
            refine op_move (nxof rfl rfl rfl (by kernel_rfl)) rfl rfl ?_
            refine op_move (nxof rfl rfl rfl (by kernel_rfl)) rfl rfl ?_
            refine op_addI (nxof rfl rfl rfl (by kernel_rfl)) rfl rfl (by omega) (by omega) rfl ?_
            refine op_rem (nxof rfl rfl rfl (by kernel_rfl)) rfl rfl (by omega) (by omega) rfl ?_
            refine op_addI (nxof rfl rfl rfl (by kernel_rfl)) rfl rfl (by omega) (by omega) rfl ?_
            refine op_idxA (nxof rfl rfl rfl (by kernel_rfl)) ae101 rfl rfl (show _ = (((i - i % 5 + (i + 2) % 5 : Nat)) : Int) from by omega) (by omega) rfl ?_
            -- an operation that writes, not last
            refine op_loadB (nxof rfl rfl rfl (by kernel_rfl)) sc24 rfl B7 (get64A (by omega)) (by first | exact mem0 | exact mem1 | exact mem2) rfl ?_
            refine op_andU (nxof rfl rfl rfl (by kernel_rfl)) rfl rfl rfl ?_
            refine op_xorU (nxof rfl rfl rfl (by kernel_rfl)) rfl rfl rfl ?_
            refine op_idxA (nxof rfl rfl rfl (by kernel_rfl)) ae101 rfl rfl (show _ = (((i : Nat)) : Int) from by omega) (by omega) rfl ?_
            refine op_store (nxos rfl rfl rfl rfl) sz24 rfl rfl rfl rfl rfl B1 (by simp <;> omega) sel1 (fun N1 B1 => ?_)
            rw [set64A] at B1
            refine At.oneNil ?_
            refine At.inNorm ?_
            refine At.norm (hk_32 ?_)
            refine At.region ?_
            refine op_move (nxlf rfl) rfl rfl ?_
            refine op_addI (nxlf rfl) rfl rfl (by omega) (by omega) rfl ?_
            refine op_assign (nxlf rfl) rfl rfl ?_
            refine At.opsNil ?_
            refine At.norm ?_
            refine At.perm sel3 ?_
            refine At.perm sel3 ?_
            refine At.perm sel2 ?_
            refine At.perm sel3 ?_
            refine At.back ?_ (.refl _) ⟨i + 1, N1, rfl, rfl, rfl, by omega, B1⟩ ?_
            · exact .cons (by first | exact lkI rfl (by omega) | rfl) (.cons (by first | exact lkI rfl (by omega) | rfl) (.cons (by first | exact lkI rfl (by omega) | rfl) (.cons (by first | exact lkI rfl (by omega) | rfl) (.cons (by first | exact lkI rfl (by omega) | rfl) .nil))))
            · omega
          · refine At.exit (At.thenExit (At.thenExit (At.inHit ?_)))
            refine At.norm (hk_28 ?_)
            refine At.drawn [6] [0,1,2,3,4,5,6] (by kernel_rfl) (by kernel_rfl) ?_
            obtain rfl : i = 25 := by omega
            obtain ⟨z, hz⟩ : ∃ z, chR w q 25 = z := ⟨_, rfl⟩
            rw [hz] at B1 hrl
            have hR : kRound (prm a k) k = z.set 0 (z.getD 0 0 ^^^ rcL.getD k 0) := by
              rw [kRound, hp, hq, tu_eq htl, hw, ch_eq hul htl, hz]
            refine op_idxA (nxof rfl rfl rfl (by kernel_rfl)) ae101 rfl rfl (show _ = (((0 : Nat)) : Int) from by omega) (by omega) rfl ?_
            -- an operation that writes, not last
            refine op_loadB (nxof rfl rfl rfl (by kernel_rfl)) sc24 rfl B1 (get64A (by omega)) (by first | exact mem0 | exact mem1 | exact mem2) rfl ?_
            refine op_move (nxof rfl rfl rfl (by kernel_rfl)) rfl rfl ?_
            refine op_callA (nxoa rfl rfl rfl) (.cons rfl .nil) (rConst_f k (by omega)) Try.func98 rfl rfl (by simp) rfl ?_
            rintro v125 L125 ⟨rfl, rfl⟩
            change At _ _ _ [N7, N1, N2, R] _
            refine op_xorU (nxof rfl rfl rfl (by kernel_rfl)) rfl rfl rfl ?_
            refine op_idxA (nxof rfl rfl rfl (by kernel_rfl)) ae101 rfl rfl (show _ = (((0 : Nat)) : Int) from by omega) (by omega) rfl ?_
            refine op_store (nxos rfl rfl rfl rfl) sz24 rfl rfl rfl rfl rfl B1 (by simp <;> omega) sel1 (fun N1 B1 => ?_)
            rw [set64A] at B1
            refine At.oneNil ?_
            refine At.inNorm ?_
            refine At.norm (hk_6 ?_)
            refine At.region ?_
            refine op_move (nxlf rfl) rfl rfl ?_
            refine op_addI (nxlf rfl) rfl rfl (by omega) (by omega) rfl ?_
            refine op_assign (nxlf rfl) rfl rfl ?_
            refine At.opsNil ?_
            refine At.norm ?_
            refine At.sub (L' := [N1, N2, R]) (.cons_cons _ (.cons _ (.cons_cons _ (.cons_cons _ (.slnil))))) ?_
            refine At.back ?_ (.refl _) ⟨k + 1, N1, rfl, rfl, rfl, by omega, by rw [prm, hR]; exact B1⟩ ?_
            · exact .cons (by first | exact lkI rfl (by omega) | rfl) (.cons (by first | exact lkI rfl (by omega) | rfl) (.cons (by first | exact lkI rfl (by omega) | rfl) .nil))
            · omega
  · refine At.exit (At.thenExit (At.thenExit (At.inHit ?_)))
    refine At.norm (hk_2 ?_)
    refine At.seq fun K34 hk_34 => ?_
    refine At.region ?_
    obtain rfl : k = 24 := by omega
    obtain ⟨o, ho⟩ : ∃ o, prm a 24 = o := ⟨_, rfl⟩
    rw [ho] at B1 hpl
    refine op_loadAggB (ds := u64s o) (nxlf rfl) ag101 rfl B1 (all_take (len64s hpl)) (len64s hpl) (by first | exact mem0 | exact mem1 | exact mem2) rfl ?_
    refine op_store (nxl rfl) sz101 rfl rfl rfl (len64s hpl) (all64 _) B2 (by rw [len64s hpl]; simp) sel1 (fun N2 B2 => ?_)
    rw [setL_whole (by rw [len64s hpl]; simp)] at B2
    refine At.opsNil ?_
    refine At.norm (hk_34 ?_)
    refine At.ret (?_)
    refine At.sub (L' := [N2, R]) (.cons_cons _ (.cons _ (.cons_cons _ (.slnil)))) ?_
    refine At.ret1 (L1 := []) rfl (.cell rfl (res_agg (ds := u64s o) ag101 B2 (all_take (len64s hpl)) (len64s hpl) mem0) .nil) (.cons _ (.refl _)) (.refl _) ?_
    exact ⟨by rw [ho], rfl⟩
end Go.Proofs.Ytljacjjeinmfnaa
/- Keccak-256 in the program and in the reference. Condition: at most 2^40 bytes. -/
namespace Go.Proofs.Ytljacjjeinmfnaa
set_option linter.unusedVariables false
set_option linter.unusedSimpArgs false
open Go Go.RowKit
/-- What the reference pads. -/
def refX (l : List UInt8) (j : Nat) : List UInt8 := l ++ 1 :: List.replicate j 0
def refB (l : List UInt8) (j : Nat) : List UInt8 := (refX l j).set (l.length + j) ((refX l j).getD (l.length + j) 0 ||| 128)
theorem refX_len (l : List UInt8) (j : Nat) : (refX l j).length = l.length + 1 + j := by
  rw [refX, List.length_append, List.length_cons, List.length_replicate]; omega
theorem refB_len (l : List UInt8) (j : Nat) : (refB l j).length = l.length + 1 + j := by rw [refB, List.length_set, refX_len]
theorem refX_more (l : List UInt8) (j : Nat) : refX l j ++ [0] = refX l (j + 1) := by
  rw [refX, refX, List.append_assoc, List.cons_append, show List.replicate j (0 : UInt8) ++ [0] = List.replicate (j + 1) 0 from List.replicate_succ'.symm]
theorem blk_full {l : List UInt8} {j k : Nat} (hk : 136 * (k + 1) ≤ l.length) : ((refB l j).drop (136 * k)).take 136 = (l.drop (136 * k)).take 136 := by
  apply List.ext_getElem?
  intro i
  rw [List.getElem?_take, List.getElem?_take]
  split
  · rw [List.getElem?_drop, List.getElem?_drop, refB, List.getElem?_set_ne (by omega), refX, List.getElem?_append_left (by omega)]
  · rfl
theorem abs_full {l : List UInt8} {j : Nat} : ∀ k, 136 * k ≤ l.length → absN (refB l j) k = absN l k
  | 0, _ => rfl
  | k + 1, h => by rw [absN, absN, abs_full k (by omega), blk_full h]
theorem pad_z {r : List UInt8} {j : Nat} (hr : r.length + j = 135) : (r ++ List.replicate (136 - r.length) 0).set r.length 1 = r ++ 1 :: List.replicate j 0 := by
  rw [show 136 - r.length = j + 1 by omega, List.replicate_succ, List.set_append_right _ _ (Nat.le_refl _), Nat.sub_self]; rfl
theorem blk_last {l : List UInt8} {j m : Nat} (hm : 136 * m ≤ l.length) (hj : l.length + 1 + j = 136 * (m + 1)) : ((refB l j).drop (136 * m)).take 136 = padL (l.drop (136 * m)) := by
  have hr : (l.drop (136 * m)).length = l.length - 136 * m := List.length_drop
  have hx : (refX l j).drop (136 * m) = l.drop (136 * m) ++ 1 :: List.replicate j 0 := by rw [refX, List.drop_append_of_le_length hm]
  have hg : (refX l j).getD (l.length + j) 0 = (l.drop (136 * m) ++ 1 :: List.replicate j 0).getD 135 0 := by
    rw [← hx, List.getD_eq_getElem?_getD, List.getD_eq_getElem?_getD, List.getElem?_drop, show 136 * m + 135 = l.length + j by omega]
  rw [List.take_of_length_le (by rw [List.length_drop, refB_len]; omega), refB, List.drop_set, if_neg (by omega), hx, hg, show l.length + j - 136 * m = 135 by omega, padL, pad_z (j := j) (by omega)]
theorem ref_abs {l : List UInt8} {j m : Nat} (hm : m = l.length / 136) (hj : l.length + 1 + j = 136 * (m + 1)) : ouI (absN (refB l j) (m + 1)) 32 = kec l := by
  rw [absN, abs_full m (by omega), blk_last (by omega) hj, kec, ← hm]
theorem blk_at {B : List UInt8} {k i : Nat} (hi : i < 136) : ((B.drop (136 * k)).take 136).getD i 0 = B.getD (136 * k + i) 0 := by
  rw [List.getD_eq_getElem?_getD, List.getElem?_take, if_pos hi, List.getElem?_drop, ← List.getD_eq_getElem?_getD]
theorem len8s {l : List UInt8} {k : Nat} (h : l.length = k) : (u8s l).length = k := by simp [u8s, h]
set_option maxRecDepth 100000 in
set_option maxHeartbeats 4000000 in
theorem FKeccak_f {N : Heaplet} {ao : Option Addr} {n cap : Nat} {l : List UInt8} (hb : RSl N 1 ao n cap (u8s l)) (hn : n ≤ 1099511627776) : Fn Try.prog 45 #[.slice ao n cap] [] [N] (fun v L => v = .agg (u8s (kec l)).toArray ∧ L = []) := by
  have hlen := hb.len8
  have hcap := hb.cap63
  refine Fn.enter (vs := [.slice ao n cap]) Try.func45 rfl rfl rfl ?_
  intro E R hR
  have hb := hb.le (hR N (by simp))
  change At _ _ E [R] _
  refine At.seq fun K1 hk_1 => ?_
  refine At.region ?_
  refine op_alloc (nxla rfl) ze39 rfl (fun N2 b2 B2 => ?_)
  change Blk N2 b2 _ [.int .u8 0, .int .u8 0, .int .u8 0, .int .u8 0, .int .u8 0, .int .u8 0, .int .u8 0, .int .u8 0, .int .u8 0, .int .u8 0, .int .u8 0, .int .u8 0, .int .u8 0, .int .u8 0, .int .u8 0, .int .u8 0, .int .u8 0, .int .u8 0, .int .u8 0, .int .u8 0, .int .u8 0, .int .u8 0, .int .u8 0, .int .u8 0, .int .u8 0, .int .u8 0, .int .u8 0, .int .u8 0, .int .u8 0, .int .u8 0, .int .u8 0, .int .u8 0] at B2
  refine At.opsNil ?_
  refine At.norm (hk_1 ?_)
  refine At.seq fun K2 hk_2 => ?_
  refine At.region ?_
  refine op_callA (nxla rfl) .nil (FNew_f) Try.func92 rfl rfl (by simp) rfl ?_
  rintro v4 L4 ⟨N4, b4, e4, rfl, rfl, B4⟩
  change At _ _ _ [N4, N2, R] _
  refine op_assign (nxlf rfl) rfl rfl ?_
  refine At.opsNil ?_
  refine At.norm (hk_2 ?_)
  refine At.seq fun K3 hk_3 => ?_
  refine At.block ?_
  refine At.loop (fun fr_ hp_ ms_ => ∃ (k : Nat) (po : Option Addr) (pn pc : Nat) (N4 : Heaplet), fr_ = [(0, .slice po pn pc), (2, .pointer (some ⟨b2, 0, none⟩)), (3, .pointer (some ⟨b4, 0, none⟩))] ∧ hp_ = [N4, N2, R] ∧ n - 136 * k = ms_ ∧ (136 * k ≤ n) ∧ (pn = n - 136 * k) ∧ (RSl R 1 po pn pc (u8s (l.drop (136 * k)))) ∧ (Blk N4 b4 e4 (u64s (absN l k) ++ [.slice none 0 0]))) ?_ (.refl _) ⟨0, ao, n, cap, N4, rfl, rfl, rfl, by omega, by omega, hb, B4⟩ ?_
  · exact .cons (by first | exact lkI rfl (by omega) | rfl) (.cons (by first | exact lkI rfl (by omega) | rfl) (.cons (by first | exact lkI rfl (by omega) | rfl) .nil))
  rintro _ _ _ ⟨k, po, pn, pc, N4, rfl, rfl, rfl, hk, hpn, hp, B4⟩
  have hal := absN_len l k
  have hpc := hp.cap63
  refine At.seq fun K4 hk_4 => ?_
  refine At.seq fun K5 hk_5 => ?_
  refine At.region ?_
  refine op_move (nxlf rfl) rfl rfl ?_
  refine op_lenS (nxlf rfl) se27 rfl rfl ?_
  refine op_geq (nxlf rfl) rfl rfl rfl ?_
  refine At.opsNil ?_
  refine At.norm (hk_5 ?_)
  refine At.condP rfl (fun c7 => ?_) (fun c7 => ?_)
  · refine At.skip ?_
    refine At.norm (hk_4 ?_)
    refine At.seq fun K6 hk_6 => ?_
    refine At.block ?_
    refine At.drawn [5] [0,1,2,3,4,5] (by kernel_rfl) (by kernel_rfl) ?_
    refine op_move (nxof rfl rfl rfl (by kernel_rfl)) rfl rfl ?_
    refine op_nilChk (nxof rfl rfl rfl (by kernel_rfl)) rfl rfl ?_
    refine op_fieldAddr (nxof rfl rfl rfl (by kernel_rfl)) fl144_0 rfl rfl ?_
    refine op_move (nxof rfl rfl rfl (by kernel_rfl)) rfl rfl ?_
    refine op_slice0 (nxof rfl rfl rfl (by kernel_rfl)) se27 rfl (.some rfl (show _ = (((136 : Nat)) : Int) from by omega)) .none (by omega) (by omega) (by simp) rfl ?_
    have s14 := hp.take8 (hi := 136) (m := pc) (by omega) (Nat.le_refl _) (by omega)
    refine op_call (nxos rfl rfl rfl rfl) (.cons rfl (.cons rfl .nil)) (FAbsorb_f hal B4 s14 rfl) (F := [N2, R]) Try.func93 rfl rfl (.refl _) (by simp) rfl ?_
    rintro v15 L15 ⟨N4, rfl, rfl, B4⟩
    change At _ _ _ [N4, N2, R] _
    refine At.oneNil ?_
    refine At.inNorm ?_
    refine At.norm (hk_6 ?_)
    refine At.region ?_
    refine op_move (nxlf rfl) rfl rfl ?_
    refine op_slice (nxlf rfl) se27 rfl (.some rfl (show _ = (((136 : Nat)) : Int) from by omega)) .none .none (by omega) (by omega) (by omega) (by simp) rfl ?_
    refine op_assign (nxlf rfl) rfl rfl ?_
    refine At.opsNil ?_
    refine At.norm ?_
    refine At.back ?_ (.refl _) ⟨k + 1, sadr po 136 pc 1, pn - 136, pc - 136, N4, rfl, rfl, rfl, by omega, by omega, by rw [show 136 * (k + 1) = 136 * k + 136 by omega, ← List.drop_drop]; exact hp.drop8 (lo := 136) (by omega), B4⟩ ?_
    · exact .cons (by first | exact lkI rfl (by omega) | rfl) (.cons (by first | exact lkI rfl (by omega) | rfl) (.cons (by first | exact lkI rfl (by omega) | rfl) .nil))
    · omega
  · refine At.exit (At.thenExit (At.thenExit (At.inHit ?_)))
    refine At.norm (hk_3 ?_)
    refine At.seq fun K7 hk_7 => ?_
    refine At.region ?_
    refine op_move (nxlf rfl) rfl rfl ?_
    refine op_move (nxlf rfl) rfl rfl ?_
    refine op_nilChk (nxlf rfl) rfl rfl ?_
    refine op_fieldAddr (nxlf rfl) fl144_1 rfl rfl ?_
    refine op_loadB (nxlf rfl) sc27 rfl B4 (by first | rfl | (rw [List.getElem?_append_right (by rw [len64s hal]; decide), len64s hal]; rfl)) mem0 rfl ?_
    refine op_move (nxlf rfl) rfl rfl ?_
    refine op_append0 (nxla rfl) Try.underlying27 Try.underlying27 te5 rfl rfl hp (by first | exact mem0 | exact mem1 | exact mem2 | exact mem3 | exact mem4 | exact mem5 | exact mem6 | exact mem7 | exact mem8 | exact mem9) (by first | exact one_u8s _ | exact one_u64s _ | exact one_u32s _ | (intro u hu; simp at hu; subst hu; rfl)) (by omega) (by omega) rfl (fun N22 a22 p22 r22 => ?_)
    have s22 := r22.rsl
    refine op_nilChk (nxlf rfl) rfl rfl ?_
    refine op_fieldAddr (nxlf rfl) fl144_1 rfl rfl ?_
    refine op_store (nxl rfl) sz27 rfl rfl rfl rfl rfl B4 (by simp [u64s, hal]) sel1 (fun N4 B4 => ?_)
    have B4 : Blk N4 b4 e4 (u64s (absN l k) ++ [.slice a22 pn p22]) := by
      rw [setL, setL, List.set_append_right _ _ (by rw [len64s hal]; decide), len64s hal] at B4
      exact B4
    refine At.opsNil ?_
    refine At.norm (hk_7 ?_)
    refine At.seq fun K8 hk_8 => ?_
    refine At.region ?_
    refine op_move (nxlf rfl) rfl rfl ?_
    have hkm : k = n / 136 := by omega
    have hkec : ouI (absorb (absN l k) (padL (l.drop (136 * k)))) 32 = kec l := by rw [kec, hlen, ← hkm]
    have hol := kec_len l
    refine op_call (nxl rfl) (.cons rfl .nil) (FSum_f hal B4 s22 (by omega)) (F := [N22, N2, R]) Try.func94 rfl rfl (.refl _) (by simp) rfl ?_
    rintro v26 L26 ⟨rfl, rfl⟩
    change At _ _ _ [N22, N2, R] _
    rw [hkec]
    refine op_store (nxl rfl) sz39 rfl rfl rfl (len8s hol) (all8 _) B2 (by rw [len8s hol]; simp) sel1 (fun N2 B2 => ?_)
    rw [setL_whole (by rw [len8s hol]; simp)] at B2
    refine At.opsNil ?_
    refine At.norm (hk_8 ?_)
    refine At.ret (?_)
    refine At.sub (L' := [N2, R]) (.cons_cons _ (.cons _ (.cons_cons _ (.slnil)))) ?_
    refine At.ret1 (L1 := []) rfl (.cell rfl (res_agg (ds := u8s (kec l)) ag39 B2 (all_take (len8s hol)) (len8s hol) mem0) .nil) (.cons _ (.refl _)) (.refl _) ?_
    exact ⟨rfl, rfl⟩
end Go.Proofs.Ytljacjjeinmfnaa
/- The reference's Keccak-256. Condition: at most 2^40 bytes. -/
namespace Go.Proofs.Ytljacjjeinmfnaa
set_option linter.unusedVariables false
set_option linter.unusedSimpArgs false
open Go Go.RowKit
theorem u8s_ap2 (a b : List UInt8) : u8s (a ++ b) = u8s a ++ u8s b := by simp [u8s]
set_option maxRecDepth 100000 in
set_option maxHeartbeats 4000000 in
theorem rKeccak_f {N : Heaplet} {ao : Option Addr} {n cap : Nat} {l : List UInt8} (hb : RSl N 1 ao n cap (u8s l)) (hn : n ≤ 1099511627776) : Fn Try.prog 16 #[.slice ao n cap] [] [N] (fun v L => v = .agg (u8s (kec l)).toArray ∧ L = []) := by
  have hlen := hb.len8
  have hcap := hb.cap63
  refine Fn.enter (vs := [.slice ao n cap]) Try.func16 rfl rfl rfl ?_
  intro E R hR
  have hb := hb.le (hR N (by simp))
  change At _ _ E [R] _
  refine At.seq fun K1 hk_1 => ?_
  refine At.region ?_
  refine op_alloc (nxla rfl) ze39 rfl (fun N2 b2 B2 => ?_)
  change Blk N2 b2 _ [.int .u8 0, .int .u8 0, .int .u8 0, .int .u8 0, .int .u8 0, .int .u8 0, .int .u8 0, .int .u8 0, .int .u8 0, .int .u8 0, .int .u8 0, .int .u8 0, .int .u8 0, .int .u8 0, .int .u8 0, .int .u8 0, .int .u8 0, .int .u8 0, .int .u8 0, .int .u8 0, .int .u8 0, .int .u8 0, .int .u8 0, .int .u8 0, .int .u8 0, .int .u8 0, .int .u8 0, .int .u8 0, .int .u8 0, .int .u8 0, .int .u8 0, .int .u8 0] at B2
  refine At.opsNil ?_
  refine At.norm (hk_1 ?_)
  refine At.seq fun K2 hk_2 => ?_
  refine At.region ?_
  refine op_lit (nxla rfl) Try.underlying27 ze5 sz5 .nil rfl rfl (by simp [Value.cells]) rfl rfl rfl (fun N9 a9 r9 => ?_)
  simp only [flatV, List.flatMap_cons, List.flatMap_nil, Value.cells, List.append_nil, List.cons_append, List.nil_append] at r9
  have s9 := r9.rsl
  refine op_move (nxlf rfl) rfl rfl ?_
  refine op_append (nxl rfl) Try.underlying27 Try.underlying27 te5 rfl rfl r9 hb (by first | exact mem0 | exact mem1 | exact mem2 | exact mem3 | exact mem4 | exact mem5 | exact mem6 | exact mem7 | exact mem8 | exact mem9) (by first | exact one_u8s _ | exact one_u64s _ | exact one_u32s _ | (intro u hu; simp at hu; subst hu; rfl)) (by omega) (by omega) sel0 rfl (fun N11 a11 p11 r11 => ?_)
  have s11 := r11.rsl
  rw [List.nil_append] at r11
  refine op_lit (nxla rfl) Try.underlying27 ze5 sz5 (.cons rfl .nil) rfl rfl (by simp [Value.cells]) rfl rfl rfl (fun N12 a12 r12 => ?_)
  simp only [flatV, List.flatMap_cons, List.flatMap_nil, Value.cells, List.append_nil, List.cons_append, List.nil_append] at r12
  have s12 := r12.rsl
  change Row N12 _ 1 a12 1 1 (u8s [1]) at r12
  have s12 := r12.rsl
  refine op_append (nxl rfl) Try.underlying27 Try.underlying27 te5 rfl rfl r11 s12 (by first | exact mem0 | exact mem1 | exact mem2 | exact mem3 | exact mem4 | exact mem5 | exact mem6 | exact mem7 | exact mem8 | exact mem9) (by first | exact one_u8s _ | exact one_u64s _ | exact one_u32s _ | (intro u hu; simp at hu; subst hu; rfl)) (by omega) (by omega) sel1 rfl (fun N13 a13 p13 r13 => ?_)
  have s13 := r13.rsl
  have hX0 : refX l 0 = l ++ [1] := rfl
  have r13 : Row N13 5 1 a13 (0 + n + 1) p13 (u8s (refX l 0)) := by
    rw [hX0, u8s_ap2]
    exact r13
  refine op_assign (nxlf rfl) rfl rfl ?_
  refine At.opsNil ?_
  refine At.norm (hk_2 ?_)
  refine At.seq fun K3 hk_3 => ?_
  refine At.block ?_
  refine At.sub (L' := [N13, N2, R]) (.cons_cons _ (.cons _ (.cons_cons _ (.cons_cons _ (.slnil))))) ?_
  refine At.loop (fun fr_ hp_ ms_ => ∃ (j : Nat) (pa : Option Addr) (na ca : Nat) (Na : Heaplet), fr_ = [(2, .pointer (some ⟨b2, 0, none⟩)), (3, .slice pa na ca)] ∧ hp_ = [Na, N2, R] ∧ 136 * (n / 136 + 1) - na = ms_ ∧ (na = n + 1 + j) ∧ (n + 1 + j ≤ 136 * (n / 136 + 1)) ∧ (Row Na 5 1 pa na ca (u8s (refX l j)))) ?_ (.refl _) ⟨0, a13, 0 + n + 1, p13, N13, rfl, rfl, rfl, by omega, by omega, r13⟩ ?_
  · exact .cons (by first | exact lkI rfl (by omega) | rfl) (.cons (by first | exact lkI rfl (by omega) | rfl) .nil)
  rintro _ _ _ ⟨j, pa, na, ca, Na, rfl, rfl, rfl, hna, hj, ra⟩
  have sa := ra.rsl
  have hca := sa.cap63
  have hxl := refX_len l j
  refine At.seq fun K4 hk_4 => ?_
  refine At.seq fun K5 hk_5 => ?_
  refine At.region ?_
  refine op_move (nxlf rfl) rfl rfl ?_
  refine op_lenS (nxlf rfl) se27 rfl rfl ?_
  refine op_rem (nxlf rfl) rfl rfl (by omega) (by omega) rfl ?_
  refine op_neq (nxlf rfl) rfl rfl rfl ?_
  refine At.opsNil ?_
  refine At.norm (hk_5 ?_)
  refine At.condP rfl (fun c17 => ?_) (fun c17 => ?_)
  · refine At.skip ?_
    refine At.norm (hk_4 ?_)
    refine At.block ?_
    refine At.region ?_
    refine op_move (nxlf rfl) rfl rfl ?_
    refine op_lit (nxla rfl) Try.underlying27 ze5 sz5 (.cons rfl .nil) rfl rfl (by simp [Value.cells]) rfl rfl rfl (fun N19 a19 r19 => ?_)
    simp only [flatV, List.flatMap_cons, List.flatMap_nil, Value.cells, List.append_nil, List.cons_append, List.nil_append] at r19
    have s19 := r19.rsl
    change Row N19 _ 1 a19 1 1 (u8s [0]) at r19
    have s19 := r19.rsl
    refine op_append (nxl rfl) Try.underlying27 Try.underlying27 te5 rfl rfl ra s19 (by first | exact mem0 | exact mem1 | exact mem2 | exact mem3 | exact mem4 | exact mem5 | exact mem6 | exact mem7 | exact mem8 | exact mem9) (by first | exact one_u8s _ | exact one_u64s _ | exact one_u32s _ | (intro u hu; simp at hu; subst hu; rfl)) (by omega) (by omega) sel1 rfl (fun N20 a20 p20 r20 => ?_)
    have s20 := r20.rsl
    have r20 : Row N20 5 1 a20 (na + 1) p20 (u8s (refX l (j + 1))) := by
      rw [← refX_more, u8s_ap2]
      exact r20
    refine op_assign (nxlf rfl) rfl rfl ?_
    refine At.opsNil ?_
    refine At.inNorm ?_
    refine At.norm ?_
    refine At.sub (L' := [N20, N2, R]) (.cons_cons _ (.cons _ (.cons_cons _ (.cons_cons _ (.slnil))))) ?_
    refine At.back ?_ (.refl _) ⟨j + 1, a20, na + 1, p20, N20, rfl, rfl, rfl, by omega, by omega, r20⟩ ?_
    · exact .cons (by first | exact lkI rfl (by omega) | rfl) (.cons (by first | exact lkI rfl (by omega) | rfl) .nil)
    · omega
  · refine At.exit (At.thenExit (At.thenExit (At.inHit ?_)))
    refine At.norm (hk_3 ?_)
    refine At.seq fun K6 hk_6 => ?_
    refine At.region ?_
    refine op_move (nxlf rfl) rfl rfl ?_
    refine op_move (nxlf rfl) rfl rfl ?_
    refine op_lenS (nxlf rfl) se27 rfl rfl ?_
    refine op_subI (nxlf rfl) rfl rfl (by omega) (by omega) rfl ?_
    refine op_move (nxlf rfl) rfl rfl ?_
    refine op_move (nxlf rfl) rfl rfl ?_
    refine op_lenS (nxlf rfl) se27 rfl rfl ?_
    refine op_subI (nxlf rfl) rfl rfl (by omega) (by omega) rfl ?_
    refine op_idx1 (nxlf rfl) se27 rfl rfl sa (show _ = (((na - 1 : Nat)) : Int) from by omega) (by omega) rfl ?_
    refine op_loadE (nxlf rfl) sc5 rfl sa (by first | exact get8 (by omega) | exact get64 (by omega) | exact get32 (by omega)) (by first | exact mem0 | exact mem1 | exact mem2 | exact mem3 | exact mem4 | exact mem5 | exact mem6 | exact mem7 | exact mem8 | exact mem9) rfl ?_
    refine op_bits (by simp) (nxlf rfl) rfl rfl rfl ?_
    rw [or128]
    refine op_idx1 (nxlf rfl) se27 rfl rfl sa (show _ = (((na - 1 : Nat)) : Int) from by omega) (by omega) rfl ?_
    refine op_storeE (nxl rfl) sz5 rfl rfl rfl rfl rfl ra (by rw [len8s (refX_len l j), List.length_singleton]; omega) (by simp) sel0 (fun Na ra => ?_)
    have hjm : l.length + 1 + j = 136 * (n / 136 + 1) := by omega
    have hm : n / 136 = l.length / 136 := by rw [hlen]
    simp only [setL] at ra
    rw [set_u8s, show na - 1 = l.length + j by omega] at ra
    change Row Na _ 1 pa na ca (u8s (refB l j)) at ra
    have sa := ra.rsl
    refine At.opsNil ?_
    refine At.norm (hk_6 ?_)
    refine At.seq fun K7 hk_7 => ?_
    refine At.region ?_
    refine op_alloc (nxla rfl) ze101 rfl (fun N4 b4 B4 => ?_)
    change Blk N4 b4 _ [.int .u64 0, .int .u64 0, .int .u64 0, .int .u64 0, .int .u64 0, .int .u64 0, .int .u64 0, .int .u64 0, .int .u64 0, .int .u64 0, .int .u64 0, .int .u64 0, .int .u64 0, .int .u64 0, .int .u64 0, .int .u64 0, .int .u64 0, .int .u64 0, .int .u64 0, .int .u64 0, .int .u64 0, .int .u64 0, .int .u64 0, .int .u64 0, .int .u64 0] at B4
    obtain ⟨B, hB⟩ : ∃ B, refB l j = B := ⟨_, rfl⟩
    have hBl : B.length = na := by rw [← hB, refB_len]; omega
    rw [hB] at ra
    have sa := ra.rsl
    change Blk N4 b4 _ (u64s (absN B 0)) at B4
    refine At.opsNil ?_
    refine At.norm (hk_7 ?_)
    refine At.seq fun K8 hk_8 => ?_
    refine At.seq fun K9 hk_9 => ?_
    refine At.region ?_
    refine op_assign (nxlf rfl) rfl rfl ?_
    refine At.opsNil ?_
    refine At.norm (hk_9 ?_)
    refine At.block ?_
    refine At.loop (fun fr_ hp_ ms_ => ∃ (k : Nat) (N4 : Heaplet), fr_ = [(2, .pointer (some ⟨b2, 0, none⟩)), (3, .slice pa na ca), (4, .pointer (some ⟨b4, 0, none⟩)), (5, .int .i64 (136 * (k : Int)))] ∧ hp_ = [N4, Na, N2, R] ∧ n / 136 + 1 - k = ms_ ∧ (k ≤ n / 136 + 1) ∧ (Blk N4 b4 101 (u64s (absN B k)))) ?_ (.refl _) ⟨0, N4, rfl, rfl, rfl, by omega, B4⟩ ?_
    · exact .cons (by first | exact lkI rfl (by omega) | rfl) (.cons (by first | exact lkI rfl (by omega) | rfl) (.cons (by first | exact lkI rfl (by omega) | rfl) (.cons (by first | exact lkI rfl (by omega) | rfl) .nil)))
    rintro _ _ _ ⟨k, N4, rfl, rfl, rfl, hk, B4⟩
    refine At.seq fun K10 hk_10 => ?_
    refine At.seq fun K11 hk_11 => ?_
    refine At.region ?_
    refine op_move (nxlf rfl) rfl rfl ?_
    refine op_move (nxlf rfl) rfl rfl ?_
    refine op_lenS (nxlf rfl) se27 rfl rfl ?_
    refine op_lss (nxlf rfl) rfl rfl rfl ?_
    refine At.opsNil ?_
    refine At.norm (hk_11 ?_)
    refine At.condP rfl (fun c36 => ?_) (fun c36 => ?_)
    · refine At.skip ?_
      refine At.norm (hk_10 ?_)
      refine At.seq fun K12 hk_12 => ?_
      refine At.block ?_
      refine At.seq fun K13 hk_13 => ?_
      refine At.seq fun K14 hk_14 => ?_
      refine At.region ?_
      refine op_assign (nxlf rfl) rfl rfl ?_
      refine At.opsNil ?_
      refine At.norm (hk_14 ?_)
      refine At.block ?_
      obtain ⟨blk, hblk⟩ : ∃ blk, (B.drop (136 * k)).take 136 = blk := ⟨_, rfl⟩
      change Blk N4 b4 _ (u64s (abI (absN B k) blk 0)) at B4
      have hNl := absN_len B k
      refine At.loop (fun fr_ hp_ ms_ => ∃ (i : Nat) (N4 : Heaplet), fr_ = [(2, .pointer (some ⟨b2, 0, none⟩)), (3, .slice pa na ca), (4, .pointer (some ⟨b4, 0, none⟩)), (5, .int .i64 (136 * (k : Int))), (6, .int .i64 (i : Int))] ∧ hp_ = [N4, Na, N2, R] ∧ 136 - i = ms_ ∧ (i ≤ 136) ∧ (Blk N4 b4 101 (u64s (abI (absN B k) blk i)))) ?_ (.refl _) ⟨0, N4, rfl, rfl, rfl, by omega, B4⟩ ?_
      · exact .cons (by first | exact lkI rfl (by omega) | rfl) (.cons (by first | exact lkI rfl (by omega) | rfl) (.cons (by first | exact lkI rfl (by omega) | rfl) (.cons (by first | exact lkI rfl (by omega) | rfl) (.cons (by first | exact lkI rfl (by omega) | rfl) .nil))))
      rintro _ _ _ ⟨i, N4, rfl, rfl, rfl, hi, B4⟩
      have hil := (abI_len (absN B k) blk i).trans hNl
      refine At.seq fun K15 hk_15 => ?_
      refine At.seq fun K16 hk_16 => ?_
      refine At.region ?_
      refine op_move (nxlf rfl) rfl rfl ?_
      refine op_lss (nxlf rfl) rfl rfl rfl ?_
      refine At.opsNil ?_
      refine At.norm (hk_16 ?_)
      refine At.condP rfl (fun c40 => ?_) (fun c40 => ?_)
      · refine At.skip ?_
        refine At.norm (hk_15 ?_)
        refine At.seq fun K17 hk_17 => ?_
        refine At.block ?_
        refine At.drawn [19] [0,1,2,3,4,5,6,7,8,9,10,11,12,13,14,15,16,17,18,19] (by kernel_rfl) (by kernel_rfl) ?_
        refine op_move (nxof rfl rfl rfl (by kernel_rfl)) rfl rfl ?_
        refine op_quoI (nxof rfl rfl rfl (by kernel_rfl)) rfl rfl (by omega) (by omega) (by omega) rfl ?_
        refine op_move (nxof rfl rfl rfl (by kernel_rfl)) rfl rfl ?_
        refine op_quoI (nxof rfl rfl rfl (by kernel_rfl)) rfl rfl (by omega) (by omega) (by omega) rfl ?_
        refine op_idxA (nxof rfl rfl rfl (by kernel_rfl)) ae101 rfl rfl (show _ = (((i / 8 : Nat)) : Int) from by omega) (by omega) rfl ?_
        -- an operation that writes, not last
        refine op_loadB (nxof rfl rfl rfl (by kernel_rfl)) sc24 rfl B4 (get64A (by omega)) (by first | exact mem0 | exact mem1 | exact mem2) rfl ?_
        refine op_move (nxof rfl rfl rfl (by kernel_rfl)) rfl rfl ?_
        refine op_move (nxof rfl rfl rfl (by kernel_rfl)) rfl rfl ?_
        refine op_move (nxof rfl rfl rfl (by kernel_rfl)) rfl rfl ?_
        refine op_addI (nxof rfl rfl rfl (by kernel_rfl)) rfl rfl (by omega) (by omega) rfl ?_
        refine op_idx1 (nxof rfl rfl rfl (by kernel_rfl)) se27 rfl rfl sa (show _ = (((136 * k + i : Nat)) : Int) from by omega) (by omega) rfl ?_
        refine op_loadE (nxof rfl rfl rfl (by kernel_rfl)) sc5 rfl sa (by first | exact get8 (by omega) | exact get64 (by omega) | exact get32 (by omega)) (by first | exact mem0 | exact mem1 | exact mem2 | exact mem3 | exact mem4 | exact mem5 | exact mem6 | exact mem7 | exact mem8 | exact mem9) rfl ?_
        rw [← blk_at (B := B) (k := k) (i := i) (by omega), hblk]
        refine op_conv64 (nxof rfl rfl rfl (by kernel_rfl)) (und_some Try.underlying5) Try.underlying24 rfl (show _ = ((((blk.getD i 0).toNat : Nat)) : Int) from by omega) rfl ?_
        refine op_move (nxof rfl rfl rfl (by kernel_rfl)) rfl rfl ?_
        refine op_rem (nxof rfl rfl rfl (by kernel_rfl)) rfl rfl (by omega) (by omega) rfl ?_
        refine op_mulI (nxof rfl rfl rfl (by kernel_rfl)) rfl rfl (by omega) (by omega) rfl ?_
        refine op_shlU (nxof rfl rfl rfl (by kernel_rfl)) rfl rfl (show _ = (((i % 8 * 8 : Nat)) : Int) from by omega) rfl ?_
        refine op_xorU (nxof rfl rfl rfl (by kernel_rfl)) rfl rfl rfl ?_
        refine op_idxA (nxof rfl rfl rfl (by kernel_rfl)) ae101 rfl rfl (show _ = (((i / 8 : Nat)) : Int) from by omega) (by omega) rfl ?_
        refine op_store (nxos rfl rfl rfl rfl) sz24 rfl rfl rfl rfl rfl B4 (by simp <;> omega) sel0 (fun N4 B4 => ?_)
        rw [set64A] at B4
        refine At.oneNil ?_
        refine At.inNorm ?_
        refine At.norm (hk_17 ?_)
        refine At.region ?_
        refine op_move (nxlf rfl) rfl rfl ?_
        refine op_addI (nxlf rfl) rfl rfl (by omega) (by omega) rfl ?_
        refine op_assign (nxlf rfl) rfl rfl ?_
        refine At.opsNil ?_
        refine At.norm ?_
        refine At.back ?_ (.refl _) ⟨i + 1, N4, rfl, rfl, rfl, by omega, B4⟩ ?_
        · exact .cons (by first | exact lkI rfl (by omega) | rfl) (.cons (by first | exact lkI rfl (by omega) | rfl) (.cons (by first | exact lkI rfl (by omega) | rfl) (.cons (by first | exact lkI rfl (by omega) | rfl) (.cons (by first | exact lkI rfl (by omega) | rfl) .nil))))
        · omega
      · refine At.exit (At.thenExit (At.thenExit (At.inHit ?_)))
        refine At.norm (hk_13 ?_)
        refine At.region ?_
        obtain rfl : i = 136 := by omega
        obtain ⟨A, hA⟩ : ∃ A, abI (absN B k) blk 136 = A := ⟨_, rfl⟩
        rw [hA] at B4 hil
        have hpl := (prm_len A 24).trans hil
        have hnx : absN B (k + 1) = prm A 24 := by rw [absN, absorb, hblk, hA]
        refine op_loadAggB (ds := u64s A) (nxlf rfl) ag101 rfl B4 (all_take (len64s hil)) (len64s hil) (by first | exact mem0 | exact mem1 | exact mem2) rfl ?_
        refine op_callA (nxla rfl) (.cons rfl .nil) (rPermute_f hil) Try.func49 rfl rfl (by simp) rfl ?_
        rintro v63 L63 ⟨rfl, rfl⟩
        change At _ _ _ [N4, Na, N2, R] _
        refine op_store (nxl rfl) sz101 rfl rfl rfl (len64s hpl) (all64 _) B4 (by rw [len64s hpl, len64s hil]; simp) sel0 (fun N4 B4 => ?_)
        rw [setL_whole (by rw [len64s hpl, len64s hil]), ← hnx] at B4
        refine At.opsNil ?_
        refine At.inNorm ?_
        refine At.norm (hk_12 ?_)
        refine At.region ?_
        refine op_move (nxlf rfl) rfl rfl ?_
        refine op_addI (nxlf rfl) rfl rfl (by omega) (by omega) rfl ?_
        refine op_assign (nxlf rfl) rfl rfl ?_
        refine At.opsNil ?_
        refine At.norm ?_
        refine At.back ?_ (.refl _) ⟨k + 1, N4, rfl, rfl, rfl, by omega, B4⟩ ?_
        · exact .cons (by first | exact lkI rfl (by omega) | rfl) (.cons (by first | exact lkI rfl (by omega) | rfl) (.cons (by first | exact lkI rfl (by omega) | rfl) (.cons (by first | exact lkI rfl (by omega) | rfl) .nil)))
        · omega
    · refine At.exit (At.thenExit (At.thenExit (At.inHit ?_)))
      refine At.norm (hk_8 ?_)
      refine At.seq fun K18 hk_18 => ?_
      refine At.region ?_
      refine op_alloc (nxla rfl) ze39 rfl (fun N7 b7 B7 => ?_)
      change Blk N7 b7 _ [.int .u8 0, .int .u8 0, .int .u8 0, .int .u8 0, .int .u8 0, .int .u8 0, .int .u8 0, .int .u8 0, .int .u8 0, .int .u8 0, .int .u8 0, .int .u8 0, .int .u8 0, .int .u8 0, .int .u8 0, .int .u8 0, .int .u8 0, .int .u8 0, .int .u8 0, .int .u8 0, .int .u8 0, .int .u8 0, .int .u8 0, .int .u8 0, .int .u8 0, .int .u8 0, .int .u8 0, .int .u8 0, .int .u8 0, .int .u8 0, .int .u8 0, .int .u8 0] at B7
      have hkm : k = n / 136 + 1 := by omega
      obtain ⟨A, hA⟩ : ∃ A, absN B k = A := ⟨_, rfl⟩
      have hAl : A.length = 25 := by rw [← hA]; exact absN_len B k
      have hfin : ouI A 32 = kec l := by rw [← hA, hkm, ← hB, ref_abs hm hjm]
      rw [hA] at B4
      change Blk N7 b7 _ (u8s (ouI A 0)) at B7
      refine At.opsNil ?_
      refine At.norm (hk_18 ?_)
      refine At.seq fun K19 hk_19 => ?_
      refine At.seq fun K20 hk_20 => ?_
      refine At.region ?_
      refine op_assign (nxlf rfl) rfl rfl ?_
      refine At.opsNil ?_
      refine At.norm (hk_20 ?_)
      refine At.block ?_
      refine At.sub (L' := [N7, N4, N2, R]) (.cons_cons _ (.cons_cons _ (.cons _ (.cons_cons _ (.cons_cons _ (.slnil)))))) ?_
      refine At.loop (fun fr_ hp_ ms_ => ∃ (i : Nat) (N7 : Heaplet), fr_ = [(2, .pointer (some ⟨b2, 0, none⟩)), (4, .pointer (some ⟨b4, 0, none⟩)), (7, .pointer (some ⟨b7, 0, none⟩)), (8, .int .i64 (i : Int))] ∧ hp_ = [N7, N4, N2, R] ∧ 32 - i = ms_ ∧ (i ≤ 32) ∧ (Blk N7 b7 39 (u8s (ouI A i)))) ?_ (.refl _) ⟨0, N7, rfl, rfl, rfl, by omega, B7⟩ ?_
      · exact .cons (by first | exact lkI rfl (by omega) | rfl) (.cons (by first | exact lkI rfl (by omega) | rfl) (.cons (by first | exact lkI rfl (by omega) | rfl) (.cons (by first | exact lkI rfl (by omega) | rfl) .nil)))
      rintro _ _ _ ⟨i, N7, rfl, rfl, rfl, hi, B7⟩
      have hol := ouI_len A i
      refine At.seq fun K21 hk_21 => ?_
      refine At.seq fun K22 hk_22 => ?_
      refine At.region ?_
      refine op_move (nxlf rfl) rfl rfl ?_
      refine op_lss (nxlf rfl) rfl rfl rfl ?_
      refine At.opsNil ?_
      refine At.norm (hk_22 ?_)
      refine At.condP rfl (fun c65 => ?_) (fun c65 => ?_)
      · refine At.skip ?_
        refine At.norm (hk_21 ?_)
        refine At.seq fun K23 hk_23 => ?_
        refine At.block ?_
        refine At.region ?_
        refine op_move (nxlf rfl) rfl rfl ?_
        refine op_move (nxlf rfl) rfl rfl ?_
        refine op_quoI (nxlf rfl) rfl rfl (by omega) (by omega) (by omega) rfl ?_
        refine op_idxA (nxlf rfl) ae101 rfl rfl (show _ = (((i / 8 : Nat)) : Int) from by omega) (by omega) rfl ?_
        refine op_loadB (nxlf rfl) sc24 rfl B4 (get64A (by omega)) (by first | exact mem0 | exact mem1 | exact mem2) rfl ?_
        refine op_move (nxlf rfl) rfl rfl ?_
        refine op_rem (nxlf rfl) rfl rfl (by omega) (by omega) rfl ?_
        refine op_mulI (nxlf rfl) rfl rfl (by omega) (by omega) rfl ?_
        refine op_shrU (nxlf rfl) rfl rfl (show _ = (((i % 8 * 8 : Nat)) : Int) from by omega) rfl ?_
        refine op_conv8 (nxlf rfl) (und_some Try.underlying24) Try.underlying5 rfl (show _ = ((((shr64 (A.getD (i / 8) 0) (i % 8 * 8)).toNat : Nat)) : Int) from by omega) rfl ?_
        refine op_idxA (nxlf rfl) ae39 rfl rfl (show _ = (((i : Nat)) : Int) from by omega) (by omega) rfl ?_
        refine op_store (nxl rfl) sz5 rfl rfl rfl rfl rfl B7 (by simp <;> omega) sel0 (fun N7 B7 => ?_)
        rw [set8A] at B7
        refine At.opsNil ?_
        refine At.inNorm ?_
        refine At.norm (hk_23 ?_)
        refine At.region ?_
        refine op_move (nxlf rfl) rfl rfl ?_
        refine op_addI (nxlf rfl) rfl rfl (by omega) (by omega) rfl ?_
        refine op_assign (nxlf rfl) rfl rfl ?_
        refine At.opsNil ?_
        refine At.norm ?_
        refine At.back ?_ (.refl _) ⟨i + 1, N7, rfl, rfl, rfl, by omega, B7⟩ ?_
        · exact .cons (by first | exact lkI rfl (by omega) | rfl) (.cons (by first | exact lkI rfl (by omega) | rfl) (.cons (by first | exact lkI rfl (by omega) | rfl) (.cons (by first | exact lkI rfl (by omega) | rfl) .nil)))
        · omega
      · refine At.exit (At.thenExit (At.thenExit (At.inHit ?_)))
        refine At.norm (hk_19 ?_)
        refine At.seq fun K24 hk_24 => ?_
        refine At.region ?_
        obtain rfl : i = 32 := by omega
        rw [hfin] at B7 hol
        refine op_loadAggB (ds := u8s (kec l)) (nxlf rfl) ag39 rfl B7 (all_take (len8s hol)) (len8s hol) (by first | exact mem0 | exact mem1 | exact mem2) rfl ?_
        refine op_store (nxl rfl) sz39 rfl rfl rfl (len8s hol) (all8 _) B2 (by rw [len8s hol]; simp) sel2 (fun N2 B2 => ?_)
        rw [setL_whole (by rw [len8s hol]; simp)] at B2
        refine At.opsNil ?_
        refine At.norm (hk_24 ?_)
        refine At.ret (?_)
        refine At.sub (L' := [N2, R]) (.cons_cons _ (.cons _ (.cons _ (.cons_cons _ (.slnil))))) ?_
        refine At.ret1 (L1 := []) rfl (.cell rfl (res_agg (ds := u8s (kec l)) ag39 B2 (all_take (len8s hol)) (len8s hol) mem0) .nil) (.cons _ (.refl _)) (.refl _) ?_
        exact ⟨rfl, rfl⟩
end Go.Proofs.Ytljacjjeinmfnaa
/- Plain law: a number of two limbs divided by one limb, as package math/bits reckons it. No condition. -/
namespace Go.Proofs.Ytljacjjeinmfnaa
set_option linter.unusedVariables false
set_option linter.unusedSimpArgs false
/-- A guess of the quotient's digit, and what it leaves of the upper digits. -/
def DInv (R u1 y1 y0 q rh : Nat) : Prop := rh + q * y1 = R ∧ rh * 4294967296 + u1 < q * y0 + y1 * 4294967296 + y0 ∧ q ≤ 4294967297
end Go.Proofs.Ytljacjjeinmfnaa
/- Package math/bits: sums, differences, products, quotients of limbs. No condition but what Go asks. -/
namespace Go.Proofs.Ytljacjjeinmfnaa
set_option linter.unusedVariables false
set_option linter.unusedSimpArgs false
open Go Go.RowKit
def sub64E : Array Value → Sem Value := fun args => do
  let (x, y, b) ← Extern.MathBitsCarry.three "Sub64" args
  pure (Extern.MathBitsCarry.pair ((x + Extern.MathBitsCarry.m64 - y - b) % Extern.MathBitsCarry.m64) (if x < y + b then 1 else 0))
end Go.Proofs.Ytljacjjeinmfnaa
