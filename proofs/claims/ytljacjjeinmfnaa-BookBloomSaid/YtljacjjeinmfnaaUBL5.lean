/- quarrylaw14.BookBloom answers true. No condition. -/
import Derived.Test.YtljacjjeinmfnaaU13
namespace Go.Proofs.Ytljacjjeinmfnaa
set_option linter.unusedVariables false
set_option linter.unusedSimpArgs false
open Go Go.RowKit
set_option maxRecDepth 100000
theorem bloom_nil : bloomL [] = zero256 := rfl
section
variable {N M : Heaplet} {ao bo : Option Addr} {n cap m cbp : Nat} {gs gt : List LogM} {xs xt : List LV}
theorem FBloomR_b {M J : Heaplet} {a : Option Addr} {c k : Nat} {ys : List LV} {G : List LogM} (h : RSl M 22 a k c (logsC ys)) (hj : LogsN J G ys) (hk : k ≤ 1099511627776) : Fn Try.prog 14 #[.slice a k c] [] [M, J] (fun v L => v = .agg (u8s (bloomL G)).toArray ∧ L = []) :=
  Fn.overJ (Ns := [M, J]) fun K hK => FBloom_b (h.le (hK _ (by simp))) (hj.le (hK _ (by simp))) hk
set_option maxHeartbeats 2000000 in
theorem BookBloom_f (h : RSl N 22 ao n cap (logsC xs)) (hg : LogsN N gs xs) (h2 : RSl M 22 bo m cbp (logsC xt)) (hg2 : LogsN M gt xt) : Fn Try.prog 4 #[.slice ao n cap, .slice bo m cbp] [] [N, M] (fun v L => v = .bool true ∧ L = []) := by
  have hsz := hg.size h
  have hc := h.2.1
  have hm := h.2.2.1
  unfold maxLen at hm
  have hAl : (cutG gs).length ≤ 10 := by rw [cutG, List.length_map, List.length_take]; omega
  have hBl : (cutG gt).length ≤ 10 := by rw [cutG, List.length_map, List.length_take]; omega
  have hmem : ∀ i g, i < 10 → gs[i]? = some g → ∃ g' ∈ cutG gs, g'.addr = g.addr := fun i g hi hg => by
    refine ⟨g.cut, List.mem_map_of_mem ?_, rfl⟩
    exact List.mem_of_getElem? (i := i) (by rw [List.getElem?_take, if_pos hi, hg])
  obtain ⟨A, hA⟩ : ∃ A, cutG gs = A := ⟨_, rfl⟩
  obtain ⟨B, hB⟩ : ∃ B, cutG gt = B := ⟨_, rfl⟩
  rw [hA] at hAl hmem
  rw [hB] at hBl
  have l5 := bloomL_len A
  have l6 := bloomL_len (A ++ B)
  have l7 := bloomL_len B
  have u5 : (u8s (bloomL A)).length = 256 := by rw [u8s_len, l5]
  have u6 : (u8s (bloomL (A ++ B))).length = 256 := by rw [u8s_len, l6]
  have u7 : (u8s (bloomL B)).length = 256 := by rw [u8s_len, l7]
  have hzl := z36_len
  have hjoin := bloom_join A B
  have hhas := fun (g : LogM) (hg : g ∈ A) (j : Nat) (hj : j < 3) => bloom_has hg hj
  have lz : zero256.length = 256 := by rw [zero256, List.length_replicate]
  refine Fn.enter (vs := [.slice ao n cap, .slice bo m cbp]) Try.func4 rfl rfl rfl ?_
  intro E R hR
  have h := h.le (hR N (by simp))
  have hg := hg.le (hR N (by simp))
  have h2 := h2.le (hR M (by simp))
  have hg2 := hg2.le (hR M (by simp))
  change At _ _ E [R] _
  refine At.seq fun K1 hk_1 => ?_
  refine At.region ?_
  refine op_assign (nxlf rfl) rfl rfl ?_
  refine At.opsNil ?_
  refine At.norm (hk_1 ?_)
  refine At.seq fun K2 hk_2 => ?_
  refine At.region ?_
  refine op_move (nxlf rfl) rfl rfl ?_
  refine op_callA (nxla rfl) (.cons rfl .nil) (FLogs_b h hg) Try.func15 rfl rfl (by simp) rfl ?_
  rintro v14 L14 ⟨N14, J14, a14, c14, y14, rfl, rfl, r14, j14⟩
  change At _ _ _ [N14, J14, R] _
  rw [hA] at r14 j14 ⊢
  refine op_callA (nxla rfl) (.cons rfl .nil) (FBloomR_b r14.rsl j14 (by omega)) Try.func14 rfl rfl (by simp) rfl ?_
  rintro v15 L15 ⟨rfl, rfl⟩
  change At _ _ _ [N14, J14, R] _
  refine op_alloc (nxla rfl) ze36 rfl (fun N5 b5 B5 => ?_)
  change Blk N5 b5 _ z36 at B5
  refine op_store (nxl rfl) sz36 rfl rfl rfl u5 (all8x2 _) B5 (by rw [u5, hzl]; exact Nat.le_refl _) sel0 (fun N5 B5 => ?_)
  rw [setL_whole (by rw [u5, hzl])] at B5
  refine At.opsNil ?_
  refine At.norm (hk_2 ?_)
  refine At.seq fun K3 hk_3 => ?_
  refine At.region ?_
  refine op_move (nxlf rfl) rfl rfl ?_
  refine op_callA (nxla rfl) (.cons rfl .nil) (FLogs_b h hg) Try.func15 rfl rfl (by simp) rfl ?_
  rintro v17 L17 ⟨N17, J17, a17, c17, y17, rfl, rfl, r17, j17⟩
  change At _ _ _ [N17, J17, N5, N14, J14, R] _
  rw [hA] at r17 j17 ⊢
  refine op_move (nxlf rfl) rfl rfl ?_
  refine op_callA (nxla rfl) (.cons rfl .nil) (FLogs_b h2 hg2) Try.func15 rfl rfl (by simp) rfl ?_
  rintro v19 L19 ⟨N19, J19, a19, c19, y19, rfl, rfl, r19, j19⟩
  change At _ _ _ [N19, J19, N17, J17, N5, N14, J14, R] _
  rw [hB] at r19 j19 ⊢
  refine op_append (nxl rfl) Try.underlying35 Try.underlying35 te43 rfl rfl r17 r19.rsl (by first | exact mem0 | exact mem1 | exact mem2 | exact mem3 | exact mem4 | exact mem5 | exact mem6 | exact mem7 | exact mem8 | exact mem9) (logsC_one _) (by omega) (by omega) sel2 rfl (fun N20 a20 p20 r20 => ?_)
  have s20 := r20.rsl
  rw [logsC, logsC, ← List.flatMap_append] at s20
  change RSl N20 22 a20 (A.length + B.length) p20 (logsC (y17 ++ y19)) at s20
  refine op_callA (nxla rfl) (.cons rfl .nil) (Fn.overJ (Ns := [N20, J17, J19]) fun K hK => FBloom_b (s20.le (hK _ (by simp))) ((j17.le (hK _ (by simp))).app (j19.le (hK _ (by simp)))) (by omega)) Try.func14 rfl rfl (by simp) rfl ?_
  rintro v21 L21 ⟨rfl, rfl⟩
  change At _ _ _ [N20, N19, J19, J17, N5, N14, J14, R] _
  refine op_alloc (nxla rfl) ze36 rfl (fun N6 b6 B6 => ?_)
  change Blk N6 b6 _ z36 at B6
  refine op_store (nxl rfl) sz36 rfl rfl rfl u6 (all8x2 _) B6 (by rw [u6, hzl]; exact Nat.le_refl _) sel0 (fun N6 B6 => ?_)
  rw [setL_whole (by rw [u6, hzl])] at B6
  refine At.opsNil ?_
  refine At.norm (hk_3 ?_)
  refine At.seq fun K4 hk_4 => ?_
  refine At.region ?_
  refine op_move (nxlf rfl) rfl rfl ?_
  refine op_callA (nxla rfl) (.cons rfl .nil) (FLogs_b h2 hg2) Try.func15 rfl rfl (by simp) rfl ?_
  rintro v23 L23 ⟨N23, J23, a23, c23, y23, rfl, rfl, r23, j23⟩
  change At _ _ _ [N23, J23, N6, N20, N19, J19, J17, N5, N14, J14, R] _
  rw [hB] at r23 j23 ⊢
  refine op_callA (nxla rfl) (.cons rfl .nil) (FBloomR_b r23.rsl j23 (by omega)) Try.func14 rfl rfl (by simp) rfl ?_
  rintro v24 L24 ⟨rfl, rfl⟩
  change At _ _ _ [N23, J23, N6, N20, N19, J19, J17, N5, N14, J14, R] _
  refine op_alloc (nxla rfl) ze36 rfl (fun N7 b7 B7 => ?_)
  change Blk N7 b7 _ z36 at B7
  refine op_store (nxl rfl) sz36 rfl rfl rfl u7 (all8x2 _) B7 (by rw [u7, hzl]; exact Nat.le_refl _) sel0 (fun N7 B7 => ?_)
  rw [setL_whole (by rw [u7, hzl])] at B7
  refine At.opsNil ?_
  refine At.norm (hk_4 ?_)
  refine At.seq fun K5 hk_5 => ?_
  refine At.seq fun K6 hk_6 => ?_
  refine At.region ?_
  refine op_assign (nxlf rfl) rfl rfl ?_
  refine At.opsNil ?_
  refine At.norm (hk_6 ?_)
  refine At.block ?_
  refine At.sub (L' := [N7, N6, N5, R]) (.cons_cons _ (.cons _ (.cons _ (.cons_cons _ (.cons _ (.cons _ (.cons _ (.cons _ (.cons_cons _ (.cons _ (.cons _ (.cons_cons _ (.slnil))))))))))))) ?_
  refine At.perm sel3 ?_
  refine At.perm sel1 ?_
  refine At.perm sel2 ?_
  refine At.perm sel3 ?_
  refine At.loop (fun fr_ hp_ ms_ => ∃ (i : Nat), fr_ = [(0, .slice ao n cap), (5, .pointer (some ⟨b5, 0, none⟩)), (6, .pointer (some ⟨b6, 0, none⟩)), (7, .pointer (some ⟨b7, 0, none⟩)), (8, .int .i64 (i : Int))] ∧ hp_ = [N5, N6, N7, R] ∧ 256 - i = ms_ ∧ (i ≤ 256)) ?_ (.refl _) ⟨0, rfl, rfl, rfl, Nat.zero_le _⟩ ?_
  · exact .cons (by first | exact lkI rfl (by omega) | rfl) (.cons (by first | exact lkI rfl (by omega) | rfl) (.cons (by first | exact lkI rfl (by omega) | rfl) (.cons (by first | exact lkI rfl (by omega) | rfl) (.cons (by first | exact lkI rfl (by omega) | rfl) .nil))))
  rintro _ _ _ ⟨i, rfl, rfl, rfl, hi⟩
  refine At.seq fun K7 hk_7 => ?_
  refine At.seq fun K8 hk_8 => ?_
  refine At.region ?_
  refine op_move (nxlf rfl) rfl rfl ?_
  refine op_lss (nxlf rfl) rfl rfl rfl ?_
  refine At.opsNil ?_
  refine At.norm (hk_8 ?_)
  refine At.condP rfl (fun c26 => ?_) (fun c26 => ?_)
  · refine At.knowT (d := 26) rfl c26 ?_
    have hji := hjoin i
    refine At.skip ?_
    refine At.norm (hk_7 ?_)
    refine At.seq fun K9 hk_9 => ?_
    refine At.block ?_
    refine At.seq fun K10 hk_10 => ?_
    refine At.drawnS [N5, N6, N7, R] [] [] [0,1,2,3,4,5,6,7,8,9,10] (by kernel_rfl) (by kernel_rfl) (.refl _) ?_
    refine op_move (nxsf rfl rfl rfl) rfl rfl ?_
    refine op_idxA (nxsf rfl rfl rfl) ae36 rfl rfl (show _ = (((i : Nat)) : Int) from by omega) (by omega) rfl ?_
    refine op_loadB (nxsf rfl rfl rfl) sc5 rfl B6 (by first | exact get8A (by omega) | rfl) mem1 rfl ?_
    refine op_move (nxsf rfl rfl rfl) rfl rfl ?_
    refine op_idxA (nxsf rfl rfl rfl) ae36 rfl rfl (show _ = (((i : Nat)) : Int) from by omega) (by omega) rfl ?_
    refine op_loadB (nxsf rfl rfl rfl) sc5 rfl B5 (by first | exact get8A (by omega) | rfl) mem0 rfl ?_
    refine op_move (nxsf rfl rfl rfl) rfl rfl ?_
    refine op_idxA (nxsf rfl rfl rfl) ae36 rfl rfl (show _ = (((i : Nat)) : Int) from by omega) (by omega) rfl ?_
    refine op_loadB (nxsf rfl rfl rfl) sc5 rfl B7 (by first | exact get8A (by omega) | rfl) mem2 rfl ?_
    refine op_bits (by simp) (nxsf rfl rfl rfl) rfl rfl rfl ?_
    rw [or_u8]
    refine op_neq (nxsf rfl rfl rfl) rfl rfl rfl ?_
    refine At.sNil ?_
    refine At.norm (hk_10 ?_)
    refine At.condP rfl (fun c39 => ?_) (fun c39 => ?_)
    · exact absurd (by rw [hji]) c39
    · refine At.knowF (d := 39) rfl c39 ?_
      refine At.skip ?_
      refine At.inNorm ?_
      refine At.norm (hk_9 ?_)
      refine At.region ?_
      refine op_move (nxlf rfl) rfl rfl ?_
      refine op_addI (nxlf rfl) rfl rfl (by omega) (by omega) rfl ?_
      refine op_assign (nxlf rfl) rfl rfl ?_
      refine At.opsNil ?_
      refine At.norm ?_
      refine At.back ?_ (.refl _) ⟨i + 1, rfl, rfl, rfl, by omega⟩ ?_
      · exact .cons (by first | exact lkI rfl (by omega) | rfl) (.cons (by first | exact lkI rfl (by omega) | rfl) (.cons (by first | exact lkI rfl (by omega) | rfl) (.cons (by first | exact lkI rfl (by omega) | rfl) (.cons (by first | exact lkI rfl (by omega) | rfl) .nil))))
      · omega
  · refine At.knowF (d := 26) rfl c26 ?_
    refine At.exit (At.thenExit (At.thenExit (At.inHit ?_)))
    refine At.norm (hk_5 ?_)
    refine At.seq fun K11 hk_11 => ?_
    refine At.seq fun K12 hk_12 => ?_
    refine At.region ?_
    refine op_assign (nxlf rfl) rfl rfl ?_
    refine At.opsNil ?_
    refine At.norm (hk_12 ?_)
    refine At.block ?_
    refine At.sub (L' := [N5, R]) (.cons_cons _ (.cons _ (.cons _ (.cons_cons _ (.slnil))))) ?_
    refine At.loop (fun fr_ hp_ ms_ => ∃ (k : Nat), fr_ = [(0, .slice ao n cap), (5, .pointer (some ⟨b5, 0, none⟩)), (9, .int .i64 (k : Int))] ∧ hp_ = [N5, R] ∧ n - k = ms_ ∧ (k ≤ n)) ?_ (.refl _) ⟨0, rfl, rfl, rfl, Nat.zero_le _⟩ ?_
    · exact .cons (by first | exact lkI rfl (by omega) | rfl) (.cons (by first | exact lkI rfl (by omega) | rfl) (.cons (by first | exact lkI rfl (by omega) | rfl) .nil))
    rintro _ _ _ ⟨k, rfl, rfl, rfl, hkn⟩
    refine At.seq fun K13 hk_13 => ?_
    refine At.seq fun K14 hk_14 => ?_
    refine At.region ?_
    refine op_move (nxlf rfl) rfl rfl ?_
    refine op_move (nxlf rfl) rfl rfl ?_
    refine op_lenS (nxlf rfl) se35 rfl rfl ?_
    refine op_lss (nxlf rfl) rfl rfl rfl ?_
    refine op_move (nxlf rfl) rfl rfl ?_
    refine At.partP (d := 44) rfl (fun g44 => ?_) (fun g44 => ?_)
    · refine op_move (nxgf rfl rfl rfl rfl) rfl rfl ?_
      refine op_lss (nxgf rfl rfl rfl rfl) rfl rfl rfl ?_
      refine op_pickT (nxlf rfl) rfl rfl rfl ?_
      refine At.opsNil ?_
      refine At.norm (hk_14 ?_)
      refine At.condP rfl (fun c47 => ?_) (fun c47 => ?_)
      · refine At.knowT (d := 47) rfl c47 ?_
        have hlt : k < gs.length := by omega
        obtain ⟨g, x, hgi, hxi, hgx⟩ := hg.at hlt
        have hxa : x.addr.length = 20 := by rw [hgx.1]; exact hgx.2.1
        obtain ⟨g', hg', hga⟩ := hmem k g (by omega) hgi
        have hha := hhas g' hg'
        rw [hga, ← hgx.1] at hha
        have hkl : (kec x.addr).length = 32 := kec_len _
        obtain ⟨K, hK⟩ : ∃ K, kec x.addr = K := ⟨_, rfl⟩
        rw [hK] at hha hkl
        have huk : (u8s K).length = 32 := by rw [u8s_len, hkl]
        obtain ⟨bA, oA, hao, hrA⟩ := h.2.2.2 (by omega)
        have s54 := sub8 hrA (cells_addr hxi hg.cells hxa) hxa (by decide)
        have hsome : ao.isSome = true := by rw [hao]; rfl
        refine At.skip ?_
        refine At.norm (hk_13 ?_)
        refine At.seq fun K15 hk_15 => ?_
        refine At.block ?_
        refine At.seq fun K16 hk_16 => ?_
        refine At.region ?_
        refine op_move (nxlf rfl) rfl rfl ?_
        refine op_move (nxlf rfl) rfl rfl ?_
        refine op_idxE (nxlf rfl) se35 rfl rfl h (show _ = (((k : Nat)) : Int) from by omega) (by omega) rfl ?_
        subst hao
        refine op_fieldAddrE (nxlf rfl) fl43_0 rfl (by first | rfl | assumption) rfl ?_
        refine op_sliceA (nxlf rfl) ae23 rfl .none .none .none (by omega) (by omega) (by omega) (by simp) rfl ?_
        refine op_callA (nxla rfl) (.cons rfl .nil) (rKeccak_f s54 (by decide)) Try.func16 rfl rfl (by simp) rfl ?_
        rintro v55 L55 ⟨rfl, rfl⟩
        change At _ _ _ [N5, R] _
        rw [hK]
        refine op_alloc (nxla rfl) ze39 rfl (fun N10 b10 B10 => ?_)
        change Blk N10 b10 _ [.int .u8 0, .int .u8 0, .int .u8 0, .int .u8 0, .int .u8 0, .int .u8 0, .int .u8 0, .int .u8 0, .int .u8 0, .int .u8 0, .int .u8 0, .int .u8 0, .int .u8 0, .int .u8 0, .int .u8 0, .int .u8 0, .int .u8 0, .int .u8 0, .int .u8 0, .int .u8 0, .int .u8 0, .int .u8 0, .int .u8 0, .int .u8 0, .int .u8 0, .int .u8 0, .int .u8 0, .int .u8 0, .int .u8 0, .int .u8 0, .int .u8 0, .int .u8 0] at B10
        refine op_store (nxl rfl) sz39 rfl rfl rfl huk (all8x2 _) B10 (by rw [huk]; exact Nat.le_refl _) sel0 (fun N10 B10 => ?_)
        rw [setL_whole (by rw [huk]; rfl)] at B10
        refine At.opsNil ?_
        refine At.norm (hk_16 ?_)
        refine At.seq fun K17 hk_17 => ?_
        refine At.region ?_
        refine op_assign (nxlf rfl) rfl rfl ?_
        refine At.opsNil ?_
        refine At.norm (hk_17 ?_)
        refine At.block ?_
        refine At.loop (fun fr_ hp_ ms_ => ∃ (j : Nat), fr_ = [(0, .slice (some ⟨bA, oA, none⟩) n cap), (5, .pointer (some ⟨b5, 0, none⟩)), (9, .int .i64 (k : Int)), (10, .pointer (some ⟨b10, 0, none⟩)), (11, .int .i64 ((2 * j : Nat) : Int))] ∧ hp_ = [N10, N5, R] ∧ 3 - j = ms_ ∧ (j ≤ 3)) ?_ (.refl _) ⟨0, rfl, rfl, rfl, Nat.zero_le _⟩ ?_
        · exact .cons (by first | exact lkI rfl (by omega) | rfl) (.cons (by first | exact lkI rfl (by omega) | rfl) (.cons (by first | exact lkI rfl (by omega) | rfl) (.cons (by first | exact lkI rfl (by omega) | rfl) (.cons (by first | exact lkI rfl (by omega) | rfl) .nil))))
        rintro _ _ _ ⟨j, rfl, rfl, rfl, hj⟩
        refine At.seq fun K18 hk_18 => ?_
        refine At.seq fun K19 hk_19 => ?_
        refine At.region ?_
        refine op_move (nxlf rfl) rfl rfl ?_
        refine op_lss (nxlf rfl) rfl rfl rfl ?_
        refine At.opsNil ?_
        refine At.norm (hk_19 ?_)
        refine At.condP rfl (fun c57 => ?_) (fun c57 => ?_)
        · refine At.knowT (d := 57) rfl c57 ?_
          have hltj : j < 3 := by omega
          have hk1 := (K.getD (2 * j) 0).toNat_lt
          have hk2 := (K.getD (2 * j + 1) 0).toNat_lt
          have hlow := bitN_low K (2 * j)
          have hn2 := bitN_lt K (2 * j)
          obtain ⟨cc, hcc⟩ := hha j hltj
          refine At.skip ?_
          refine At.norm (hk_18 ?_)
          refine At.seq fun K20 hk_20 => ?_
          refine At.block ?_
          refine At.seq fun K21 hk_21 => ?_
          refine At.drawnS [N10, N5, R] [] [] [0,1,2,3,4,5,6,7,8,9,10,11,12] (by kernel_rfl) (by kernel_rfl) (.refl _) ?_
          refine op_move (nxsf rfl rfl rfl) rfl rfl ?_
          refine op_idxA (nxsf rfl rfl rfl) ae39 rfl rfl (show _ = (((2 * j : Nat)) : Int) from by omega) (by omega) rfl ?_
          refine op_loadB (nxsf rfl rfl rfl) sc5 rfl B10 (by first | exact get8A (by omega) | rfl) mem0 rfl ?_
          refine op_rem (nxsf rfl rfl rfl) rfl rfl (by omega) (by omega) rfl ?_
          refine op_convI (nxsf rfl rfl rfl) (und_some Try.underlying5) Try.underlying3 rfl (by omega) (by omega) rfl ?_
          refine op_mulI (nxsf rfl rfl rfl) rfl rfl (by omega) (by omega) rfl ?_
          refine op_move (nxsf rfl rfl rfl) rfl rfl ?_
          refine op_addI (nxsf rfl rfl rfl) rfl rfl (by omega) (by omega) rfl ?_
          refine op_idxA (nxsf rfl rfl rfl) ae39 rfl rfl (show _ = (((2 * j + 1 : Nat)) : Int) from by omega) (by omega) rfl ?_
          refine op_loadB (nxsf rfl rfl rfl) sc5 rfl B10 (by first | exact get8A (by omega) | rfl) mem0 rfl ?_
          refine op_convI (nxsf rfl rfl rfl) (und_some Try.underlying5) Try.underlying3 rfl (by omega) (by omega) rfl ?_
          refine op_addI (nxsf rfl rfl rfl) rfl rfl (by omega) (by omega) rfl ?_
          rw [show ((K.getD (2 * j) 0).toNat : Int) % 8 * 256 + ((K.getD (2 * j + 1) 0).toNat : Int) = ((bitN K (2 * j) : Nat) : Int) by omega]
          refine op_assign (nxsf rfl rfl rfl) rfl rfl ?_
          refine At.sNil ?_
          refine At.norm (hk_21 ?_)
          refine At.seq fun K22 hk_22 => ?_
          refine At.region ?_
          refine op_move (nxlf rfl) rfl rfl ?_
          refine op_quoI (nxlf rfl) rfl rfl (by omega) (by omega) (by omega) rfl ?_
          refine op_subI (nxlf rfl) rfl rfl (by omega) (by omega) rfl ?_
          refine op_idxA (nxlf rfl) ae36 rfl rfl (show _ = (((255 - bitN K (2 * j) / 8 : Nat)) : Int) from by omega) (by omega) rfl ?_
          refine op_loadB (nxlf rfl) sc5 rfl B5 (by first | exact get8A (by omega) | rfl) mem1 rfl ?_
          rw [hcc]
          refine op_move (nxlf rfl) rfl rfl ?_
          refine op_rem (nxlf rfl) rfl rfl (by omega) (by omega) rfl ?_
          rw [show ((bitN K (2 * j) : Nat) : Int) % 8 = ((bitN K (2 * j) % 8 : Nat) : Int) by omega]
          refine op_shrW (nxlf rfl) rfl rfl (by omega) (by omega) rfl ?_
          refine op_bits (by simp) (nxlf rfl) rfl rfl rfl ?_
          rw [bit_is cc (Nat.mod_lt _ (by decide))]
          refine op_eql (nxlf rfl) rfl rfl rfl ?_
          refine At.opsNil ?_
          refine At.norm (hk_22 ?_)
          refine At.condP rfl (fun c81 => ?_) (fun c81 => ?_)
          · exact absurd c81 (by decide)
          · refine At.knowF (d := 81) rfl c81 ?_
            refine At.skip ?_
            refine At.inNorm ?_
            refine At.norm (hk_20 ?_)
            refine At.region ?_
            refine op_move (nxlf rfl) rfl rfl ?_
            refine op_addI (nxlf rfl) rfl rfl (by omega) (by omega) rfl ?_
            refine op_assign (nxlf rfl) rfl rfl ?_
            refine At.opsNil ?_
            refine At.norm ?_
            refine At.back ?_ (.refl _) ⟨j + 1, rfl, rfl, rfl, by omega⟩ ?_
            · exact .cons (by first | exact lkI rfl (by omega) | rfl) (.cons (by first | exact lkI rfl (by omega) | rfl) (.cons (by first | exact lkI rfl (by omega) | rfl) (.cons (by first | exact lkI rfl (by omega) | rfl) (.cons (by first | exact lkI rfl (by omega) | rfl) .nil))))
            · omega
        · refine At.knowF (d := 57) rfl c57 ?_
          refine At.exit (At.thenExit (At.thenExit (At.inHit ?_)))
          refine At.inNorm ?_
          refine At.norm (hk_15 ?_)
          refine At.region ?_
          refine op_move (nxlf rfl) rfl rfl ?_
          refine op_addI (nxlf rfl) rfl rfl (by omega) (by omega) rfl ?_
          refine op_assign (nxlf rfl) rfl rfl ?_
          refine At.opsNil ?_
          refine At.norm ?_
          refine At.sub (L' := [N5, R]) (.cons _ (.cons_cons _ (.cons_cons _ (.slnil)))) ?_
          refine At.back ?_ (.refl _) ⟨k + 1, rfl, rfl, rfl, by omega⟩ ?_
          · exact .cons (by first | exact lkI rfl (by omega) | rfl) (.cons (by first | exact lkI rfl (by omega) | rfl) (.cons (by first | exact lkI rfl (by omega) | rfl) .nil))
          · omega
      · refine At.knowF (d := 47) rfl c47 ?_
        refine At.exit (At.thenExit (At.thenExit (At.inHit ?_)))
        refine At.norm (hk_11 ?_)
        refine At.seq fun K23 hk_23 => ?_
        refine At.region ?_
        refine op_callA (nxla rfl) (.cons rfl .nil) (FBloom_b (N := R) (gs := []) (xs := []) (RSl.nil R 22) LogsN.nil (by decide)) Try.func14 rfl rfl (by simp) rfl ?_
        rintro v82 L82 ⟨rfl, rfl⟩
        change At _ _ _ [N5, R] _
        rw [bloom_nil]
        refine op_buildA (out := z36) (nxlf rfl) ze36 ae36 .nil rfl rfl ?_
        rw [z256]
        refine op_eqW8 (a := zero256) (b := zero256) (nxlf rfl) ae36 Try.underlying5 (by kernel_rfl) rfl rfl lz lz rfl ?_
        rw [decide_eq_true (rfl : zero256 = zero256)]
        refine op_move (nxlf rfl) rfl rfl ?_
        refine op_callA (nxga rfl rfl rfl rfl) .nil (BWakes_f) Try.func13 rfl rfl (by simp) rfl ?_
        rintro v86 L86 ⟨rfl, rfl⟩
        change At _ _ _ [N5, R] _
        refine op_pickT (nxlf rfl) rfl rfl rfl ?_
        refine op_assign (nxlf rfl) rfl rfl ?_
        refine At.opsNil ?_
        refine At.norm (hk_23 ?_)
        refine At.ret (?_)
        refine At.sub (L' := [R]) (.cons _ (.cons_cons _ (.slnil))) ?_
        refine At.ret1 (L1 := []) rfl (.tmp rfl .nil) (.refl _) (.refl _) ?_
        exact ⟨rfl, rfl⟩
    · refine op_skip rfl rfl rfl rfl rfl rfl rfl ?_
      refine op_skip rfl rfl rfl rfl rfl rfl rfl ?_
      refine op_pickF (nxlf rfl) rfl rfl rfl ?_
      refine At.opsNil ?_
      refine At.norm (hk_14 ?_)
      refine At.condF rfl ?_
      refine At.exit (At.thenExit (At.thenExit (At.inHit ?_)))
      refine At.norm (hk_11 ?_)
      refine At.seq fun K24 hk_24 => ?_
      refine At.region ?_
      refine op_callA (nxla rfl) (.cons rfl .nil) (FBloom_b (N := R) (gs := []) (xs := []) (RSl.nil R 22) LogsN.nil (by decide)) Try.func14 rfl rfl (by simp) rfl ?_
      rintro v82 L82 ⟨rfl, rfl⟩
      change At _ _ _ [N5, R] _
      rw [bloom_nil]
      refine op_buildA (out := z36) (nxlf rfl) ze36 ae36 .nil rfl rfl ?_
      rw [z256]
      refine op_eqW8 (a := zero256) (b := zero256) (nxlf rfl) ae36 Try.underlying5 (by kernel_rfl) rfl rfl lz lz rfl ?_
      rw [decide_eq_true (rfl : zero256 = zero256)]
      refine op_move (nxlf rfl) rfl rfl ?_
      refine op_callA (nxga rfl rfl rfl rfl) .nil (BWakes_f) Try.func13 rfl rfl (by simp) rfl ?_
      rintro v86 L86 ⟨rfl, rfl⟩
      change At _ _ _ [N5, R] _
      refine op_pickT (nxlf rfl) rfl rfl rfl ?_
      refine op_assign (nxlf rfl) rfl rfl ?_
      refine At.opsNil ?_
      refine At.norm (hk_24 ?_)
      refine At.ret (?_)
      refine At.sub (L' := [R]) (.cons _ (.cons_cons _ (.slnil))) ?_
      refine At.ret1 (L1 := []) rfl (.tmp rfl .nil) (.refl _) (.refl _) ?_
      exact ⟨rfl, rfl⟩
end
end Go.Proofs.Ytljacjjeinmfnaa
