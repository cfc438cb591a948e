/- Several texts in one: see the remarks ahead of each part. No condition but those told there. -/
import Derived.Test.YtljacjjeinmfnaaU13
/- Layer 14: the items of hashes, in the program and in the reference. No condition. -/
namespace Go.Proofs.Ytljacjjeinmfnaa
set_option linter.unusedVariables false
set_option linter.unusedSimpArgs false
open Go Go.RowKit
set_option maxRecDepth 100000
/-- An item, in memory that is told with it. -/
def ItemP (t : It) (v : Value) (L : List Heaplet) : Prop := ∃ J x, v = IV.val x ∧ L = [J] ∧ ItN J t x
theorem cellsI_oneB (xs : List IV) : ∀ u ∈ cellsI xs, u.oneCell' = true := fun u hu => by
  obtain ⟨x, _, hx⟩ := List.mem_flatMap.1 hu
  simp only [IV.cells, List.mem_cons, List.not_mem_nil, or_false] at hx
  rcases hx with rfl | rfl | rfl <;> rfl
theorem cellsI_app (xs ys : List IV) : cellsI (xs ++ ys) = cellsI xs ++ cellsI ys := by rw [cellsI, cellsI, cellsI, List.flatMap_append]
theorem hashC_size {N : Heaplet} {ao : Option Addr} {n cap : Nat} {hs : List (List UInt8)} (h : RSl N 32 ao n cap (hashC hs)) (h32 : ∀ x ∈ hs, x.length = 32) : n = hs.length := by
  have := h.1
  rw [hashC_len h32] at this
  omega
section
variable {N : Heaplet} {ao : Option Addr} {n cap : Nat} {hs : List (List UInt8)}
set_option maxHeartbeats 1000000 in
theorem FHashes_b (h : RSl N 32 ao n cap (hashC hs)) (h32 : ∀ x ∈ hs, x.length = 32) (hn : n ≤ 1099511627776) : Fn Try.prog 99 #[.slice ao n cap] [] [N] (ItemP (itL (hs.map itS))) := by
  have hsz := hashC_size h h32
  refine Fn.enter (vs := [.slice ao n cap]) Try.func99 rfl rfl rfl ?_
  intro E R hR
  have h := h.le (hR N (by simp))
  change At _ _ E [R] _
  refine At.seq fun K1 hk_1 => ?_
  refine At.region ?_
  refine op_alloc (nxla rfl) ze92 rfl (fun N2 b2 B2 => ?_)
  change Blk N2 b2 _ [.bool false, .slice none 0 0, .slice none 0 0] at B2
  refine At.opsNil ?_
  refine At.norm (hk_1 ?_)
  refine At.seq fun K2 hk_2 => ?_
  refine At.region ?_
  refine op_callA (nxla rfl) (.cons rfl .nil) (FList_b) Try.func36 rfl rfl (by simp) rfl ?_
  rintro v6 L6 ⟨rfl, rfl⟩
  change At _ _ _ [N2, R] _
  refine op_alloc (nxla rfl) ze92 rfl (fun N3 b3 B3 => ?_)
  change Blk N3 b3 _ [.bool false, .slice none 0 0, .slice none 0 0] at B3
  refine op_store (nxl rfl) sz92 rfl rfl rfl rfl rfl B3 (by simp) sel0 (fun N3 B3 => ?_)
  simp only [setL, List.set] at B3
  refine At.opsNil ?_
  refine At.norm (hk_2 ?_)
  refine At.seq fun K3 hk_3 => ?_
  refine At.seq fun K4 hk_4 => ?_
  refine At.region ?_
  refine op_move (nxlf rfl) rfl rfl ?_
  refine op_lenS (nxlf rfl) se41 rfl rfl ?_
  refine op_move (nxlf rfl) rfl rfl ?_
  refine At.opsNil ?_
  refine At.norm (hk_4 ?_)
  refine At.block ?_
  refine At.empty ?_
  refine At.empty ?_
  refine At.perm sel4 ?_
  refine At.perm sel4 ?_
  refine At.perm sel2 ?_
  refine At.perm sel3 ?_
  refine At.perm sel4 ?_
  refine At.loop (fun fr_ hp_ ms_ => ∃ (i m : Nat) (a : Option Addr) (c : Nat) (ys : List IV) (N3 Na NJ : Heaplet), fr_ = [(2, .pointer (some ⟨b2, 0, none⟩)), (3, .pointer (some ⟨b3, 0, none⟩)), (7, .slice ao n cap), (8, .int .i64 (n : Int)), (9, .int .i64 (i : Int))] ∧ hp_ = [N3, Na, NJ, N2, R] ∧ n - i = ms_ ∧ (i ≤ n) ∧ (m = i) ∧ (Blk N3 b3 92 [.bool true, .slice none 0 0, .slice a m c]) ∧ (Row Na 92 3 a m c (cellsI ys)) ∧ (ItsN NJ ((hs.take i).map itS) ys)) ?_ (.refl _) ⟨0, 0, none, 0, [], N3, nilH, nilH, rfl, rfl, rfl, Nat.zero_le _, rfl, B3, Row.nil _ _ _, ItsN_nil⟩ ?_
  · exact .cons (by first | exact lkI rfl (by omega) | rfl) (.cons (by first | exact lkI rfl (by omega) | rfl) (.cons (by first | exact lkI rfl (by omega) | rfl) (.cons (by first | exact lkI rfl (by omega) | rfl) (.cons (by first | exact lkI rfl (by omega) | rfl) .nil))))
  rintro _ _ _ ⟨i, m, a, c, ys, N3, Na, NJ, rfl, rfl, rfl, hi, hmi, B3, ra, hy⟩
  refine At.seq fun K5 hk_5 => ?_
  refine At.region ?_
  refine op_lss (nxlf rfl) rfl rfl rfl ?_
  refine At.opsNil ?_
  refine At.norm (hk_5 ?_)
  refine At.seq fun K6 hk_6 => ?_
  refine At.condP rfl (fun c10 => ?_) (fun c10 => ?_)
  · have hlt : i < hs.length := by omega
    obtain ⟨t, hti⟩ : ∃ t, hs[i]? = some t := ⟨_, List.getElem?_eq_getElem hlt⟩
    have ht32 : t.length = 32 := h32 t (List.mem_of_getElem? hti)
    have hut : (u8s t).length = 32 := by rw [u8s_len, ht32]
    refine At.skip ?_
    refine At.norm (hk_6 ?_)
    refine At.seq fun K7 hk_7 => ?_
    refine At.block ?_
    refine At.seq fun K8 hk_8 => ?_
    refine At.region ?_
    refine op_idxE (nxlf rfl) se41 rfl rfl h (show _ = (((i : Nat)) : Int) from by omega) (by omega) rfl ?_
    refine op_loadAggE (ds := u8s t) (nxlf rfl) ag73 rfl h (by exact flat_at u8s (fun y hy => by rw [u8s_len]; exact h32 y hy) hti) (by exact hut) (by omega) (by first | exact mem0 | exact mem1 | exact mem2 | exact mem3 | exact mem4 | exact mem5 | exact mem6 | exact mem7 | exact mem8 | exact mem9) rfl ?_
    refine op_alloc (nxla rfl) ze73 rfl (fun N5 b5 B5 => ?_)
    change Blk N5 b5 _ [.int .u8 0, .int .u8 0, .int .u8 0, .int .u8 0, .int .u8 0, .int .u8 0, .int .u8 0, .int .u8 0, .int .u8 0, .int .u8 0, .int .u8 0, .int .u8 0, .int .u8 0, .int .u8 0, .int .u8 0, .int .u8 0, .int .u8 0, .int .u8 0, .int .u8 0, .int .u8 0, .int .u8 0, .int .u8 0, .int .u8 0, .int .u8 0, .int .u8 0, .int .u8 0, .int .u8 0, .int .u8 0, .int .u8 0, .int .u8 0, .int .u8 0, .int .u8 0] at B5
    refine op_store (nxl rfl) sz73 rfl rfl rfl hut (all8x2 _) B5 (by simp [u8s, ht32]) sel0 (fun N5 B5 => ?_)
    rw [setL_whole (by rw [hut]; rfl)] at B5
    refine At.opsNil ?_
    refine At.norm (hk_8 ?_)
    have s5 := blk8 B5 ht32 (by decide)
    refine At.perm sel5 ?_
    refine At.perm sel2 ?_
    refine At.perm sel2 ?_
    refine At.perm sel5 ?_
    refine At.perm sel5 ?_
    refine At.perm sel5 ?_
    refine At.drawnS [N5, N3, R] [5,7] [] [0,1,2,3,4,5,6,7] (by kernel_rfl) (by kernel_rfl) (.cons _ (.cons _ (.cons _ (.refl _)))) ?_
    refine op_fieldAddr (nxsf rfl rfl rfl) fl92_2 rfl rfl ?_
    refine op_loadB (nxsf rfl rfl rfl) sc90 rfl B3 (by first | rfl) mem1 rfl ?_
    refine op_sliceA (nxsf rfl rfl rfl) ae73 rfl .none .none .none (by omega) (by omega) (by omega) (by simp) rfl ?_
    refine op_callA (Nx.agree (nxsm rfl rfl rfl)) (.cons rfl .nil) (FText_b) Try.func37 rfl rfl (by simp) rfl ?_
    rintro v16 L16 ⟨rfl, rfl⟩
    change At _ _ _ [Na, NJ, N2, N5, N3, R] _
    refine At.moreS (Lst := [N5, N3, R]) (Lst' := [N5, N3, R]) (.refl _) (.cons _ (.cons _ (.cons _ (.refl _)))) ?_
    refine op_lit (Nx.agree (nxsm rfl rfl rfl)) Try.underlying90 ze92 sz92 (.cons rfl .nil) rfl rfl (by simp [Value.cells]) rfl rfl rfl (fun N17 a17 r17 => ?_)
    simp only [flatV, List.flatMap_cons, List.flatMap_nil, Value.cells, List.append_nil, List.cons_append, List.nil_append] at r17
    have s17 := r17.rsl
    refine At.moreS (Lst := [N5, N3, R]) (Lst' := [N5, N3, R]) (.refl _) (.cons _ (.cons _ (.cons _ (.cons _ (.refl _))))) ?_
    change Row N17 _ 3 a17 1 1 (cellsI [ivS (some ⟨b5, 0 + 0 * 1, none⟩) (32 - 0) (32 - 0)]) at r17
    have s17 := r17.rsl
    refine op_append (nxss rfl rfl rfl rfl) Try.underlying90 Try.underlying90 te92 rfl rfl ra s17 (by first | exact mem0 | exact mem1 | exact mem2 | exact mem3 | exact mem4 | exact mem5 | exact mem6 | exact mem7 | exact mem8 | exact mem9) (cellsI_oneB _) (by omega) (by omega) sel1 rfl (fun N18 a18 p18 r18 => ?_)
    have s18 := r18.rsl
    refine At.anyS (.refl _) ?_
    rw [← cellsI_app] at r18
    refine op_fieldAddr (nxsf rfl rfl rfl) fl92_2 rfl rfl ?_
    refine op_store (nxsl rfl rfl rfl rfl) sz90 rfl rfl rfl rfl rfl B3 (by simp) sel5 (fun N3 B3 => ?_)
    simp only [setL, List.set] at B3
    refine At.sNil ?_
    refine At.inNorm ?_
    refine At.norm (hk_7 ?_)
    refine At.region ?_
    refine op_addI (nxlf rfl) rfl rfl (by omega) (by omega) rfl ?_
    refine op_move (nxlf rfl) rfl rfl ?_
    refine At.opsNil ?_
    refine At.norm ?_
    refine At.perm sel6 ?_
    refine At.perm sel5 ?_
    refine At.perm sel4 ?_
    refine At.perm sel4 ?_
    refine At.perm sel4 ?_
    refine At.perm sel6 ?_
    refine At.perm sel6 ?_
    refine At.mergeN (fun J J1 J2 => ?_)
    refine At.sub (L' := [J, N3, N18, N2, R]) (.cons_cons _ (.cons_cons _ (.cons_cons _ (.cons _ (.cons_cons _ (.cons_cons _ (.slnil))))))) ?_
    refine At.perm sel4 ?_
    refine At.perm sel4 ?_
    refine At.perm sel2 ?_
    refine At.perm sel4 ?_
    refine At.perm sel4 ?_
    refine At.back ?_ (.refl _) ⟨i + 1, m + 1, a18, p18, ys ++ [ivS (some ⟨b5, 0 + 0 * 1, none⟩) (32 - 0) (32 - 0)], N3, N18, J, rfl, rfl, rfl, by omega, by omega, B3, r18, by rw [take_next2 hti, List.map_append]; exact (hy.le J1).snoc (ItN_S (s5.le J2))⟩ ?_
    · exact .cons (by first | exact lkI rfl (by omega) | rfl) (.cons (by first | exact lkI rfl (by omega) | rfl) (.cons (by first | exact lkI rfl (by omega) | rfl) (.cons (by first | exact lkI rfl (by omega) | rfl) (.cons (by first | exact lkI rfl (by omega) | rfl) .nil))))
    · omega
  · rw [List.take_of_length_le (by omega)] at hy
    refine At.exit (At.thenExit (At.thenExit (At.inHit ?_)))
    refine At.norm (hk_3 ?_)
    refine At.seq fun K9 hk_9 => ?_
    refine At.region ?_
    refine op_loadAggB (ds := [_, _, _]) (nxlf rfl) ag92 rfl B3 rfl rfl mem0 rfl ?_
    refine op_store (nxl rfl) sz92 rfl rfl rfl rfl rfl B2 (by simp) sel3 (fun N2 B2 => ?_)
    simp only [setL, List.set] at B2
    refine At.opsNil ?_
    refine At.norm (hk_9 ?_)
    refine At.ret (?_)
    refine At.perm sel4 ?_
    refine At.perm sel2 ?_
    refine At.perm sel2 ?_
    refine At.perm sel4 ?_
    refine At.perm sel4 ?_
    refine At.mergeN (fun Q Q1 Q2 => ?_)
    refine At.sub (L' := [Q, N2, R]) (.cons_cons _ (.cons_cons _ (.cons _ (.cons_cons _ (.slnil))))) ?_
    refine At.perm sel2 ?_
    refine At.perm sel1 ?_
    refine At.perm sel2 ?_
    refine At.ret1 (L1 := [Q]) rfl (.cell rfl (res_agg (ds := [_, _, _]) ag92 B2 rfl rfl mem0) .nil) (.cons _ (.refl _)) (.refl _) ?_
    exact ⟨Q, ivL a m c, rfl, rfl, ItN_L (ra.rsl.le Q1) (hy.le Q2)⟩
set_option maxHeartbeats 1000000 in
theorem rHashes_b (h : RSl N 32 ao n cap (hashC hs)) (h32 : ∀ x ∈ hs, x.length = 32) (hn : n ≤ 1099511627776) : Fn Try.prog 51 #[.slice ao n cap] [] [N] (ItemP (itL (hs.map itS))) := by
  have hsz := hashC_size h h32
  refine Fn.enter (vs := [.slice ao n cap]) Try.func51 rfl rfl rfl ?_
  intro E R hR
  have h := h.le (hR N (by simp))
  change At _ _ E [R] _
  refine At.seq fun K1 hk_1 => ?_
  refine At.region ?_
  refine op_alloc (nxla rfl) ze92 rfl (fun N2 b2 B2 => ?_)
  change Blk N2 b2 _ [.bool false, .slice none 0 0, .slice none 0 0] at B2
  refine At.opsNil ?_
  refine At.norm (hk_1 ?_)
  refine At.seq fun K2 hk_2 => ?_
  refine At.region ?_
  refine op_assign (nxlf rfl) rfl rfl ?_
  refine At.opsNil ?_
  refine At.norm (hk_2 ?_)
  refine At.seq fun K3 hk_3 => ?_
  refine At.seq fun K4 hk_4 => ?_
  refine At.region ?_
  refine op_assign (nxlf rfl) rfl rfl ?_
  refine At.opsNil ?_
  refine At.norm (hk_4 ?_)
  refine At.block ?_
  refine At.empty ?_
  refine At.empty ?_
  refine At.perm sel3 ?_
  refine At.perm sel3 ?_
  refine At.perm sel2 ?_
  refine At.perm sel3 ?_
  refine At.loop (fun fr_ hp_ ms_ => ∃ (i m : Nat) (a : Option Addr) (c : Nat) (ys : List IV) (Na NJ : Heaplet), fr_ = [(0, .slice ao n cap), (2, .pointer (some ⟨b2, 0, none⟩)), (3, .slice a m c), (4, .int .i64 (i : Int))] ∧ hp_ = [Na, NJ, N2, R] ∧ n - i = ms_ ∧ (i ≤ n) ∧ (m = i) ∧ (Row Na 92 3 a m c (cellsI ys)) ∧ (ItsN NJ ((hs.take i).map itS) ys)) ?_ (.refl _) ⟨0, 0, none, 0, [], nilH, nilH, rfl, rfl, rfl, Nat.zero_le _, rfl, Row.nil _ _ _, ItsN_nil⟩ ?_
  · exact .cons (by first | exact lkI rfl (by omega) | rfl) (.cons (by first | exact lkI rfl (by omega) | rfl) (.cons (by first | exact lkI rfl (by omega) | rfl) (.cons (by first | exact lkI rfl (by omega) | rfl) .nil)))
  rintro _ _ _ ⟨i, m, a, c, ys, Na, NJ, rfl, rfl, rfl, hi, hmi, ra, hy⟩
  refine At.seq fun K5 hk_5 => ?_
  refine At.seq fun K6 hk_6 => ?_
  refine At.region ?_
  refine op_move (nxlf rfl) rfl rfl ?_
  refine op_move (nxlf rfl) rfl rfl ?_
  refine op_lenS (nxlf rfl) se41 rfl rfl ?_
  refine op_lss (nxlf rfl) rfl rfl rfl ?_
  refine At.opsNil ?_
  refine At.norm (hk_6 ?_)
  refine At.condP rfl (fun c8 => ?_) (fun c8 => ?_)
  · have hlt : i < hs.length := by omega
    obtain ⟨t, hti⟩ : ∃ t, hs[i]? = some t := ⟨_, List.getElem?_eq_getElem hlt⟩
    have ht32 : t.length = 32 := h32 t (List.mem_of_getElem? hti)
    obtain ⟨bT, oT, hto, hrT⟩ := h.2.2.2 (by omega)
    have s15 := sub8 hrT (flat_at u8s (fun y hy => by rw [u8s_len]; exact h32 y hy) hti) ht32 (by decide)
    refine At.skip ?_
    refine At.norm (hk_5 ?_)
    refine At.seq fun K7 hk_7 => ?_
    refine At.block ?_
    refine At.region ?_
    refine op_move (nxlf rfl) rfl rfl ?_
    refine op_move (nxlf rfl) rfl rfl ?_
    refine op_move (nxlf rfl) rfl rfl ?_
    refine op_idxE (nxlf rfl) se41 rfl rfl h (show _ = (((i : Nat)) : Int) from by omega) (by omega) rfl ?_
    subst hto
    refine op_sliceA (nxlf rfl) ae73 rfl .none .none .none (by omega) (by omega) (by omega) (by simp) rfl ?_
    refine op_callA (nxla rfl) (.cons rfl .nil) (rBytes_b s15 (by decide)) Try.func42 rfl rfl (by simp) rfl ?_
    rintro v16 L16 ⟨M16, p16, k16, rfl, rfl, s16⟩
    change At _ _ _ [M16, Na, NJ, N2, R] _
    refine op_lit (nxla rfl) Try.underlying90 ze92 sz92 (.cons rfl .nil) rfl rfl (by simp [Value.cells]) rfl rfl rfl (fun N17 a17 r17 => ?_)
    simp only [flatV, List.flatMap_cons, List.flatMap_nil, Value.cells, List.append_nil, List.cons_append, List.nil_append] at r17
    have s17 := r17.rsl
    change Row N17 _ 3 a17 1 1 (cellsI [ivS p16 t.length k16]) at r17
    have s17 := r17.rsl
    refine op_append (nxl rfl) Try.underlying90 Try.underlying90 te92 rfl rfl ra s17 (by first | exact mem0 | exact mem1 | exact mem2 | exact mem3 | exact mem4 | exact mem5 | exact mem6 | exact mem7 | exact mem8 | exact mem9) (cellsI_oneB _) (by omega) (by omega) sel2 rfl (fun N18 a18 p18 r18 => ?_)
    have s18 := r18.rsl
    rw [← cellsI_app] at r18
    refine op_assign (nxlf rfl) rfl rfl ?_
    refine At.opsNil ?_
    refine At.inNorm ?_
    refine At.norm (hk_7 ?_)
    refine At.region ?_
    refine op_move (nxlf rfl) rfl rfl ?_
    refine op_addI (nxlf rfl) rfl rfl (by omega) (by omega) rfl ?_
    refine op_assign (nxlf rfl) rfl rfl ?_
    refine At.opsNil ?_
    refine At.norm ?_
    refine At.perm sel5 ?_
    refine At.perm sel5 ?_
    refine At.perm sel3 ?_
    refine At.perm sel3 ?_
    refine At.perm sel4 ?_
    refine At.perm sel5 ?_
    refine At.mergeN (fun J J1 J2 => ?_)
    refine At.sub (L' := [J, N18, N2, R]) (.cons_cons _ (.cons_cons _ (.cons _ (.cons_cons _ (.cons_cons _ (.slnil)))))) ?_
    refine At.perm sel3 ?_
    refine At.perm sel3 ?_
    refine At.perm sel2 ?_
    refine At.perm sel3 ?_
    refine At.back ?_ (.refl _) ⟨i + 1, m + 1, a18, p18, ys ++ [ivS p16 t.length k16], N18, J, rfl, rfl, rfl, by omega, by omega, r18, by rw [take_next2 hti, List.map_append]; exact (hy.le J1).snoc (ItN_S (s16.le J2))⟩ ?_
    · exact .cons (by first | exact lkI rfl (by omega) | rfl) (.cons (by first | exact lkI rfl (by omega) | rfl) (.cons (by first | exact lkI rfl (by omega) | rfl) (.cons (by first | exact lkI rfl (by omega) | rfl) .nil)))
    · omega
  · rw [List.take_of_length_le (by omega)] at hy
    refine At.exit (At.thenExit (At.thenExit (At.inHit ?_)))
    refine At.norm (hk_3 ?_)
    refine At.seq fun K8 hk_8 => ?_
    refine At.region ?_
    refine op_move (nxlf rfl) rfl rfl ?_
    refine op_callA (nxla rfl) (.cons rfl .nil) (rList_b) Try.func41 rfl rfl (by simp) rfl ?_
    rintro v20 L20 ⟨rfl, rfl⟩
    change At _ _ _ [Na, NJ, N2, R] _
    refine op_store (nxl rfl) sz92 rfl rfl rfl rfl rfl B2 (by simp) sel2 (fun N2 B2 => ?_)
    simp only [setL, List.set] at B2
    refine At.opsNil ?_
    refine At.norm (hk_8 ?_)
    refine At.ret (?_)
    refine At.perm sel3 ?_
    refine At.perm sel1 ?_
    refine At.perm sel3 ?_
    refine At.perm sel3 ?_
    refine At.mergeN (fun Q Q1 Q2 => ?_)
    refine At.perm sel2 ?_
    refine At.perm sel1 ?_
    refine At.perm sel2 ?_
    refine At.ret1 (L1 := [Q]) rfl (.cell rfl (res_agg (ds := [_, _, _]) ag92 B2 rfl rfl mem0) .nil) (.cons _ (.refl _)) (.refl _) ?_
    exact ⟨Q, ivL a m c, rfl, rfl, ItN_L (ra.rsl.le Q1) (hy.le Q2)⟩
end
end Go.Proofs.Ytljacjjeinmfnaa
/- Layer 14: the item of logs. No condition. -/
namespace Go.Proofs.Ytljacjjeinmfnaa
set_option linter.unusedVariables false
set_option linter.unusedSimpArgs false
open Go Go.RowKit
set_option maxRecDepth 100000
/-- An item, in new memory and in what is read. -/
def ItemR (N : Heaplet) (t : It) (v : Value) (L : List Heaplet) : Prop := ∃ J x, v = IV.val x ∧ L = [J] ∧ ∀ K : Heaplet, J.le K → N.le K → ItN K t x
def logIt (g : LogM) : It := itL [itS g.addr, itL (g.topics.map itS), itS g.data]
section
variable {N : Heaplet} {ao : Option Addr} {n cap : Nat} {gs : List LogM} {xs : List LV}
set_option maxHeartbeats 2000000 in
theorem FLogItems_b (h : RSl N 22 ao n cap (logsC xs)) (hg : LogsN N gs xs) (hT : ∀ g ∈ gs, g.topics.length ≤ 1099511627776) (hn : n ≤ 1099511627776) : Fn Try.prog 50 #[.slice ao n cap] [] [N] (ItemR N (itL (gs.map logIt))) := by
  have hsz := hg.size h
  refine Fn.enter (vs := [.slice ao n cap]) Try.func50 rfl rfl rfl ?_
  intro E R hR
  have h := h.le (hR N (by simp))
  have hgR := hg.le (hR N (by simp))
  change At _ _ E [R] _
  refine At.seq fun K1 hk_1 => ?_
  refine At.region ?_
  refine op_alloc (nxla rfl) ze92 rfl (fun N2 b2 B2 => ?_)
  change Blk N2 b2 _ [.bool false, .slice none 0 0, .slice none 0 0] at B2
  refine At.opsNil ?_
  refine At.norm (hk_1 ?_)
  refine At.seq fun K2 hk_2 => ?_
  refine At.region ?_
  refine op_callA (nxla rfl) (.cons rfl .nil) (FList_b) Try.func36 rfl rfl (by simp) rfl ?_
  rintro v6 L6 ⟨rfl, rfl⟩
  change At _ _ _ [N2, R] _
  refine op_alloc (nxla rfl) ze92 rfl (fun N3 b3 B3 => ?_)
  change Blk N3 b3 _ [.bool false, .slice none 0 0, .slice none 0 0] at B3
  refine op_store (nxl rfl) sz92 rfl rfl rfl rfl rfl B3 (by simp) sel0 (fun N3 B3 => ?_)
  simp only [setL, List.set] at B3
  refine At.opsNil ?_
  refine At.norm (hk_2 ?_)
  refine At.seq fun K3 hk_3 => ?_
  refine At.seq fun K4 hk_4 => ?_
  refine At.region ?_
  refine op_move (nxlf rfl) rfl rfl ?_
  refine op_lenS (nxlf rfl) se35 rfl rfl ?_
  refine op_move (nxlf rfl) rfl rfl ?_
  refine At.opsNil ?_
  refine At.norm (hk_4 ?_)
  refine At.block ?_
  refine At.empty ?_
  refine At.empty ?_
  refine At.perm sel4 ?_
  refine At.perm sel4 ?_
  refine At.perm sel2 ?_
  refine At.perm sel3 ?_
  refine At.perm sel4 ?_
  refine At.loop (fun fr_ hp_ ms_ => ∃ (i m : Nat) (a : Option Addr) (c : Nat) (ys : List IV) (N3 Na NJ : Heaplet), fr_ = [(2, .pointer (some ⟨b2, 0, none⟩)), (3, .pointer (some ⟨b3, 0, none⟩)), (7, .slice ao n cap), (8, .int .i64 (n : Int)), (9, .int .i64 (i : Int))] ∧ hp_ = [N3, Na, NJ, N2, R] ∧ n - i = ms_ ∧ (i ≤ n) ∧ (m = i) ∧ (Blk N3 b3 92 [.bool true, .slice none 0 0, .slice a m c]) ∧ (Row Na 92 3 a m c (cellsI ys)) ∧ (∀ K : Heaplet, NJ.le K → N.le K → ItsN K ((gs.take i).map logIt) ys)) ?_ (.refl _) ⟨0, 0, none, 0, [], N3, nilH, nilH, rfl, rfl, rfl, Nat.zero_le _, rfl, B3, Row.nil _ _ _, fun K _ _ => ItsN_nil⟩ ?_
  · exact .cons (by first | exact lkI rfl (by omega) | rfl) (.cons (by first | exact lkI rfl (by omega) | rfl) (.cons (by first | exact lkI rfl (by omega) | rfl) (.cons (by first | exact lkI rfl (by omega) | rfl) (.cons (by first | exact lkI rfl (by omega) | rfl) .nil))))
  rintro _ _ _ ⟨i, m, a, c, ys, N3, Na, NJ, rfl, rfl, rfl, hi, hmi, B3, ra, hy⟩
  refine At.seq fun K5 hk_5 => ?_
  refine At.region ?_
  refine op_lss (nxlf rfl) rfl rfl rfl ?_
  refine At.opsNil ?_
  refine At.norm (hk_5 ?_)
  refine At.seq fun K6 hk_6 => ?_
  refine At.condP rfl (fun c10 => ?_) (fun c10 => ?_)
  · have hlt : i < gs.length := by omega
    obtain ⟨g, x, hgi, hxi, hgx⟩ := hg.at hlt
    have hgxR := hgR.2 i g x hgi hxi
    have hxg := hgx.1
    have hxa : x.addr.length = 20 := by rw [hgx.1]; exact hgx.2.1
    have hxl := LV.cells_len hxa
    have hdat := hgx.2.2.2.2.2
    have htop := hgxR.2.2.2.1
    have hth := hgxR.2.2.2.2.1
    have htn := hT g (List.mem_of_getElem? hgi)
    have htl := hgx.2.2.1
    refine At.skip ?_
    refine At.norm (hk_6 ?_)
    refine At.seq fun K7 hk_7 => ?_
    refine At.block ?_
    refine At.seq fun K8 hk_8 => ?_
    refine At.region ?_
    refine op_idxE (nxlf rfl) se35 rfl rfl h (show _ = (((i : Nat)) : Int) from by omega) (by omega) rfl ?_
    refine op_loadAggE (ds := x.cells) (nxlf rfl) ag43 rfl h (by exact flat_at LV.cells hg.cells hxi) (by exact hxl) (by omega) (by first | exact mem0 | exact mem1 | exact mem2 | exact mem3 | exact mem4 | exact mem5 | exact mem6 | exact mem7 | exact mem8 | exact mem9) rfl ?_
    refine op_alloc (nxla rfl) ze43 rfl (fun N5 b5 B5 => ?_)
    change Blk N5 b5 _ [.int .u8 0, .int .u8 0, .int .u8 0, .int .u8 0, .int .u8 0, .int .u8 0, .int .u8 0, .int .u8 0, .int .u8 0, .int .u8 0, .int .u8 0, .int .u8 0, .int .u8 0, .int .u8 0, .int .u8 0, .int .u8 0, .int .u8 0, .int .u8 0, .int .u8 0, .int .u8 0, .slice none 0 0, .slice none 0 0] at B5
    refine op_store (nxl rfl) sz43 rfl rfl rfl hxl (LV.cells_one x) B5 (by rw [hxl]; exact Nat.le_refl _) sel0 (fun N5 B5 => ?_)
    rw [setL_whole (by rw [hxl]; rfl)] at B5
    refine At.opsNil ?_
    refine At.norm (hk_8 ?_)
    have s16 := blkHead B5 hxa (by decide)
    refine At.perm sel5 ?_
    refine At.perm sel2 ?_
    refine At.perm sel2 ?_
    refine At.perm sel5 ?_
    refine At.perm sel5 ?_
    refine At.perm sel5 ?_
    refine At.drawnS [N5, N3, R] [14,16] [] [0,1,2,3,5,6,8,9,4,7,10,11,12,13,14,15,16] (by kernel_rfl) (by kernel_rfl) (.cons _ (.cons _ (.cons _ (.refl _)))) ?_
    refine op_fieldAddr (nxsf rfl rfl rfl) fl92_2 rfl rfl ?_
    refine op_loadB (nxsf rfl rfl rfl) sc90 rfl B3 (by first | rfl | exact LV.top_at hxa | exact LV.dat_at hxa) mem1 rfl ?_
    refine op_fieldAddr (nxsf rfl rfl rfl) fl43_0 rfl rfl ?_
    refine op_sliceA (nxsf rfl rfl rfl) ae23 rfl .none .none .none (by omega) (by omega) (by omega) (by simp) rfl ?_
    refine op_fieldAddr (nxsf rfl rfl rfl) fl43_1 rfl rfl ?_
    refine op_loadB (nxsf rfl rfl rfl) sc41 rfl B5 (by first | rfl | exact LV.top_at hxa | exact LV.dat_at hxa) mem0 rfl ?_
    refine op_fieldAddr (nxsf rfl rfl rfl) fl43_2 rfl rfl ?_
    refine op_loadB (nxsf rfl rfl rfl) sc27 rfl B5 (by first | rfl | exact LV.top_at hxa | exact LV.dat_at hxa) mem0 rfl ?_
    refine op_callA (Nx.agree (nxsm rfl rfl rfl)) (.cons rfl .nil) (FText_b) Try.func37 rfl rfl (by simp) rfl ?_
    rintro v17 L17 ⟨rfl, rfl⟩
    change At _ _ _ [Na, NJ, N2, N5, N3, R] _
    refine At.moreS (Lst := [N5, N3, R]) (Lst' := [N5, N3, R]) (.refl _) (.cons _ (.cons _ (.cons _ (.refl _)))) ?_
    refine op_callA (Nx.agree (nxsm rfl rfl rfl)) (.cons rfl .nil) (FHashes_b htop hth (by omega)) Try.func99 rfl rfl (by simp) rfl ?_
    rintro v20 L20 ⟨J20, x20, rfl, rfl, j20⟩
    change At _ _ _ [J20, Na, NJ, N2, N5, N3, R] _
    change At _ ((20, .agg #[.bool x20.l, .slice x20.ab x20.nb x20.cb, .slice x20.ai x20.ni x20.ci]) :: _) _ _ _
    refine At.moreS (Lst := [N5, N3, R]) (Lst' := [N5, N3, R]) (.refl _) (.cons _ (.cons _ (.cons _ (.cons _ (.refl _))))) ?_
    refine op_callA (Nx.agree (nxsm rfl rfl rfl)) (.cons rfl .nil) (FText_b) Try.func37 rfl rfl (by simp) rfl ?_
    rintro v23 L23 ⟨rfl, rfl⟩
    change At _ _ _ [J20, Na, NJ, N2, N5, N3, R] _
    refine At.moreS (Lst := [N5, N3, R]) (Lst' := [N5, N3, R]) (.refl _) (.cons _ (.cons _ (.cons _ (.cons _ (.refl _))))) ?_
    refine op_lit (Nx.agree (nxsm rfl rfl rfl)) Try.underlying90 ze92 sz92 (.cons rfl (.cons rfl (.cons rfl .nil))) rfl rfl (by simp [Value.cells]) rfl rfl rfl (fun N24 a24 r24 => ?_)
    simp only [flatV, List.flatMap_cons, List.flatMap_nil, Value.cells, List.append_nil, List.cons_append, List.nil_append] at r24
    have s24 := r24.rsl
    refine At.moreS (Lst := [N5, N3, R]) (Lst' := [N5, N3, R]) (.refl _) (.cons _ (.cons _ (.cons _ (.cons _ (.cons _ (.refl _)))))) ?_
    change Row N24 _ 3 a24 3 3 (cellsI [ivS (some ⟨b5, 0 + 0 * 1, none⟩) (20 - 0) (20 - 0), x20, ivS x.datA x.datN x.datC]) at r24
    have s24 := r24.rsl
    refine op_callA (Nx.agree (nxsm rfl rfl rfl)) (.cons rfl .nil) (FList_b) Try.func36 rfl rfl (by simp) rfl ?_
    rintro v25 L25 ⟨rfl, rfl⟩
    change At _ _ _ [N24, J20, Na, NJ, N2, N5, N3, R] _
    refine At.moreS (Lst := [N5, N3, R]) (Lst' := [N5, N3, R]) (.refl _) (.cons _ (.cons _ (.cons _ (.cons _ (.cons _ (.refl _)))))) ?_
    refine op_lit (Nx.agree (nxsm rfl rfl rfl)) Try.underlying90 ze92 sz92 (.cons rfl .nil) rfl rfl (by simp [Value.cells]) rfl rfl rfl (fun N26 a26 r26 => ?_)
    simp only [flatV, List.flatMap_cons, List.flatMap_nil, Value.cells, List.append_nil, List.cons_append, List.nil_append] at r26
    have s26 := r26.rsl
    refine At.moreS (Lst := [N5, N3, R]) (Lst' := [N5, N3, R]) (.refl _) (.cons _ (.cons _ (.cons _ (.cons _ (.cons _ (.cons _ (.refl _))))))) ?_
    change Row N26 _ 3 a26 1 1 (cellsI [ivL a24 3 3]) at r26
    have s26 := r26.rsl
    refine op_append (nxss rfl rfl rfl rfl) Try.underlying90 Try.underlying90 te92 rfl rfl ra s26 (by first | exact mem0 | exact mem1 | exact mem2 | exact mem3 | exact mem4 | exact mem5 | exact mem6 | exact mem7 | exact mem8 | exact mem9) (cellsI_oneB _) (by omega) (by omega) sel3 rfl (fun N27 a27 p27 r27 => ?_)
    have s27 := r27.rsl
    refine At.anyS (.refl _) ?_
    rw [← cellsI_app] at r27
    refine op_fieldAddr (nxsf rfl rfl rfl) fl92_2 rfl rfl ?_
    refine op_store (nxsl rfl rfl rfl rfl) sz90 rfl rfl rfl rfl rfl B3 (by simp) sel7 (fun N3 B3 => ?_)
    simp only [setL, List.set] at B3
    refine At.sNil ?_
    refine At.inNorm ?_
    refine At.norm (hk_7 ?_)
    refine At.region ?_
    refine op_addI (nxlf rfl) rfl rfl (by omega) (by omega) rfl ?_
    refine op_move (nxlf rfl) rfl rfl ?_
    refine At.opsNil ?_
    refine At.norm ?_
    refine At.perm sel8 ?_
    refine At.perm sel8 ?_
    refine At.perm sel8 ?_
    refine At.perm sel7 ?_
    refine At.perm sel6 ?_
    refine At.perm sel6 ?_
    refine At.perm sel6 ?_
    refine At.perm sel7 ?_
    refine At.perm sel8 ?_
    refine At.mergeN (fun J J1 J2 => ?_)
    refine At.perm sel7 ?_
    refine At.perm sel6 ?_
    refine At.perm sel6 ?_
    refine At.perm sel6 ?_
    refine At.perm sel6 ?_
    refine At.perm sel6 ?_
    refine At.perm sel7 ?_
    refine At.perm sel7 ?_
    refine At.mergeN (fun K K1 K2 => ?_)
    refine At.perm sel6 ?_
    refine At.perm sel6 ?_
    refine At.perm sel5 ?_
    refine At.perm sel5 ?_
    refine At.perm sel5 ?_
    refine At.perm sel6 ?_
    refine At.perm sel6 ?_
    refine At.mergeN (fun W W1 W2 => ?_)
    refine At.sub (L' := [W, N3, N27, N2, R]) (.cons_cons _ (.cons_cons _ (.cons_cons _ (.cons _ (.cons_cons _ (.cons_cons _ (.slnil))))))) ?_
    refine At.perm sel4 ?_
    refine At.perm sel4 ?_
    refine At.perm sel2 ?_
    refine At.perm sel4 ?_
    refine At.perm sel4 ?_
    refine At.back ?_ (.refl _) ⟨i + 1, m + 1, a27, p27, ys ++ [ivL a24 3 3], N3, N27, W, rfl, rfl, rfl, by omega, by omega, B3, r27, by rw [take_next2 hgi, List.map_append]; exact fun Q hJ hN => (hy Q (Heaplet.le_trans J1 (Heaplet.le_trans K1 (Heaplet.le_trans W1 hJ))) hN).snoc (ItN_L (s24.le (Heaplet.le_trans J2 (Heaplet.le_trans K1 (Heaplet.le_trans W1 hJ)))) (ItsN_cons (hxg ▸ ItN_S (s16.le (Heaplet.le_trans K2 (Heaplet.le_trans W1 hJ)))) (ItsN_cons (j20.le (Heaplet.le_trans W2 hJ)) (ItsN_cons (ItN_S (hdat.le hN)) ItsN_nil))))⟩ ?_
    · exact .cons (by first | exact lkI rfl (by omega) | rfl) (.cons (by first | exact lkI rfl (by omega) | rfl) (.cons (by first | exact lkI rfl (by omega) | rfl) (.cons (by first | exact lkI rfl (by omega) | rfl) (.cons (by first | exact lkI rfl (by omega) | rfl) .nil))))
    · omega
  · rw [List.take_of_length_le (by omega)] at hy
    refine At.exit (At.thenExit (At.thenExit (At.inHit ?_)))
    refine At.norm (hk_3 ?_)
    refine At.seq fun K9 hk_9 => ?_
    refine At.region ?_
    refine op_loadAggB (ds := [_, _, _]) (nxlf rfl) ag92 rfl B3 rfl rfl mem0 rfl ?_
    refine op_store (nxl rfl) sz92 rfl rfl rfl rfl rfl B2 (by simp) sel3 (fun N2 B2 => ?_)
    simp only [setL, List.set] at B2
    refine At.opsNil ?_
    refine At.norm (hk_9 ?_)
    refine At.ret (?_)
    refine At.perm sel4 ?_
    refine At.perm sel2 ?_
    refine At.perm sel2 ?_
    refine At.perm sel4 ?_
    refine At.perm sel4 ?_
    refine At.mergeN (fun Q Q1 Q2 => ?_)
    refine At.sub (L' := [Q, N2, R]) (.cons_cons _ (.cons_cons _ (.cons _ (.cons_cons _ (.slnil))))) ?_
    refine At.perm sel2 ?_
    refine At.perm sel1 ?_
    refine At.perm sel2 ?_
    refine At.ret1 (L1 := [Q]) rfl (.cell rfl (res_agg (ds := [_, _, _]) ag92 B2 rfl rfl mem0) .nil) (.cons _ (.refl _)) (.refl _) ?_
    exact ⟨Q, ivL a m c, rfl, rfl, fun K hK hN => ItN_L (ra.rsl.le (Heaplet.le_trans Q1 hK)) (hy K (Heaplet.le_trans Q2 hK) hN)⟩
end
end Go.Proofs.Ytljacjjeinmfnaa
/- Layer 14: receipts written by the program. Condition: sizes. -/
namespace Go.Proofs.Ytljacjjeinmfnaa
set_option linter.unusedVariables false
set_option linter.unusedSimpArgs false
open Go Go.RowKit
set_option maxRecDepth 100000
/-- A receipt's cells. -/
def rcC (k : Int) (rv : Value) (ok : Bool) (gas : UInt64) (bl : List UInt8) (lv : Value) : List Value := .int .i64 k :: rv :: .bool ok :: .int .u64 (gas.toNat : Int) :: (u8s bl ++ [lv])
def firstI (root : List UInt8) (ok : Bool) : It := if root.length = 0 ∧ ok = true then itS (bytesOf 1) else itS root
def rcIt (root : List UInt8) (ok : Bool) (gas : UInt64) (bl : List UInt8) (gs : List LogM) : It := itL [firstI root ok, itS (bytesOf gas.toNat), itS bl, itL (gs.map logIt)]
def kindB (k : Int) : List UInt8 := if 0 < k then [UInt8.ofNat k.toNat] else []
def rcB (k : Int) (root : List UInt8) (ok : Bool) (gas : UInt64) (bl : List UInt8) (gs : List LogM) : List UInt8 := kindB k ++ (rcIt root ok gas bl gs).form
section
variable {k : Int} {rv lv : Value} {ok : Bool} {gas : UInt64} {bl : List UInt8}
theorem rcC_len (hb : bl.length = 256) : (rcC k rv ok gas bl lv).length = 261 := by
  have : (u8s bl).length = 256 := by rw [u8s_len, hb]
  simp only [rcC, List.length_cons, List.length_append, this, List.length_nil]
theorem rcC_logs (hb : bl.length = 256) : (rcC k rv ok gas bl lv)[0 + 260]? = some lv := by
  have : (u8s bl).length = 256 := by rw [u8s_len, hb]
  show (u8s bl ++ [lv])[256]? = _
  rw [List.getElem?_append_right (by omega), this]; rfl
theorem rcC_bloom (hb : bl.length = 256) : ((rcC k rv ok gas bl lv).drop 4).take 256 = u8s bl := by
  show (u8s bl ++ [lv]).take 256 = _
  rw [List.take_left' (by rw [u8s_len, hb])]
theorem rcIt_dep (root : List UInt8) (ok : Bool) (gas : UInt64) (bl : List UInt8) (gs : List LogM) : (rcIt root ok gas bl gs).depth ≤ 1024 := by
  have h1 : (firstI root ok).depth = 0 := by unfold firstI; split <;> exact depthS _
  have h2 : It.depths (gs.map logIt) ≤ 2 := by
    refine depths_le.2 fun t ht => ?_
    obtain ⟨g, _, rfl⟩ := List.mem_map.1 ht
    have h3 : It.depths (g.topics.map itS) ≤ 0 := depths_le.2 fun t ht => by
      obtain ⟨b, _, rfl⟩ := List.mem_map.1 ht
      rw [depthS]; exact Nat.le_refl _
    rw [logIt, depthL, depths_cons, depths_cons, depths_cons, depths_nil, depthS, depthS, depthL]
    omega
  rw [rcIt, depthL, depths_cons, depths_cons, depths_cons, depths_cons, depths_nil, h1, depthS, depthS, depthL]
  omega
end
/-- Bytes in new memory, and no error. -/
def OutP (b : List UInt8) (v : Value) (L : List Heaplet) : Prop := ∃ M a c, v = .tuple #[.slice a b.length c, .int .i64 0] ∧ L = [M] ∧ RSl M 1 a b.length c (u8s b)
section
variable {N : Heaplet} {k : Int} {ra la : Option Addr} {rn rc ln lc : Nat} {root bl : List UInt8} {ok : Bool} {gas : UInt64} {gs : List LogM} {xs : List LV}
theorem FReceipt_bad (hr : RSl N 1 ra rn rc (u8s root)) (hb : bl.length = 256) (hv : ¬ (0 ≤ k ∧ k ≤ 3 ∧ (root.length = 0 ∨ root.length = 32))) : Fn Try.prog 17 #[.agg (rcC k (.slice ra rn rc) ok gas bl (.slice la ln lc)).toArray] [] [N] (fun v L => v = .tuple #[.slice none 0 0, .int .i64 1] ∧ L = []) := by
  have hrl := hr.len8
  have hcl := rcC_len (k := k) (rv := .slice ra rn rc) (ok := ok) (gas := gas) (lv := .slice la ln lc) hb
  refine Fn.enter (vs := [.agg (rcC k (.slice ra rn rc) ok gas bl (.slice la ln lc)).toArray]) Try.func17 rfl rfl rfl ?_
  intro E R hR
  change At _ _ E [R] _
  refine At.seq fun K1 hk_1 => ?_
  refine At.region ?_
  refine op_box (nxla rfl) rfl rfl rfl (fun N1 b1 B1 => ?_)
  refine op_assign (nxlf rfl) rfl rfl ?_
  refine op_assign (nxlf rfl) rfl rfl ?_
  refine At.opsNil ?_
  refine At.norm (hk_1 ?_)
  refine At.seq fun K2 hk_2 => ?_
  refine At.seq fun K3 hk_3 => ?_
  refine At.region ?_
  refine op_fieldAddr (nxlf rfl) fl46_0 rfl rfl ?_
  refine op_loadB (nxlf rfl) sc3 rfl B1 (by first | rfl | exact rcC_logs hb) mem0 rfl ?_
  refine op_lss (nxlf rfl) rfl rfl rfl ?_
  refine op_move (nxlf rfl) rfl rfl ?_
  refine At.partP (d := 9) rfl (fun g9 => ?_) (fun g9 => ?_)
  · refine op_skip rfl rfl rfl rfl rfl rfl rfl ?_
    refine op_skip rfl rfl rfl rfl rfl rfl rfl ?_
    refine op_skip rfl rfl rfl rfl rfl rfl rfl ?_
    refine op_pickT (nxlf rfl) rfl rfl rfl ?_
    refine op_move (nxlf rfl) rfl rfl ?_
    refine op_skip rfl rfl rfl rfl rfl rfl rfl ?_
    refine op_skip rfl rfl rfl rfl rfl rfl rfl ?_
    refine op_skip rfl rfl rfl rfl rfl rfl rfl ?_
    refine op_skip rfl rfl rfl rfl rfl rfl rfl ?_
    refine op_skip rfl rfl rfl rfl rfl rfl rfl ?_
    refine op_skipU rfl rfl rfl rfl rfl rfl ?_
    refine op_skipU rfl rfl rfl rfl rfl rfl ?_
    refine op_skipU rfl rfl rfl rfl rfl rfl ?_
    refine op_skipU rfl rfl rfl rfl rfl rfl ?_
    refine op_skip rfl rfl rfl rfl rfl rfl rfl ?_
    refine op_pickT (nxlf rfl) rfl rfl rfl ?_
    refine At.opsNil ?_
    refine At.norm (hk_3 ?_)
    refine At.condT rfl ?_
    refine At.seq fun K4 hk_4 => ?_
    refine At.region ?_
    refine op_assign (nxlf rfl) rfl rfl ?_
    refine op_assign (nxlf rfl) rfl rfl ?_
    refine At.opsNil ?_
    refine At.norm (hk_4 ?_)
    refine At.ret (At.thenRet (?_))
    refine At.sub (L' := [R]) (.cons _ (.cons_cons _ (.slnil))) ?_
    refine At.retN (L1 := []) rfl (.tmp rfl (.tmp rfl .nil)) rfl (.refl _) (.refl _) ?_
    exact ⟨rfl, rfl⟩
  · refine op_fieldAddr (nxgf rfl rfl rfl rfl) fl46_0 rfl rfl ?_
    refine op_loadB (nxgf rfl rfl rfl rfl) sc3 rfl B1 (by first | rfl | exact rcC_logs hb) mem0 rfl ?_
    refine op_gtr (nxgf rfl rfl rfl rfl) rfl rfl rfl ?_
    refine op_pickF (nxlf rfl) rfl rfl rfl ?_
    refine op_move (nxlf rfl) rfl rfl ?_
    refine At.partP (d := 14) rfl (fun g14 => ?_) (fun g14 => ?_)
    · refine op_skip rfl rfl rfl rfl rfl rfl rfl ?_
      refine op_skip rfl rfl rfl rfl rfl rfl rfl ?_
      refine op_skip rfl rfl rfl rfl rfl rfl rfl ?_
      refine op_skip rfl rfl rfl rfl rfl rfl rfl ?_
      refine op_skip rfl rfl rfl rfl rfl rfl rfl ?_
      refine op_skipU rfl rfl rfl rfl rfl rfl ?_
      refine op_skipU rfl rfl rfl rfl rfl rfl ?_
      refine op_skipU rfl rfl rfl rfl rfl rfl ?_
      refine op_skipU rfl rfl rfl rfl rfl rfl ?_
      refine op_skip rfl rfl rfl rfl rfl rfl rfl ?_
      refine op_pickT (nxlf rfl) rfl rfl rfl ?_
      refine At.opsNil ?_
      refine At.norm (hk_3 ?_)
      refine At.condT rfl ?_
      refine At.seq fun K5 hk_5 => ?_
      refine At.region ?_
      refine op_assign (nxlf rfl) rfl rfl ?_
      refine op_assign (nxlf rfl) rfl rfl ?_
      refine At.opsNil ?_
      refine At.norm (hk_5 ?_)
      refine At.ret (At.thenRet (?_))
      refine At.sub (L' := [R]) (.cons _ (.cons_cons _ (.slnil))) ?_
      refine At.retN (L1 := []) rfl (.tmp rfl (.tmp rfl .nil)) rfl (.refl _) (.refl _) ?_
      exact ⟨rfl, rfl⟩
    · refine op_fieldAddr (nxgf rfl rfl rfl rfl) fl46_1 rfl rfl ?_
      refine op_loadB (nxgf rfl rfl rfl rfl) sc27 rfl B1 (by first | rfl | exact rcC_logs hb) mem0 rfl ?_
      refine op_lenS (nxgf rfl rfl rfl rfl) se27 rfl rfl ?_
      refine op_neq (nxgf rfl rfl rfl rfl) rfl rfl rfl ?_
      refine op_move (nxgf rfl rfl rfl rfl) rfl rfl ?_
      refine At.partP (d := 19) rfl (fun g19 => ?_) (fun g19 => ?_)
      · refine op_fieldAddr (nxgf rfl rfl rfl rfl) fl46_1 rfl rfl ?_
        refine op_loadB (nxgf rfl rfl rfl rfl) sc27 rfl B1 (by first | rfl | exact rcC_logs hb) mem0 rfl ?_
        refine op_lenS (nxgf rfl rfl rfl rfl) se27 rfl rfl ?_
        refine op_neq (nxgf rfl rfl rfl rfl) rfl rfl rfl ?_
        refine op_pickT (nxgf rfl rfl rfl rfl) rfl rfl rfl ?_
        refine op_pickF (nxlf rfl) rfl rfl rfl ?_
        refine At.opsNil ?_
        refine At.norm (hk_3 ?_)
        refine At.condP rfl (fun c25 => ?_) (fun c25 => ?_)
        · refine At.knowT (d := 25) rfl c25 ?_
          refine At.seq fun K6 hk_6 => ?_
          refine At.region ?_
          refine op_assign (nxlf rfl) rfl rfl ?_
          refine op_assign (nxlf rfl) rfl rfl ?_
          refine At.opsNil ?_
          refine At.norm (hk_6 ?_)
          refine At.ret (At.thenRet (?_))
          refine At.sub (L' := [R]) (.cons _ (.cons_cons _ (.slnil))) ?_
          refine At.retN (L1 := []) rfl (.tmp rfl (.tmp rfl .nil)) rfl (.refl _) (.refl _) ?_
          exact ⟨rfl, rfl⟩
        · exfalso; omega
      · exfalso; omega
set_option maxHeartbeats 2000000 in
theorem FReceipt_ok (hr : RSl N 1 ra rn rc (u8s root)) (hl : RSl N 22 la ln lc (logsC xs)) (hg : LogsN N gs xs) (hb : bl.length = 256) (hv : 0 ≤ k ∧ k ≤ 3 ∧ (root.length = 0 ∨ root.length = 32))
    (hT : ∀ g ∈ gs, g.topics.length ≤ 1099511627776) (hn : ln ≤ 1099511627776) (hf : (rcIt root ok gas bl gs).form.length ≤ 1099511627770) : Fn Try.prog 17 #[.agg (rcC k (.slice ra rn rc) ok gas bl (.slice la ln lc)).toArray] [] [N] (OutP (rcB k root ok gas bl gs)) := by
  have hrl := hr.len8
  have hcl := rcC_len (k := k) (rv := .slice ra rn rc) (ok := ok) (gas := gas) (lv := .slice la ln lc) hb
  have hdep := rcIt_dep root ok gas bl gs
  have hkk : ((UInt8.ofNat k.toNat).toNat : Int) = k := by rw [UInt8.toNat_ofNat']; omega
  refine Fn.enter (vs := [.agg (rcC k (.slice ra rn rc) ok gas bl (.slice la ln lc)).toArray]) Try.func17 rfl rfl rfl ?_
  intro E R hR
  have hrR := hr.le (hR N (by simp))
  have hlR := hl.le (hR N (by simp))
  have hNR := hR N (by simp)
  change At _ _ E [R] _
  refine At.seq fun K1 hk_1 => ?_
  refine At.region ?_
  refine op_box (nxla rfl) rfl rfl rfl (fun N1 b1 B1 => ?_)
  refine op_assign (nxlf rfl) rfl rfl ?_
  refine op_assign (nxlf rfl) rfl rfl ?_
  refine At.opsNil ?_
  refine At.norm (hk_1 ?_)
  refine At.seq fun K2 hk_2 => ?_
  refine At.meet (fun fr_ hp_ => fr_ = [(1, .pointer (some ⟨b1, 0, none⟩))] ∧ hp_ = [N1, R] ∧ (True)) ?_ (fun K2_ jk_2 => ?_)
  rotate_left
  · skip
    refine At.seq fun K3 hk_3 => ?_
    refine At.region ?_
    refine op_fieldAddr (nxlf rfl) fl46_0 rfl rfl ?_
    refine op_loadB (nxlf rfl) sc3 rfl B1 (by first | rfl | exact rcC_logs hb) mem0 rfl ?_
    refine op_lss (nxlf rfl) rfl rfl rfl ?_
    refine op_move (nxlf rfl) rfl rfl ?_
    refine At.partP (d := 9) rfl (fun g9 => ?_) (fun g9 => ?_)
    · exfalso; omega
    · refine op_fieldAddr (nxgf rfl rfl rfl rfl) fl46_0 rfl rfl ?_
      refine op_loadB (nxgf rfl rfl rfl rfl) sc3 rfl B1 (by first | rfl | exact rcC_logs hb) mem0 rfl ?_
      refine op_gtr (nxgf rfl rfl rfl rfl) rfl rfl rfl ?_
      refine op_pickF (nxlf rfl) rfl rfl rfl ?_
      refine op_move (nxlf rfl) rfl rfl ?_
      refine At.partP (d := 14) rfl (fun g14 => ?_) (fun g14 => ?_)
      · exfalso; omega
      · refine op_fieldAddr (nxgf rfl rfl rfl rfl) fl46_1 rfl rfl ?_
        refine op_loadB (nxgf rfl rfl rfl rfl) sc27 rfl B1 (by first | rfl | exact rcC_logs hb) mem0 rfl ?_
        refine op_lenS (nxgf rfl rfl rfl rfl) se27 rfl rfl ?_
        refine op_neq (nxgf rfl rfl rfl rfl) rfl rfl rfl ?_
        refine op_move (nxgf rfl rfl rfl rfl) rfl rfl ?_
        refine At.partP (d := 19) rfl (fun g19 => ?_) (fun g19 => ?_)
        · refine op_fieldAddr (nxgf rfl rfl rfl rfl) fl46_1 rfl rfl ?_
          refine op_loadB (nxgf rfl rfl rfl rfl) sc27 rfl B1 (by first | rfl | exact rcC_logs hb) mem0 rfl ?_
          refine op_lenS (nxgf rfl rfl rfl rfl) se27 rfl rfl ?_
          refine op_neq (nxgf rfl rfl rfl rfl) rfl rfl rfl ?_
          refine op_pickT (nxgf rfl rfl rfl rfl) rfl rfl rfl ?_
          refine op_pickF (nxlf rfl) rfl rfl rfl ?_
          refine At.opsNil ?_
          refine At.norm (hk_3 ?_)
          refine At.condP rfl (fun c25 => ?_) (fun c25 => ?_)
          · exfalso; omega
          · refine At.knowF (d := 25) rfl c25 ?_
            refine At.skip ?_
            refine At.norm (jk_2 ?_ (.refl _) ⟨rfl, rfl, trivial⟩)
            exact .cons (by first | exact lkI rfl (by omega) | rfl) .nil
        · refine op_skip rfl rfl rfl rfl rfl rfl rfl ?_
          refine op_skip rfl rfl rfl rfl rfl rfl rfl ?_
          refine op_skip rfl rfl rfl rfl rfl rfl rfl ?_
          refine op_skip rfl rfl rfl rfl rfl rfl rfl ?_
          refine op_pickF (nxgf rfl rfl rfl rfl) rfl rfl rfl ?_
          refine op_pickF (nxlf rfl) rfl rfl rfl ?_
          refine At.opsNil ?_
          refine At.norm (hk_3 ?_)
          refine At.condF rfl ?_
          refine At.skip ?_
          refine At.norm (jk_2 ?_ (.refl _) ⟨rfl, rfl, trivial⟩)
          exact .cons (by first | exact lkI rfl (by omega) | rfl) .nil
  rintro _ _ ⟨rfl, rfl, hu⟩
  refine hk_2 ?_
  refine At.seq fun K4 hk_4 => ?_
  refine At.region ?_
  refine op_fieldAddr (nxlf rfl) fl46_1 rfl rfl ?_
  refine op_loadB (nxlf rfl) sc27 rfl B1 (by first | rfl | exact rcC_logs hb) mem0 rfl ?_
  refine op_callA (nxla rfl) (.cons rfl .nil) (FText_b) Try.func37 rfl rfl (by simp) rfl ?_
  rintro v28 L28 ⟨rfl, rfl⟩
  change At _ _ _ [N1, R] _
  refine op_alloc (nxla rfl) ze92 rfl (fun N4 b4 B4 => ?_)
  change Blk N4 b4 _ [.bool false, .slice none 0 0, .slice none 0 0] at B4
  refine op_store (nxl rfl) sz92 rfl rfl rfl rfl rfl B4 (by simp) sel0 (fun N4 B4 => ?_)
  simp only [setL, List.set] at B4
  refine At.opsNil ?_
  refine At.norm (hk_4 ?_)
  refine At.seq fun K5 hk_5 => ?_
  refine At.meet (fun fr_ hp_ => ∃ (f : IV) (N4 NF : Heaplet), fr_ = [(1, .pointer (some ⟨b1, 0, none⟩)), (4, .pointer (some ⟨b4, 0, none⟩))] ∧ hp_ = [N4, NF, N1, R] ∧ (Blk N4 b4 92 [.bool f.l, .slice f.ab f.nb f.cb, .slice f.ai f.ni f.ci]) ∧ (∀ K : Heaplet, NF.le K → N.le K → ItN K (firstI root ok) f)) ?_ (fun K5_ jk_5 => ?_)
  rotate_left
  · skip
    refine At.seq fun K6 hk_6 => ?_
    refine At.region ?_
    refine op_fieldAddr (nxlf rfl) fl46_1 rfl rfl ?_
    refine op_loadB (nxlf rfl) sc27 rfl B1 (by first | rfl | exact rcC_logs hb) mem1 rfl ?_
    refine op_lenS (nxlf rfl) se27 rfl rfl ?_
    refine op_eql (nxlf rfl) rfl rfl rfl ?_
    refine op_move (nxlf rfl) rfl rfl ?_
    refine At.partP (d := 33) rfl (fun g33 => ?_) (fun g33 => ?_)
    · refine op_fieldAddr (nxgf rfl rfl rfl rfl) fl46_2 rfl rfl ?_
      refine op_loadB (nxgf rfl rfl rfl rfl) sc4 rfl B1 (by first | rfl | exact rcC_logs hb) mem1 rfl ?_
      refine op_pickT (nxlf rfl) rfl rfl rfl ?_
      refine At.opsNil ?_
      refine At.norm (hk_6 ?_)
      refine At.condB rfl (fun c36 => ?_) (fun c36 => ?_)
      · refine At.knowBT (d := 36) rfl c36 ?_
        refine At.region ?_
        refine op_callA (nxla rfl) (.cons rfl .nil) (FNumber_b 1) Try.func38 rfl rfl (by simp) rfl ?_
        rintro v37 L37 ⟨M37, p37, k37, rfl, rfl, s37⟩
        change At _ _ _ [M37, N4, N1, R] _
        refine op_store (nxl rfl) sz92 rfl rfl rfl rfl rfl B4 (by simp) sel1 (fun N4 B4 => ?_)
        simp only [setL, List.set] at B4
        refine At.opsNil ?_
        refine At.norm (jk_5 ?_ (.refl _) ⟨ivS p37 _ k37, N4, M37, rfl, rfl, B4, by rw [firstI, if_pos ⟨by omega, c36⟩]; exact fun K h1 h2 => ItN_S (s37.le h1)⟩)
        exact .cons (by first | exact lkI rfl (by omega) | rfl) (.cons (by first | exact lkI rfl (by omega) | rfl) .nil)
      · refine At.knowBF (d := 36) rfl c36 ?_
        refine At.skip ?_
        refine At.empty ?_
        refine At.perm sel3 ?_
        refine At.perm sel3 ?_
        refine At.perm sel2 ?_
        refine At.perm sel3 ?_
        refine At.norm (jk_5 ?_ (.refl _) ⟨ivS ra rn rc, N4, nilH, rfl, rfl, B4, by rw [firstI, if_neg (fun h => by rw [h.2] at c36; cases c36)]; exact fun K h1 h2 => ItN_S (hr.le h2)⟩)
        exact .cons (by first | exact lkI rfl (by omega) | rfl) (.cons (by first | exact lkI rfl (by omega) | rfl) .nil)
    · refine op_skip rfl rfl rfl rfl rfl rfl rfl ?_
      refine op_skip rfl rfl rfl rfl rfl rfl rfl ?_
      refine op_pickF (nxlf rfl) rfl rfl rfl ?_
      refine At.opsNil ?_
      refine At.norm (hk_6 ?_)
      refine At.condF rfl ?_
      refine At.skip ?_
      refine At.empty ?_
      refine At.perm sel3 ?_
      refine At.perm sel3 ?_
      refine At.perm sel2 ?_
      refine At.perm sel3 ?_
      refine At.norm (jk_5 ?_ (.refl _) ⟨ivS ra rn rc, N4, nilH, rfl, rfl, B4, by rw [firstI, if_neg (fun h => g33 (by omega))]; exact fun K h1 h2 => ItN_S (hr.le h2)⟩)
      exact .cons (by first | exact lkI rfl (by omega) | rfl) (.cons (by first | exact lkI rfl (by omega) | rfl) .nil)
  rintro _ _ ⟨f, N4, NF, rfl, rfl, B4, hfi⟩
  refine hk_5 ?_
  refine At.seq fun K7 hk_7 => ?_
  have s43 := sub8 B1.rng (rcC_bloom (k := k) (rv := .slice ra rn rc) (ok := ok) (gas := gas) (lv := .slice la ln lc) hb) hb (by decide)
  refine At.drawnS [N4, NF, N1, R] [10,11,12] [] [0,1,2,4,5,7,8,3,6,9,10,11,12,13] (by kernel_rfl) (by kernel_rfl) (.refl _) ?_
  refine op_loadAggB (ds := [_, _, _]) (nxsf rfl rfl rfl) ag92 rfl B4 rfl rfl mem0 rfl ?_
  refine op_fieldAddr (nxsf rfl rfl rfl) fl46_3 rfl rfl ?_
  refine op_loadB (nxsf rfl rfl rfl) sc24 rfl B1 (by first | rfl | exact rcC_logs hb) mem2 rfl ?_
  refine op_fieldAddr (nxsf rfl rfl rfl) fl46_4 rfl rfl ?_
  refine op_sliceA (nxsf rfl rfl rfl) ae36 rfl .none .none .none (by omega) (by omega) (by omega) (by simp) rfl ?_
  refine op_fieldAddr (nxsf rfl rfl rfl) fl46_5 rfl rfl ?_
  refine op_loadB (nxsf rfl rfl rfl) sc35 rfl B1 (by first | rfl | exact rcC_logs hb) mem2 rfl ?_
  refine op_callA (Nx.agree (nxsm rfl rfl rfl)) (.cons rfl .nil) (FNumber_b gas) Try.func38 rfl rfl (by simp) rfl ?_
  rintro v41 L41 ⟨M41, p41, k41, rfl, rfl, s41⟩
  change At _ _ _ [M41, N4, NF, N1, R] _
  refine At.moreS (Lst := [N4, NF, N1, R]) (Lst' := [M41, N4, NF, N1, R]) (.cons _ (.refl _)) (.refl _) ?_
  refine op_callA (Nx.agree (nxsm rfl rfl rfl)) (.cons rfl .nil) (FText_b) Try.func37 rfl rfl (by simp) rfl ?_
  rintro v44 L44 ⟨rfl, rfl⟩
  change At _ _ _ [M41, N4, NF, N1, R] _
  refine At.moreS (Lst := [M41, N4, NF, N1, R]) (Lst' := [M41, N4, NF, N1, R]) (.refl _) (.refl _) ?_
  refine op_callA (Nx.agree (nxsm rfl rfl rfl)) (.cons rfl .nil) (FLogItems_b hlR (hg.le hNR) hT hn) Try.func50 rfl rfl (by simp) rfl ?_
  rintro v47 L47 ⟨J47, x47, rfl, rfl, j47⟩
  change At _ _ _ [J47, M41, N4, NF, N1, R] _
  change At _ ((47, .agg #[.bool x47.l, .slice x47.ab x47.nb x47.cb, .slice x47.ai x47.ni x47.ci]) :: _) _ _ _
  refine At.moreS (Lst := [M41, N4, NF, N1, R]) (Lst' := [J47, M41, N4, NF, N1, R]) (.cons _ (.refl _)) (.refl _) ?_
  refine op_lit (Nx.agree (nxss rfl rfl rfl rfl)) Try.underlying90 ze92 sz92 (.cons rfl (.cons rfl (.cons rfl (.cons rfl .nil)))) rfl rfl (by simp [Value.cells]) rfl rfl rfl (fun N48 a48 r48 => ?_)
  simp only [flatV, List.flatMap_cons, List.flatMap_nil, Value.cells, List.append_nil, List.cons_append, List.nil_append] at r48
  have s48 := r48.rsl
  refine At.anyS (.refl _) ?_
  change Row N48 _ 3 a48 4 4 (cellsI [f, ivS p41 _ k41, ivS (some ⟨b1, 0 + 4 + 0 * 1, none⟩) (256 - 0) (256 - 0), x47]) at r48
  have s48 := r48.rsl
  refine op_callA (Nx.agree (nxss rfl rfl rfl rfl)) (.cons rfl .nil) (FList_b) Try.func36 rfl rfl (by simp) rfl ?_
  rintro v49 L49 ⟨rfl, rfl⟩
  change At _ _ _ [N48, J47, M41, N4, NF, N1, R] _
  refine At.anyS (.refl _) ?_
  refine op_callA (Nx.agree (nxss rfl rfl rfl rfl)) (.cons rfl .nil) (Fn.overJ (Ns := [N48, NF, M41, N1, J47, R]) fun K hK => FForm_b (t := rcIt root ok gas bl gs) (x := ivL a48 4 4) (ItN_L (s48.le (hK _ (by simp))) (ItsN_cons (hfi K (hK _ (by simp)) (Heaplet.le_trans hNR (hK _ (by simp)))) (ItsN_cons (ItN_S (s41.le (hK _ (by simp)))) (ItsN_cons (ItN_S (s43.le (hK _ (by simp)))) (ItsN_cons (j47 K (hK _ (by simp)) (hK _ (by simp))) ItsN_nil))))) (by omega) hdep) Try.func35 rfl rfl (by simp) rfl ?_
  rintro v50 L50 ⟨N50, a50, k50, rfl, rfl, r50⟩
  change At _ _ _ [N50, N48, J47, M41, N4, NF, N1, R] _
  refine At.anyS (.refl _) ?_
  refine op_assign (nxsf rfl rfl rfl) rfl rfl ?_
  refine At.sNil ?_
  refine At.norm (hk_7 ?_)
  refine At.seq fun K8 hk_8 => ?_
  refine At.seq fun K9 hk_9 => ?_
  refine At.region ?_
  refine op_fieldAddr (nxlf rfl) fl46_0 rfl rfl ?_
  refine op_loadB (nxlf rfl) sc3 rfl B1 (by first | rfl | exact rcC_logs hb) mem6 rfl ?_
  refine op_gtr (nxlf rfl) rfl rfl rfl ?_
  refine At.opsNil ?_
  refine At.norm (hk_9 ?_)
  refine At.condP rfl (fun c53 => ?_) (fun c53 => ?_)
  · refine At.knowT (d := 53) rfl c53 ?_
    refine At.region ?_
    refine op_fieldAddr (nxlf rfl) fl46_0 rfl rfl ?_
    refine op_loadB (nxlf rfl) sc3 rfl B1 (by first | rfl | exact rcC_logs hb) mem6 rfl ?_
    refine op_conv8 (nxlf rfl) (und_some Try.underlying3) Try.underlying5 rfl (show _ = (((k.toNat : Nat)) : Int) from by omega) rfl ?_
    rw [show ((UInt8.ofNat k.toNat).toNat : Int) = ((UInt8.ofNat k.toNat).toNat : Int) from rfl]
    refine op_lit (nxla rfl) Try.underlying27 ze5 sz5 (.cons rfl .nil) rfl rfl (by simp [Value.cells]) rfl rfl rfl (fun N57 a57 r57 => ?_)
    simp only [flatV, List.flatMap_cons, List.flatMap_nil, Value.cells, List.append_nil, List.cons_append, List.nil_append] at r57
    have s57 := r57.rsl
    refine op_move (nxlf rfl) rfl rfl ?_
    change Row N57 _ 1 a57 1 1 (u8s [UInt8.ofNat k.toNat]) at r57
    refine op_append (nxl rfl) Try.underlying27 Try.underlying27 te5 rfl rfl r57 r50.rsl (by first | exact mem0 | exact mem1 | exact mem2 | exact mem3 | exact mem4 | exact mem5 | exact mem6 | exact mem7 | exact mem8 | exact mem9) (by first | exact one_u8s _ | exact one_u64s _ | exact one_u32s _ | (intro u hu; simp at hu; subst hu; rfl)) (by omega) (by omega) sel0 rfl (fun N59 a59 p59 r59 => ?_)
    have s59 := r59.rsl
    rw [← u8s_app] at s59
    refine op_assign (nxlf rfl) rfl rfl ?_
    refine At.opsNil ?_
    refine At.norm (hk_8 ?_)
    refine At.seq fun K10 hk_10 => ?_
    refine At.region ?_
    refine op_move (nxlf rfl) rfl rfl ?_
    refine op_assign (nxlf rfl) rfl rfl ?_
    refine op_assign (nxlf rfl) rfl rfl ?_
    refine At.opsNil ?_
    refine At.norm (hk_10 ?_)
    refine At.ret (?_)
    refine At.sub (L' := [N59, R]) (.cons_cons _ (.cons _ (.cons _ (.cons _ (.cons _ (.cons _ (.cons _ (.cons _ (.cons_cons _ (.slnil)))))))))) ?_
    refine At.retN (L1 := [N59]) rfl (.tmp rfl (.tmp rfl .nil)) rfl (.refl _) (.refl _) ?_
    have e : rcB k root ok gas bl gs = [UInt8.ofNat k.toNat] ++ (rcIt root ok gas bl gs).form := by rw [rcB, kindB, if_pos (by omega)]
    rw [e]
    exact ⟨N59, a59, p59, by rw [List.length_append]; rfl, rfl, by rw [List.length_append]; exact s59⟩
  · refine At.knowF (d := 53) rfl c53 ?_
    refine At.skip ?_
    refine At.norm (hk_8 ?_)
    refine At.seq fun K11 hk_11 => ?_
    refine At.region ?_
    refine op_move (nxlf rfl) rfl rfl ?_
    refine op_assign (nxlf rfl) rfl rfl ?_
    refine op_assign (nxlf rfl) rfl rfl ?_
    refine At.opsNil ?_
    refine At.norm (hk_11 ?_)
    refine At.ret (?_)
    refine At.sub (L' := [N50, R]) (.cons_cons _ (.cons _ (.cons _ (.cons _ (.cons _ (.cons _ (.cons _ (.cons_cons _ (.slnil))))))))) ?_
    refine At.retN (L1 := [N50]) rfl (.tmp rfl (.tmp rfl .nil)) rfl (.refl _) (.refl _) ?_
    have e : rcB k root ok gas bl gs = (rcIt root ok gas bl gs).form := by rw [rcB, kindB, if_neg (by omega), List.nil_append]
    rw [e]
    exact ⟨N50, a50, k50, rfl, rfl, r50.rsl⟩
end
end Go.Proofs.Ytljacjjeinmfnaa
/- Layer 14: withdrawals; receipts written by the reference. Condition: sizes. -/
namespace Go.Proofs.Ytljacjjeinmfnaa
set_option linter.unusedVariables false
set_option linter.unusedSimpArgs false
open Go Go.RowKit
set_option maxRecDepth 100000
/-- A withdrawal's cells, and its item. -/
def wdC (i v : UInt64) (a : List UInt8) (m : UInt64) : List Value := .int .u64 (i.toNat : Int) :: .int .u64 (v.toNat : Int) :: (u8s a ++ [.int .u64 (m.toNat : Int)])
def wdIt (i v : UInt64) (a : List UInt8) (m : UInt64) : It := itL [itS (bytesOf i.toNat), itS (bytesOf v.toNat), itS a, itS (bytesOf m.toNat)]
section
variable {i v m : UInt64} {a : List UInt8}
theorem wdC_len (ha : a.length = 20) : (wdC i v a m).length = 23 := by
  have : (u8s a).length = 20 := by rw [u8s_len, ha]
  simp only [wdC, List.length_cons, List.length_append, this, List.length_nil]
theorem wdC_am (ha : a.length = 20) : (wdC i v a m)[0 + 22]? = some (.int .u64 (m.toNat : Int)) := by
  have : (u8s a).length = 20 := by rw [u8s_len, ha]
  show (u8s a ++ [_])[20]? = _
  rw [List.getElem?_append_right (by omega), this]; rfl
theorem wdC_ad (ha : a.length = 20) : ((wdC i v a m).drop 2).take 20 = u8s a := by
  show (u8s a ++ [_]).take 20 = _
  rw [List.take_left' (by rw [u8s_len, ha])]
theorem wdIt_len (ha : a.length = 20) : (wdIt i v a m).form.length ≤ 200 := by
  have h1 := formS_len a (by omega)
  have hb := fun (u : UInt64) => bytes8 u
  have h2 := formS_len (bytesOf i.toNat) (by have := hb i; omega)
  have h3 := formS_len (bytesOf v.toNat) (by have := hb v; omega)
  have h4 := formS_len (bytesOf m.toNat) (by have := hb m; omega)
  have b2 := hb i
  have b3 := hb v
  have b4 := hb m
  have h5 : (It.forms [itS (bytesOf i.toNat), itS (bytesOf v.toNat), itS a, itS (bytesOf m.toNat)]).length ≤ 90 := by
    rw [forms_cons, forms_cons, forms_cons, forms_cons, forms_nil, List.length_append, List.length_append, List.length_append, List.length_append, List.length_nil]; omega
  have := formL_len [itS (bytesOf i.toNat), itS (bytesOf v.toNat), itS a, itS (bytesOf m.toNat)] (by omega)
  unfold wdIt; omega
theorem wdIt_dep : (wdIt i v a m).depth ≤ 1024 := by
  rw [wdIt, depthL, depths_cons, depths_cons, depths_cons, depths_cons, depths_nil, depthS, depthS, depthS, depthS]; decide
theorem FPaid_b (ha : a.length = 20) : Fn Try.prog 54 #[.agg (wdC i v a m).toArray] [] [] (ItemP (wdIt i v a m)) := by
  have hl := wdC_len (i := i) (v := v) (m := m) ha
  refine Fn.enter (vs := [.agg (wdC i v a m).toArray]) Try.func54 rfl rfl rfl ?_
  intro E R hR
  change At _ _ E [R] _
  refine At.seq fun K1 hk_1 => ?_
  refine At.region ?_
  refine op_box (nxla rfl) rfl rfl rfl (fun N1 b1 B1 => ?_)
  refine op_alloc (nxla rfl) ze92 rfl (fun N2 b2 B2 => ?_)
  change Blk N2 b2 _ [.bool false, .slice none 0 0, .slice none 0 0] at B2
  refine At.opsNil ?_
  refine At.norm (hk_1 ?_)
  refine At.seq fun K2 hk_2 => ?_
  have s10 := sub8 B1.rng (wdC_ad (i := i) (v := v) (m := m) ha) ha (by decide)
  refine At.drawnS [N1, R] [11,12,13,14] [] [0,1,3,4,6,7,9,10,2,5,8,11,12,13,14] (by kernel_rfl) (by kernel_rfl) (.cons _ (.refl _)) ?_
  refine op_fieldAddr (nxsf rfl rfl rfl) fl48_0 rfl rfl ?_
  refine op_loadB (nxsf rfl rfl rfl) sc24 rfl B1 (by first | rfl | exact wdC_am ha) mem0 rfl ?_
  refine op_fieldAddr (nxsf rfl rfl rfl) fl48_1 rfl rfl ?_
  refine op_loadB (nxsf rfl rfl rfl) sc24 rfl B1 (by first | rfl | exact wdC_am ha) mem0 rfl ?_
  refine op_fieldAddr (nxsf rfl rfl rfl) fl48_2 rfl rfl ?_
  refine op_sliceA (nxsf rfl rfl rfl) ae23 rfl .none .none .none (by omega) (by omega) (by omega) (by simp) rfl ?_
  refine op_fieldAddr (nxsf rfl rfl rfl) fl48_3 rfl rfl ?_
  refine op_loadB (nxsf rfl rfl rfl) sc24 rfl B1 (by first | rfl | exact wdC_am ha) mem0 rfl ?_
  refine op_callA (Nx.agree (nxsm rfl rfl rfl)) (.cons rfl .nil) (FNumber_b i) Try.func38 rfl rfl (by simp) rfl ?_
  rintro v5 L5 ⟨M5, p5, k5, rfl, rfl, s5⟩
  change At _ _ _ [M5, N2, N1, R] _
  refine At.perm sel3 ?_
  refine At.perm sel3 ?_
  refine At.perm sel2 ?_
  refine At.perm sel3 ?_
  refine At.moreS (Lst := [N1, R]) (Lst' := [M5, N1, R]) (.cons _ (.refl _)) (.cons _ (.refl _)) ?_
  refine op_callA (Nx.agree (nxsm rfl rfl rfl)) (.cons rfl .nil) (FNumber_b v) Try.func38 rfl rfl (by simp) rfl ?_
  rintro v8 L8 ⟨M8, p8, k8, rfl, rfl, s8⟩
  change At _ _ _ [M8, N2, M5, N1, R] _
  refine At.perm sel4 ?_
  refine At.perm sel4 ?_
  refine At.perm sel4 ?_
  refine At.perm sel3 ?_
  refine At.perm sel4 ?_
  refine At.moreS (Lst := [M5, N1, R]) (Lst' := [M8, M5, N1, R]) (.cons _ (.refl _)) (.cons _ (.refl _)) ?_
  refine op_callA (Nx.agree (nxsm rfl rfl rfl)) (.cons rfl .nil) (FText_b) Try.func37 rfl rfl (by simp) rfl ?_
  rintro v11 L11 ⟨rfl, rfl⟩
  change At _ _ _ [N2, M8, M5, N1, R] _
  refine At.moreS (Lst := [M8, M5, N1, R]) (Lst' := [M8, M5, N1, R]) (.refl _) (.cons _ (.refl _)) ?_
  refine op_callA (Nx.agree (nxss rfl rfl rfl rfl)) (.cons rfl .nil) (FNumber_b m) Try.func38 rfl rfl (by simp) rfl ?_
  rintro v14 L14 ⟨M14, p14, k14, rfl, rfl, s14⟩
  change At _ _ _ [M14, N2, M8, M5, N1, R] _
  refine At.anyS (.refl _) ?_
  refine op_lit (Nx.agree (nxss rfl rfl rfl rfl)) Try.underlying90 ze92 sz92 (.cons rfl (.cons rfl (.cons rfl (.cons rfl .nil)))) rfl rfl (by simp [Value.cells]) rfl rfl rfl (fun N15 a15 r15 => ?_)
  simp only [flatV, List.flatMap_cons, List.flatMap_nil, Value.cells, List.append_nil, List.cons_append, List.nil_append] at r15
  have s15 := r15.rsl
  refine At.anyS (.refl _) ?_
  change Row N15 _ 3 a15 4 4 (cellsI [ivS p5 _ k5, ivS p8 _ k8, ivS (some ⟨b1, 0 + 2 + 0 * 1, none⟩) (20 - 0) (20 - 0), ivS p14 _ k14]) at r15
  have s15 := r15.rsl
  refine op_callA (Nx.agree (nxss rfl rfl rfl rfl)) (.cons rfl .nil) (FList_b) Try.func36 rfl rfl (by simp) rfl ?_
  rintro v16 L16 ⟨rfl, rfl⟩
  change At _ _ _ [N15, M14, N2, M8, M5, N1, R] _
  refine At.anyS (.refl _) ?_
  refine op_store (nxsl rfl rfl rfl rfl) sz92 rfl rfl rfl rfl rfl B2 (by simp) sel2 (fun N2 B2 => ?_)
  simp only [setL, List.set] at B2
  refine At.sNil ?_
  refine At.norm (hk_2 ?_)
  refine At.ret (?_)
  refine At.perm sel6 ?_
  refine At.perm sel6 ?_
  refine At.perm sel5 ?_
  refine At.perm sel5 ?_
  refine At.perm sel4 ?_
  refine At.perm sel6 ?_
  refine At.perm sel6 ?_
  refine At.mergeN (fun J J1 J2 => ?_)
  refine At.perm sel5 ?_
  refine At.perm sel5 ?_
  refine At.perm sel4 ?_
  refine At.perm sel4 ?_
  refine At.perm sel5 ?_
  refine At.perm sel5 ?_
  refine At.mergeN (fun K K1 K2 => ?_)
  refine At.perm sel4 ?_
  refine At.perm sel3 ?_
  refine At.perm sel3 ?_
  refine At.perm sel4 ?_
  refine At.perm sel4 ?_
  refine At.mergeN (fun W W1 W2 => ?_)
  refine At.perm sel3 ?_
  refine At.perm sel2 ?_
  refine At.perm sel3 ?_
  refine At.perm sel3 ?_
  refine At.mergeN (fun Q Q1 Q2 => ?_)
  refine At.perm sel2 ?_
  refine At.perm sel1 ?_
  refine At.perm sel2 ?_
  refine At.ret1 (L1 := [Q]) rfl (.cell rfl (res_agg (ds := [_, _, _]) ag92 B2 rfl rfl mem0) .nil) (.cons _ (.refl _)) (.refl _) ?_
  exact ⟨Q, ivL a15 4 4, rfl, rfl, ItN_L (s15.le (Heaplet.le_trans J1 (Heaplet.le_trans K1 (Heaplet.le_trans W1 Q1)))) (ItsN_cons (ItN_S (s5.le (Heaplet.le_trans J2 (Heaplet.le_trans K1 (Heaplet.le_trans W1 Q1))))) (ItsN_cons (ItN_S (s8.le (Heaplet.le_trans K2 (Heaplet.le_trans W1 Q1)))) (ItsN_cons (ItN_S (s10.le (Heaplet.le_trans W2 Q1))) (ItsN_cons (ItN_S (s14.le Q2)) ItsN_nil))))⟩
theorem rPaid_b (ha : a.length = 20) : Fn Try.prog 55 #[.agg (wdC i v a m).toArray] [] [] (ItemP (wdIt i v a m)) := by
  have hl := wdC_len (i := i) (v := v) (m := m) ha
  refine Fn.enter (vs := [.agg (wdC i v a m).toArray]) Try.func55 rfl rfl rfl ?_
  intro E R hR
  change At _ _ E [R] _
  refine At.seq fun K1 hk_1 => ?_
  refine At.region ?_
  refine op_box (nxla rfl) rfl rfl rfl (fun N1 b1 B1 => ?_)
  refine op_alloc (nxla rfl) ze92 rfl (fun N2 b2 B2 => ?_)
  change Blk N2 b2 _ [.bool false, .slice none 0 0, .slice none 0 0] at B2
  refine At.opsNil ?_
  refine At.norm (hk_1 ?_)
  refine At.seq fun K2 hk_2 => ?_
  have s10 := sub8 B1.rng (wdC_ad (i := i) (v := v) (m := m) ha) ha (by decide)
  refine At.drawnS [N1, R] [11,12,13,14] [] [0,1,3,4,6,7,9,10,2,5,8,11,12,13,14] (by kernel_rfl) (by kernel_rfl) (.cons _ (.refl _)) ?_
  refine op_fieldAddr (nxsf rfl rfl rfl) fl48_0 rfl rfl ?_
  refine op_loadB (nxsf rfl rfl rfl) sc24 rfl B1 (by first | rfl | exact wdC_am ha) mem0 rfl ?_
  refine op_fieldAddr (nxsf rfl rfl rfl) fl48_1 rfl rfl ?_
  refine op_loadB (nxsf rfl rfl rfl) sc24 rfl B1 (by first | rfl | exact wdC_am ha) mem0 rfl ?_
  refine op_fieldAddr (nxsf rfl rfl rfl) fl48_2 rfl rfl ?_
  refine op_sliceA (nxsf rfl rfl rfl) ae23 rfl .none .none .none (by omega) (by omega) (by omega) (by simp) rfl ?_
  refine op_fieldAddr (nxsf rfl rfl rfl) fl48_3 rfl rfl ?_
  refine op_loadB (nxsf rfl rfl rfl) sc24 rfl B1 (by first | rfl | exact wdC_am ha) mem0 rfl ?_
  refine op_callA (Nx.agree (nxsm rfl rfl rfl)) (.cons rfl .nil) (rNum_b i) Try.func43 rfl rfl (by simp) rfl ?_
  rintro v5 L5 ⟨M5, p5, k5, rfl, rfl, s5⟩
  change At _ _ _ [M5, N2, N1, R] _
  refine At.perm sel3 ?_
  refine At.perm sel3 ?_
  refine At.perm sel2 ?_
  refine At.perm sel3 ?_
  refine At.moreS (Lst := [N1, R]) (Lst' := [M5, N1, R]) (.cons _ (.refl _)) (.cons _ (.refl _)) ?_
  refine op_callA (Nx.agree (nxsm rfl rfl rfl)) (.cons rfl .nil) (rNum_b v) Try.func43 rfl rfl (by simp) rfl ?_
  rintro v8 L8 ⟨M8, p8, k8, rfl, rfl, s8⟩
  change At _ _ _ [M8, N2, M5, N1, R] _
  refine At.perm sel4 ?_
  refine At.perm sel4 ?_
  refine At.perm sel4 ?_
  refine At.perm sel3 ?_
  refine At.perm sel4 ?_
  refine At.moreS (Lst := [M5, N1, R]) (Lst' := [M8, M5, N1, R]) (.cons _ (.refl _)) (.cons _ (.refl _)) ?_
  refine op_callA (Nx.agree (nxsm rfl rfl rfl)) (.cons rfl .nil) (rBytes_b s10 (by decide)) Try.func42 rfl rfl (by simp) rfl ?_
  rintro v11 L11 ⟨M11, p11, k11, rfl, rfl, s11⟩
  change At _ _ _ [M11, N2, M8, M5, N1, R] _
  refine At.perm sel5 ?_
  refine At.perm sel5 ?_
  refine At.perm sel5 ?_
  refine At.perm sel5 ?_
  refine At.perm sel4 ?_
  refine At.perm sel5 ?_
  refine At.moreS (Lst := [M8, M5, N1, R]) (Lst' := [M11, M8, M5, N1, R]) (.cons _ (.refl _)) (.cons _ (.refl _)) ?_
  refine op_callA (Nx.agree (nxss rfl rfl rfl rfl)) (.cons rfl .nil) (rNum_b m) Try.func43 rfl rfl (by simp) rfl ?_
  rintro v14 L14 ⟨M14, p14, k14, rfl, rfl, s14⟩
  change At _ _ _ [M14, N2, M11, M8, M5, N1, R] _
  refine At.anyS (.refl _) ?_
  refine op_lit (Nx.agree (nxss rfl rfl rfl rfl)) Try.underlying90 ze92 sz92 (.cons rfl (.cons rfl (.cons rfl (.cons rfl .nil)))) rfl rfl (by simp [Value.cells]) rfl rfl rfl (fun N15 a15 r15 => ?_)
  simp only [flatV, List.flatMap_cons, List.flatMap_nil, Value.cells, List.append_nil, List.cons_append, List.nil_append] at r15
  have s15 := r15.rsl
  refine At.anyS (.refl _) ?_
  change Row N15 _ 3 a15 4 4 (cellsI [ivS p5 _ k5, ivS p8 _ k8, ivS p11 _ k11, ivS p14 _ k14]) at r15
  have s15 := r15.rsl
  refine op_callA (Nx.agree (nxss rfl rfl rfl rfl)) (.cons rfl .nil) (rList_b) Try.func41 rfl rfl (by simp) rfl ?_
  rintro v16 L16 ⟨rfl, rfl⟩
  change At _ _ _ [N15, M14, N2, M11, M8, M5, N1, R] _
  refine At.anyS (.refl _) ?_
  refine op_store (nxsl rfl rfl rfl rfl) sz92 rfl rfl rfl rfl rfl B2 (by simp) sel2 (fun N2 B2 => ?_)
  simp only [setL, List.set] at B2
  refine At.sNil ?_
  refine At.norm (hk_2 ?_)
  refine At.ret (?_)
  refine At.perm sel7 ?_
  refine At.perm sel7 ?_
  refine At.perm sel6 ?_
  refine At.perm sel6 ?_
  refine At.perm sel6 ?_
  refine At.perm sel5 ?_
  refine At.perm sel7 ?_
  refine At.perm sel7 ?_
  refine At.mergeN (fun J J1 J2 => ?_)
  refine At.perm sel6 ?_
  refine At.perm sel6 ?_
  refine At.perm sel5 ?_
  refine At.perm sel5 ?_
  refine At.perm sel5 ?_
  refine At.perm sel6 ?_
  refine At.perm sel6 ?_
  refine At.mergeN (fun K K1 K2 => ?_)
  refine At.perm sel5 ?_
  refine At.perm sel5 ?_
  refine At.perm sel4 ?_
  refine At.perm sel4 ?_
  refine At.perm sel5 ?_
  refine At.perm sel5 ?_
  refine At.mergeN (fun W W1 W2 => ?_)
  refine At.perm sel4 ?_
  refine At.perm sel4 ?_
  refine At.perm sel3 ?_
  refine At.perm sel4 ?_
  refine At.perm sel4 ?_
  refine At.mergeN (fun Q Q1 Q2 => ?_)
  refine At.sub (L' := [Q, N2, R]) (.cons_cons _ (.cons_cons _ (.cons _ (.cons_cons _ (.slnil))))) ?_
  refine At.perm sel2 ?_
  refine At.perm sel1 ?_
  refine At.perm sel2 ?_
  refine At.ret1 (L1 := [Q]) rfl (.cell rfl (res_agg (ds := [_, _, _]) ag92 B2 rfl rfl mem0) .nil) (.cons _ (.refl _)) (.refl _) ?_
  exact ⟨Q, ivL a15 4 4, rfl, rfl, ItN_L (s15.le (Heaplet.le_trans J1 (Heaplet.le_trans K1 (Heaplet.le_trans W1 Q1)))) (ItsN_cons (ItN_S (s5.le (Heaplet.le_trans J2 (Heaplet.le_trans K1 (Heaplet.le_trans W1 Q1))))) (ItsN_cons (ItN_S (s8.le (Heaplet.le_trans K2 (Heaplet.le_trans W1 Q1)))) (ItsN_cons (ItN_S (s11.le (Heaplet.le_trans W2 Q1))) (ItsN_cons (ItN_S (s14.le Q2)) ItsN_nil))))⟩
theorem FWithdraw_b (ha : a.length = 20) : Fn Try.prog 20 #[.agg (wdC i v a m).toArray] [] [] (FormP (wdIt i v a m)) := by
  have hl := wdC_len (i := i) (v := v) (m := m) ha
  have hf := wdIt_len (i := i) (v := v) (m := m) ha
  have hd := wdIt_dep (i := i) (v := v) (a := a) (m := m)
  refine Fn.enter (vs := [.agg (wdC i v a m).toArray]) Try.func20 rfl rfl rfl ?_
  intro E R hR
  change At _ _ E [R] _
  refine At.seq fun K1 hk_1 => ?_
  refine At.region ?_
  refine op_box (nxla rfl) rfl rfl rfl (fun N1 b1 B1 => ?_)
  refine op_assign (nxlf rfl) rfl rfl ?_
  refine At.opsNil ?_
  refine At.norm (hk_1 ?_)
  refine At.seq fun K2 hk_2 => ?_
  refine At.region ?_
  refine op_loadAggB (ds := wdC i v a m) (nxlf rfl) ag48 rfl B1 (by exact tk_all hl) (by exact hl) mem0 rfl ?_
  refine op_callA (nxla rfl) (.cons rfl .nil) (FPaid_b ha) Try.func54 rfl rfl (by simp) rfl ?_
  rintro v4 L4 ⟨J4, x4, rfl, rfl, j4⟩
  change At _ _ _ [J4, N1, R] _
  change At _ ((4, .agg #[.bool x4.l, .slice x4.ab x4.nb x4.cb, .slice x4.ai x4.ni x4.ci]) :: _) _ _ _
  refine op_callA (nxla rfl) (.cons rfl .nil) (FForm_b j4 (by omega) hd) Try.func35 rfl rfl (by simp) rfl ?_
  rintro v5 L5 ⟨M5, p5, k5, rfl, rfl, r5⟩
  change At _ _ _ [M5, J4, N1, R] _
  refine op_assign (nxlf rfl) rfl rfl ?_
  refine At.opsNil ?_
  refine At.norm (hk_2 ?_)
  refine At.ret (?_)
  refine At.sub (L' := [M5, R]) (.cons_cons _ (.cons _ (.cons _ (.cons_cons _ (.slnil))))) ?_
  refine At.ret1 (L1 := [M5]) rfl (.tmp rfl .nil) (.refl _) (.refl _) ?_
  exact ⟨M5, p5, k5, rfl, rfl, r5⟩
theorem rWithdraw_b (ha : a.length = 20) : Fn Try.prog 21 #[.agg (wdC i v a m).toArray] [] [] (FormP (wdIt i v a m)) := by
  have hl := wdC_len (i := i) (v := v) (m := m) ha
  have hf := wdIt_len (i := i) (v := v) (m := m) ha
  refine Fn.enter (vs := [.agg (wdC i v a m).toArray]) Try.func21 rfl rfl rfl ?_
  intro E R hR
  change At _ _ E [R] _
  refine At.seq fun K1 hk_1 => ?_
  refine At.region ?_
  refine op_box (nxla rfl) rfl rfl rfl (fun N1 b1 B1 => ?_)
  refine op_assign (nxlf rfl) rfl rfl ?_
  refine At.opsNil ?_
  refine At.norm (hk_1 ?_)
  refine At.seq fun K2 hk_2 => ?_
  refine At.region ?_
  refine op_loadAggB (ds := wdC i v a m) (nxlf rfl) ag48 rfl B1 (by exact tk_all hl) (by exact hl) mem0 rfl ?_
  refine op_callA (nxla rfl) (.cons rfl .nil) (rPaid_b ha) Try.func55 rfl rfl (by simp) rfl ?_
  rintro v4 L4 ⟨J4, x4, rfl, rfl, j4⟩
  change At _ _ _ [J4, N1, R] _
  change At _ ((4, .agg #[.bool x4.l, .slice x4.ab x4.nb x4.cb, .slice x4.ai x4.ni x4.ci]) :: _) _ _ _
  refine op_callA (nxla rfl) (.cons rfl .nil) (rForm_b j4 (by omega)) Try.func40 rfl rfl (by simp) rfl ?_
  rintro v5 L5 ⟨M5, p5, k5, rfl, rfl, r5⟩
  change At _ _ _ [M5, J4, N1, R] _
  refine op_assign (nxlf rfl) rfl rfl ?_
  refine At.opsNil ?_
  refine At.norm (hk_2 ?_)
  refine At.ret (?_)
  refine At.sub (L' := [M5, R]) (.cons_cons _ (.cons _ (.cons _ (.cons_cons _ (.slnil))))) ?_
  refine At.ret1 (L1 := [M5]) rfl (.tmp rfl .nil) (.refl _) (.refl _) ?_
  exact ⟨M5, p5, k5, rfl, rfl, r5⟩
end
/-- Bytes in new memory. -/
def BytP2 (b : List UInt8) (v : Value) (L : List Heaplet) : Prop := ∃ M a c, v = .slice a b.length c ∧ L = [M] ∧ RSl M 1 a b.length c (u8s b)
section
variable {N : Heaplet} {k : Int} {ao ra la : Option Addr} {n cap rn rc ln lc : Nat} {root bl : List UInt8} {ok : Bool} {gas : UInt64} {gs : List LogM} {xs : List LV} {its : List It}
theorem rEnvT_b (hk : 0 ≤ k ∧ k ≤ 255) (h : ItN N (itL its) (ivL ao n cap)) (hf : (itL its).form.length ≤ 1099511627770) : Fn Try.prog 52 #[.int .i64 k, .slice ao n cap] [] [N] (BytP2 (kindB k ++ (itL its).form)) := by
  refine Fn.enter (vs := [.int .i64 k, .slice ao n cap]) Try.func52 rfl rfl rfl ?_
  intro E R hR
  have h := h.le (hR N (by simp))
  change At _ _ E [R] _
  refine At.seq fun K1 hk_1 => ?_
  refine At.region ?_
  refine op_assign (nxlf rfl) rfl rfl ?_
  refine At.opsNil ?_
  refine At.norm (hk_1 ?_)
  refine At.seq fun K2 hk_2 => ?_
  refine At.region ?_
  refine op_move (nxlf rfl) rfl rfl ?_
  refine op_callA (nxla rfl) (.cons rfl .nil) (rList_b) Try.func41 rfl rfl (by simp) rfl ?_
  rintro v7 L7 ⟨rfl, rfl⟩
  change At _ _ _ [R] _
  refine op_callA (nxla rfl) (.cons rfl .nil) (rForm_b (x := ivL ao n cap) h (by omega)) Try.func40 rfl rfl (by simp) rfl ?_
  rintro v8 L8 ⟨M8, p8, k8, rfl, rfl, r8⟩
  change At _ _ _ [M8, R] _
  refine op_assign (nxlf rfl) rfl rfl ?_
  refine At.opsNil ?_
  refine At.norm (hk_2 ?_)
  refine At.seq fun K3 hk_3 => ?_
  refine At.seq fun K4 hk_4 => ?_
  refine At.region ?_
  refine op_move (nxlf rfl) rfl rfl ?_
  refine op_eql (nxlf rfl) rfl rfl rfl ?_
  refine At.opsNil ?_
  refine At.norm (hk_4 ?_)
  refine At.condP rfl (fun c10 => ?_) (fun c10 => ?_)
  · refine At.seq fun K5 hk_5 => ?_
    refine At.region ?_
    refine op_move (nxlf rfl) rfl rfl ?_
    refine op_assign (nxlf rfl) rfl rfl ?_
    refine At.opsNil ?_
    refine At.norm (hk_5 ?_)
    refine At.ret (At.thenRet (?_))
    refine At.ret1 (L1 := [M8]) rfl (.tmp rfl .nil) (.refl _) (.refl _) ?_
    have e : kindB k ++ (itL its).form = (itL its).form := by rw [kindB, if_neg (by omega), List.nil_append]
    rw [e]
    exact ⟨M8, p8, k8, rfl, rfl, r8.rsl⟩
  · refine At.skip ?_
    refine At.norm (hk_3 ?_)
    refine At.seq fun K6 hk_6 => ?_
    refine At.region ?_
    refine op_move (nxlf rfl) rfl rfl ?_
    refine op_conv8 (nxlf rfl) (und_some Try.underlying3) Try.underlying5 rfl (show _ = (((k.toNat : Nat)) : Int) from by omega) rfl ?_
    refine op_lit (nxla rfl) Try.underlying27 ze5 sz5 (.cons rfl .nil) rfl rfl (by simp [Value.cells]) rfl rfl rfl (fun N14 a14 r14 => ?_)
    simp only [flatV, List.flatMap_cons, List.flatMap_nil, Value.cells, List.append_nil, List.cons_append, List.nil_append] at r14
    have s14 := r14.rsl
    refine op_move (nxlf rfl) rfl rfl ?_
    change Row N14 _ 1 a14 1 1 (u8s [UInt8.ofNat k.toNat]) at r14
    refine op_append (nxl rfl) Try.underlying27 Try.underlying27 te5 rfl rfl r14 r8.rsl (by first | exact mem0 | exact mem1 | exact mem2 | exact mem3 | exact mem4 | exact mem5 | exact mem6 | exact mem7 | exact mem8 | exact mem9) (by first | exact one_u8s _ | exact one_u64s _ | exact one_u32s _ | (intro u hu; simp at hu; subst hu; rfl)) (by omega) (by omega) sel0 rfl (fun N16 a16 p16 r16 => ?_)
    have s16 := r16.rsl
    rw [← u8s_app] at s16
    refine op_assign (nxlf rfl) rfl rfl ?_
    refine At.opsNil ?_
    refine At.norm (hk_6 ?_)
    refine At.ret (?_)
    refine At.sub (L' := [N16, R]) (.cons_cons _ (.cons _ (.cons_cons _ (.slnil)))) ?_
    refine At.ret1 (L1 := [N16]) rfl (.tmp rfl .nil) (.refl _) (.refl _) ?_
    have e : kindB k ++ (itL its).form = [UInt8.ofNat k.toNat] ++ (itL its).form := by rw [kindB, if_pos (by omega)]
    rw [e]
    exact ⟨N16, a16, p16, by rw [List.length_append]; rfl, rfl, by rw [List.length_append]; exact s16⟩
theorem rReceipt_bad (hr : RSl N 1 ra rn rc (u8s root)) (hb : bl.length = 256) (hv : ¬ (0 ≤ k ∧ k ≤ 3 ∧ (root.length = 0 ∨ root.length = 32))) : Fn Try.prog 18 #[.agg (rcC k (.slice ra rn rc) ok gas bl (.slice la ln lc)).toArray] [] [N] (fun v L => v = .tuple #[.slice none 0 0, .bool false] ∧ L = []) := by
  have hrl := hr.len8
  have hcl := rcC_len (k := k) (rv := .slice ra rn rc) (ok := ok) (gas := gas) (lv := .slice la ln lc) hb
  refine Fn.enter (vs := [.agg (rcC k (.slice ra rn rc) ok gas bl (.slice la ln lc)).toArray]) Try.func18 rfl rfl rfl ?_
  intro E R hR
  change At _ _ E [R] _
  refine At.seq fun K1 hk_1 => ?_
  refine At.region ?_
  refine op_box (nxla rfl) rfl rfl rfl (fun N1 b1 B1 => ?_)
  refine op_assign (nxlf rfl) rfl rfl ?_
  refine op_assign (nxlf rfl) rfl rfl ?_
  refine At.opsNil ?_
  refine At.norm (hk_1 ?_)
  refine At.seq fun K2 hk_2 => ?_
  refine At.seq fun K3 hk_3 => ?_
  refine At.region ?_
  refine op_fieldAddr (nxlf rfl) fl46_0 rfl rfl ?_
  refine op_loadB (nxlf rfl) sc3 rfl B1 (by first | rfl | exact rcC_logs hb) mem0 rfl ?_
  refine op_lss (nxlf rfl) rfl rfl rfl ?_
  refine op_move (nxlf rfl) rfl rfl ?_
  refine At.partP (d := 11) rfl (fun g11 => ?_) (fun g11 => ?_)
  · refine op_skip rfl rfl rfl rfl rfl rfl rfl ?_
    refine op_skip rfl rfl rfl rfl rfl rfl rfl ?_
    refine op_skip rfl rfl rfl rfl rfl rfl rfl ?_
    refine op_pickT (nxlf rfl) rfl rfl rfl ?_
    refine op_move (nxlf rfl) rfl rfl ?_
    refine op_skip rfl rfl rfl rfl rfl rfl rfl ?_
    refine op_skip rfl rfl rfl rfl rfl rfl rfl ?_
    refine op_skip rfl rfl rfl rfl rfl rfl rfl ?_
    refine op_skip rfl rfl rfl rfl rfl rfl rfl ?_
    refine op_skip rfl rfl rfl rfl rfl rfl rfl ?_
    refine op_skipU rfl rfl rfl rfl rfl rfl ?_
    refine op_skipU rfl rfl rfl rfl rfl rfl ?_
    refine op_skipU rfl rfl rfl rfl rfl rfl ?_
    refine op_skipU rfl rfl rfl rfl rfl rfl ?_
    refine op_skip rfl rfl rfl rfl rfl rfl rfl ?_
    refine op_pickT (nxlf rfl) rfl rfl rfl ?_
    refine At.opsNil ?_
    refine At.norm (hk_3 ?_)
    refine At.condT rfl ?_
    refine At.seq fun K4 hk_4 => ?_
    refine At.region ?_
    refine op_assign (nxlf rfl) rfl rfl ?_
    refine op_assign (nxlf rfl) rfl rfl ?_
    refine At.opsNil ?_
    refine At.norm (hk_4 ?_)
    refine At.ret (At.thenRet (?_))
    refine At.sub (L' := [R]) (.cons _ (.cons_cons _ (.slnil))) ?_
    refine At.retN (L1 := []) rfl (.tmp rfl (.tmp rfl .nil)) rfl (.refl _) (.refl _) ?_
    exact ⟨rfl, rfl⟩
  · refine op_fieldAddr (nxgf rfl rfl rfl rfl) fl46_0 rfl rfl ?_
    refine op_loadB (nxgf rfl rfl rfl rfl) sc3 rfl B1 (by first | rfl | exact rcC_logs hb) mem0 rfl ?_
    refine op_gtr (nxgf rfl rfl rfl rfl) rfl rfl rfl ?_
    refine op_pickF (nxlf rfl) rfl rfl rfl ?_
    refine op_move (nxlf rfl) rfl rfl ?_
    refine At.partP (d := 16) rfl (fun g16 => ?_) (fun g16 => ?_)
    · refine op_skip rfl rfl rfl rfl rfl rfl rfl ?_
      refine op_skip rfl rfl rfl rfl rfl rfl rfl ?_
      refine op_skip rfl rfl rfl rfl rfl rfl rfl ?_
      refine op_skip rfl rfl rfl rfl rfl rfl rfl ?_
      refine op_skip rfl rfl rfl rfl rfl rfl rfl ?_
      refine op_skipU rfl rfl rfl rfl rfl rfl ?_
      refine op_skipU rfl rfl rfl rfl rfl rfl ?_
      refine op_skipU rfl rfl rfl rfl rfl rfl ?_
      refine op_skipU rfl rfl rfl rfl rfl rfl ?_
      refine op_skip rfl rfl rfl rfl rfl rfl rfl ?_
      refine op_pickT (nxlf rfl) rfl rfl rfl ?_
      refine At.opsNil ?_
      refine At.norm (hk_3 ?_)
      refine At.condT rfl ?_
      refine At.seq fun K5 hk_5 => ?_
      refine At.region ?_
      refine op_assign (nxlf rfl) rfl rfl ?_
      refine op_assign (nxlf rfl) rfl rfl ?_
      refine At.opsNil ?_
      refine At.norm (hk_5 ?_)
      refine At.ret (At.thenRet (?_))
      refine At.sub (L' := [R]) (.cons _ (.cons_cons _ (.slnil))) ?_
      refine At.retN (L1 := []) rfl (.tmp rfl (.tmp rfl .nil)) rfl (.refl _) (.refl _) ?_
      exact ⟨rfl, rfl⟩
    · refine op_fieldAddr (nxgf rfl rfl rfl rfl) fl46_1 rfl rfl ?_
      refine op_loadB (nxgf rfl rfl rfl rfl) sc27 rfl B1 (by first | rfl | exact rcC_logs hb) mem0 rfl ?_
      refine op_lenS (nxgf rfl rfl rfl rfl) se27 rfl rfl ?_
      refine op_neq (nxgf rfl rfl rfl rfl) rfl rfl rfl ?_
      refine op_move (nxgf rfl rfl rfl rfl) rfl rfl ?_
      refine At.partP (d := 21) rfl (fun g21 => ?_) (fun g21 => ?_)
      · refine op_fieldAddr (nxgf rfl rfl rfl rfl) fl46_1 rfl rfl ?_
        refine op_loadB (nxgf rfl rfl rfl rfl) sc27 rfl B1 (by first | rfl | exact rcC_logs hb) mem0 rfl ?_
        refine op_lenS (nxgf rfl rfl rfl rfl) se27 rfl rfl ?_
        refine op_neq (nxgf rfl rfl rfl rfl) rfl rfl rfl ?_
        refine op_pickT (nxgf rfl rfl rfl rfl) rfl rfl rfl ?_
        refine op_pickF (nxlf rfl) rfl rfl rfl ?_
        refine At.opsNil ?_
        refine At.norm (hk_3 ?_)
        refine At.condP rfl (fun c27 => ?_) (fun c27 => ?_)
        · refine At.knowT (d := 27) rfl c27 ?_
          refine At.seq fun K6 hk_6 => ?_
          refine At.region ?_
          refine op_assign (nxlf rfl) rfl rfl ?_
          refine op_assign (nxlf rfl) rfl rfl ?_
          refine At.opsNil ?_
          refine At.norm (hk_6 ?_)
          refine At.ret (At.thenRet (?_))
          refine At.sub (L' := [R]) (.cons _ (.cons_cons _ (.slnil))) ?_
          refine At.retN (L1 := []) rfl (.tmp rfl (.tmp rfl .nil)) rfl (.refl _) (.refl _) ?_
          exact ⟨rfl, rfl⟩
        · exfalso; omega
      · exfalso; omega
set_option maxHeartbeats 2000000 in
theorem rReceipt_ok (hr : RSl N 1 ra rn rc (u8s root)) (hl : RSl N 22 la ln lc (logsC xs)) (hg : LogsN N gs xs) (hb : bl.length = 256) (hv : 0 ≤ k ∧ k ≤ 3 ∧ (root.length = 0 ∨ root.length = 32))
    (hT : ∀ g ∈ gs, g.topics.length ≤ 1099511627776 ∧ g.data.length ≤ 1099511627776) (hn : ln ≤ 1099511627776) (hf : (rcIt root ok gas bl gs).form.length ≤ 1099511627770) : Fn Try.prog 18 #[.agg (rcC k (.slice ra rn rc) ok gas bl (.slice la ln lc)).toArray] [] [N] (fun v L => ∃ M a c, v = .tuple #[.slice a (rcB k root ok gas bl gs).length c, .bool true] ∧ L = [M] ∧ RSl M 1 a (rcB k root ok gas bl gs).length c (u8s (rcB k root ok gas bl gs))) := by
  have hrl := hr.len8
  have hcl := rcC_len (k := k) (rv := .slice ra rn rc) (ok := ok) (gas := gas) (lv := .slice la ln lc) hb
  have hsz := hg.size hl
  refine Fn.enter (vs := [.agg (rcC k (.slice ra rn rc) ok gas bl (.slice la ln lc)).toArray]) Try.func18 rfl rfl rfl ?_
  intro E R hR
  have hr := hr.le (hR N (by simp))
  have hl := hl.le (hR N (by simp))
  have hg := hg.le (hR N (by simp))
  change At _ _ E [R] _
  refine At.seq fun K1 hk_1 => ?_
  refine At.region ?_
  refine op_box (nxla rfl) rfl rfl rfl (fun N1 b1 B1 => ?_)
  refine op_assign (nxlf rfl) rfl rfl ?_
  refine op_assign (nxlf rfl) rfl rfl ?_
  refine At.opsNil ?_
  refine At.norm (hk_1 ?_)
  refine At.seq fun K2 hk_2 => ?_
  refine At.meet (fun fr_ hp_ => fr_ = [(1, .pointer (some ⟨b1, 0, none⟩))] ∧ hp_ = [N1, R] ∧ (True)) ?_ (fun K2_ jk_2 => ?_)
  rotate_left
  · skip
    refine At.seq fun K3 hk_3 => ?_
    refine At.region ?_
    refine op_fieldAddr (nxlf rfl) fl46_0 rfl rfl ?_
    refine op_loadB (nxlf rfl) sc3 rfl B1 (by first | rfl | exact rcC_logs hb | exact LV.top_at hxa | exact LV.dat_at hxa) mem0 rfl ?_
    refine op_lss (nxlf rfl) rfl rfl rfl ?_
    refine op_move (nxlf rfl) rfl rfl ?_
    refine At.partP (d := 11) rfl (fun g11 => ?_) (fun g11 => ?_)
    · exfalso; omega
    · refine op_fieldAddr (nxgf rfl rfl rfl rfl) fl46_0 rfl rfl ?_
      refine op_loadB (nxgf rfl rfl rfl rfl) sc3 rfl B1 (by first | rfl | exact rcC_logs hb | exact LV.top_at hxa | exact LV.dat_at hxa) mem0 rfl ?_
      refine op_gtr (nxgf rfl rfl rfl rfl) rfl rfl rfl ?_
      refine op_pickF (nxlf rfl) rfl rfl rfl ?_
      refine op_move (nxlf rfl) rfl rfl ?_
      refine At.partP (d := 16) rfl (fun g16 => ?_) (fun g16 => ?_)
      · exfalso; omega
      · refine op_fieldAddr (nxgf rfl rfl rfl rfl) fl46_1 rfl rfl ?_
        refine op_loadB (nxgf rfl rfl rfl rfl) sc27 rfl B1 (by first | rfl | exact rcC_logs hb | exact LV.top_at hxa | exact LV.dat_at hxa) mem0 rfl ?_
        refine op_lenS (nxgf rfl rfl rfl rfl) se27 rfl rfl ?_
        refine op_neq (nxgf rfl rfl rfl rfl) rfl rfl rfl ?_
        refine op_move (nxgf rfl rfl rfl rfl) rfl rfl ?_
        refine At.partP (d := 21) rfl (fun g21 => ?_) (fun g21 => ?_)
        · refine op_fieldAddr (nxgf rfl rfl rfl rfl) fl46_1 rfl rfl ?_
          refine op_loadB (nxgf rfl rfl rfl rfl) sc27 rfl B1 (by first | rfl | exact rcC_logs hb | exact LV.top_at hxa | exact LV.dat_at hxa) mem0 rfl ?_
          refine op_lenS (nxgf rfl rfl rfl rfl) se27 rfl rfl ?_
          refine op_neq (nxgf rfl rfl rfl rfl) rfl rfl rfl ?_
          refine op_pickT (nxgf rfl rfl rfl rfl) rfl rfl rfl ?_
          refine op_pickF (nxlf rfl) rfl rfl rfl ?_
          refine At.opsNil ?_
          refine At.norm (hk_3 ?_)
          refine At.condP rfl (fun c27 => ?_) (fun c27 => ?_)
          · exfalso; omega
          · refine At.knowF (d := 27) rfl c27 ?_
            refine At.skip ?_
            refine At.norm (jk_2 ?_ (.refl _) ⟨rfl, rfl, trivial⟩)
            exact .cons (by first | exact lkI rfl (by omega) | rfl) .nil
        · refine op_skip rfl rfl rfl rfl rfl rfl rfl ?_
          refine op_skip rfl rfl rfl rfl rfl rfl rfl ?_
          refine op_skip rfl rfl rfl rfl rfl rfl rfl ?_
          refine op_skip rfl rfl rfl rfl rfl rfl rfl ?_
          refine op_pickF (nxgf rfl rfl rfl rfl) rfl rfl rfl ?_
          refine op_pickF (nxlf rfl) rfl rfl rfl ?_
          refine At.opsNil ?_
          refine At.norm (hk_3 ?_)
          refine At.condF rfl ?_
          refine At.skip ?_
          refine At.norm (jk_2 ?_ (.refl _) ⟨rfl, rfl, trivial⟩)
          exact .cons (by first | exact lkI rfl (by omega) | rfl) .nil
  rintro _ _ ⟨rfl, rfl, hu⟩
  refine hk_2 ?_
  refine At.seq fun K4 hk_4 => ?_
  refine At.region ?_
  refine op_fieldAddr (nxlf rfl) fl46_1 rfl rfl ?_
  refine op_loadB (nxlf rfl) sc27 rfl B1 (by first | rfl | exact rcC_logs hb | exact LV.top_at hxa | exact LV.dat_at hxa) mem0 rfl ?_
  refine op_callA (nxla rfl) (.cons rfl .nil) (rBytes_b hr (by omega)) Try.func42 rfl rfl (by simp) rfl ?_
  rintro v30 L30 ⟨M30, p30, k30, rfl, rfl, s30⟩
  change At _ _ _ [M30, N1, R] _
  refine op_alloc (nxla rfl) ze92 rfl (fun N4 b4 B4 => ?_)
  change Blk N4 b4 _ [.bool false, .slice none 0 0, .slice none 0 0] at B4
  refine op_store (nxl rfl) sz92 rfl rfl rfl rfl rfl B4 (by simp) sel0 (fun N4 B4 => ?_)
  simp only [setL, List.set] at B4
  refine At.opsNil ?_
  refine At.norm (hk_4 ?_)
  refine At.seq fun K5 hk_5 => ?_
  refine At.meet (fun fr_ hp_ => ∃ (f : IV) (N4 NF : Heaplet), fr_ = [(1, .pointer (some ⟨b1, 0, none⟩)), (4, .pointer (some ⟨b4, 0, none⟩))] ∧ hp_ = [N4, NF, N1, R] ∧ (Blk N4 b4 92 [.bool f.l, .slice f.ab f.nb f.cb, .slice f.ai f.ni f.ci]) ∧ (ItN NF (firstI root ok) f)) ?_ (fun K5_ jk_5 => ?_)
  rotate_left
  · skip
    refine At.seq fun K6 hk_6 => ?_
    refine At.region ?_
    refine op_fieldAddr (nxlf rfl) fl46_1 rfl rfl ?_
    refine op_loadB (nxlf rfl) sc27 rfl B1 (by first | rfl | exact rcC_logs hb | exact LV.top_at hxa | exact LV.dat_at hxa) mem2 rfl ?_
    refine op_lenS (nxlf rfl) se27 rfl rfl ?_
    refine op_eql (nxlf rfl) rfl rfl rfl ?_
    refine op_move (nxlf rfl) rfl rfl ?_
    refine At.partP (d := 35) rfl (fun g35 => ?_) (fun g35 => ?_)
    · refine op_fieldAddr (nxgf rfl rfl rfl rfl) fl46_2 rfl rfl ?_
      refine op_loadB (nxgf rfl rfl rfl rfl) sc4 rfl B1 (by first | rfl | exact rcC_logs hb | exact LV.top_at hxa | exact LV.dat_at hxa) mem2 rfl ?_
      refine op_pickT (nxlf rfl) rfl rfl rfl ?_
      refine At.opsNil ?_
      refine At.norm (hk_6 ?_)
      refine At.condB rfl (fun c38 => ?_) (fun c38 => ?_)
      · refine At.knowBT (d := 38) rfl c38 ?_
        refine At.region ?_
        refine op_callA (nxla rfl) (.cons rfl .nil) (rNum_b 1) Try.func43 rfl rfl (by simp) rfl ?_
        rintro v39 L39 ⟨M39, p39, k39, rfl, rfl, s39⟩
        change At _ _ _ [M39, N4, M30, N1, R] _
        refine op_store (nxl rfl) sz92 rfl rfl rfl rfl rfl B4 (by simp) sel1 (fun N4 B4 => ?_)
        simp only [setL, List.set] at B4
        refine At.opsNil ?_
        refine At.sub (L' := [N4, M39, N1, R]) (.cons_cons _ (.cons_cons _ (.cons _ (.cons_cons _ (.cons_cons _ (.slnil)))))) ?_
        refine At.norm (jk_5 ?_ (.refl _) ⟨ivS p39 _ k39, N4, M39, rfl, rfl, B4, by rw [firstI, if_pos ⟨by omega, c38⟩]; exact ItN_S s39⟩)
        exact .cons (by first | exact lkI rfl (by omega) | rfl) (.cons (by first | exact lkI rfl (by omega) | rfl) .nil)
      · refine At.knowBF (d := 38) rfl c38 ?_
        refine At.skip ?_
        refine At.norm (jk_5 ?_ (.refl _) ⟨ivS p30 _ k30, N4, M30, rfl, rfl, B4, by rw [firstI, if_neg (fun h => by rw [h.2] at c38; cases c38)]; exact ItN_S s30⟩)
        exact .cons (by first | exact lkI rfl (by omega) | rfl) (.cons (by first | exact lkI rfl (by omega) | rfl) .nil)
    · refine op_skip rfl rfl rfl rfl rfl rfl rfl ?_
      refine op_skip rfl rfl rfl rfl rfl rfl rfl ?_
      refine op_pickF (nxlf rfl) rfl rfl rfl ?_
      refine At.opsNil ?_
      refine At.norm (hk_6 ?_)
      refine At.condF rfl ?_
      refine At.skip ?_
      refine At.norm (jk_5 ?_ (.refl _) ⟨ivS p30 _ k30, N4, M30, rfl, rfl, B4, by rw [firstI, if_neg (fun h => g35 (by omega))]; exact ItN_S s30⟩)
      exact .cons (by first | exact lkI rfl (by omega) | rfl) (.cons (by first | exact lkI rfl (by omega) | rfl) .nil)
  rintro _ _ ⟨f, N4, NF, rfl, rfl, B4, hfi⟩
  refine hk_5 ?_
  refine At.seq fun K7 hk_7 => ?_
  refine At.region ?_
  refine op_assign (nxlf rfl) rfl rfl ?_
  refine At.opsNil ?_
  refine At.norm (hk_7 ?_)
  refine At.seq fun K8 hk_8 => ?_
  refine At.seq fun K9 hk_9 => ?_
  refine At.region ?_
  refine op_assign (nxlf rfl) rfl rfl ?_
  refine At.opsNil ?_
  refine At.norm (hk_9 ?_)
  refine At.block ?_
  refine At.empty ?_
  refine At.empty ?_
  refine At.perm sel5 ?_
  refine At.perm sel5 ?_
  refine At.perm sel5 ?_
  refine At.perm sel5 ?_
  refine At.perm sel4 ?_
  refine At.perm sel5 ?_
  refine At.loop (fun fr_ hp_ ms_ => ∃ (i m : Nat) (a : Option Addr) (c : Nat) (ys : List IV) (Na NJ : Heaplet), fr_ = [(1, .pointer (some ⟨b1, 0, none⟩)), (4, .pointer (some ⟨b4, 0, none⟩)), (5, .slice a m c), (6, .int .i64 (i : Int))] ∧ hp_ = [Na, NJ, N4, NF, N1, R] ∧ ln - i = ms_ ∧ (i ≤ ln) ∧ (m = i) ∧ (Row Na 92 3 a m c (cellsI ys)) ∧ (ItsN NJ ((gs.take i).map logIt) ys)) ?_ (.refl _) ⟨0, 0, none, 0, [], nilH, nilH, rfl, rfl, rfl, Nat.zero_le _, rfl, Row.nil _ _ _, ItsN_nil⟩ ?_
  · exact .cons (by first | exact lkI rfl (by omega) | rfl) (.cons (by first | exact lkI rfl (by omega) | rfl) (.cons (by first | exact lkI rfl (by omega) | rfl) (.cons (by first | exact lkI rfl (by omega) | rfl) .nil)))
  rintro _ _ _ ⟨i, m, a, c, ys, Na, NJ, rfl, rfl, rfl, hi, hmi, ra, hy⟩
  refine At.seq fun K10 hk_10 => ?_
  refine At.seq fun K11 hk_11 => ?_
  refine At.region ?_
  refine op_move (nxlf rfl) rfl rfl ?_
  refine op_fieldAddr (nxlf rfl) fl46_5 rfl rfl ?_
  refine op_loadB (nxlf rfl) sc35 rfl B1 (by first | rfl | exact rcC_logs hb | exact LV.top_at hxa | exact LV.dat_at hxa) mem4 rfl ?_
  refine op_lenS (nxlf rfl) se35 rfl rfl ?_
  refine op_lss (nxlf rfl) rfl rfl rfl ?_
  refine At.opsNil ?_
  refine At.norm (hk_11 ?_)
  refine At.condP rfl (fun c44 => ?_) (fun c44 => ?_)
  · refine At.knowT (d := 44) rfl c44 ?_
    have hlt : i < gs.length := by omega
    obtain ⟨g, x, hgi, hxi, hgx⟩ := hg.at hlt
    have hxg := hgx.1
    have hxa : x.addr.length = 20 := by rw [hgx.1]; exact hgx.2.1
    have hxl := LV.cells_len hxa
    have hdat := hgx.2.2.2.2.2
    have hdl := hdat.len8
    have htop := hgx.2.2.2.1
    have hth := hgx.2.2.2.2.1
    have htn := hT g (List.mem_of_getElem? hgi)
    have htl := hgx.2.2.1
    refine At.skip ?_
    refine At.norm (hk_10 ?_)
    refine At.seq fun K12 hk_12 => ?_
    refine At.block ?_
    refine At.seq fun K13 hk_13 => ?_
    refine At.region ?_
    refine op_fieldAddr (nxlf rfl) fl46_5 rfl rfl ?_
    refine op_loadB (nxlf rfl) sc35 rfl B1 (by first | rfl | exact rcC_logs hb | exact LV.top_at hxa | exact LV.dat_at hxa) mem4 rfl ?_
    refine op_move (nxlf rfl) rfl rfl ?_
    refine op_idxE (nxlf rfl) se35 rfl rfl hl (show _ = (((i : Nat)) : Int) from by omega) (by omega) rfl ?_
    refine op_loadAggE (ds := x.cells) (nxlf rfl) ag43 rfl hl (by exact flat_at LV.cells hg.cells hxi) (by exact hxl) (by omega) (by first | exact mem0 | exact mem1 | exact mem2 | exact mem3 | exact mem4 | exact mem5 | exact mem6 | exact mem7 | exact mem8 | exact mem9) rfl ?_
    refine op_alloc (nxla rfl) ze43 rfl (fun N7 b7 B7 => ?_)
    change Blk N7 b7 _ [.int .u8 0, .int .u8 0, .int .u8 0, .int .u8 0, .int .u8 0, .int .u8 0, .int .u8 0, .int .u8 0, .int .u8 0, .int .u8 0, .int .u8 0, .int .u8 0, .int .u8 0, .int .u8 0, .int .u8 0, .int .u8 0, .int .u8 0, .int .u8 0, .int .u8 0, .int .u8 0, .slice none 0 0, .slice none 0 0] at B7
    refine op_store (nxl rfl) sz43 rfl rfl rfl hxl (LV.cells_one x) B7 (by rw [hxl]; exact Nat.le_refl _) sel0 (fun N7 B7 => ?_)
    rw [setL_whole (by rw [hxl]; rfl)] at B7
    refine At.opsNil ?_
    refine At.norm (hk_13 ?_)
    have s54 := blkHead B7 hxa (by decide)
    refine At.perm sel6 ?_
    refine At.perm sel1 ?_
    refine At.perm sel6 ?_
    refine At.perm sel6 ?_
    refine At.perm sel6 ?_
    refine At.perm sel6 ?_
    refine At.perm sel6 ?_
    refine At.drawnS [N7, R] [9,10,11,12,13] [0] [0,1,2,4,5,7,8,3,6,9,10,11,12,13,14] (by kernel_rfl) (by kernel_rfl) (.cons _ (.cons _ (.cons _ (.cons _ (.cons _ (.refl _)))))) ?_
    refine op_move (nxsf rfl rfl rfl) rfl rfl ?_
    refine op_fieldAddr (nxsf rfl rfl rfl) fl43_0 rfl rfl ?_
    refine op_sliceA (nxsf rfl rfl rfl) ae23 rfl .none .none .none (by omega) (by omega) (by omega) (by simp) rfl ?_
    refine op_fieldAddr (nxsf rfl rfl rfl) fl43_1 rfl rfl ?_
    refine op_loadB (nxsf rfl rfl rfl) sc41 rfl B7 (by first | rfl | exact rcC_logs hb | exact LV.top_at hxa | exact LV.dat_at hxa) mem0 rfl ?_
    refine op_fieldAddr (nxsf rfl rfl rfl) fl43_2 rfl rfl ?_
    refine op_loadB (nxsf rfl rfl rfl) sc27 rfl B7 (by first | rfl | exact rcC_logs hb | exact LV.top_at hxa | exact LV.dat_at hxa) mem0 rfl ?_
    refine op_callA (Nx.agree (nxsm rfl rfl rfl)) (.cons rfl .nil) (rBytes_b s54 (by decide)) Try.func42 rfl rfl (by simp) rfl ?_
    rintro v55 L55 ⟨M55, p55, k55, rfl, rfl, s55⟩
    change At _ _ _ [M55, Na, NJ, N4, NF, N1, N7, R] _
    refine At.moreS (Lst := [N7, R]) (Lst' := [N7, R]) (.refl _) (.cons _ (.cons _ (.cons _ (.cons _ (.cons _ (.cons _ (.refl _))))))) ?_
    refine op_callA (Nx.agree (nxsm rfl rfl rfl)) (.cons rfl .nil) (rHashes_b htop hth (by omega)) Try.func51 rfl rfl (by simp) rfl ?_
    rintro v58 L58 ⟨J58, x58, rfl, rfl, j58⟩
    change At _ _ _ [J58, M55, Na, NJ, N4, NF, N1, N7, R] _
    change At _ ((58, .agg #[.bool x58.l, .slice x58.ab x58.nb x58.cb, .slice x58.ai x58.ni x58.ci]) :: _) _ _ _
    refine At.moreS (Lst := [N7, R]) (Lst' := [N7, R]) (.refl _) (.cons _ (.cons _ (.cons _ (.cons _ (.cons _ (.cons _ (.cons _ (.refl _)))))))) ?_
    refine op_callA (Nx.agree (nxss rfl rfl rfl rfl)) (.cons rfl .nil) (rBytes_b hdat (by omega)) Try.func42 rfl rfl (by simp) rfl ?_
    rintro v61 L61 ⟨M61, p61, k61, rfl, rfl, s61⟩
    change At _ _ _ [M61, J58, M55, Na, NJ, N4, NF, N1, N7, R] _
    refine At.anyS (.refl _) ?_
    refine op_lit (Nx.agree (nxss rfl rfl rfl rfl)) Try.underlying90 ze92 sz92 (.cons rfl (.cons rfl (.cons rfl .nil))) rfl rfl (by simp [Value.cells]) rfl rfl rfl (fun N62 a62 r62 => ?_)
    simp only [flatV, List.flatMap_cons, List.flatMap_nil, Value.cells, List.append_nil, List.cons_append, List.nil_append] at r62
    have s62 := r62.rsl
    refine At.anyS (.refl _) ?_
    change Row N62 _ 3 a62 3 3 (cellsI [ivS p55 _ k55, x58, ivS p61 _ k61]) at r62
    have s62 := r62.rsl
    refine op_callA (Nx.agree (nxss rfl rfl rfl rfl)) (.cons rfl .nil) (rList_b) Try.func41 rfl rfl (by simp) rfl ?_
    rintro v63 L63 ⟨rfl, rfl⟩
    change At _ _ _ [N62, M61, J58, M55, Na, NJ, N4, NF, N1, N7, R] _
    refine At.anyS (.refl _) ?_
    refine op_lit (Nx.agree (nxss rfl rfl rfl rfl)) Try.underlying90 ze92 sz92 (.cons rfl .nil) rfl rfl (by simp [Value.cells]) rfl rfl rfl (fun N64 a64 r64 => ?_)
    simp only [flatV, List.flatMap_cons, List.flatMap_nil, Value.cells, List.append_nil, List.cons_append, List.nil_append] at r64
    have s64 := r64.rsl
    refine At.anyS (.refl _) ?_
    change Row N64 _ 3 a64 1 1 (cellsI [ivL a62 3 3]) at r64
    have s64 := r64.rsl
    refine op_append (nxss rfl rfl rfl rfl) Try.underlying90 Try.underlying90 te92 rfl rfl ra s64 (by first | exact mem0 | exact mem1 | exact mem2 | exact mem3 | exact mem4 | exact mem5 | exact mem6 | exact mem7 | exact mem8 | exact mem9 | exact mem10 | exact mem11) (cellsI_oneB _) (by omega) (by omega) sel5 rfl (fun N65 a65 p65 r65 => ?_)
    have s65 := r65.rsl
    refine At.anyS (.refl _) ?_
    rw [← cellsI_app] at r65
    refine op_assign (nxsf rfl rfl rfl) rfl rfl ?_
    refine At.sNil ?_
    refine At.inNorm ?_
    refine At.norm (hk_12 ?_)
    refine At.region ?_
    refine op_move (nxlf rfl) rfl rfl ?_
    refine op_addI (nxlf rfl) rfl rfl (by omega) (by omega) rfl ?_
    refine op_assign (nxlf rfl) rfl rfl ?_
    refine At.opsNil ?_
    refine At.norm ?_
    refine At.perm sel11 ?_
    refine At.perm sel11 ?_
    refine At.perm sel11 ?_
    refine At.perm sel11 ?_
    refine At.perm sel11 ?_
    refine At.perm sel10 ?_
    refine At.perm sel10 ?_
    refine At.perm sel10 ?_
    refine At.perm sel9 ?_
    refine At.perm sel9 ?_
    refine At.perm sel10 ?_
    refine At.perm sel11 ?_
    refine At.mergeN (fun J J1 J2 => ?_)
    refine At.perm sel10 ?_
    refine At.perm sel10 ?_
    refine At.perm sel10 ?_
    refine At.perm sel10 ?_
    refine At.perm sel10 ?_
    refine At.perm sel9 ?_
    refine At.perm sel9 ?_
    refine At.perm sel9 ?_
    refine At.perm sel9 ?_
    refine At.perm sel10 ?_
    refine At.perm sel10 ?_
    refine At.mergeN (fun K K1 K2 => ?_)
    refine At.perm sel9 ?_
    refine At.perm sel9 ?_
    refine At.perm sel9 ?_
    refine At.perm sel9 ?_
    refine At.perm sel9 ?_
    refine At.perm sel8 ?_
    refine At.perm sel8 ?_
    refine At.perm sel8 ?_
    refine At.perm sel9 ?_
    refine At.perm sel9 ?_
    refine At.mergeN (fun W W1 W2 => ?_)
    refine At.perm sel8 ?_
    refine At.perm sel8 ?_
    refine At.perm sel8 ?_
    refine At.perm sel8 ?_
    refine At.perm sel8 ?_
    refine At.perm sel7 ?_
    refine At.perm sel7 ?_
    refine At.perm sel8 ?_
    refine At.perm sel8 ?_
    refine At.mergeN (fun V V1 V2 => ?_)
    refine At.sub (L' := [V, N65, N4, NF, N1, R]) (.cons_cons _ (.cons_cons _ (.cons _ (.cons_cons _ (.cons_cons _ (.cons_cons _ (.cons _ (.cons_cons _ (.slnil))))))))) ?_
    refine At.perm sel5 ?_
    refine At.perm sel5 ?_
    refine At.perm sel5 ?_
    refine At.perm sel5 ?_
    refine At.perm sel4 ?_
    refine At.perm sel5 ?_
    refine At.back ?_ (.refl _) ⟨i + 1, m + 1, a65, p65, ys ++ [ivL a62 3 3], N65, V, rfl, rfl, rfl, by omega, by omega, r65, by rw [take_next2 hgi, List.map_append]; exact (hy.le (Heaplet.le_trans J1 (Heaplet.le_trans K1 (Heaplet.le_trans W1 V1)))).snoc (ItN_L (s62.le (Heaplet.le_trans J2 (Heaplet.le_trans K1 (Heaplet.le_trans W1 V1)))) (ItsN_cons (hxg ▸ ItN_S (s55.le (Heaplet.le_trans K2 (Heaplet.le_trans W1 V1)))) (ItsN_cons (j58.le (Heaplet.le_trans W2 V1)) (ItsN_cons (ItN_S (s61.le V2)) ItsN_nil))))⟩ ?_
    · exact .cons (by first | exact lkI rfl (by omega) | rfl) (.cons (by first | exact lkI rfl (by omega) | rfl) (.cons (by first | exact lkI rfl (by omega) | rfl) (.cons (by first | exact lkI rfl (by omega) | rfl) .nil)))
    · omega
  · refine At.knowF (d := 44) rfl c44 ?_
    rw [List.take_of_length_le (by omega)] at hy
    have s73 := sub8 B1.rng (rcC_bloom (k := k) (rv := .slice _ rn rc) (ok := ok) (gas := gas) (lv := .slice la ln lc) hb) hb (by decide)
    refine At.exit (At.thenExit (At.thenExit (At.inHit ?_)))
    refine At.norm (hk_8 ?_)
    refine At.seq fun K14 hk_14 => ?_
    refine At.drawnS [Na, NJ, N4, NF, N1, R] [12] [9] [0,1,2,3,4,6,7,9,5,8,10,11,12,13,14] (by kernel_rfl) (by kernel_rfl) (.refl _) ?_
    refine op_fieldAddr (nxsf rfl rfl rfl) fl46_0 rfl rfl ?_
    refine op_loadB (nxsf rfl rfl rfl) sc3 rfl B1 (by first | rfl | exact rcC_logs hb | exact LV.top_at hxa | exact LV.dat_at hxa) mem4 rfl ?_
    refine op_loadAggB (ds := [_, _, _]) (nxsf rfl rfl rfl) ag92 rfl B4 rfl rfl mem2 rfl ?_
    refine op_fieldAddr (nxsf rfl rfl rfl) fl46_3 rfl rfl ?_
    refine op_loadB (nxsf rfl rfl rfl) sc24 rfl B1 (by first | rfl | exact rcC_logs hb | exact LV.top_at hxa | exact LV.dat_at hxa) mem4 rfl ?_
    refine op_fieldAddr (nxsf rfl rfl rfl) fl46_4 rfl rfl ?_
    refine op_sliceA (nxsf rfl rfl rfl) ae36 rfl .none .none .none (by omega) (by omega) (by omega) (by simp) rfl ?_
    refine op_move (nxsf rfl rfl rfl) rfl rfl ?_
    refine op_callA (Nx.agree (nxsm rfl rfl rfl)) (.cons rfl .nil) (rNum_b gas) Try.func43 rfl rfl (by simp) rfl ?_
    rintro v71 L71 ⟨M71, p71, k71, rfl, rfl, s71⟩
    change At _ _ _ [M71, Na, NJ, N4, NF, N1, R] _
    refine At.moreS (Lst := [Na, NJ, N4, NF, N1, R]) (Lst' := [M71, Na, NJ, N4, NF, N1, R]) (.cons _ (.refl _)) (.refl _) ?_
    refine op_callA (Nx.agree (nxsm rfl rfl rfl)) (.cons rfl .nil) (rBytes_b s73 (by decide)) Try.func42 rfl rfl (by simp) rfl ?_
    rintro v74 L74 ⟨M74, p74, k74, rfl, rfl, s74⟩
    change At _ _ _ [M74, M71, Na, NJ, N4, NF, N1, R] _
    refine At.moreS (Lst := [M71, Na, NJ, N4, NF, N1, R]) (Lst' := [M74, M71, Na, NJ, N4, NF, N1, R]) (.cons _ (.refl _)) (.refl _) ?_
    refine op_callA (Nx.agree (nxsm rfl rfl rfl)) (.cons rfl .nil) (rList_b) Try.func41 rfl rfl (by simp) rfl ?_
    rintro v76 L76 ⟨rfl, rfl⟩
    change At _ _ _ [M74, M71, Na, NJ, N4, NF, N1, R] _
    refine At.moreS (Lst := [M74, M71, Na, NJ, N4, NF, N1, R]) (Lst' := [M74, M71, Na, NJ, N4, NF, N1, R]) (.refl _) (.refl _) ?_
    refine op_lit (Nx.agree (nxsm rfl rfl rfl)) Try.underlying90 ze92 sz92 (.cons rfl (.cons rfl (.cons rfl (.cons rfl .nil)))) rfl rfl (by simp [Value.cells]) rfl rfl rfl (fun N77 a77 r77 => ?_)
    simp only [flatV, List.flatMap_cons, List.flatMap_nil, Value.cells, List.append_nil, List.cons_append, List.nil_append] at r77
    have s77 := r77.rsl
    refine At.moreS (Lst := [M74, M71, Na, NJ, N4, NF, N1, R]) (Lst' := [N77, M74, M71, Na, NJ, N4, NF, N1, R]) (.cons _ (.refl _)) (.refl _) ?_
    change Row N77 _ 3 a77 4 4 (cellsI [f, ivS p71 _ k71, ivS p74 _ k74, ivL a m c]) at r77
    have s77 := r77.rsl
    refine op_callA (Nx.agree (nxss rfl rfl rfl rfl)) (.cons rfl (.cons rfl .nil)) (Fn.overJ (Ns := [N77, NF, M71, M74, Na, NJ]) fun K hK => rEnvT_b (k := k) ⟨by omega, by omega⟩ (ItN_L (its := [firstI root ok, itS (bytesOf gas.toNat), itS bl, itL (gs.map logIt)]) (s77.le (hK _ (by simp))) (ItsN_cons (hfi.le (hK _ (by simp))) (ItsN_cons (ItN_S (s71.le (hK _ (by simp)))) (ItsN_cons (ItN_S (s74.le (hK _ (by simp)))) (ItsN_cons (ItN_L (ra.rsl.le (hK _ (by simp))) (hy.le (hK _ (by simp)))) ItsN_nil))))) hf) Try.func52 rfl rfl (by simp) rfl ?_
    rintro v78 L78 ⟨M78, a78, k78, rfl, rfl, s78⟩
    change At _ _ _ [M78, N77, M74, M71, Na, NJ, N4, NF, N1, R] _
    refine At.anyS (.refl _) ?_
    refine op_assign (nxsf rfl rfl rfl) rfl rfl ?_
    refine op_assign (nxsf rfl rfl rfl) rfl rfl ?_
    refine At.sNil ?_
    refine At.norm (hk_14 ?_)
    refine At.ret (?_)
    refine At.sub (L' := [M78, R]) (.cons_cons _ (.cons _ (.cons _ (.cons _ (.cons _ (.cons _ (.cons _ (.cons _ (.cons _ (.cons_cons _ (.slnil))))))))))) ?_
    refine At.retN (L1 := [M78]) rfl (.tmp rfl (.tmp rfl .nil)) rfl (.refl _) (.refl _) ?_
    exact ⟨M78, a78, k78, rfl, rfl, s78⟩
end
end Go.Proofs.Ytljacjjeinmfnaa
