/- quarrylaw18.CodeBack answers true. Condition: the tables are laid. -/
import Derived.Test.YtdplcfineaikjaaDoorB10
namespace Go.Proofs.YtdplcfineaikjaaDoor
set_option linter.unusedVariables false
set_option linter.unusedSimpArgs false
open Go Go.RowKit
theorem sorted_at {l : List Nat} (h : l.Pairwise (· < ·)) {i : Nat} (h0 : 0 < i) (hi : i < l.length) : l.getD (i - 1) 0 < l.getD i 0 := by
  rw [List.getD_eq_getElem?_getD, List.getD_eq_getElem?_getD, List.getElem?_eq_getElem hi, List.getElem?_eq_getElem (by omega : i - 1 < l.length)]
  exact List.pairwise_iff_getElem.1 h (i - 1) i (by omega) hi (by omega)
theorem joinN_at {xs : List (List UInt8)} {i : Nat} (h : i < xs.length) : joinN (xs.take (i + 1)) = (if i = 0 then [] else joinN (xs.take i) ++ [10]) ++ xs.getD i [] := by
  rw [List.take_add_one, List.getElem?_eq_getElem h, Option.toList_some, joinN_snoc, List.getD_eq_getElem?_getD, List.getElem?_eq_getElem h, Option.getD_some]
  by_cases h0 : i = 0
  · subst h0; rfl
  · rw [if_neg h0, if_neg (by intro e; have := congrArg List.length e; rw [List.length_take, List.length_nil] at this; omega)]
theorem mem_take {α : Type} {l : List α} {k : Nat} {x : α} (h : x ∈ l.take k) : x ∈ l := List.mem_of_mem_take h
set_option maxRecDepth 100000 in
set_option maxHeartbeats 2000000 in
theorem CodeBack_f {N M : Heaplet} {ao : Option Addr} {n cap : Nat} {l : List UInt8} (hT : TabH M) (hP : PowH M) (f : Int) (h : RSl N 1 ao n cap (u8s l)) : Fn Tryd.prog 7 #[.int .i64 f, .slice ao n cap] [] [N, M] (fun v L => v = .bool true ∧ L = []) := by
  obtain ⟨y, hy⟩ : ∃ y, l.take 3000 = y := ⟨_, rfl⟩
  have hyl : y.length ≤ 3000 := by rw [← hy, List.length_take]; omega
  have hxl := listC_len f y
  have hle := listF_le f y.length y 0 hyl
  have hRd := fun (K : Heaplet) (hK : TabH K) => CRead_f hK f y hyl
  have hjl : ∀ i, (joinN ((listC f y).take i)).length ≤ 400000 := fun i => by
    have h1 := joinN_len ((listC f y).take i) 120 (fun x hx => hle x (mem_take hx))
    have h2 : ((listC f y).take i).length ≤ (listC f y).length := by rw [List.length_take]; omega
    omega
  have hxe : ∀ i, ((listC f y).getD i []).length ≤ 120 := fun i => by
    rw [List.getD_eq_getElem?_getD]
    cases e : (listC f y)[i]? with
    | none => exact Nat.zero_le _
    | some x => exact hle x (List.mem_of_getElem? e)
  have hjs := jumps_sorted y
  have hjm := fun x (hx : x ∈ jumpsOf y) => jumps_mem hx
  have hjn := jumps_len y
  have hLi := fun (K K2 : Heaplet) (a : Option Addr) (c : Nat) (hK : TabH K) (hK2 : PowH K) (s : RSl K2 1 a y.length c (u8s y)) => FList_f hK hK2 f s (by omega)
  obtain ⟨xs, hxs⟩ : ∃ xs, listC f y = xs := ⟨_, rfl⟩
  rw [hxs] at hRd hxl hjl hxe hLi
  refine Fn.enter (vs := [.int .i64 f, .slice ao n cap]) Tryd.func7 rfl rfl rfl ?_
  intro E R hR
  have h := h.le (hR N (by simp))
  have hT := hT.le (hR M (by simp))
  have hP := hP.le (hR M (by simp))
  change At _ _ E [R] _
  refine At.seq fun K1 hk_1 => ?_
  refine At.region ?_
  refine op_assign (nxlf rfl) rfl rfl ?_
  refine At.opsNil ?_
  refine At.norm (hk_1 ?_)
  refine At.seq fun K2 hk_2 => ?_
  refine At.region ?_
  refine op_move (nxlf rfl) rfl rfl ?_
  refine op_callA (nxla rfl) (.cons rfl .nil) (few_f h) Tryd.func8 rfl rfl (by simp) rfl ?_
  rintro v14 L14 ⟨N14, a14, c14, rfl, rfl, r14⟩
  change At _ _ _ [N14, R] _
  rw [hy] at r14 ⊢; have s14 := r14.rsl
  refine op_assign (nxlf rfl) rfl rfl ?_
  refine At.opsNil ?_
  refine At.norm (hk_2 ?_)
  refine At.seq fun K3 hk_3 => ?_
  refine At.region ?_
  refine op_move (nxlf rfl) rfl rfl ?_
  refine op_move (nxlf rfl) rfl rfl ?_
  refine op_callA (nxla rfl) (.cons rfl .nil) (few_all s14 hyl) Tryd.func8 rfl rfl (by simp) rfl ?_
  rintro v17 L17 ⟨N17, a17, c17, rfl, rfl, r17⟩
  change At _ _ _ [N17, N14, R] _
  have s17 := r17.rsl
  refine op_callA (nxla rfl) (.cons rfl (.cons rfl .nil)) (hLi R N17 a17 c17 hT hP s17) Tryd.func14 rfl rfl (by simp) rfl ?_
  rintro v18 L18 ⟨N18, a18, c18, rfl, rfl, s18⟩
  change At _ _ _ [N18, N17, N14, R] _
  refine op_assign (nxlf rfl) rfl rfl ?_
  refine At.opsNil ?_
  refine At.norm (hk_3 ?_)
  refine At.seq fun K4 hk_4 => ?_
  refine At.region ?_
  refine op_assign (nxlf rfl) rfl rfl ?_
  refine At.opsNil ?_
  refine At.norm (hk_4 ?_)
  refine At.seq fun K5 hk_5 => ?_
  refine At.seq fun K6 hk_6 => ?_
  refine At.region ?_
  refine op_assign (nxlf rfl) rfl rfl ?_
  refine At.opsNil ?_
  refine At.norm (hk_6 ?_)
  refine At.block ?_
  refine At.sub (L' := [N18, N14, R]) (.cons_cons _ (.cons _ (.cons_cons _ (.cons_cons _ (.slnil))))) ?_
  refine At.loop (fun fr_ hp_ ms_ => ∃ (i : Nat), fr_ = [(0, .int .i64 f), (5, .slice a14 y.length c14), (6, .slice a18 xs.length c18), (7, str (joinN (xs.take i))), (8, .int .i64 (i : Int))] ∧ hp_ = [N18, N14, R] ∧ xs.length - i = ms_ ∧ (i ≤ xs.length)) ?_ (.refl _) ⟨0, rfl, rfl, rfl, Nat.zero_le _⟩ ?_
  · exact .cons (by first | exact lkI rfl (by omega) | rfl) (.cons (by first | exact lkI rfl (by omega) | rfl) (.cons (by first | exact lkI rfl (by omega) | rfl) (.cons (by first | exact lkI rfl (by omega) | rfl) (.cons (by first | exact lkI rfl (by omega) | rfl) .nil))))
  rintro _ _ _ ⟨i, rfl, rfl, rfl, hi⟩
  refine At.seq fun K7 hk_7 => ?_
  refine At.seq fun K8 hk_8 => ?_
  refine At.region ?_
  refine op_move (nxlf rfl) rfl rfl ?_
  refine op_move (nxlf rfl) rfl rfl ?_
  refine op_lenS (nxlf rfl) se31 rfl rfl ?_
  refine op_lss (nxlf rfl) rfl rfl rfl ?_
  refine At.opsNil ?_
  refine At.norm (hk_8 ?_)
  refine At.condP rfl (fun c22 => ?_) (fun c22 => ?_)
  · refine At.knowT (d := 22) rfl c22 ?_
    have hlt : i < xs.length := by omega
    have hji := hjl i
    have hxi := hxe i
    have hjat := joinN_at hlt
    refine At.skip ?_
    refine At.norm (hk_7 ?_)
    refine At.seq fun K9 hk_9 => ?_
    refine At.block ?_
    refine At.seq fun K10 hk_10 => ?_
    refine At.meet (fun fr_ hp_ => ∃ (z : List UInt8), fr_ = [(0, .int .i64 f), (5, .slice a14 y.length c14), (6, .slice a18 xs.length c18), (7, str z), (8, .int .i64 (i : Int))] ∧ hp_ = [N18, N14, R] ∧ (z ++ xs.getD i [] = joinN (xs.take (i + 1))) ∧ (z.length ≤ 400001)) ?_ (fun K10_ jk_10 => ?_)
    rotate_left
    · skip
      refine At.seq fun K11 hk_11 => ?_
      refine At.region ?_
      refine op_move (nxlf rfl) rfl rfl ?_
      refine op_gtr (nxlf rfl) rfl rfl rfl ?_
      refine At.opsNil ?_
      refine At.norm (hk_11 ?_)
      refine At.condP rfl (fun c26 => ?_) (fun c26 => ?_)
      · refine At.knowT (d := 26) rfl c26 ?_
        refine At.region ?_
        refine op_move (nxlf rfl) rfl rfl ?_
        refine op_addS (b := [10]) (nxlf rfl) rfl rfl (by (rw [List.length_singleton]; omega)) rfl ?_
        refine op_assign (nxlf rfl) rfl rfl ?_
        refine At.opsNil ?_
        refine At.norm (jk_10 ?_ (.refl _) ⟨joinN (xs.take i) ++ [10], rfl, rfl, by rw [hjat, if_neg (by omega)], by rw [List.length_append, List.length_singleton]; omega⟩)
        exact .cons (by first | exact lkI rfl (by omega) | rfl) (.cons (by first | exact lkI rfl (by omega) | rfl) (.cons (by first | exact lkI rfl (by omega) | rfl) (.cons (by first | exact lkI rfl (by omega) | rfl) (.cons (by first | exact lkI rfl (by omega) | rfl) .nil))))
      · refine At.knowF (d := 26) rfl c26 ?_
        refine At.skip ?_
        refine At.norm (jk_10 ?_ (.refl _) ⟨joinN (xs.take i), rfl, rfl, by rw [hjat, if_pos (by omega), show i = 0 by omega]; rfl, by omega⟩)
        exact .cons (by first | exact lkI rfl (by omega) | rfl) (.cons (by first | exact lkI rfl (by omega) | rfl) (.cons (by first | exact lkI rfl (by omega) | rfl) (.cons (by first | exact lkI rfl (by omega) | rfl) (.cons (by first | exact lkI rfl (by omega) | rfl) .nil))))
    rintro _ _ ⟨z, rfl, rfl, hz, hzl⟩
    refine hk_10 ?_
    refine At.region ?_
    refine op_move (nxlf rfl) rfl rfl ?_
    refine op_move (nxlf rfl) rfl rfl ?_
    refine op_move (nxlf rfl) rfl rfl ?_
    refine op_idx1 (nxlf rfl) se31 rfl rfl s18 (show _ = (((i : Nat)) : Int) from by omega) (by omega) rfl ?_
    refine op_loadE (nxlf rfl) sc9 rfl s18 (by first | exact get8 (by omega) | exact get64 (by omega) | exact get32 (by omega) | exact strs_get (by omega)) (by first | exact mem0 | exact mem1 | exact mem2 | exact mem3 | exact mem4 | exact mem5 | exact mem6 | exact mem7 | exact mem8 | exact mem9) rfl ?_
    refine op_addS (nxlf rfl) rfl rfl (by omega) rfl ?_
    rw [hz]
    refine op_assign (nxlf rfl) rfl rfl ?_
    refine At.opsNil ?_
    refine At.inNorm ?_
    refine At.norm (hk_9 ?_)
    refine At.region ?_
    refine op_move (nxlf rfl) rfl rfl ?_
    refine op_addI (nxlf rfl) rfl rfl (by omega) (by omega) rfl ?_
    refine op_assign (nxlf rfl) rfl rfl ?_
    refine At.opsNil ?_
    refine At.norm ?_
    refine At.back ?_ (.refl _) ⟨i + 1, rfl, rfl, rfl, by omega⟩ ?_
    · exact .cons (by first | exact lkI rfl (by omega) | rfl) (.cons (by first | exact lkI rfl (by omega) | rfl) (.cons (by first | exact lkI rfl (by omega) | rfl) (.cons (by first | exact lkI rfl (by omega) | rfl) (.cons (by first | exact lkI rfl (by omega) | rfl) .nil))))
    · omega
  · refine At.knowF (d := 22) rfl c22 ?_
    rw [List.take_of_length_le (by omega)]
    refine At.exit (At.thenExit (At.thenExit (At.inHit ?_)))
    refine At.norm (hk_5 ?_)
    refine At.seq fun K12 hk_12 => ?_
    refine At.region ?_
    refine op_move (nxlf rfl) rfl rfl ?_
    refine op_move (nxlf rfl) rfl rfl ?_
    refine op_callA (nxla rfl) (.cons rfl (.cons rfl .nil)) (hRd R hT) Tryd.func24 rfl rfl (by simp) rfl ?_
    rintro v38 L38 ⟨N38, a38, c38, rfl, rfl, s38⟩
    change At _ _ _ [N38, N18, N14, R] _
    refine op_move (nxlf rfl) rfl rfl ?_
    refine op_extract (nxlf rfl) rfl rfl rfl ?_
    refine op_extract (nxlf rfl) rfl rfl rfl ?_
    refine op_alloc (nxla rfl) ze48 rfl (fun N10 b10 B10 => ?_)
    change Blk N10 b10 _ [.int .i64 0, .int .i64 0] at B10
    change Blk N10 b10 _ [.int .i64 0, .int .i64 0] at B10
    refine op_assign (nxlf rfl) rfl rfl ?_
    refine op_store (nxl rfl) sz48 rfl rfl rfl rfl rfl B10 (by simp) sel0 (fun N10 B10 => ?_)
    simp only [setL, List.set] at B10
    refine At.opsNil ?_
    refine At.norm (hk_12 ?_)
    refine At.seq fun K13 hk_13 => ?_
    refine At.seq fun K14 hk_14 => ?_
    refine At.region ?_
    refine op_loadAggB (ds := [_, _]) (nxlf rfl) ag48 rfl B10 rfl rfl mem0 rfl ?_
    refine op_build (out := [.int .i64 0, .int .i64 0]) (nxlf rfl) ze48 pl48 .nil rfl rfl ?_
    refine op_neP (nxlf rfl) (by kernel_rfl) (by kernel_rfl) rfl rfl rfl ?_
    change At _ ((43, .bool false) :: _) _ _ _
    refine op_move (nxlf rfl) rfl rfl ?_
    refine op_move (nxgf rfl rfl rfl rfl) rfl rfl ?_
    refine op_str (nxgf rfl rfl rfl rfl) Tryd.underlying22 Tryd.underlying5 Tryd.underlying9 rfl (by assumption) (by first | exact mem0 | exact mem1 | exact mem2 | exact mem3 | exact mem4 | exact mem5 | exact mem6 | exact mem7 | exact mem8 | exact mem9) rfl ?_
    refine op_move (nxgf rfl rfl rfl rfl) rfl rfl ?_
    refine op_str (nxgf rfl rfl rfl rfl) Tryd.underlying22 Tryd.underlying5 Tryd.underlying9 rfl (by assumption) (by first | exact mem0 | exact mem1 | exact mem2 | exact mem3 | exact mem4 | exact mem5 | exact mem6 | exact mem7 | exact mem8 | exact mem9) rfl ?_
    refine op_neS (nxgf rfl rfl rfl rfl) rfl rfl rfl ?_
    rw [decide_eq_false (fun h => h rfl)]
    refine op_pickF (nxlf rfl) rfl rfl rfl ?_
    refine At.opsNil ?_
    refine At.norm (hk_14 ?_)
    refine At.condF rfl ?_
    refine At.skip ?_
    refine At.norm (hk_13 ?_)
    refine At.seq fun K15 hk_15 => ?_
    refine At.region ?_
    refine op_move (nxlf rfl) rfl rfl ?_
    refine op_callA (nxla rfl) (.cons rfl .nil) (few_all s14 hyl) Tryd.func8 rfl rfl (by simp) rfl ?_
    rintro v52 L52 ⟨N52, a52, c52, rfl, rfl, r52⟩
    change At _ _ _ [N52, N10, N38, N18, N14, R] _
    have s52 := r52.rsl
    refine op_callA (nxla rfl) (.cons rfl .nil) (FJumps_f s52 (by omega)) Tryd.func9 rfl rfl (by simp) rfl ?_
    rintro v53 L53 ⟨N53, a53, c53, rfl, rfl, r53⟩
    change At _ _ _ [N53, N52, N10, N38, N18, N14, R] _
    have s53 := r53.rsl
    refine op_assign (nxlf rfl) rfl rfl ?_
    refine At.opsNil ?_
    refine At.norm (hk_15 ?_)
    refine At.seq fun K16 hk_16 => ?_
    refine At.seq fun K17 hk_17 => ?_
    refine At.region ?_
    refine op_assign (nxlf rfl) rfl rfl ?_
    refine At.opsNil ?_
    refine At.norm (hk_17 ?_)
    refine At.block ?_
    refine At.sub (L' := [N53, N14, R]) (.cons_cons _ (.cons _ (.cons _ (.cons _ (.cons _ (.cons_cons _ (.cons_cons _ (.slnil)))))))) ?_
    refine At.loop (fun fr_ hp_ ms_ => ∃ (i : Nat), fr_ = [(5, .slice a14 y.length c14), (11, .slice a53 (jumpsOf y).length c53), (12, .int .i64 (i : Int))] ∧ hp_ = [N53, N14, R] ∧ (jumpsOf y).length - i = ms_ ∧ (i ≤ (jumpsOf y).length)) ?_ (.refl _) ⟨0, rfl, rfl, rfl, Nat.zero_le _⟩ ?_
    · exact .cons (by first | exact lkI rfl (by omega) | rfl) (.cons (by first | exact lkI rfl (by omega) | rfl) (.cons (by first | exact lkI rfl (by omega) | rfl) .nil))
    rintro _ _ _ ⟨i, rfl, rfl, rfl, hi⟩
    refine At.seq fun K18 hk_18 => ?_
    refine At.seq fun K19 hk_19 => ?_
    refine At.region ?_
    refine op_move (nxlf rfl) rfl rfl ?_
    refine op_move (nxlf rfl) rfl rfl ?_
    refine op_lenS (nxlf rfl) se27 rfl rfl ?_
    refine op_lss (nxlf rfl) rfl rfl rfl ?_
    refine At.opsNil ?_
    refine At.norm (hk_19 ?_)
    refine At.condP rfl (fun c57 => ?_) (fun c57 => ?_)
    · refine At.knowT (d := 57) rfl c57 ?_
      have hlt2 : i < (jumpsOf y).length := by omega
      obtain ⟨hxl2, hx91⟩ := hjm _ (getD_mem hlt2)
      have hsrt : 0 < i → _ := fun h0 => sorted_at hjs h0 hlt2
      obtain ⟨x, hx⟩ : ∃ x, (jumpsOf y).getD i 0 = x := ⟨_, rfl⟩
      rw [hx] at hxl2 hx91 hsrt
      refine At.skip ?_
      refine At.norm (hk_18 ?_)
      refine At.seq fun K20 hk_20 => ?_
      refine At.block ?_
      refine At.seq fun K21 hk_21 => ?_
      refine At.drawnS [N53, N14, R] [] [] [0,1,2,3,4,5,6,7,8,9,10,11,12,13,14,15,16,17,18,19,20,21,22,23,24,25,26,27,28,29,30,31,32,33,34,35,36,37,38,39] (by kernel_rfl) (by kernel_rfl) (.refl _) ?_
      refine op_move (nxsf rfl rfl rfl) rfl rfl ?_
      refine op_move (nxsf rfl rfl rfl) rfl rfl ?_
      refine op_idx1 (nxsf rfl rfl rfl) se27 rfl rfl s53 (show _ = (((i : Nat)) : Int) from by omega) (by omega) rfl ?_
      refine op_loadE (nxsf rfl rfl rfl) sc3 rfl s53 (by first | exact get8 (by omega) | exact get64 (by omega) | exact get32 (by omega) | exact ints_get (by omega)) (by first | exact mem0 | exact mem1 | exact mem2 | exact mem3 | exact mem4 | exact mem5 | exact mem6 | exact mem7 | exact mem8 | exact mem9) rfl ?_
      rw [hx]
      refine op_lss (nxsf rfl rfl rfl) rfl rfl rfl ?_
      refine op_move (nxsf rfl rfl rfl) rfl rfl ?_
      refine At.partP (d := 65) rfl (fun g65 => ?_) (fun g65 => ?_)
      · exfalso; omega
      · refine op_move (nxsgf rfl rfl rfl rfl rfl rfl) rfl rfl ?_
        refine op_move (nxsgf rfl rfl rfl rfl rfl rfl) rfl rfl ?_
        refine op_idx1 (nxsgf rfl rfl rfl rfl rfl rfl) se27 rfl rfl s53 (show _ = (((i : Nat)) : Int) from by omega) (by omega) rfl ?_
        refine op_loadE (nxsgf rfl rfl rfl rfl rfl rfl) sc3 rfl s53 (by first | exact get8 (by omega) | exact get64 (by omega) | exact get32 (by omega) | exact ints_get (by omega)) (by first | exact mem0 | exact mem1 | exact mem2 | exact mem3 | exact mem4 | exact mem5 | exact mem6 | exact mem7 | exact mem8 | exact mem9) rfl ?_
        rw [hx]
        refine op_move (nxsgf rfl rfl rfl rfl rfl rfl) rfl rfl ?_
        refine op_lenS (nxsgf rfl rfl rfl rfl rfl rfl) se22 rfl rfl ?_
        refine op_geq (nxsgf rfl rfl rfl rfl rfl rfl) rfl rfl rfl ?_
        refine op_pickF (nxsf rfl rfl rfl) rfl rfl rfl ?_
        refine op_move (nxsf rfl rfl rfl) rfl rfl ?_
        refine At.partP (d := 74) rfl (fun g74 => ?_) (fun g74 => ?_)
        · exfalso; omega
        · refine op_move (nxsgf rfl rfl rfl rfl rfl rfl) rfl rfl ?_
          refine op_move (nxsgf rfl rfl rfl rfl rfl rfl) rfl rfl ?_
          refine op_move (nxsgf rfl rfl rfl rfl rfl rfl) rfl rfl ?_
          refine op_idx1 (nxsgf rfl rfl rfl rfl rfl rfl) se27 rfl rfl s53 (show _ = (((i : Nat)) : Int) from by omega) (by omega) rfl ?_
          refine op_loadE (nxsgf rfl rfl rfl rfl rfl rfl) sc3 rfl s53 (by first | exact get8 (by omega) | exact get64 (by omega) | exact get32 (by omega) | exact ints_get (by omega)) (by first | exact mem0 | exact mem1 | exact mem2 | exact mem3 | exact mem4 | exact mem5 | exact mem6 | exact mem7 | exact mem8 | exact mem9) rfl ?_
          rw [hx]
          refine op_idx1 (nxsgf rfl rfl rfl rfl rfl rfl) se22 rfl rfl s14 (show _ = (((x : Nat)) : Int) from by omega) (by omega) rfl ?_
          refine op_loadE (nxsgf rfl rfl rfl rfl rfl rfl) sc5 rfl s14 (by first | exact get8 (by omega) | exact get64 (by omega) | exact get32 (by omega)) (by first | exact mem0 | exact mem1 | exact mem2 | exact mem3 | exact mem4 | exact mem5 | exact mem6 | exact mem7 | exact mem8 | exact mem9) rfl ?_
          refine op_neq (nxsgf rfl rfl rfl rfl rfl rfl) rfl rfl rfl ?_
          refine op_pickF (nxsf rfl rfl rfl) rfl rfl rfl ?_
          refine op_move (nxsf rfl rfl rfl) rfl rfl ?_
          refine At.partP (d := 84) rfl (fun g84 => ?_) (fun g84 => ?_)
          · exfalso; omega
          · refine op_move (nxsgf rfl rfl rfl rfl rfl rfl) rfl rfl ?_
            refine op_gtr (nxsgf rfl rfl rfl rfl rfl rfl) rfl rfl rfl ?_
            refine op_move (nxsgf rfl rfl rfl rfl rfl rfl) rfl rfl ?_
            refine At.partP (d := 87) rfl (fun g87 => ?_) (fun g87 => ?_)
            · refine op_move (nxsgf rfl rfl rfl rfl rfl rfl) rfl rfl ?_
              refine op_move (nxsgf rfl rfl rfl rfl rfl rfl) rfl rfl ?_
              refine op_subI (nxsgf rfl rfl rfl rfl rfl rfl) rfl rfl (by omega) (by omega) rfl ?_
              refine op_idx1 (nxsgf rfl rfl rfl rfl rfl rfl) se27 rfl rfl s53 (show _ = (((i - 1 : Nat)) : Int) from by omega) (by omega) rfl ?_
              refine op_loadE (nxsgf rfl rfl rfl rfl rfl rfl) sc3 rfl s53 (by first | exact get8 (by omega) | exact get64 (by omega) | exact get32 (by omega) | exact ints_get (by omega)) (by first | exact mem0 | exact mem1 | exact mem2 | exact mem3 | exact mem4 | exact mem5 | exact mem6 | exact mem7 | exact mem8 | exact mem9) rfl ?_
              refine op_move (nxsgf rfl rfl rfl rfl rfl rfl) rfl rfl ?_
              refine op_move (nxsgf rfl rfl rfl rfl rfl rfl) rfl rfl ?_
              refine op_idx1 (nxsgf rfl rfl rfl rfl rfl rfl) se27 rfl rfl s53 (show _ = (((i : Nat)) : Int) from by omega) (by omega) rfl ?_
              refine op_loadE (nxsgf rfl rfl rfl rfl rfl rfl) sc3 rfl s53 (by first | exact get8 (by omega) | exact get64 (by omega) | exact get32 (by omega) | exact ints_get (by omega)) (by first | exact mem0 | exact mem1 | exact mem2 | exact mem3 | exact mem4 | exact mem5 | exact mem6 | exact mem7 | exact mem8 | exact mem9) rfl ?_
              rw [hx]
              refine op_geq (nxsgf rfl rfl rfl rfl rfl rfl) rfl rfl rfl ?_
              refine op_pickT (nxsgf rfl rfl rfl rfl rfl rfl) rfl rfl rfl ?_
              refine op_pickF (nxsf rfl rfl rfl) rfl rfl rfl ?_
              refine At.sNil ?_
              refine At.norm (hk_21 ?_)
              refine At.condP rfl (fun c99 => ?_) (fun c99 => ?_)
              · exfalso; omega
              · refine At.knowF (d := 99) rfl c99 ?_
                refine At.skip ?_
                refine At.inNorm ?_
                refine At.norm (hk_20 ?_)
                refine At.region ?_
                refine op_move (nxlf rfl) rfl rfl ?_
                refine op_addI (nxlf rfl) rfl rfl (by omega) (by omega) rfl ?_
                refine op_assign (nxlf rfl) rfl rfl ?_
                refine At.opsNil ?_
                refine At.norm ?_
                refine At.back ?_ (.refl _) ⟨i + 1, rfl, rfl, rfl, by omega⟩ ?_
                · exact .cons (by first | exact lkI rfl (by omega) | rfl) (.cons (by first | exact lkI rfl (by omega) | rfl) (.cons (by first | exact lkI rfl (by omega) | rfl) .nil))
                · omega
            · refine op_sskip rfl rfl rfl rfl rfl rfl rfl rfl ?_
              refine op_sskip rfl rfl rfl rfl rfl rfl rfl rfl ?_
              refine op_sskip rfl rfl rfl rfl rfl rfl rfl rfl ?_
              refine op_sskip rfl rfl rfl rfl rfl rfl rfl rfl ?_
              refine op_sskip rfl rfl rfl rfl rfl rfl rfl rfl ?_
              refine op_sskip rfl rfl rfl rfl rfl rfl rfl rfl ?_
              refine op_sskip rfl rfl rfl rfl rfl rfl rfl rfl ?_
              refine op_sskip rfl rfl rfl rfl rfl rfl rfl rfl ?_
              refine op_sskip rfl rfl rfl rfl rfl rfl rfl rfl ?_
              refine op_sskip rfl rfl rfl rfl rfl rfl rfl rfl ?_
              refine op_pickF (nxsgf rfl rfl rfl rfl rfl rfl) rfl rfl rfl ?_
              refine op_pickF (nxsf rfl rfl rfl) rfl rfl rfl ?_
              refine At.sNil ?_
              refine At.norm (hk_21 ?_)
              refine At.condF rfl ?_
              refine At.skip ?_
              refine At.inNorm ?_
              refine At.norm (hk_20 ?_)
              refine At.region ?_
              refine op_move (nxlf rfl) rfl rfl ?_
              refine op_addI (nxlf rfl) rfl rfl (by omega) (by omega) rfl ?_
              refine op_assign (nxlf rfl) rfl rfl ?_
              refine At.opsNil ?_
              refine At.norm ?_
              refine At.back ?_ (.refl _) ⟨i + 1, rfl, rfl, rfl, by omega⟩ ?_
              · exact .cons (by first | exact lkI rfl (by omega) | rfl) (.cons (by first | exact lkI rfl (by omega) | rfl) (.cons (by first | exact lkI rfl (by omega) | rfl) .nil))
              · omega
    · refine At.knowF (d := 57) rfl c57 ?_
      refine At.exit (At.thenExit (At.thenExit (At.inHit ?_)))
      refine At.norm (hk_16 ?_)
      refine At.seq fun K22 hk_22 => ?_
      refine At.region ?_
      refine op_callA (nxla rfl) .nil (Cwakes_f hT) Tryd.func13 rfl rfl (by simp) rfl ?_
      rintro v100 L100 ⟨rfl, rfl⟩
      change At _ _ _ [N53, N14, R] _
      refine op_assign (nxlf rfl) rfl rfl ?_
      refine At.opsNil ?_
      refine At.norm (hk_22 ?_)
      refine At.ret (?_)
      refine At.sub (L' := [R]) (.cons _ (.cons _ (.cons_cons _ (.slnil)))) ?_
      refine At.ret1 (L1 := []) rfl (.tmp rfl .nil) (.refl _) (.refl _) ?_
      exact ⟨rfl, rfl⟩
end Go.Proofs.YtdplcfineaikjaaDoor
