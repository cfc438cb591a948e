/- Shifts with signs, signs spread, bytes: package word and the reference. No condition. -/
import Derived.Test.YtefljbbpaideaaaKXa
namespace Go.Proofs.Ytefljbbpaideaaa
set_option linter.unusedVariables false
set_option linter.unusedSimpArgs false
open Go Go.RowKit
set_option maxRecDepth 100000 in
theorem rNot_w {x : Nat} (hx : x < WW) : Fn Try.prog 86 #[wo x] [] [] (fun v L => v = wo (WW - 1 - x) ∧ L = []) := by
  have hdx := dig_w hx
  have ht := dig_top
  have hp := WW_pos
  have h1 : (digsOf (WW - 1)).length ≤ 9 := dig_2top (by omega)
  have hle : x ≤ WW - 1 := by omega
  have hm := digs_mono hle
  have hv1 : v32 [1] = 1 := rfl
  have hl1 : 1 ≤ (digsOf WW).length := by
    have := digs_mono (A := 1) (B := WW) (by omega)
    have e : (digsOf 1).length = 1 := by decide
    omega
  refine Fn.enter (vs := [wo x]) Try.func86 rfl rfl rfl ?_
  intro E R hR
  change At _ _ E [R] _
  refine At.seq fun K1 hk_1 => ?_
  refine At.region ?_
  refine op_box (nxla rfl) rfl rfl rfl (fun N1 b1 B1 => ?_)
  change Blk N1 b1 _ (u64s (wl x)) at B1
  refine op_alloc (nxla rfl) ze24 rfl (fun N2 b2 B2 => ?_)
  change Blk N2 b2 _ [.int .u64 0, .int .u64 0, .int .u64 0, .int .u64 0] at B2
  refine At.opsNil ?_
  refine At.norm (hk_1 ?_)
  refine At.seq fun K2 hk_2 => ?_
  refine At.planS [N1, R] (.take 3 (.fork 0 false (.fork 1 false (.fork 2 false (.fork 4 true (.fork 5 true (.fork 6 true (.fork 7 true .done .nofork) .nofork) .nofork) .nofork) .nofork) .nofork) (.fork 1 false (.fork 0 false (.fork 2 false (.fork 4 true (.fork 5 true (.fork 6 true (.fork 7 true .done .nofork) .nofork) .nofork) .nofork) .nofork) .nofork) .nofork))) (by kernel_rfl) (by kernel_rfl) (.cons _ (.refl _)) ?_
  refine op_loadAggB (ds := u64s (wl x)) (nxpf rfl rfl) ag24 rfl B1 (by first | (rw [List.drop_zero, List.take_of_length_le (by first | (simp; done) | (simp; omega))]; done) | rfl) (by first | (simp; done) | (simp; omega)) mem0 rfl ?_
  refine At.fork ?_ ?_
  rotate_left
  · refine At.fork ?_ ?_
    rotate_left
    · exact At.pNo
    refine op_lit (Nx.agree (nxpa rfl rfl)) Try.underlying38 ze65 sz65 (.cons rfl .nil) rfl rfl (by simp [Value.cells]) rfl rfl rfl (fun N4 a4 r4 => ?_)
    simp only [flatV, List.flatMap_cons, List.flatMap_nil, Value.cells, List.append_nil, List.cons_append, List.nil_append] at r4
    have s4 := r4.rsl
    refine At.andS (.cons _ (.cons _ (.refl _))) ?_
    change Row N4 _ 1 a4 1 1 (u32s [1]) at r4
    have s4 := r4.rsl
    refine At.fork ?_ ?_
    rotate_left
    · exact At.pNo
    refine op_callA (Nx.agree (nxpa rfl rfl)) .nil (top_f) Try.func115 rfl rfl (by simp) rfl ?_
    rintro v3 L3 ⟨M3, p3, c3, rfl, rfl, s3⟩
    change At _ _ _ [M3, N4, N2, N1, R] _
    refine At.andS (.cons _ (.cons _ (.cons _ (.refl _)))) ?_
    refine At.fork ?_ ?_
    rotate_left
    · exact At.pNo
    refine op_callA (Nx.agree (nxpa rfl rfl)) (.cons rfl (.cons rfl .nil)) (rSub_f s3 s4 (by omega) hl1 (by rw [v32_digsOf, hv1]; omega)) Try.func95 rfl rfl (by simp) rfl ?_
    rintro v5 L5 ⟨M5, p5, c5, rfl, rfl, s5⟩
    change At _ _ _ [M5, M3, N4, N2, N1, R] _
    rw [v32_digsOf, hv1] at s5 ⊢
    refine At.andS (.cons _ (.cons _ (.cons _ (.cons _ (.refl _))))) ?_
    refine At.fork ?_ ?_
    rotate_left
    · exact At.pNo
    refine op_callA (Nx.agree (nxpa rfl rfl)) (.cons rfl .nil) (rN_w hx) Try.func104 rfl rfl (by simp) rfl ?_
    rintro v7 L7 ⟨M7, p7, c7, rfl, rfl, s7⟩
    change At _ _ _ [M7, M5, M3, N4, N2, N1, R] _
    refine At.andS (.cons _ (.cons _ (.cons _ (.cons _ (.cons _ (.refl _)))))) ?_
    refine At.fork ?_ ?_
    rotate_left
    · exact At.pNo
    refine op_callA (Nx.agree (nxpa rfl rfl)) (.cons rfl (.cons rfl .nil)) (rSub_f s5 s7 (by omega) hm (by rw [v32_digsOf, v32_digsOf]; exact hle)) Try.func95 rfl rfl (by simp) rfl ?_
    rintro v8 L8 ⟨M8, p8, c8, rfl, rfl, s8⟩
    change At _ _ _ [M8, M7, M5, M3, N4, N2, N1, R] _
    rw [v32_digsOf, v32_digsOf] at s8 ⊢
    refine At.andS (.cons _ (.cons _ (.cons _ (.cons _ (.cons _ (.cons _ (.refl _))))))) ?_
    refine At.fork ?_ ?_
    rotate_left
    · exact At.pNo
    refine op_callA (Nx.agree (nxpa rfl rfl)) (.cons rfl .nil) (rW_w s8) Try.func105 rfl rfl (by simp) rfl ?_
    rintro v9 L9 ⟨rfl, rfl⟩
    change At _ _ _ [M8, M7, M5, M3, N4, N2, N1, R] _
    refine At.andS (.cons _ (.cons _ (.cons _ (.cons _ (.cons _ (.cons _ (.refl _))))))) ?_
    refine At.fork ?_ ?_
    rotate_left
    · exact At.pNo
    refine op_store (nxpl rfl rfl) sz24 rfl rfl rfl rfl rfl B2 (by simp) sel5 (fun N2 B2 => ?_)
    rw [setL_whole (by simp)] at B2
    refine At.pDone ?_
    refine At.norm (hk_2 ?_)
    refine At.ret (?_)
    refine At.sub (L' := [N2, R]) (.cons_cons _ (.cons _ (.cons _ (.cons _ (.cons _ (.cons _ (.cons _ (.cons_cons _ (.slnil))))))))) ?_
    refine At.ret1 (L1 := []) rfl (.cell rfl (res_agg (ds := u64s (wl (WW - 1 - x))) ag24 B2 (by first | (rw [List.drop_zero, List.take_of_length_le (by first | (simp; done) | (simp; omega))]; done) | rfl) (by first | (simp; done) | (simp; omega)) mem0) .nil) (.cons _ (.refl _)) (.refl _) ?_
    exact ⟨rfl, rfl⟩
  refine op_callA (Nx.agree (nxpa rfl rfl)) .nil (top_f) Try.func115 rfl rfl (by simp) rfl ?_
  rintro v3 L3 ⟨M3, p3, c3, rfl, rfl, s3⟩
  change At _ _ _ [M3, N2, N1, R] _
  refine At.andS (.cons _ (.cons _ (.refl _))) ?_
  refine At.fork ?_ ?_
  rotate_left
  · exact At.pNo
  refine op_lit (Nx.agree (nxpa rfl rfl)) Try.underlying38 ze65 sz65 (.cons rfl .nil) rfl rfl (by simp [Value.cells]) rfl rfl rfl (fun N4 a4 r4 => ?_)
  simp only [flatV, List.flatMap_cons, List.flatMap_nil, Value.cells, List.append_nil, List.cons_append, List.nil_append] at r4
  have s4 := r4.rsl
  refine At.andS (.cons _ (.cons _ (.cons _ (.refl _)))) ?_
  change Row N4 _ 1 a4 1 1 (u32s [1]) at r4
  have s4 := r4.rsl
  refine At.fork ?_ ?_
  rotate_left
  · exact At.pNo
  refine op_callA (Nx.agree (nxpa rfl rfl)) (.cons rfl (.cons rfl .nil)) (rSub_f s3 s4 (by omega) hl1 (by rw [v32_digsOf, hv1]; omega)) Try.func95 rfl rfl (by simp) rfl ?_
  rintro v5 L5 ⟨M5, p5, c5, rfl, rfl, s5⟩
  change At _ _ _ [M5, N4, M3, N2, N1, R] _
  rw [v32_digsOf, hv1] at s5 ⊢
  refine At.andS (.cons _ (.cons _ (.cons _ (.cons _ (.refl _))))) ?_
  refine At.fork ?_ ?_
  rotate_left
  · exact At.pNo
  refine op_callA (Nx.agree (nxpa rfl rfl)) (.cons rfl .nil) (rN_w hx) Try.func104 rfl rfl (by simp) rfl ?_
  rintro v7 L7 ⟨M7, p7, c7, rfl, rfl, s7⟩
  change At _ _ _ [M7, M5, N4, M3, N2, N1, R] _
  refine At.andS (.cons _ (.cons _ (.cons _ (.cons _ (.cons _ (.refl _)))))) ?_
  refine At.fork ?_ ?_
  rotate_left
  · exact At.pNo
  refine op_callA (Nx.agree (nxpa rfl rfl)) (.cons rfl (.cons rfl .nil)) (rSub_f s5 s7 (by omega) hm (by rw [v32_digsOf, v32_digsOf]; exact hle)) Try.func95 rfl rfl (by simp) rfl ?_
  rintro v8 L8 ⟨M8, p8, c8, rfl, rfl, s8⟩
  change At _ _ _ [M8, M7, M5, N4, M3, N2, N1, R] _
  rw [v32_digsOf, v32_digsOf] at s8 ⊢
  refine At.andS (.cons _ (.cons _ (.cons _ (.cons _ (.cons _ (.cons _ (.refl _))))))) ?_
  refine At.fork ?_ ?_
  rotate_left
  · exact At.pNo
  refine op_callA (Nx.agree (nxpa rfl rfl)) (.cons rfl .nil) (rW_w s8) Try.func105 rfl rfl (by simp) rfl ?_
  rintro v9 L9 ⟨rfl, rfl⟩
  change At _ _ _ [M8, M7, M5, N4, M3, N2, N1, R] _
  refine At.andS (.cons _ (.cons _ (.cons _ (.cons _ (.cons _ (.cons _ (.refl _))))))) ?_
  refine At.fork ?_ ?_
  rotate_left
  · exact At.pNo
  refine op_store (nxpl rfl rfl) sz24 rfl rfl rfl rfl rfl B2 (by simp) sel5 (fun N2 B2 => ?_)
  rw [setL_whole (by simp)] at B2
  refine At.pDone ?_
  refine At.norm (hk_2 ?_)
  refine At.ret (?_)
  refine At.sub (L' := [N2, R]) (.cons_cons _ (.cons _ (.cons _ (.cons _ (.cons _ (.cons _ (.cons _ (.cons_cons _ (.slnil))))))))) ?_
  refine At.ret1 (L1 := []) rfl (.cell rfl (res_agg (ds := u64s (wl (WW - 1 - x))) ag24 B2 (by first | (rw [List.drop_zero, List.take_of_length_le (by first | (simp; done) | (simp; omega))]; done) | rfl) (by first | (simp; done) | (simp; omega)) mem0) .nil) (.cons _ (.refl _)) (.refl _) ?_
  exact ⟨rfl, rfl⟩
theorem far_no {m : Nat} (hm : m < WW) (h : ¬ m < 2 ^ 64) : Fn Try.prog 135 #[wo m] [] [] (fun v L => v = .int .i64 (amt m : Int) ∧ L = []) := by
  refine Fn.enter (vs := [wo m]) Try.func135 rfl rfl rfl ?_
  intro E R hR
  change At _ _ E [R] _
  refine At.seq fun K1 hk_1 => ?_
  refine At.region ?_
  refine op_box (nxla rfl) rfl rfl rfl (fun N1 b1 B1 => ?_)
  change Blk N1 b1 _ (u64s (wl m)) at B1
  refine op_assign (nxlf rfl) rfl rfl ?_
  refine At.opsNil ?_
  refine At.norm (hk_1 ?_)
  refine At.seq fun K2 hk_2 => ?_
  refine At.region ?_
  refine op_loadAggB (ds := u64s (wl m)) (nxlf rfl) ag24 rfl B1 (by first | (rw [List.drop_zero, List.take_of_length_le (by first | (simp; done) | (simp; omega))]; done) | rfl) (by first | (simp; done) | (simp; omega)) mem0 rfl ?_
  refine op_callA (nxla rfl) (.cons rfl .nil) (rSmall_no hm h) Try.func51 rfl rfl (by simp) rfl ?_
  rintro v7 L7 ⟨rfl, rfl⟩
  change At _ _ _ [N1, R] _
  refine op_move (nxlf rfl) rfl rfl ?_
  refine op_extract (nxlf rfl) rfl rfl rfl ?_
  refine op_extract (nxlf rfl) rfl rfl rfl ?_
  refine op_assign (nxlf rfl) rfl rfl ?_
  refine op_assign (nxlf rfl) rfl rfl ?_
  refine At.opsNil ?_
  refine At.norm (hk_2 ?_)
  refine At.seq fun K3 hk_3 => ?_
  refine At.seq fun K4 hk_4 => ?_
  refine At.region ?_
  refine op_move (nxlf rfl) rfl rfl ?_
  refine op_not (nxlf rfl) rfl rfl ?_
  refine op_move (nxlf rfl) rfl rfl ?_
  refine op_skip rfl rfl rfl rfl rfl rfl rfl ?_
  refine op_skip rfl rfl rfl rfl rfl rfl rfl ?_
  refine op_pickT (nxlf rfl) rfl rfl rfl ?_
  refine At.opsNil ?_
  refine At.norm (hk_4 ?_)
  refine At.condT rfl ?_
  refine At.seq fun K5 hk_5 => ?_
  refine At.region ?_
  refine op_assign (nxlf rfl) rfl rfl ?_
  refine At.opsNil ?_
  refine At.norm (hk_5 ?_)
  refine At.ret (At.thenRet (?_))
  refine At.sub (L' := [R]) (.cons _ (.cons_cons _ (.slnil))) ?_
  refine At.ret1 (L1 := []) rfl (.tmp rfl .nil) (.refl _) (.refl _) ?_
  exact ⟨by rw [amt, if_neg (by omega)]; rfl, rfl⟩
theorem far_y {m : Nat} (hm : m < WW) (h : m < 2 ^ 64) : Fn Try.prog 135 #[wo m] [] [] (fun v L => v = .int .i64 (amt m : Int) ∧ L = []) := by
  refine Fn.enter (vs := [wo m]) Try.func135 rfl rfl rfl ?_
  intro E R hR
  change At _ _ E [R] _
  refine At.seq fun K1 hk_1 => ?_
  refine At.region ?_
  refine op_box (nxla rfl) rfl rfl rfl (fun N1 b1 B1 => ?_)
  change Blk N1 b1 _ (u64s (wl m)) at B1
  refine op_assign (nxlf rfl) rfl rfl ?_
  refine At.opsNil ?_
  refine At.norm (hk_1 ?_)
  refine At.seq fun K2 hk_2 => ?_
  refine At.region ?_
  refine op_loadAggB (ds := u64s (wl m)) (nxlf rfl) ag24 rfl B1 (by first | (rw [List.drop_zero, List.take_of_length_le (by first | (simp; done) | (simp; omega))]; done) | rfl) (by first | (simp; done) | (simp; omega)) mem0 rfl ?_
  refine op_callA (nxla rfl) (.cons rfl .nil) (rSmall_y hm h) Try.func51 rfl rfl (by simp) rfl ?_
  rintro v7 L7 ⟨rfl, rfl⟩
  change At _ _ _ [N1, R] _
  refine op_move (nxlf rfl) rfl rfl ?_
  refine op_extract (nxlf rfl) rfl rfl rfl ?_
  refine op_extract (nxlf rfl) rfl rfl rfl ?_
  refine op_assign (nxlf rfl) rfl rfl ?_
  refine op_assign (nxlf rfl) rfl rfl ?_
  refine At.opsNil ?_
  refine At.norm (hk_2 ?_)
  refine At.seq fun K3 hk_3 => ?_
  refine At.seq fun K4 hk_4 => ?_
  refine At.region ?_
  refine op_move (nxlf rfl) rfl rfl ?_
  refine op_not (nxlf rfl) rfl rfl ?_
  refine op_move (nxlf rfl) rfl rfl ?_
  refine op_move (nxgf rfl rfl rfl rfl) rfl rfl ?_
  refine op_gtr (nxgf rfl rfl rfl rfl) rfl rfl rfl ?_
  refine op_pickF (nxlf rfl) rfl rfl rfl ?_
  refine At.opsNil ?_
  refine At.norm (hk_4 ?_)
  refine At.condP rfl (fun c15 => ?_) (fun c15 => ?_)
  · refine At.seq fun K5 hk_5 => ?_
    refine At.region ?_
    refine op_assign (nxlf rfl) rfl rfl ?_
    refine At.opsNil ?_
    refine At.norm (hk_5 ?_)
    refine At.ret (At.thenRet (?_))
    refine At.sub (L' := [R]) (.cons _ (.cons_cons _ (.slnil))) ?_
    refine At.ret1 (L1 := []) rfl (.tmp rfl .nil) (.refl _) (.refl _) ?_
    exact ⟨by rw [amt, if_neg (by omega)]; rfl, rfl⟩
  · refine At.skip ?_
    refine At.norm (hk_3 ?_)
    refine At.seq fun K6 hk_6 => ?_
    refine At.region ?_
    refine op_move (nxlf rfl) rfl rfl ?_
    refine op_convI (nxlf rfl) (und_some Try.underlying22) Try.underlying3 rfl (by omega) (by omega) rfl ?_
    refine op_assign (nxlf rfl) rfl rfl ?_
    refine At.opsNil ?_
    refine At.norm (hk_6 ?_)
    refine At.ret (?_)
    refine At.sub (L' := [R]) (.cons _ (.cons_cons _ (.slnil))) ?_
    refine At.ret1 (L1 := []) rfl (.tmp rfl .nil) (.refl _) (.refl _) ?_
    exact ⟨by rw [amt]; split <;> (first | rfl | (congr 1; omega)), rfl⟩
theorem far_f {m : Nat} (hm : m < WW) : Fn Try.prog 135 #[wo m] [] [] (fun v L => v = .int .i64 (amt m : Int) ∧ L = []) := by
  by_cases h : m < 2 ^ 64
  · exact far_y hm h
  · exact far_no hm h
set_option maxRecDepth 100000 in
theorem rShl_w {m x : Nat} (hm : m < WW) (hx : x < WW) : Fn Try.prog 90 #[wo m, wo x] [] [] (fun v L => v = wo (x * 2 ^ amt m) ∧ L = []) := by
  have hdx := dig_w hx
  have hs := amt_le m
  refine Fn.enter (vs := [wo m, wo x]) Try.func90 rfl rfl rfl ?_
  intro E R hR
  change At _ _ E [R] _
  refine At.seq fun K1 hk_1 => ?_
  refine At.region ?_
  refine op_box (nxla rfl) rfl rfl rfl (fun N2 b2 B2 => ?_)
  change Blk N2 b2 _ (u64s (wl m)) at B2
  refine op_box (nxla rfl) rfl rfl rfl (fun N3 b3 B3 => ?_)
  change Blk N3 b3 _ (u64s (wl x)) at B3
  refine op_alloc (nxla rfl) ze24 rfl (fun N4 b4 B4 => ?_)
  change Blk N4 b4 _ [.int .u64 0, .int .u64 0, .int .u64 0, .int .u64 0] at B4
  refine At.opsNil ?_
  refine At.norm (hk_1 ?_)
  refine At.seq fun K2 hk_2 => ?_
  refine At.perm sel3 ?_
  refine At.perm sel2 ?_
  refine At.perm sel3 ?_
  refine At.perm sel3 ?_
  refine At.drawnS [N2, N3, R] [3,4,5,6] [] [0,2,1,3,4,5,6] (by kernel_rfl) (by kernel_rfl) (.cons _ (.refl _)) ?_
  refine op_loadAggB (ds := u64s (wl x)) (nxsf rfl rfl rfl) ag24 rfl B3 (by first | (rw [List.drop_zero, List.take_of_length_le (by first | (simp; done) | (simp; omega))]; done) | rfl) (by first | (simp; done) | (simp; omega)) mem1 rfl ?_
  refine op_loadAggB (ds := u64s (wl m)) (nxsf rfl rfl rfl) ag24 rfl B2 (by first | (rw [List.drop_zero, List.take_of_length_le (by first | (simp; done) | (simp; omega))]; done) | rfl) (by first | (simp; done) | (simp; omega)) mem0 rfl ?_
  refine op_callA (Nx.agree (nxsm rfl rfl rfl)) (.cons rfl .nil) (rN_w hx) Try.func104 rfl rfl (by simp) rfl ?_
  rintro v6 L6 ⟨M6, p6, c6, rfl, rfl, s6⟩
  change At _ _ _ [M6, N4, N2, N3, R] _
  refine At.perm sel4 ?_
  refine At.perm sel4 ?_
  refine At.perm sel4 ?_
  refine At.perm sel3 ?_
  refine At.perm sel4 ?_
  refine At.moreS (Lst := [N2, N3, R]) (Lst' := [M6, N2, N3, R]) (.cons _ (.refl _)) (.cons _ (.refl _)) ?_
  refine op_callA (Nx.agree (nxss rfl rfl rfl rfl)) (.cons rfl .nil) (far_f hm) Try.func135 rfl rfl (by simp) rfl ?_
  rintro v8 L8 ⟨rfl, rfl⟩
  change At _ _ _ [N4, M6, N2, N3, R] _
  refine At.anyS (.refl _) ?_
  refine op_callA (Nx.agree (nxss rfl rfl rfl rfl)) (.cons rfl (.cons rfl .nil)) (rShl_f s6 (amt m) (by omega) (by omega)) Try.func122 rfl rfl (by simp) rfl ?_
  rintro v9 L9 ⟨M9, p9, c9, rfl, rfl, s9⟩
  change At _ _ _ [M9, N4, M6, N2, N3, R] _
  rw [v32_digsOf] at s9 ⊢
  refine At.anyS (.refl _) ?_
  refine op_callA (Nx.agree (nxss rfl rfl rfl rfl)) (.cons rfl .nil) (rW_w s9) Try.func105 rfl rfl (by simp) rfl ?_
  rintro v10 L10 ⟨rfl, rfl⟩
  change At _ _ _ [M9, N4, M6, N2, N3, R] _
  refine At.anyS (.refl _) ?_
  refine op_store (nxsl rfl rfl rfl rfl) sz24 rfl rfl rfl rfl rfl B4 (by simp) sel1 (fun N4 B4 => ?_)
  rw [setL_whole (by simp)] at B4
  refine At.sNil ?_
  refine At.norm (hk_2 ?_)
  refine At.ret (?_)
  refine At.sub (L' := [N4, R]) (.cons_cons _ (.cons _ (.cons _ (.cons _ (.cons _ (.cons_cons _ (.slnil))))))) ?_
  refine At.ret1 (L1 := []) rfl (.cell rfl (res_agg (ds := u64s (wl (x * 2 ^ amt m))) ag24 B4 (by first | (rw [List.drop_zero, List.take_of_length_le (by first | (simp; done) | (simp; omega))]; done) | rfl) (by first | (simp; done) | (simp; omega)) mem0) .nil) (.cons _ (.refl _)) (.refl _) ?_
  exact ⟨rfl, rfl⟩
set_option maxRecDepth 100000 in
theorem rShr_w {m x : Nat} (hm : m < WW) (hx : x < WW) : Fn Try.prog 91 #[wo m, wo x] [] [] (fun v L => v = wo (x / 2 ^ amt m) ∧ L = []) := by
  have hdx := dig_w hx
  have hs := amt_le m
  refine Fn.enter (vs := [wo m, wo x]) Try.func91 rfl rfl rfl ?_
  intro E R hR
  change At _ _ E [R] _
  refine At.seq fun K1 hk_1 => ?_
  refine At.region ?_
  refine op_box (nxla rfl) rfl rfl rfl (fun N2 b2 B2 => ?_)
  change Blk N2 b2 _ (u64s (wl m)) at B2
  refine op_box (nxla rfl) rfl rfl rfl (fun N3 b3 B3 => ?_)
  change Blk N3 b3 _ (u64s (wl x)) at B3
  refine op_alloc (nxla rfl) ze24 rfl (fun N4 b4 B4 => ?_)
  change Blk N4 b4 _ [.int .u64 0, .int .u64 0, .int .u64 0, .int .u64 0] at B4
  refine At.opsNil ?_
  refine At.norm (hk_1 ?_)
  refine At.seq fun K2 hk_2 => ?_
  refine At.perm sel3 ?_
  refine At.perm sel2 ?_
  refine At.perm sel3 ?_
  refine At.perm sel3 ?_
  refine At.drawnS [N2, N3, R] [3,4,5,6] [] [0,2,1,3,4,5,6] (by kernel_rfl) (by kernel_rfl) (.cons _ (.refl _)) ?_
  refine op_loadAggB (ds := u64s (wl x)) (nxsf rfl rfl rfl) ag24 rfl B3 (by first | (rw [List.drop_zero, List.take_of_length_le (by first | (simp; done) | (simp; omega))]; done) | rfl) (by first | (simp; done) | (simp; omega)) mem1 rfl ?_
  refine op_loadAggB (ds := u64s (wl m)) (nxsf rfl rfl rfl) ag24 rfl B2 (by first | (rw [List.drop_zero, List.take_of_length_le (by first | (simp; done) | (simp; omega))]; done) | rfl) (by first | (simp; done) | (simp; omega)) mem0 rfl ?_
  refine op_callA (Nx.agree (nxsm rfl rfl rfl)) (.cons rfl .nil) (rN_w hx) Try.func104 rfl rfl (by simp) rfl ?_
  rintro v6 L6 ⟨M6, p6, c6, rfl, rfl, s6⟩
  change At _ _ _ [M6, N4, N2, N3, R] _
  refine At.perm sel4 ?_
  refine At.perm sel4 ?_
  refine At.perm sel4 ?_
  refine At.perm sel3 ?_
  refine At.perm sel4 ?_
  refine At.moreS (Lst := [N2, N3, R]) (Lst' := [M6, N2, N3, R]) (.cons _ (.refl _)) (.cons _ (.refl _)) ?_
  refine op_callA (Nx.agree (nxss rfl rfl rfl rfl)) (.cons rfl .nil) (far_f hm) Try.func135 rfl rfl (by simp) rfl ?_
  rintro v8 L8 ⟨rfl, rfl⟩
  change At _ _ _ [N4, M6, N2, N3, R] _
  refine At.anyS (.refl _) ?_
  refine op_callA (Nx.agree (nxss rfl rfl rfl rfl)) (.cons rfl (.cons rfl .nil)) (rShr_f s6 (amt m) (by omega) (by omega)) Try.func125 rfl rfl (by simp) rfl ?_
  rintro v9 L9 ⟨M9, p9, c9, rfl, rfl, s9⟩
  change At _ _ _ [M9, N4, M6, N2, N3, R] _
  rw [v32_digsOf] at s9 ⊢
  refine At.anyS (.refl _) ?_
  refine op_callA (Nx.agree (nxss rfl rfl rfl rfl)) (.cons rfl .nil) (rW_w s9) Try.func105 rfl rfl (by simp) rfl ?_
  rintro v10 L10 ⟨rfl, rfl⟩
  change At _ _ _ [M9, N4, M6, N2, N3, R] _
  refine At.anyS (.refl _) ?_
  refine op_store (nxsl rfl rfl rfl rfl) sz24 rfl rfl rfl rfl rfl B4 (by simp) sel1 (fun N4 B4 => ?_)
  rw [setL_whole (by simp)] at B4
  refine At.sNil ?_
  refine At.norm (hk_2 ?_)
  refine At.ret (?_)
  refine At.sub (L' := [N4, R]) (.cons_cons _ (.cons _ (.cons _ (.cons _ (.cons _ (.cons_cons _ (.slnil))))))) ?_
  refine At.ret1 (L1 := []) rfl (.cell rfl (res_agg (ds := u64s (wl (x / 2 ^ amt m))) ag24 B4 (by first | (rw [List.drop_zero, List.take_of_length_le (by first | (simp; done) | (simp; omega))]; done) | rfl) (by first | (simp; done) | (simp; omega)) mem0) .nil) (.cons _ (.refl _)) (.refl _) ?_
  exact ⟨rfl, rfl⟩
theorem div_wlt {x s : Nat} (hx : x < WW) : x / 2 ^ s < WW := Nat.lt_of_le_of_lt (Nat.div_le_self _ _) hx
theorem sub_wlt (x : Nat) : WW - 1 - x < WW := by have := WW_pos; omega
set_option maxRecDepth 100000 in
theorem rSar_t {m x : Nat} (hm : m < WW) (hx : x < WW) (h : negB x = true) : Fn Try.prog 93 #[wo m, wo x] [] [] (fun v L => v = wo (sarN (amt m) x) ∧ L = []) := by
  rw [sarN, if_pos h]
  refine Fn.enter (vs := [wo m, wo x]) Try.func93 rfl rfl rfl ?_
  intro E R hR
  change At _ _ E [R] _
  refine At.seq fun K1 hk_1 => ?_
  refine At.region ?_
  refine op_box (nxla rfl) rfl rfl rfl (fun N2 b2 B2 => ?_)
  change Blk N2 b2 _ (u64s (wl m)) at B2
  refine op_box (nxla rfl) rfl rfl rfl (fun N3 b3 B3 => ?_)
  change Blk N3 b3 _ (u64s (wl x)) at B3
  refine op_alloc (nxla rfl) ze24 rfl (fun N4 b4 B4 => ?_)
  change Blk N4 b4 _ [.int .u64 0, .int .u64 0, .int .u64 0, .int .u64 0] at B4
  refine At.opsNil ?_
  refine At.norm (hk_1 ?_)
  refine At.seq fun K2 hk_2 => ?_
  refine At.seq fun K3 hk_3 => ?_
  refine At.region ?_
  refine op_loadAggB (ds := u64s (wl x)) (nxlf rfl) ag24 rfl B3 (by first | (rw [List.drop_zero, List.take_of_length_le (by first | (simp; done) | (simp; omega))]; done) | rfl) (by first | (simp; done) | (simp; omega)) mem1 rfl ?_
  refine op_callA (nxla rfl) (.cons rfl .nil) (Minus_f hx) Try.func111 rfl rfl (by simp) rfl ?_
  rintro v6 L6 ⟨rfl, rfl⟩
  change At _ _ _ [N4, N3, N2, R] _
  rw [h]
  refine op_not (nxlf rfl) rfl rfl ?_
  refine At.opsNil ?_
  refine At.norm (hk_3 ?_)
  refine At.condF rfl ?_
  refine At.skip ?_
  refine At.norm (hk_2 ?_)
  refine At.seq fun K4 hk_4 => ?_
  refine At.perm sel3 ?_
  refine At.perm sel2 ?_
  refine At.perm sel3 ?_
  refine At.perm sel3 ?_
  refine At.drawnS [N2, N3, R] [3,4,5] [] [0,1,2,3,4,5] (by kernel_rfl) (by kernel_rfl) (.cons _ (.refl _)) ?_
  refine op_loadAggB (ds := u64s (wl m)) (nxsf rfl rfl rfl) ag24 rfl B2 (by first | (rw [List.drop_zero, List.take_of_length_le (by first | (simp; done) | (simp; omega))]; done) | rfl) (by first | (simp; done) | (simp; omega)) mem0 rfl ?_
  refine op_loadAggB (ds := u64s (wl x)) (nxsf rfl rfl rfl) ag24 rfl B3 (by first | (rw [List.drop_zero, List.take_of_length_le (by first | (simp; done) | (simp; omega))]; done) | rfl) (by first | (simp; done) | (simp; omega)) mem1 rfl ?_
  refine op_callA (Nx.agree (nxsm rfl rfl rfl)) (.cons rfl .nil) (rNot_w hx) Try.func86 rfl rfl (by simp) rfl ?_
  rintro v13 L13 ⟨rfl, rfl⟩
  change At _ _ _ [N4, N2, N3, R] _
  refine At.moreS (Lst := [N2, N3, R]) (Lst' := [N2, N3, R]) (.refl _) (.cons _ (.refl _)) ?_
  refine op_callA (Nx.agree (nxss rfl rfl rfl rfl)) (.cons rfl (.cons rfl .nil)) (rShr_w hm (sub_wlt x)) Try.func91 rfl rfl (by simp) rfl ?_
  rintro v14 L14 ⟨rfl, rfl⟩
  change At _ _ _ [N4, N2, N3, R] _
  refine At.anyS (.refl _) ?_
  refine op_callA (Nx.agree (nxss rfl rfl rfl rfl)) (.cons rfl .nil) (rNot_w (div_wlt (sub_wlt x))) Try.func86 rfl rfl (by simp) rfl ?_
  rintro v15 L15 ⟨rfl, rfl⟩
  change At _ _ _ [N4, N2, N3, R] _
  refine At.anyS (.refl _) ?_
  refine op_store (nxsl rfl rfl rfl rfl) sz24 rfl rfl rfl rfl rfl B4 (by simp) sel0 (fun N4 B4 => ?_)
  rw [setL_whole (by simp)] at B4
  refine At.sNil ?_
  refine At.norm (hk_4 ?_)
  refine At.ret (?_)
  refine At.sub (L' := [N4, R]) (.cons_cons _ (.cons _ (.cons _ (.cons_cons _ (.slnil))))) ?_
  refine At.ret1 (L1 := []) rfl (.cell rfl (res_agg (ds := u64s (wl (WW - 1 - (WW - 1 - x) / 2 ^ amt m))) ag24 B4 (by first | (rw [List.drop_zero, List.take_of_length_le (by first | (simp; done) | (simp; omega))]; done) | rfl) (by first | (simp; done) | (simp; omega)) mem0) .nil) (.cons _ (.refl _)) (.refl _) ?_
  exact ⟨rfl, rfl⟩
set_option maxRecDepth 100000 in
theorem rSar_n {m x : Nat} (hm : m < WW) (hx : x < WW) (h : negB x = false) : Fn Try.prog 93 #[wo m, wo x] [] [] (fun v L => v = wo (sarN (amt m) x) ∧ L = []) := by
  rw [sarN, if_neg (by rw [h]; exact Bool.false_ne_true)]
  refine Fn.enter (vs := [wo m, wo x]) Try.func93 rfl rfl rfl ?_
  intro E R hR
  change At _ _ E [R] _
  refine At.seq fun K1 hk_1 => ?_
  refine At.region ?_
  refine op_box (nxla rfl) rfl rfl rfl (fun N2 b2 B2 => ?_)
  change Blk N2 b2 _ (u64s (wl m)) at B2
  refine op_box (nxla rfl) rfl rfl rfl (fun N3 b3 B3 => ?_)
  change Blk N3 b3 _ (u64s (wl x)) at B3
  refine op_alloc (nxla rfl) ze24 rfl (fun N4 b4 B4 => ?_)
  change Blk N4 b4 _ [.int .u64 0, .int .u64 0, .int .u64 0, .int .u64 0] at B4
  refine At.opsNil ?_
  refine At.norm (hk_1 ?_)
  refine At.seq fun K2 hk_2 => ?_
  refine At.seq fun K3 hk_3 => ?_
  refine At.region ?_
  refine op_loadAggB (ds := u64s (wl x)) (nxlf rfl) ag24 rfl B3 (by first | (rw [List.drop_zero, List.take_of_length_le (by first | (simp; done) | (simp; omega))]; done) | rfl) (by first | (simp; done) | (simp; omega)) mem1 rfl ?_
  refine op_callA (nxla rfl) (.cons rfl .nil) (Minus_f hx) Try.func111 rfl rfl (by simp) rfl ?_
  rintro v6 L6 ⟨rfl, rfl⟩
  change At _ _ _ [N4, N3, N2, R] _
  rw [h]
  refine op_not (nxlf rfl) rfl rfl ?_
  refine At.opsNil ?_
  refine At.norm (hk_3 ?_)
  refine At.condT rfl ?_
  refine At.seq fun K4 hk_4 => ?_
  refine At.region ?_
  refine op_loadAggB (ds := u64s (wl m)) (nxlf rfl) ag24 rfl B2 (by first | (rw [List.drop_zero, List.take_of_length_le (by first | (simp; done) | (simp; omega))]; done) | rfl) (by first | (simp; done) | (simp; omega)) mem2 rfl ?_
  refine op_loadAggB (ds := u64s (wl x)) (nxlf rfl) ag24 rfl B3 (by first | (rw [List.drop_zero, List.take_of_length_le (by first | (simp; done) | (simp; omega))]; done) | rfl) (by first | (simp; done) | (simp; omega)) mem1 rfl ?_
  refine op_callA (nxla rfl) (.cons rfl (.cons rfl .nil)) (rShr_w hm hx) Try.func91 rfl rfl (by simp) rfl ?_
  rintro v10 L10 ⟨rfl, rfl⟩
  change At _ _ _ [N4, N3, N2, R] _
  refine op_store (nxl rfl) sz24 rfl rfl rfl rfl rfl B4 (by simp) sel0 (fun N4 B4 => ?_)
  rw [setL_whole (by simp)] at B4
  refine At.opsNil ?_
  refine At.norm (hk_4 ?_)
  refine At.ret (At.thenRet (?_))
  refine At.sub (L' := [N4, R]) (.cons_cons _ (.cons _ (.cons _ (.cons_cons _ (.slnil))))) ?_
  refine At.ret1 (L1 := []) rfl (.cell rfl (res_agg (ds := u64s (wl (x / 2 ^ amt m))) ag24 B4 (by first | (rw [List.drop_zero, List.take_of_length_le (by first | (simp; done) | (simp; omega))]; done) | rfl) (by first | (simp; done) | (simp; omega)) mem0) .nil) (.cons _ (.refl _)) (.refl _) ?_
  exact ⟨rfl, rfl⟩
theorem rSar_w {m x : Nat} (hm : m < WW) (hx : x < WW) : Fn Try.prog 93 #[wo m, wo x] [] [] (fun v L => v = wo (sarN (amt m) x) ∧ L = []) := by
  cases h : negB x with
  | true => exact rSar_t hm hx h
  | false => exact rSar_n hm hx h
set_option maxRecDepth 100000 in
theorem WSar_t {m x : Nat} (hm : m < WW) (hx : x < WW) (h : negB x = true) : Fn Try.prog 92 #[wo m, wo x] [] [] (fun v L => v = wo (sarN (amt m) x) ∧ L = []) := by
  rw [sarN, if_pos h]
  refine Fn.enter (vs := [wo m, wo x]) Try.func92 rfl rfl rfl ?_
  intro E R hR
  change At _ _ E [R] _
  refine At.seq fun K1 hk_1 => ?_
  refine At.region ?_
  refine op_box (nxla rfl) rfl rfl rfl (fun N2 b2 B2 => ?_)
  change Blk N2 b2 _ (u64s (wl m)) at B2
  refine op_box (nxla rfl) rfl rfl rfl (fun N3 b3 B3 => ?_)
  change Blk N3 b3 _ (u64s (wl x)) at B3
  refine op_alloc (nxla rfl) ze24 rfl (fun N4 b4 B4 => ?_)
  change Blk N4 b4 _ [.int .u64 0, .int .u64 0, .int .u64 0, .int .u64 0] at B4
  refine At.opsNil ?_
  refine At.norm (hk_1 ?_)
  refine At.seq fun K2 hk_2 => ?_
  refine At.seq fun K3 hk_3 => ?_
  refine At.region ?_
  refine op_loadAggB (ds := u64s (wl x)) (nxlf rfl) ag24 rfl B3 (by first | (rw [List.drop_zero, List.take_of_length_le (by first | (simp; done) | (simp; omega))]; done) | rfl) (by first | (simp; done) | (simp; omega)) mem1 rfl ?_
  refine op_callA (nxla rfl) (.cons rfl .nil) (below0_f hx) Try.func109 rfl rfl (by simp) rfl ?_
  rintro v6 L6 ⟨rfl, rfl⟩
  change At _ _ _ [N4, N3, N2, R] _
  rw [h]
  refine At.opsNil ?_
  refine At.norm (hk_3 ?_)
  refine At.condT rfl ?_
  refine At.seq fun K4 hk_4 => ?_
  refine At.perm sel3 ?_
  refine At.perm sel2 ?_
  refine At.perm sel3 ?_
  refine At.perm sel3 ?_
  refine At.drawnS [N2, N3, R] [3,4,5] [] [0,1,2,3,4,5] (by kernel_rfl) (by kernel_rfl) (.cons _ (.refl _)) ?_
  refine op_loadAggB (ds := u64s (wl m)) (nxsf rfl rfl rfl) ag24 rfl B2 (by first | (rw [List.drop_zero, List.take_of_length_le (by first | (simp; done) | (simp; omega))]; done) | rfl) (by first | (simp; done) | (simp; omega)) mem0 rfl ?_
  refine op_loadAggB (ds := u64s (wl x)) (nxsf rfl rfl rfl) ag24 rfl B3 (by first | (rw [List.drop_zero, List.take_of_length_le (by first | (simp; done) | (simp; omega))]; done) | rfl) (by first | (simp; done) | (simp; omega)) mem1 rfl ?_
  refine op_callA (Nx.agree (nxsm rfl rfl rfl)) (.cons rfl .nil) (WNot_f hx) Try.func46 rfl rfl (by simp) rfl ?_
  rintro v9 L9 ⟨rfl, rfl⟩
  change At _ _ _ [N4, N2, N3, R] _
  refine At.moreS (Lst := [N2, N3, R]) (Lst' := [N2, N3, R]) (.refl _) (.cons _ (.refl _)) ?_
  refine op_callA (Nx.agree (nxss rfl rfl rfl rfl)) (.cons rfl (.cons rfl .nil)) (WShr_f hm (sub_wlt x)) Try.func80 rfl rfl (by simp) rfl ?_
  rintro v10 L10 ⟨rfl, rfl⟩
  change At _ _ _ [N4, N2, N3, R] _
  refine At.anyS (.refl _) ?_
  refine op_callA (Nx.agree (nxss rfl rfl rfl rfl)) (.cons rfl .nil) (WNot_f (div_wlt (sub_wlt x))) Try.func46 rfl rfl (by simp) rfl ?_
  rintro v11 L11 ⟨rfl, rfl⟩
  change At _ _ _ [N4, N2, N3, R] _
  refine At.anyS (.refl _) ?_
  refine op_store (nxsl rfl rfl rfl rfl) sz24 rfl rfl rfl rfl rfl B4 (by simp) sel0 (fun N4 B4 => ?_)
  rw [setL_whole (by simp)] at B4
  refine At.sNil ?_
  refine At.norm (hk_4 ?_)
  refine At.ret (At.thenRet (?_))
  refine At.sub (L' := [N4, R]) (.cons_cons _ (.cons _ (.cons _ (.cons_cons _ (.slnil))))) ?_
  refine At.ret1 (L1 := []) rfl (.cell rfl (res_agg (ds := u64s (wl (WW - 1 - (WW - 1 - x) / 2 ^ amt m))) ag24 B4 (by first | (rw [List.drop_zero, List.take_of_length_le (by first | (simp; done) | (simp; omega))]; done) | rfl) (by first | (simp; done) | (simp; omega)) mem0) .nil) (.cons _ (.refl _)) (.refl _) ?_
  exact ⟨rfl, rfl⟩
set_option maxRecDepth 100000 in
theorem WSar_n {m x : Nat} (hm : m < WW) (hx : x < WW) (h : negB x = false) : Fn Try.prog 92 #[wo m, wo x] [] [] (fun v L => v = wo (sarN (amt m) x) ∧ L = []) := by
  rw [sarN, if_neg (by rw [h]; exact Bool.false_ne_true)]
  refine Fn.enter (vs := [wo m, wo x]) Try.func92 rfl rfl rfl ?_
  intro E R hR
  change At _ _ E [R] _
  refine At.seq fun K1 hk_1 => ?_
  refine At.region ?_
  refine op_box (nxla rfl) rfl rfl rfl (fun N2 b2 B2 => ?_)
  change Blk N2 b2 _ (u64s (wl m)) at B2
  refine op_box (nxla rfl) rfl rfl rfl (fun N3 b3 B3 => ?_)
  change Blk N3 b3 _ (u64s (wl x)) at B3
  refine op_alloc (nxla rfl) ze24 rfl (fun N4 b4 B4 => ?_)
  change Blk N4 b4 _ [.int .u64 0, .int .u64 0, .int .u64 0, .int .u64 0] at B4
  refine At.opsNil ?_
  refine At.norm (hk_1 ?_)
  refine At.seq fun K2 hk_2 => ?_
  refine At.seq fun K3 hk_3 => ?_
  refine At.region ?_
  refine op_loadAggB (ds := u64s (wl x)) (nxlf rfl) ag24 rfl B3 (by first | (rw [List.drop_zero, List.take_of_length_le (by first | (simp; done) | (simp; omega))]; done) | rfl) (by first | (simp; done) | (simp; omega)) mem1 rfl ?_
  refine op_callA (nxla rfl) (.cons rfl .nil) (below0_f hx) Try.func109 rfl rfl (by simp) rfl ?_
  rintro v6 L6 ⟨rfl, rfl⟩
  change At _ _ _ [N4, N3, N2, R] _
  rw [h]
  refine At.opsNil ?_
  refine At.norm (hk_3 ?_)
  refine At.condF rfl ?_
  refine At.skip ?_
  refine At.norm (hk_2 ?_)
  refine At.seq fun K4 hk_4 => ?_
  refine At.region ?_
  refine op_loadAggB (ds := u64s (wl m)) (nxlf rfl) ag24 rfl B2 (by first | (rw [List.drop_zero, List.take_of_length_le (by first | (simp; done) | (simp; omega))]; done) | rfl) (by first | (simp; done) | (simp; omega)) mem2 rfl ?_
  refine op_loadAggB (ds := u64s (wl x)) (nxlf rfl) ag24 rfl B3 (by first | (rw [List.drop_zero, List.take_of_length_le (by first | (simp; done) | (simp; omega))]; done) | rfl) (by first | (simp; done) | (simp; omega)) mem1 rfl ?_
  refine op_callA (nxla rfl) (.cons rfl (.cons rfl .nil)) (WShr_f hm hx) Try.func80 rfl rfl (by simp) rfl ?_
  rintro v14 L14 ⟨rfl, rfl⟩
  change At _ _ _ [N4, N3, N2, R] _
  refine op_store (nxl rfl) sz24 rfl rfl rfl rfl rfl B4 (by simp) sel0 (fun N4 B4 => ?_)
  rw [setL_whole (by simp)] at B4
  refine At.opsNil ?_
  refine At.norm (hk_4 ?_)
  refine At.ret (?_)
  refine At.sub (L' := [N4, R]) (.cons_cons _ (.cons _ (.cons _ (.cons_cons _ (.slnil))))) ?_
  refine At.ret1 (L1 := []) rfl (.cell rfl (res_agg (ds := u64s (wl (x / 2 ^ amt m))) ag24 B4 (by first | (rw [List.drop_zero, List.take_of_length_le (by first | (simp; done) | (simp; omega))]; done) | rfl) (by first | (simp; done) | (simp; omega)) mem0) .nil) (.cons _ (.refl _)) (.refl _) ?_
  exact ⟨rfl, rfl⟩
theorem WSar_w {m x : Nat} (hm : m < WW) (hx : x < WW) : Fn Try.prog 92 #[wo m, wo x] [] [] (fun v L => v = wo (sarN (amt m) x) ∧ L = []) := by
  cases h : negB x with
  | true => exact WSar_t hm hx h
  | false => exact WSar_n hm hx h
end Go.Proofs.Ytefljbbpaideaaa
