/- Package word and the reference: sums, products and powers modulo a word. No condition. -/
import Derived.Test.YtefljbbpaideaaaKWe
import Derived.Test.YtefljbbpaideaaaKWr2
import Derived.Test.YtefljbbpaideaaaKA6
namespace Go.Proofs.Ytefljbbpaideaaa
set_option linter.unusedVariables false
set_option linter.unusedSimpArgs false
open Go Go.RowKit
theorem u64s_app2 (a b : List UInt64) : u64s (a ++ b) = u64s a ++ u64s b := by simp [u64s]
set_option maxRecDepth 100000 in
theorem WAddmod_0 {x y : Nat} : Fn Try.prog 62 #[wo x, wo y, wo 0] [] [] (fun v L => v = wo 0 ∧ L = []) := by
  have h0 : wl 0 = [0, 0, 0, 0] := wl_zero
  refine Fn.enter (vs := [wo x, wo y, wo 0]) Try.func62 rfl rfl rfl ?_
  intro E R hR
  change At _ _ E [R] _
  refine At.seq fun K1 hk_1 => ?_
  refine At.region ?_
  refine op_box (nxla rfl) rfl rfl rfl (fun N3 b3 B3 => ?_)
  refine op_box (nxla rfl) rfl rfl rfl (fun N4 b4 B4 => ?_)
  refine op_box (nxla rfl) rfl rfl rfl (fun N5 b5 B5 => ?_)
  change Blk N5 b5 _ (u64s (wl 0)) at B5
  refine op_alloc (nxla rfl) ze24 rfl (fun N6 b6 B6 => ?_)
  change Blk N6 b6 _ [.int .u64 0, .int .u64 0, .int .u64 0, .int .u64 0] at B6
  refine At.opsNil ?_
  refine At.norm (hk_1 ?_)
  refine At.seq fun K2 hk_2 => ?_
  refine At.seq fun K3 hk_3 => ?_
  refine At.region ?_
  refine op_loadAggB (ds := u64s (wl 0)) (nxlf rfl) ag24 rfl B5 (by first | (rw [List.drop_zero, List.take_of_length_le (by first | (simp; done) | (simp; omega))]; done) | rfl) (by first | (simp; done) | (simp; omega)) mem1 rfl ?_
  refine op_buildA (out := [.int .u64 0, .int .u64 0, .int .u64 0, .int .u64 0]) (nxlf rfl) ze24 ae24 .nil rfl rfl ?_
  refine op_eqW (a := wl 0) (b := [0, 0, 0, 0]) (nxlf rfl) ae24 Try.underlying22 (by kernel_rfl) rfl rfl rfl rfl rfl ?_
  refine At.opsNil ?_
  refine At.norm (hk_3 ?_)
  refine At.condP rfl (fun c13 => ?_) (fun c13 => ?_)
  · refine At.seq fun K4 hk_4 => ?_
    refine At.region ?_
    refine op_loadAggB (ds := u64s (wl 0)) (nxlf rfl) ag24 rfl B5 (by first | (rw [List.drop_zero, List.take_of_length_le (by first | (simp; done) | (simp; omega))]; done) | rfl) (by first | (simp; done) | (simp; omega)) mem1 rfl ?_
    refine op_store (nxl rfl) sz24 rfl rfl rfl rfl rfl B6 (by simp) sel0 (fun N6 B6 => ?_)
    rw [setL_whole (by simp)] at B6
    refine At.opsNil ?_
    refine At.norm (hk_4 ?_)
    refine At.ret (At.thenRet (?_))
    refine At.sub (L' := [N6, R]) (.cons_cons _ (.cons _ (.cons _ (.cons _ (.cons_cons _ (.slnil)))))) ?_
    refine At.ret1 (L1 := []) rfl (.cell rfl (res_agg (ds := u64s (wl 0)) ag24 B6 (by first | (rw [List.drop_zero, List.take_of_length_le (by first | (simp; done) | (simp; omega))]; done) | rfl) (by first | (simp; done) | (simp; omega)) mem0) .nil) (.cons _ (.refl _)) (.refl _) ?_
    exact ⟨rfl, rfl⟩
  · exact absurd h0 c13
set_option maxRecDepth 100000 in
set_option maxHeartbeats 2000000 in
theorem WAddmod_p {x y m : Nat} (hx : x < WW) (hy : y < WW) (hm : m < WW) (hp : 0 < m) : Fn Try.prog 62 #[wo x, wo y, wo m] [] [] (fun v L => v = wo ((x + y) % m) ∧ L = []) := by
  have h0 := wl_eq_zero hm
  have hvm := v64_wl_lt hm
  have hl5 : (wl (x + y)).length = 4 := rfl
  refine Fn.enter (vs := [wo x, wo y, wo m]) Try.func62 rfl rfl rfl ?_
  intro E R hR
  change At _ _ E [R] _
  refine At.seq fun K1 hk_1 => ?_
  refine At.region ?_
  refine op_box (nxla rfl) rfl rfl rfl (fun N3 b3 B3 => ?_)
  change Blk N3 b3 _ (u64s (wl x)) at B3
  refine op_box (nxla rfl) rfl rfl rfl (fun N4 b4 B4 => ?_)
  change Blk N4 b4 _ (u64s (wl y)) at B4
  refine op_box (nxla rfl) rfl rfl rfl (fun N5 b5 B5 => ?_)
  change Blk N5 b5 _ (u64s (wl m)) at B5
  refine op_alloc (nxla rfl) ze24 rfl (fun N6 b6 B6 => ?_)
  change Blk N6 b6 _ [.int .u64 0, .int .u64 0, .int .u64 0, .int .u64 0] at B6
  refine At.opsNil ?_
  refine At.norm (hk_1 ?_)
  refine At.seq fun K2 hk_2 => ?_
  refine At.seq fun K3 hk_3 => ?_
  refine At.region ?_
  refine op_loadAggB (ds := u64s (wl m)) (nxlf rfl) ag24 rfl B5 (by first | (rw [List.drop_zero, List.take_of_length_le (by first | (simp; done) | (simp; omega))]; done) | rfl) (by first | (simp; done) | (simp; omega)) mem1 rfl ?_
  refine op_buildA (out := [.int .u64 0, .int .u64 0, .int .u64 0, .int .u64 0]) (nxlf rfl) ze24 ae24 .nil rfl rfl ?_
  refine op_eqW (a := wl m) (b := [0, 0, 0, 0]) (nxlf rfl) ae24 Try.underlying22 (by kernel_rfl) rfl rfl rfl rfl rfl ?_
  refine At.opsNil ?_
  refine At.norm (hk_3 ?_)
  refine At.condP rfl (fun c13 => ?_) (fun c13 => ?_)
  · exact absurd (h0.1 c13) (by omega)
  · refine At.skip ?_
    refine At.norm (hk_2 ?_)
    refine At.seq fun K4 hk_4 => ?_
    refine At.region ?_
    refine op_loadAggB (ds := u64s (wl x)) (nxlf rfl) ag24 rfl B3 (by first | (rw [List.drop_zero, List.take_of_length_le (by first | (simp; done) | (simp; omega))]; done) | rfl) (by first | (simp; done) | (simp; omega)) mem3 rfl ?_
    refine op_loadAggB (ds := u64s (wl y)) (nxlf rfl) ag24 rfl B4 (by first | (rw [List.drop_zero, List.take_of_length_le (by first | (simp; done) | (simp; omega))]; done) | rfl) (by first | (simp; done) | (simp; omega)) mem2 rfl ?_
    refine op_callA (nxla rfl) (.cons rfl (.cons rfl .nil)) (added_f hx hy) Try.func116 rfl rfl (by simp) rfl ?_
    rintro v18 L18 ⟨c, rfl, rfl, hs⟩
    change At _ _ _ [N6, N5, N4, N3, R] _
    refine op_move (nxlf rfl) rfl rfl ?_
    refine op_extract (nxlf rfl) rfl rfl rfl ?_
    refine op_extract (nxlf rfl) rfl rfl rfl ?_
    refine op_alloc (nxla rfl) ze24 rfl (fun N7 b7 B7 => ?_)
    change Blk N7 b7 _ [.int .u64 0, .int .u64 0, .int .u64 0, .int .u64 0] at B7
    refine op_store (nxl rfl) sz24 rfl rfl rfl rfl rfl B7 (by simp) sel0 (fun N7 B7 => ?_)
    rw [setL_whole (by simp)] at B7
    refine op_assign (nxlf rfl) rfl rfl ?_
    refine At.opsNil ?_
    refine At.norm (hk_4 ?_)
    refine At.seq fun K5 hk_5 => ?_
    refine At.meet (fun fr_ hp_ => ∃ (N10 : Heaplet) (b10 : Nat), fr_ = [(6, .pointer (some ⟨b6, 0, none⟩)), (10, .pointer (some ⟨b10, 0, none⟩))] ∧ hp_ = [N6, N10, R] ∧ (Blk N10 b10 24 (u64s (wl ((x + y) % m))))) ?_ (fun K5_ jk_5 => ?_)
    rotate_left
    · skip
      refine At.perm sel5 ?_
      refine At.perm sel1 ?_
      refine At.perm sel3 ?_
      refine At.perm sel5 ?_
      refine At.perm sel5 ?_
      refine At.perm sel5 ?_
      refine At.planS [N5, N7, R] (.take 0 (.take 1 (.take 4 (.fork 2 false (.fork 3 false (.fork 5 true (.take 6 (.take 7 (.take 8 (.fork 9 false (.fork 10 false (.fork 11 false (.fork 12 true .done .nofork) .nofork) .nofork) (.fork 10 false (.fork 9 false (.fork 11 false (.fork 12 true .done .nofork) .nofork) .nofork) .nofork))))) (.fork 9 false (.fork 5 false (.take 6 (.take 7 (.take 8 (.fork 10 false (.fork 11 false (.fork 12 true .done .nofork) .nofork) .nofork)))) (.fork 10 false (.fork 5 false (.take 6 (.take 7 (.take 8 (.fork 11 false (.fork 12 true .done .nofork) .nofork)))) .nofork) .nofork)) (.fork 10 false (.fork 5 false (.take 6 (.take 7 (.take 8 (.fork 9 false (.fork 11 false (.fork 12 true .done .nofork) .nofork) .nofork)))) (.fork 9 false (.fork 5 false (.take 6 (.take 7 (.take 8 (.fork 11 false (.fork 12 true .done .nofork) .nofork)))) .nofork) .nofork)) .nofork))) (.fork 9 false (.fork 3 false (.fork 5 false (.take 6 (.take 7 (.take 8 (.fork 10 false (.fork 11 false (.fork 12 true .done .nofork) .nofork) .nofork)))) (.fork 10 false (.fork 5 false (.take 6 (.take 7 (.take 8 (.fork 11 false (.fork 12 true .done .nofork) .nofork)))) .nofork) .nofork)) (.fork 10 false (.fork 3 false (.fork 5 false (.take 6 (.take 7 (.take 8 (.fork 11 false (.fork 12 true .done .nofork) .nofork)))) .nofork) .nofork) .nofork)) (.fork 10 false (.fork 3 false (.fork 5 false (.take 6 (.take 7 (.take 8 (.fork 9 false (.fork 11 false (.fork 12 true .done .nofork) .nofork) .nofork)))) (.fork 9 false (.fork 5 false (.take 6 (.take 7 (.take 8 (.fork 11 false (.fork 12 true .done .nofork) .nofork)))) .nofork) .nofork)) (.fork 9 false (.fork 3 false (.fork 5 false (.take 6 (.take 7 (.take 8 (.fork 11 false (.fork 12 true .done .nofork) .nofork)))) .nofork) .nofork) .nofork)) .nofork))) (.fork 9 false (.fork 2 false (.fork 3 false (.fork 5 false (.take 6 (.take 7 (.take 8 (.fork 10 false (.fork 11 false (.fork 12 true .done .nofork) .nofork) .nofork)))) (.fork 10 false (.fork 5 false (.take 6 (.take 7 (.take 8 (.fork 11 false (.fork 12 true .done .nofork) .nofork)))) .nofork) .nofork)) (.fork 10 false (.fork 3 false (.fork 5 false (.take 6 (.take 7 (.take 8 (.fork 11 false (.fork 12 true .done .nofork) .nofork)))) .nofork) .nofork) .nofork)) (.fork 10 false (.fork 2 false (.fork 3 false (.fork 5 false (.take 6 (.take 7 (.take 8 (.fork 11 false (.fork 12 true .done .nofork) .nofork)))) .nofork) .nofork) .nofork) .nofork)) (.fork 10 false (.fork 2 false (.fork 3 false (.fork 5 false (.take 6 (.take 7 (.take 8 (.fork 9 false (.fork 11 false (.fork 12 true .done .nofork) .nofork) .nofork)))) (.fork 9 false (.fork 5 false (.take 6 (.take 7 (.take 8 (.fork 11 false (.fork 12 true .done .nofork) .nofork)))) .nofork) .nofork)) (.fork 9 false (.fork 3 false (.fork 5 false (.take 6 (.take 7 (.take 8 (.fork 11 false (.fork 12 true .done .nofork) .nofork)))) .nofork) .nofork) .nofork)) (.fork 9 false (.fork 2 false (.fork 3 false (.fork 5 false (.take 6 (.take 7 (.take 8 (.fork 11 false (.fork 12 true .done .nofork) .nofork)))) .nofork) .nofork) .nofork) .nofork)) .nofork)))))) (by kernel_rfl) (by kernel_rfl) (.cons _ (.cons _ (.cons _ (.refl _)))) ?_
      have s7 := arr_part B7 (lo := 0) (hi := 4) (c := 4) (by omega) (by simp) (by omega) (by omega)
      have s5 := arr_part B5 (lo := 0) (hi := 4) (c := 4) (by omega) (by simp) (by omega) (by omega)
      change RSl N7 1 _ (4 - 0) (4 - 0) (u64s (wl (x + y))) at s7
      change RSl N5 1 _ (4 - 0) (4 - 0) (u64s (wl m)) at s5
      have hv : v64 (wl (x + y) ++ [c]) = x + y := by
        rw [v64_snoc, v64_wl, hl5, ← WW_eq, Nat.mul_comm]
        exact hs
      refine op_sliceA (nxpf rfl rfl) ae24 rfl .none .none .none (by omega) (by omega) (by omega) (by simp) rfl ?_
      refine op_move (nxpf rfl rfl) rfl rfl ?_
      refine op_sliceA (nxpf rfl rfl) ae24 rfl .none .none .none (by omega) (by omega) (by omega) (by simp) rfl ?_
      refine At.fork ?_ ?_
      rotate_left
      · refine At.fork ?_ ?_
        rotate_left
        · refine At.fork ?_ ?_
          rotate_left
          · exact At.pNo
          refine op_alloc (Nx.agree (nxpa rfl rfl)) ze24 rfl (fun N10 b10 B10 => ?_)
          change Blk N10 b10 _ [.int .u64 0, .int .u64 0, .int .u64 0, .int .u64 0] at B10
          refine At.andS (.cons _ (.cons _ (.cons _ (.cons _ (.refl _))))) ?_
          refine At.fork ?_ ?_
          rotate_left
          · refine At.fork ?_ ?_
            rotate_left
            · exact At.pNo
            refine op_alloc (Nx.agree (nxpa rfl rfl)) ze24 rfl (fun N9 b9 B9 => ?_)
            change Blk N9 b9 _ [.int .u64 0, .int .u64 0, .int .u64 0, .int .u64 0] at B9
            refine At.andS (.cons _ (.cons _ (.cons _ (.cons _ (.cons _ (.refl _)))))) ?_
            refine At.fork ?_ ?_
            rotate_left
            · exact At.pNo
            refine op_lit (Nx.agree (nxpa rfl rfl)) Try.underlying95 ze22 sz22 (.cons rfl .nil) rfl rfl (by simp [Value.cells]) rfl rfl rfl (fun N24 a24 r24 => ?_)
            simp only [flatV, List.flatMap_cons, List.flatMap_nil, Value.cells, List.append_nil, List.cons_append, List.nil_append] at r24
            have s24 := r24.rsl
            refine At.andS (.cons _ (.cons _ (.cons _ (.cons _ (.cons _ (.cons _ (.refl _))))))) ?_
            change RSl N24 1 _ 1 1 (u64s [c]) at s24
            refine At.fork ?_ ?_
            rotate_left
            · exact At.pNo
            refine op_appendG (Nx.agree (nxpa rfl rfl)) Try.underlying95 Try.underlying95 te22 rfl rfl s7 (by first | exact mem0 | exact mem1 | exact mem2 | exact mem3 | exact mem4 | exact mem5 | exact mem6 | exact mem7 | exact mem8 | exact mem9) s24 (by first | exact mem0 | exact mem1 | exact mem2 | exact mem3 | exact mem4 | exact mem5 | exact mem6 | exact mem7 | exact mem8 | exact mem9) (by omega) (by omega) (by omega) (by omega) (by omega) rfl (fun N25 a25 p25 r25 => ?_)
            have s25 := r25.rsl
            rw [← u64s_app2] at s25
            refine At.andS (.cons _ (.cons _ (.cons _ (.cons _ (.cons _ (.cons _ (.cons _ (.refl _)))))))) ?_
            refine At.fork ?_ ?_
            rotate_left
            · exact At.pNo
            refine op_callA (Nx.agree (nxpa rfl rfl)) (.cons rfl (.cons rfl .nil)) (divide_f s25 s5 (by omega) (by omega) (by rw [hvm]; exact hp)) Try.func131 rfl rfl (by simp) rfl ?_
            rintro v27 L27 ⟨rfl, rfl⟩
            change At _ _ _ [N25, N24, N9, N10, N6, N4, N3, N5, N7, R] _
            rw [hv, hvm]
            refine At.andS (.cons _ (.cons _ (.cons _ (.cons _ (.cons _ (.cons _ (.cons _ (.refl _)))))))) ?_
            refine op_move (nxpf rfl rfl) rfl rfl ?_
            refine op_extract (nxpf rfl rfl) rfl rfl rfl ?_
            refine op_extract (nxpf rfl rfl) rfl rfl rfl ?_
            refine At.fork ?_ ?_
            rotate_left
            · exact At.pNo
            refine op_store (nxpa rfl rfl) sz24 rfl rfl rfl rfl rfl B9 (by simp) sel2 (fun N9 B9 => ?_)
            rw [setL_whole (by simp)] at B9
            refine At.andS (.cons _ (.cons _ (.cons _ (.cons _ (.cons _ (.cons _ (.cons _ (.refl _)))))))) ?_
            refine At.fork ?_ ?_
            rotate_left
            · exact At.pNo
            refine op_store (nxpl rfl rfl) sz24 rfl rfl rfl rfl rfl B10 (by simp) sel3 (fun N10 B10 => ?_)
            rw [setL_whole (by simp)] at B10
            refine At.pDone ?_
            refine At.sub (L' := [N10, N6, R]) (.cons_cons _ (.cons _ (.cons _ (.cons _ (.cons_cons _ (.cons _ (.cons _ (.cons _ (.cons _ (.cons_cons _ (.slnil))))))))))) ?_
            refine At.perm sel2 ?_
            refine At.perm sel1 ?_
            refine At.perm sel2 ?_
            refine At.norm (jk_5 ?_ (.refl _) ⟨N10, b10, rfl, rfl, B10⟩)
            exact .cons (by first | exact lkI rfl (by omega) | rfl) (.cons (by first | exact lkI rfl (by omega) | rfl) .nil)
          refine op_lit (Nx.agree (nxpa rfl rfl)) Try.underlying95 ze22 sz22 (.cons rfl .nil) rfl rfl (by simp [Value.cells]) rfl rfl rfl (fun N24 a24 r24 => ?_)
          simp only [flatV, List.flatMap_cons, List.flatMap_nil, Value.cells, List.append_nil, List.cons_append, List.nil_append] at r24
          have s24 := r24.rsl
          refine At.andS (.cons _ (.cons _ (.cons _ (.cons _ (.cons _ (.refl _)))))) ?_
          change RSl N24 1 _ 1 1 (u64s [c]) at s24
          refine At.fork ?_ ?_
          rotate_left
          · refine At.fork ?_ ?_
            rotate_left
            · exact At.pNo
            refine op_alloc (Nx.agree (nxpa rfl rfl)) ze24 rfl (fun N9 b9 B9 => ?_)
            change Blk N9 b9 _ [.int .u64 0, .int .u64 0, .int .u64 0, .int .u64 0] at B9
            refine At.andS (.cons _ (.cons _ (.cons _ (.cons _ (.cons _ (.cons _ (.refl _))))))) ?_
            refine At.fork ?_ ?_
            rotate_left
            · exact At.pNo
            refine op_appendG (Nx.agree (nxpa rfl rfl)) Try.underlying95 Try.underlying95 te22 rfl rfl s7 (by first | exact mem0 | exact mem1 | exact mem2 | exact mem3 | exact mem4 | exact mem5 | exact mem6 | exact mem7 | exact mem8 | exact mem9) s24 (by first | exact mem0 | exact mem1 | exact mem2 | exact mem3 | exact mem4 | exact mem5 | exact mem6 | exact mem7 | exact mem8 | exact mem9) (by omega) (by omega) (by omega) (by omega) (by omega) rfl (fun N25 a25 p25 r25 => ?_)
            have s25 := r25.rsl
            rw [← u64s_app2] at s25
            refine At.andS (.cons _ (.cons _ (.cons _ (.cons _ (.cons _ (.cons _ (.cons _ (.refl _)))))))) ?_
            refine At.fork ?_ ?_
            rotate_left
            · exact At.pNo
            refine op_callA (Nx.agree (nxpa rfl rfl)) (.cons rfl (.cons rfl .nil)) (divide_f s25 s5 (by omega) (by omega) (by rw [hvm]; exact hp)) Try.func131 rfl rfl (by simp) rfl ?_
            rintro v27 L27 ⟨rfl, rfl⟩
            change At _ _ _ [N25, N9, N24, N10, N6, N4, N3, N5, N7, R] _
            rw [hv, hvm]
            refine At.andS (.cons _ (.cons _ (.cons _ (.cons _ (.cons _ (.cons _ (.cons _ (.refl _)))))))) ?_
            refine op_move (nxpf rfl rfl) rfl rfl ?_
            refine op_extract (nxpf rfl rfl) rfl rfl rfl ?_
            refine op_extract (nxpf rfl rfl) rfl rfl rfl ?_
            refine At.fork ?_ ?_
            rotate_left
            · exact At.pNo
            refine op_store (nxpa rfl rfl) sz24 rfl rfl rfl rfl rfl B9 (by simp) sel1 (fun N9 B9 => ?_)
            rw [setL_whole (by simp)] at B9
            refine At.andS (.cons _ (.cons _ (.cons _ (.cons _ (.cons _ (.cons _ (.cons _ (.refl _)))))))) ?_
            refine At.fork ?_ ?_
            rotate_left
            · exact At.pNo
            refine op_store (nxpl rfl rfl) sz24 rfl rfl rfl rfl rfl B10 (by simp) sel3 (fun N10 B10 => ?_)
            rw [setL_whole (by simp)] at B10
            refine At.pDone ?_
            refine At.sub (L' := [N10, N6, R]) (.cons_cons _ (.cons _ (.cons _ (.cons _ (.cons_cons _ (.cons _ (.cons _ (.cons _ (.cons _ (.cons_cons _ (.slnil))))))))))) ?_
            refine At.perm sel2 ?_
            refine At.perm sel1 ?_
            refine At.perm sel2 ?_
            refine At.norm (jk_5 ?_ (.refl _) ⟨N10, b10, rfl, rfl, B10⟩)
            exact .cons (by first | exact lkI rfl (by omega) | rfl) (.cons (by first | exact lkI rfl (by omega) | rfl) .nil)
          refine op_appendG (Nx.agree (nxpa rfl rfl)) Try.underlying95 Try.underlying95 te22 rfl rfl s7 (by first | exact mem0 | exact mem1 | exact mem2 | exact mem3 | exact mem4 | exact mem5 | exact mem6 | exact mem7 | exact mem8 | exact mem9) s24 (by first | exact mem0 | exact mem1 | exact mem2 | exact mem3 | exact mem4 | exact mem5 | exact mem6 | exact mem7 | exact mem8 | exact mem9) (by omega) (by omega) (by omega) (by omega) (by omega) rfl (fun N25 a25 p25 r25 => ?_)
          have s25 := r25.rsl
          rw [← u64s_app2] at s25
          refine At.andS (.cons _ (.cons _ (.cons _ (.cons _ (.cons _ (.cons _ (.refl _))))))) ?_
          refine At.fork ?_ ?_
          rotate_left
          · refine At.fork ?_ ?_
            rotate_left
            · exact At.pNo
            refine op_alloc (Nx.agree (nxpa rfl rfl)) ze24 rfl (fun N9 b9 B9 => ?_)
            change Blk N9 b9 _ [.int .u64 0, .int .u64 0, .int .u64 0, .int .u64 0] at B9
            refine At.andS (.cons _ (.cons _ (.cons _ (.cons _ (.cons _ (.cons _ (.cons _ (.refl _)))))))) ?_
            refine At.fork ?_ ?_
            rotate_left
            · exact At.pNo
            refine op_callA (Nx.agree (nxpa rfl rfl)) (.cons rfl (.cons rfl .nil)) (divide_f s25 s5 (by omega) (by omega) (by rw [hvm]; exact hp)) Try.func131 rfl rfl (by simp) rfl ?_
            rintro v27 L27 ⟨rfl, rfl⟩
            change At _ _ _ [N9, N25, N24, N10, N6, N4, N3, N5, N7, R] _
            rw [hv, hvm]
            refine At.andS (.cons _ (.cons _ (.cons _ (.cons _ (.cons _ (.cons _ (.cons _ (.refl _)))))))) ?_
            refine op_move (nxpf rfl rfl) rfl rfl ?_
            refine op_extract (nxpf rfl rfl) rfl rfl rfl ?_
            refine op_extract (nxpf rfl rfl) rfl rfl rfl ?_
            refine At.fork ?_ ?_
            rotate_left
            · exact At.pNo
            refine op_store (nxpa rfl rfl) sz24 rfl rfl rfl rfl rfl B9 (by simp) sel0 (fun N9 B9 => ?_)
            rw [setL_whole (by simp)] at B9
            refine At.andS (.cons _ (.cons _ (.cons _ (.cons _ (.cons _ (.cons _ (.cons _ (.refl _)))))))) ?_
            refine At.fork ?_ ?_
            rotate_left
            · exact At.pNo
            refine op_store (nxpl rfl rfl) sz24 rfl rfl rfl rfl rfl B10 (by simp) sel3 (fun N10 B10 => ?_)
            rw [setL_whole (by simp)] at B10
            refine At.pDone ?_
            refine At.sub (L' := [N10, N6, R]) (.cons_cons _ (.cons _ (.cons _ (.cons _ (.cons_cons _ (.cons _ (.cons _ (.cons _ (.cons _ (.cons_cons _ (.slnil))))))))))) ?_
            refine At.perm sel2 ?_
            refine At.perm sel1 ?_
            refine At.perm sel2 ?_
            refine At.norm (jk_5 ?_ (.refl _) ⟨N10, b10, rfl, rfl, B10⟩)
            exact .cons (by first | exact lkI rfl (by omega) | rfl) (.cons (by first | exact lkI rfl (by omega) | rfl) .nil)
          refine op_callA (Nx.agree (nxpa rfl rfl)) (.cons rfl (.cons rfl .nil)) (divide_f s25 s5 (by omega) (by omega) (by rw [hvm]; exact hp)) Try.func131 rfl rfl (by simp) rfl ?_
          rintro v27 L27 ⟨rfl, rfl⟩
          change At _ _ _ [N25, N24, N10, N6, N4, N3, N5, N7, R] _
          rw [hv, hvm]
          refine At.andS (.cons _ (.cons _ (.cons _ (.cons _ (.cons _ (.cons _ (.refl _))))))) ?_
          refine op_move (nxpf rfl rfl) rfl rfl ?_
          refine op_extract (nxpf rfl rfl) rfl rfl rfl ?_
          refine op_extract (nxpf rfl rfl) rfl rfl rfl ?_
          refine At.fork ?_ ?_
          rotate_left
          · exact At.pNo
          refine op_alloc (Nx.agree (nxpa rfl rfl)) ze24 rfl (fun N9 b9 B9 => ?_)
          change Blk N9 b9 _ [.int .u64 0, .int .u64 0, .int .u64 0, .int .u64 0] at B9
          refine At.andS (.cons _ (.cons _ (.cons _ (.cons _ (.cons _ (.cons _ (.cons _ (.refl _)))))))) ?_
          refine At.fork ?_ ?_
          rotate_left
          · exact At.pNo
          refine op_store (nxpa rfl rfl) sz24 rfl rfl rfl rfl rfl B9 (by simp) sel0 (fun N9 B9 => ?_)
          rw [setL_whole (by simp)] at B9
          refine At.andS (.cons _ (.cons _ (.cons _ (.cons _ (.cons _ (.cons _ (.cons _ (.refl _)))))))) ?_
          refine At.fork ?_ ?_
          rotate_left
          · exact At.pNo
          refine op_store (nxpl rfl rfl) sz24 rfl rfl rfl rfl rfl B10 (by simp) sel3 (fun N10 B10 => ?_)
          rw [setL_whole (by simp)] at B10
          refine At.pDone ?_
          refine At.sub (L' := [N10, N6, R]) (.cons_cons _ (.cons _ (.cons _ (.cons _ (.cons_cons _ (.cons _ (.cons _ (.cons _ (.cons _ (.cons_cons _ (.slnil))))))))))) ?_
          refine At.perm sel2 ?_
          refine At.perm sel1 ?_
          refine At.perm sel2 ?_
          refine At.norm (jk_5 ?_ (.refl _) ⟨N10, b10, rfl, rfl, B10⟩)
          exact .cons (by first | exact lkI rfl (by omega) | rfl) (.cons (by first | exact lkI rfl (by omega) | rfl) .nil)
        refine op_alloc (Nx.agree (nxpa rfl rfl)) ze24 rfl (fun N9 b9 B9 => ?_)
        change Blk N9 b9 _ [.int .u64 0, .int .u64 0, .int .u64 0, .int .u64 0] at B9
        refine At.andS (.cons _ (.cons _ (.cons _ (.cons _ (.refl _))))) ?_
        refine At.fork ?_ ?_
        rotate_left
        · refine At.fork ?_ ?_
          rotate_left
          · exact At.pNo
          refine op_alloc (Nx.agree (nxpa rfl rfl)) ze24 rfl (fun N10 b10 B10 => ?_)
          change Blk N10 b10 _ [.int .u64 0, .int .u64 0, .int .u64 0, .int .u64 0] at B10
          refine At.andS (.cons _ (.cons _ (.cons _ (.cons _ (.cons _ (.refl _)))))) ?_
          refine At.fork ?_ ?_
          rotate_left
          · exact At.pNo
          refine op_lit (Nx.agree (nxpa rfl rfl)) Try.underlying95 ze22 sz22 (.cons rfl .nil) rfl rfl (by simp [Value.cells]) rfl rfl rfl (fun N24 a24 r24 => ?_)
          simp only [flatV, List.flatMap_cons, List.flatMap_nil, Value.cells, List.append_nil, List.cons_append, List.nil_append] at r24
          have s24 := r24.rsl
          refine At.andS (.cons _ (.cons _ (.cons _ (.cons _ (.cons _ (.cons _ (.refl _))))))) ?_
          change RSl N24 1 _ 1 1 (u64s [c]) at s24
          refine At.fork ?_ ?_
          rotate_left
          · exact At.pNo
          refine op_appendG (Nx.agree (nxpa rfl rfl)) Try.underlying95 Try.underlying95 te22 rfl rfl s7 (by first | exact mem0 | exact mem1 | exact mem2 | exact mem3 | exact mem4 | exact mem5 | exact mem6 | exact mem7 | exact mem8 | exact mem9) s24 (by first | exact mem0 | exact mem1 | exact mem2 | exact mem3 | exact mem4 | exact mem5 | exact mem6 | exact mem7 | exact mem8 | exact mem9) (by omega) (by omega) (by omega) (by omega) (by omega) rfl (fun N25 a25 p25 r25 => ?_)
          have s25 := r25.rsl
          rw [← u64s_app2] at s25
          refine At.andS (.cons _ (.cons _ (.cons _ (.cons _ (.cons _ (.cons _ (.cons _ (.refl _)))))))) ?_
          refine At.fork ?_ ?_
          rotate_left
          · exact At.pNo
          refine op_callA (Nx.agree (nxpa rfl rfl)) (.cons rfl (.cons rfl .nil)) (divide_f s25 s5 (by omega) (by omega) (by rw [hvm]; exact hp)) Try.func131 rfl rfl (by simp) rfl ?_
          rintro v27 L27 ⟨rfl, rfl⟩
          change At _ _ _ [N25, N24, N10, N9, N6, N4, N3, N5, N7, R] _
          rw [hv, hvm]
          refine At.andS (.cons _ (.cons _ (.cons _ (.cons _ (.cons _ (.cons _ (.cons _ (.refl _)))))))) ?_
          refine op_move (nxpf rfl rfl) rfl rfl ?_
          refine op_extract (nxpf rfl rfl) rfl rfl rfl ?_
          refine op_extract (nxpf rfl rfl) rfl rfl rfl ?_
          refine At.fork ?_ ?_
          rotate_left
          · exact At.pNo
          refine op_store (nxpa rfl rfl) sz24 rfl rfl rfl rfl rfl B9 (by simp) sel3 (fun N9 B9 => ?_)
          rw [setL_whole (by simp)] at B9
          refine At.andS (.cons _ (.cons _ (.cons _ (.cons _ (.cons _ (.cons _ (.cons _ (.refl _)))))))) ?_
          refine At.fork ?_ ?_
          rotate_left
          · exact At.pNo
          refine op_store (nxpl rfl rfl) sz24 rfl rfl rfl rfl rfl B10 (by simp) sel3 (fun N10 B10 => ?_)
          rw [setL_whole (by simp)] at B10
          refine At.pDone ?_
          refine At.sub (L' := [N10, N6, R]) (.cons_cons _ (.cons _ (.cons _ (.cons _ (.cons_cons _ (.cons _ (.cons _ (.cons _ (.cons _ (.cons_cons _ (.slnil))))))))))) ?_
          refine At.perm sel2 ?_
          refine At.perm sel1 ?_
          refine At.perm sel2 ?_
          refine At.norm (jk_5 ?_ (.refl _) ⟨N10, b10, rfl, rfl, B10⟩)
          exact .cons (by first | exact lkI rfl (by omega) | rfl) (.cons (by first | exact lkI rfl (by omega) | rfl) .nil)
        refine op_lit (Nx.agree (nxpa rfl rfl)) Try.underlying95 ze22 sz22 (.cons rfl .nil) rfl rfl (by simp [Value.cells]) rfl rfl rfl (fun N24 a24 r24 => ?_)
        simp only [flatV, List.flatMap_cons, List.flatMap_nil, Value.cells, List.append_nil, List.cons_append, List.nil_append] at r24
        have s24 := r24.rsl
        refine At.andS (.cons _ (.cons _ (.cons _ (.cons _ (.cons _ (.refl _)))))) ?_
        change RSl N24 1 _ 1 1 (u64s [c]) at s24
        refine At.fork ?_ ?_
        rotate_left
        · refine At.fork ?_ ?_
          rotate_left
          · exact At.pNo
          refine op_alloc (Nx.agree (nxpa rfl rfl)) ze24 rfl (fun N10 b10 B10 => ?_)
          change Blk N10 b10 _ [.int .u64 0, .int .u64 0, .int .u64 0, .int .u64 0] at B10
          refine At.andS (.cons _ (.cons _ (.cons _ (.cons _ (.cons _ (.cons _ (.refl _))))))) ?_
          refine At.fork ?_ ?_
          rotate_left
          · exact At.pNo
          refine op_appendG (Nx.agree (nxpa rfl rfl)) Try.underlying95 Try.underlying95 te22 rfl rfl s7 (by first | exact mem0 | exact mem1 | exact mem2 | exact mem3 | exact mem4 | exact mem5 | exact mem6 | exact mem7 | exact mem8 | exact mem9) s24 (by first | exact mem0 | exact mem1 | exact mem2 | exact mem3 | exact mem4 | exact mem5 | exact mem6 | exact mem7 | exact mem8 | exact mem9) (by omega) (by omega) (by omega) (by omega) (by omega) rfl (fun N25 a25 p25 r25 => ?_)
          have s25 := r25.rsl
          rw [← u64s_app2] at s25
          refine At.andS (.cons _ (.cons _ (.cons _ (.cons _ (.cons _ (.cons _ (.cons _ (.refl _)))))))) ?_
          refine At.fork ?_ ?_
          rotate_left
          · exact At.pNo
          refine op_callA (Nx.agree (nxpa rfl rfl)) (.cons rfl (.cons rfl .nil)) (divide_f s25 s5 (by omega) (by omega) (by rw [hvm]; exact hp)) Try.func131 rfl rfl (by simp) rfl ?_
          rintro v27 L27 ⟨rfl, rfl⟩
          change At _ _ _ [N25, N10, N24, N9, N6, N4, N3, N5, N7, R] _
          rw [hv, hvm]
          refine At.andS (.cons _ (.cons _ (.cons _ (.cons _ (.cons _ (.cons _ (.cons _ (.refl _)))))))) ?_
          refine op_move (nxpf rfl rfl) rfl rfl ?_
          refine op_extract (nxpf rfl rfl) rfl rfl rfl ?_
          refine op_extract (nxpf rfl rfl) rfl rfl rfl ?_
          refine At.fork ?_ ?_
          rotate_left
          · exact At.pNo
          refine op_store (nxpa rfl rfl) sz24 rfl rfl rfl rfl rfl B9 (by simp) sel3 (fun N9 B9 => ?_)
          rw [setL_whole (by simp)] at B9
          refine At.andS (.cons _ (.cons _ (.cons _ (.cons _ (.cons _ (.cons _ (.cons _ (.refl _)))))))) ?_
          refine At.fork ?_ ?_
          rotate_left
          · exact At.pNo
          refine op_store (nxpl rfl rfl) sz24 rfl rfl rfl rfl rfl B10 (by simp) sel2 (fun N10 B10 => ?_)
          rw [setL_whole (by simp)] at B10
          refine At.pDone ?_
          refine At.sub (L' := [N10, N6, R]) (.cons_cons _ (.cons _ (.cons _ (.cons _ (.cons_cons _ (.cons _ (.cons _ (.cons _ (.cons _ (.cons_cons _ (.slnil))))))))))) ?_
          refine At.perm sel2 ?_
          refine At.perm sel1 ?_
          refine At.perm sel2 ?_
          refine At.norm (jk_5 ?_ (.refl _) ⟨N10, b10, rfl, rfl, B10⟩)
          exact .cons (by first | exact lkI rfl (by omega) | rfl) (.cons (by first | exact lkI rfl (by omega) | rfl) .nil)
        refine op_appendG (Nx.agree (nxpa rfl rfl)) Try.underlying95 Try.underlying95 te22 rfl rfl s7 (by first | exact mem0 | exact mem1 | exact mem2 | exact mem3 | exact mem4 | exact mem5 | exact mem6 | exact mem7 | exact mem8 | exact mem9) s24 (by first | exact mem0 | exact mem1 | exact mem2 | exact mem3 | exact mem4 | exact mem5 | exact mem6 | exact mem7 | exact mem8 | exact mem9) (by omega) (by omega) (by omega) (by omega) (by omega) rfl (fun N25 a25 p25 r25 => ?_)
        have s25 := r25.rsl
        rw [← u64s_app2] at s25
        refine At.andS (.cons _ (.cons _ (.cons _ (.cons _ (.cons _ (.cons _ (.refl _))))))) ?_
        refine At.fork ?_ ?_
        rotate_left
        · refine At.fork ?_ ?_
          rotate_left
          · exact At.pNo
          refine op_alloc (Nx.agree (nxpa rfl rfl)) ze24 rfl (fun N10 b10 B10 => ?_)
          change Blk N10 b10 _ [.int .u64 0, .int .u64 0, .int .u64 0, .int .u64 0] at B10
          refine At.andS (.cons _ (.cons _ (.cons _ (.cons _ (.cons _ (.cons _ (.cons _ (.refl _)))))))) ?_
          refine At.fork ?_ ?_
          rotate_left
          · exact At.pNo
          refine op_callA (Nx.agree (nxpa rfl rfl)) (.cons rfl (.cons rfl .nil)) (divide_f s25 s5 (by omega) (by omega) (by rw [hvm]; exact hp)) Try.func131 rfl rfl (by simp) rfl ?_
          rintro v27 L27 ⟨rfl, rfl⟩
          change At _ _ _ [N10, N25, N24, N9, N6, N4, N3, N5, N7, R] _
          rw [hv, hvm]
          refine At.andS (.cons _ (.cons _ (.cons _ (.cons _ (.cons _ (.cons _ (.cons _ (.refl _)))))))) ?_
          refine op_move (nxpf rfl rfl) rfl rfl ?_
          refine op_extract (nxpf rfl rfl) rfl rfl rfl ?_
          refine op_extract (nxpf rfl rfl) rfl rfl rfl ?_
          refine At.fork ?_ ?_
          rotate_left
          · exact At.pNo
          refine op_store (nxpa rfl rfl) sz24 rfl rfl rfl rfl rfl B9 (by simp) sel3 (fun N9 B9 => ?_)
          rw [setL_whole (by simp)] at B9
          refine At.andS (.cons _ (.cons _ (.cons _ (.cons _ (.cons _ (.cons _ (.cons _ (.refl _)))))))) ?_
          refine At.fork ?_ ?_
          rotate_left
          · exact At.pNo
          refine op_store (nxpl rfl rfl) sz24 rfl rfl rfl rfl rfl B10 (by simp) sel1 (fun N10 B10 => ?_)
          rw [setL_whole (by simp)] at B10
          refine At.pDone ?_
          refine At.sub (L' := [N10, N6, R]) (.cons_cons _ (.cons _ (.cons _ (.cons _ (.cons_cons _ (.cons _ (.cons _ (.cons _ (.cons _ (.cons_cons _ (.slnil))))))))))) ?_
          refine At.perm sel2 ?_
          refine At.perm sel1 ?_
          refine At.perm sel2 ?_
          refine At.norm (jk_5 ?_ (.refl _) ⟨N10, b10, rfl, rfl, B10⟩)
          exact .cons (by first | exact lkI rfl (by omega) | rfl) (.cons (by first | exact lkI rfl (by omega) | rfl) .nil)
        refine op_callA (Nx.agree (nxpa rfl rfl)) (.cons rfl (.cons rfl .nil)) (divide_f s25 s5 (by omega) (by omega) (by rw [hvm]; exact hp)) Try.func131 rfl rfl (by simp) rfl ?_
        rintro v27 L27 ⟨rfl, rfl⟩
        change At _ _ _ [N25, N24, N9, N6, N4, N3, N5, N7, R] _
        rw [hv, hvm]
        refine At.andS (.cons _ (.cons _ (.cons _ (.cons _ (.cons _ (.cons _ (.refl _))))))) ?_
        refine op_move (nxpf rfl rfl) rfl rfl ?_
        refine op_extract (nxpf rfl rfl) rfl rfl rfl ?_
        refine op_extract (nxpf rfl rfl) rfl rfl rfl ?_
        refine At.fork ?_ ?_
        rotate_left
        · exact At.pNo
        refine op_alloc (Nx.agree (nxpa rfl rfl)) ze24 rfl (fun N10 b10 B10 => ?_)
        change Blk N10 b10 _ [.int .u64 0, .int .u64 0, .int .u64 0, .int .u64 0] at B10
        refine At.andS (.cons _ (.cons _ (.cons _ (.cons _ (.cons _ (.cons _ (.cons _ (.refl _)))))))) ?_
        refine At.fork ?_ ?_
        rotate_left
        · exact At.pNo
        refine op_store (nxpa rfl rfl) sz24 rfl rfl rfl rfl rfl B9 (by simp) sel3 (fun N9 B9 => ?_)
        rw [setL_whole (by simp)] at B9
        refine At.andS (.cons _ (.cons _ (.cons _ (.cons _ (.cons _ (.cons _ (.cons _ (.refl _)))))))) ?_
        refine At.fork ?_ ?_
        rotate_left
        · exact At.pNo
        refine op_store (nxpl rfl rfl) sz24 rfl rfl rfl rfl rfl B10 (by simp) sel1 (fun N10 B10 => ?_)
        rw [setL_whole (by simp)] at B10
        refine At.pDone ?_
        refine At.sub (L' := [N10, N6, R]) (.cons_cons _ (.cons _ (.cons _ (.cons _ (.cons_cons _ (.cons _ (.cons _ (.cons _ (.cons _ (.cons_cons _ (.slnil))))))))))) ?_
        refine At.perm sel2 ?_
        refine At.perm sel1 ?_
        refine At.perm sel2 ?_
        refine At.norm (jk_5 ?_ (.refl _) ⟨N10, b10, rfl, rfl, B10⟩)
        exact .cons (by first | exact lkI rfl (by omega) | rfl) (.cons (by first | exact lkI rfl (by omega) | rfl) .nil)
      refine op_lit (Nx.agree (nxpa rfl rfl)) Try.underlying95 ze22 sz22 (.cons rfl .nil) rfl rfl (by simp [Value.cells]) rfl rfl rfl (fun N24 a24 r24 => ?_)
      simp only [flatV, List.flatMap_cons, List.flatMap_nil, Value.cells, List.append_nil, List.cons_append, List.nil_append] at r24
      have s24 := r24.rsl
      refine At.andS (.cons _ (.cons _ (.cons _ (.cons _ (.refl _))))) ?_
      change RSl N24 1 _ 1 1 (u64s [c]) at s24
      refine At.fork ?_ ?_
      rotate_left
      · refine At.fork ?_ ?_
        rotate_left
        · refine At.fork ?_ ?_
          rotate_left
          · exact At.pNo
          refine op_alloc (Nx.agree (nxpa rfl rfl)) ze24 rfl (fun N10 b10 B10 => ?_)
          change Blk N10 b10 _ [.int .u64 0, .int .u64 0, .int .u64 0, .int .u64 0] at B10
          refine At.andS (.cons _ (.cons _ (.cons _ (.cons _ (.cons _ (.refl _)))))) ?_
          refine At.fork ?_ ?_
          rotate_left
          · refine At.fork ?_ ?_
            rotate_left
            · exact At.pNo
            refine op_alloc (Nx.agree (nxpa rfl rfl)) ze24 rfl (fun N9 b9 B9 => ?_)
            change Blk N9 b9 _ [.int .u64 0, .int .u64 0, .int .u64 0, .int .u64 0] at B9
            refine At.andS (.cons _ (.cons _ (.cons _ (.cons _ (.cons _ (.cons _ (.refl _))))))) ?_
            refine At.fork ?_ ?_
            rotate_left
            · exact At.pNo
            refine op_appendG (Nx.agree (nxpa rfl rfl)) Try.underlying95 Try.underlying95 te22 rfl rfl s7 (by first | exact mem0 | exact mem1 | exact mem2 | exact mem3 | exact mem4 | exact mem5 | exact mem6 | exact mem7 | exact mem8 | exact mem9) s24 (by first | exact mem0 | exact mem1 | exact mem2 | exact mem3 | exact mem4 | exact mem5 | exact mem6 | exact mem7 | exact mem8 | exact mem9) (by omega) (by omega) (by omega) (by omega) (by omega) rfl (fun N25 a25 p25 r25 => ?_)
            have s25 := r25.rsl
            rw [← u64s_app2] at s25
            refine At.andS (.cons _ (.cons _ (.cons _ (.cons _ (.cons _ (.cons _ (.cons _ (.refl _)))))))) ?_
            refine At.fork ?_ ?_
            rotate_left
            · exact At.pNo
            refine op_callA (Nx.agree (nxpa rfl rfl)) (.cons rfl (.cons rfl .nil)) (divide_f s25 s5 (by omega) (by omega) (by rw [hvm]; exact hp)) Try.func131 rfl rfl (by simp) rfl ?_
            rintro v27 L27 ⟨rfl, rfl⟩
            change At _ _ _ [N25, N9, N10, N24, N6, N4, N3, N5, N7, R] _
            rw [hv, hvm]
            refine At.andS (.cons _ (.cons _ (.cons _ (.cons _ (.cons _ (.cons _ (.cons _ (.refl _)))))))) ?_
            refine op_move (nxpf rfl rfl) rfl rfl ?_
            refine op_extract (nxpf rfl rfl) rfl rfl rfl ?_
            refine op_extract (nxpf rfl rfl) rfl rfl rfl ?_
            refine At.fork ?_ ?_
            rotate_left
            · exact At.pNo
            refine op_store (nxpa rfl rfl) sz24 rfl rfl rfl rfl rfl B9 (by simp) sel1 (fun N9 B9 => ?_)
            rw [setL_whole (by simp)] at B9
            refine At.andS (.cons _ (.cons _ (.cons _ (.cons _ (.cons _ (.cons _ (.cons _ (.refl _)))))))) ?_
            refine At.fork ?_ ?_
            rotate_left
            · exact At.pNo
            refine op_store (nxpl rfl rfl) sz24 rfl rfl rfl rfl rfl B10 (by simp) sel2 (fun N10 B10 => ?_)
            rw [setL_whole (by simp)] at B10
            refine At.pDone ?_
            refine At.sub (L' := [N10, N6, R]) (.cons_cons _ (.cons _ (.cons _ (.cons _ (.cons_cons _ (.cons _ (.cons _ (.cons _ (.cons _ (.cons_cons _ (.slnil))))))))))) ?_
            refine At.perm sel2 ?_
            refine At.perm sel1 ?_
            refine At.perm sel2 ?_
            refine At.norm (jk_5 ?_ (.refl _) ⟨N10, b10, rfl, rfl, B10⟩)
            exact .cons (by first | exact lkI rfl (by omega) | rfl) (.cons (by first | exact lkI rfl (by omega) | rfl) .nil)
          refine op_appendG (Nx.agree (nxpa rfl rfl)) Try.underlying95 Try.underlying95 te22 rfl rfl s7 (by first | exact mem0 | exact mem1 | exact mem2 | exact mem3 | exact mem4 | exact mem5 | exact mem6 | exact mem7 | exact mem8 | exact mem9) s24 (by first | exact mem0 | exact mem1 | exact mem2 | exact mem3 | exact mem4 | exact mem5 | exact mem6 | exact mem7 | exact mem8 | exact mem9) (by omega) (by omega) (by omega) (by omega) (by omega) rfl (fun N25 a25 p25 r25 => ?_)
          have s25 := r25.rsl
          rw [← u64s_app2] at s25
          refine At.andS (.cons _ (.cons _ (.cons _ (.cons _ (.cons _ (.cons _ (.refl _))))))) ?_
          refine At.fork ?_ ?_
          rotate_left
          · refine At.fork ?_ ?_
            rotate_left
            · exact At.pNo
            refine op_alloc (Nx.agree (nxpa rfl rfl)) ze24 rfl (fun N9 b9 B9 => ?_)
            change Blk N9 b9 _ [.int .u64 0, .int .u64 0, .int .u64 0, .int .u64 0] at B9
            refine At.andS (.cons _ (.cons _ (.cons _ (.cons _ (.cons _ (.cons _ (.cons _ (.refl _)))))))) ?_
            refine At.fork ?_ ?_
            rotate_left
            · exact At.pNo
            refine op_callA (Nx.agree (nxpa rfl rfl)) (.cons rfl (.cons rfl .nil)) (divide_f s25 s5 (by omega) (by omega) (by rw [hvm]; exact hp)) Try.func131 rfl rfl (by simp) rfl ?_
            rintro v27 L27 ⟨rfl, rfl⟩
            change At _ _ _ [N9, N25, N10, N24, N6, N4, N3, N5, N7, R] _
            rw [hv, hvm]
            refine At.andS (.cons _ (.cons _ (.cons _ (.cons _ (.cons _ (.cons _ (.cons _ (.refl _)))))))) ?_
            refine op_move (nxpf rfl rfl) rfl rfl ?_
            refine op_extract (nxpf rfl rfl) rfl rfl rfl ?_
            refine op_extract (nxpf rfl rfl) rfl rfl rfl ?_
            refine At.fork ?_ ?_
            rotate_left
            · exact At.pNo
            refine op_store (nxpa rfl rfl) sz24 rfl rfl rfl rfl rfl B9 (by simp) sel0 (fun N9 B9 => ?_)
            rw [setL_whole (by simp)] at B9
            refine At.andS (.cons _ (.cons _ (.cons _ (.cons _ (.cons _ (.cons _ (.cons _ (.refl _)))))))) ?_
            refine At.fork ?_ ?_
            rotate_left
            · exact At.pNo
            refine op_store (nxpl rfl rfl) sz24 rfl rfl rfl rfl rfl B10 (by simp) sel2 (fun N10 B10 => ?_)
            rw [setL_whole (by simp)] at B10
            refine At.pDone ?_
            refine At.sub (L' := [N10, N6, R]) (.cons_cons _ (.cons _ (.cons _ (.cons _ (.cons_cons _ (.cons _ (.cons _ (.cons _ (.cons _ (.cons_cons _ (.slnil))))))))))) ?_
            refine At.perm sel2 ?_
            refine At.perm sel1 ?_
            refine At.perm sel2 ?_
            refine At.norm (jk_5 ?_ (.refl _) ⟨N10, b10, rfl, rfl, B10⟩)
            exact .cons (by first | exact lkI rfl (by omega) | rfl) (.cons (by first | exact lkI rfl (by omega) | rfl) .nil)
          refine op_callA (Nx.agree (nxpa rfl rfl)) (.cons rfl (.cons rfl .nil)) (divide_f s25 s5 (by omega) (by omega) (by rw [hvm]; exact hp)) Try.func131 rfl rfl (by simp) rfl ?_
          rintro v27 L27 ⟨rfl, rfl⟩
          change At _ _ _ [N25, N10, N24, N6, N4, N3, N5, N7, R] _
          rw [hv, hvm]
          refine At.andS (.cons _ (.cons _ (.cons _ (.cons _ (.cons _ (.cons _ (.refl _))))))) ?_
          refine op_move (nxpf rfl rfl) rfl rfl ?_
          refine op_extract (nxpf rfl rfl) rfl rfl rfl ?_
          refine op_extract (nxpf rfl rfl) rfl rfl rfl ?_
          refine At.fork ?_ ?_
          rotate_left
          · exact At.pNo
          refine op_alloc (Nx.agree (nxpa rfl rfl)) ze24 rfl (fun N9 b9 B9 => ?_)
          change Blk N9 b9 _ [.int .u64 0, .int .u64 0, .int .u64 0, .int .u64 0] at B9
          refine At.andS (.cons _ (.cons _ (.cons _ (.cons _ (.cons _ (.cons _ (.cons _ (.refl _)))))))) ?_
          refine At.fork ?_ ?_
          rotate_left
          · exact At.pNo
          refine op_store (nxpa rfl rfl) sz24 rfl rfl rfl rfl rfl B9 (by simp) sel0 (fun N9 B9 => ?_)
          rw [setL_whole (by simp)] at B9
          refine At.andS (.cons _ (.cons _ (.cons _ (.cons _ (.cons _ (.cons _ (.cons _ (.refl _)))))))) ?_
          refine At.fork ?_ ?_
          rotate_left
          · exact At.pNo
          refine op_store (nxpl rfl rfl) sz24 rfl rfl rfl rfl rfl B10 (by simp) sel2 (fun N10 B10 => ?_)
          rw [setL_whole (by simp)] at B10
          refine At.pDone ?_
          refine At.sub (L' := [N10, N6, R]) (.cons_cons _ (.cons _ (.cons _ (.cons _ (.cons_cons _ (.cons _ (.cons _ (.cons _ (.cons _ (.cons_cons _ (.slnil))))))))))) ?_
          refine At.perm sel2 ?_
          refine At.perm sel1 ?_
          refine At.perm sel2 ?_
          refine At.norm (jk_5 ?_ (.refl _) ⟨N10, b10, rfl, rfl, B10⟩)
          exact .cons (by first | exact lkI rfl (by omega) | rfl) (.cons (by first | exact lkI rfl (by omega) | rfl) .nil)
        refine op_alloc (Nx.agree (nxpa rfl rfl)) ze24 rfl (fun N9 b9 B9 => ?_)
        change Blk N9 b9 _ [.int .u64 0, .int .u64 0, .int .u64 0, .int .u64 0] at B9
        refine At.andS (.cons _ (.cons _ (.cons _ (.cons _ (.cons _ (.refl _)))))) ?_
        refine At.fork ?_ ?_
        rotate_left
        · refine At.fork ?_ ?_
          rotate_left
          · exact At.pNo
          refine op_alloc (Nx.agree (nxpa rfl rfl)) ze24 rfl (fun N10 b10 B10 => ?_)
          change Blk N10 b10 _ [.int .u64 0, .int .u64 0, .int .u64 0, .int .u64 0] at B10
          refine At.andS (.cons _ (.cons _ (.cons _ (.cons _ (.cons _ (.cons _ (.refl _))))))) ?_
          refine At.fork ?_ ?_
          rotate_left
          · exact At.pNo
          refine op_appendG (Nx.agree (nxpa rfl rfl)) Try.underlying95 Try.underlying95 te22 rfl rfl s7 (by first | exact mem0 | exact mem1 | exact mem2 | exact mem3 | exact mem4 | exact mem5 | exact mem6 | exact mem7 | exact mem8 | exact mem9) s24 (by first | exact mem0 | exact mem1 | exact mem2 | exact mem3 | exact mem4 | exact mem5 | exact mem6 | exact mem7 | exact mem8 | exact mem9) (by omega) (by omega) (by omega) (by omega) (by omega) rfl (fun N25 a25 p25 r25 => ?_)
          have s25 := r25.rsl
          rw [← u64s_app2] at s25
          refine At.andS (.cons _ (.cons _ (.cons _ (.cons _ (.cons _ (.cons _ (.cons _ (.refl _)))))))) ?_
          refine At.fork ?_ ?_
          rotate_left
          · exact At.pNo
          refine op_callA (Nx.agree (nxpa rfl rfl)) (.cons rfl (.cons rfl .nil)) (divide_f s25 s5 (by omega) (by omega) (by rw [hvm]; exact hp)) Try.func131 rfl rfl (by simp) rfl ?_
          rintro v27 L27 ⟨rfl, rfl⟩
          change At _ _ _ [N25, N10, N9, N24, N6, N4, N3, N5, N7, R] _
          rw [hv, hvm]
          refine At.andS (.cons _ (.cons _ (.cons _ (.cons _ (.cons _ (.cons _ (.cons _ (.refl _)))))))) ?_
          refine op_move (nxpf rfl rfl) rfl rfl ?_
          refine op_extract (nxpf rfl rfl) rfl rfl rfl ?_
          refine op_extract (nxpf rfl rfl) rfl rfl rfl ?_
          refine At.fork ?_ ?_
          rotate_left
          · exact At.pNo
          refine op_store (nxpa rfl rfl) sz24 rfl rfl rfl rfl rfl B9 (by simp) sel2 (fun N9 B9 => ?_)
          rw [setL_whole (by simp)] at B9
          refine At.andS (.cons _ (.cons _ (.cons _ (.cons _ (.cons _ (.cons _ (.cons _ (.refl _)))))))) ?_
          refine At.fork ?_ ?_
          rotate_left
          · exact At.pNo
          refine op_store (nxpl rfl rfl) sz24 rfl rfl rfl rfl rfl B10 (by simp) sel2 (fun N10 B10 => ?_)
          rw [setL_whole (by simp)] at B10
          refine At.pDone ?_
          refine At.sub (L' := [N10, N6, R]) (.cons_cons _ (.cons _ (.cons _ (.cons _ (.cons_cons _ (.cons _ (.cons _ (.cons _ (.cons _ (.cons_cons _ (.slnil))))))))))) ?_
          refine At.perm sel2 ?_
          refine At.perm sel1 ?_
          refine At.perm sel2 ?_
          refine At.norm (jk_5 ?_ (.refl _) ⟨N10, b10, rfl, rfl, B10⟩)
          exact .cons (by first | exact lkI rfl (by omega) | rfl) (.cons (by first | exact lkI rfl (by omega) | rfl) .nil)
        refine op_appendG (Nx.agree (nxpa rfl rfl)) Try.underlying95 Try.underlying95 te22 rfl rfl s7 (by first | exact mem0 | exact mem1 | exact mem2 | exact mem3 | exact mem4 | exact mem5 | exact mem6 | exact mem7 | exact mem8 | exact mem9) s24 (by first | exact mem0 | exact mem1 | exact mem2 | exact mem3 | exact mem4 | exact mem5 | exact mem6 | exact mem7 | exact mem8 | exact mem9) (by omega) (by omega) (by omega) (by omega) (by omega) rfl (fun N25 a25 p25 r25 => ?_)
        have s25 := r25.rsl
        rw [← u64s_app2] at s25
        refine At.andS (.cons _ (.cons _ (.cons _ (.cons _ (.cons _ (.cons _ (.refl _))))))) ?_
        refine At.fork ?_ ?_
        rotate_left
        · refine At.fork ?_ ?_
          rotate_left
          · exact At.pNo
          refine op_alloc (Nx.agree (nxpa rfl rfl)) ze24 rfl (fun N10 b10 B10 => ?_)
          change Blk N10 b10 _ [.int .u64 0, .int .u64 0, .int .u64 0, .int .u64 0] at B10
          refine At.andS (.cons _ (.cons _ (.cons _ (.cons _ (.cons _ (.cons _ (.cons _ (.refl _)))))))) ?_
          refine At.fork ?_ ?_
          rotate_left
          · exact At.pNo
          refine op_callA (Nx.agree (nxpa rfl rfl)) (.cons rfl (.cons rfl .nil)) (divide_f s25 s5 (by omega) (by omega) (by rw [hvm]; exact hp)) Try.func131 rfl rfl (by simp) rfl ?_
          rintro v27 L27 ⟨rfl, rfl⟩
          change At _ _ _ [N10, N25, N9, N24, N6, N4, N3, N5, N7, R] _
          rw [hv, hvm]
          refine At.andS (.cons _ (.cons _ (.cons _ (.cons _ (.cons _ (.cons _ (.cons _ (.refl _)))))))) ?_
          refine op_move (nxpf rfl rfl) rfl rfl ?_
          refine op_extract (nxpf rfl rfl) rfl rfl rfl ?_
          refine op_extract (nxpf rfl rfl) rfl rfl rfl ?_
          refine At.fork ?_ ?_
          rotate_left
          · exact At.pNo
          refine op_store (nxpa rfl rfl) sz24 rfl rfl rfl rfl rfl B9 (by simp) sel2 (fun N9 B9 => ?_)
          rw [setL_whole (by simp)] at B9
          refine At.andS (.cons _ (.cons _ (.cons _ (.cons _ (.cons _ (.cons _ (.cons _ (.refl _)))))))) ?_
          refine At.fork ?_ ?_
          rotate_left
          · exact At.pNo
          refine op_store (nxpl rfl rfl) sz24 rfl rfl rfl rfl rfl B10 (by simp) sel1 (fun N10 B10 => ?_)
          rw [setL_whole (by simp)] at B10
          refine At.pDone ?_
          refine At.sub (L' := [N10, N6, R]) (.cons_cons _ (.cons _ (.cons _ (.cons _ (.cons_cons _ (.cons _ (.cons _ (.cons _ (.cons _ (.cons_cons _ (.slnil))))))))))) ?_
          refine At.perm sel2 ?_
          refine At.perm sel1 ?_
          refine At.perm sel2 ?_
          refine At.norm (jk_5 ?_ (.refl _) ⟨N10, b10, rfl, rfl, B10⟩)
          exact .cons (by first | exact lkI rfl (by omega) | rfl) (.cons (by first | exact lkI rfl (by omega) | rfl) .nil)
        refine op_callA (Nx.agree (nxpa rfl rfl)) (.cons rfl (.cons rfl .nil)) (divide_f s25 s5 (by omega) (by omega) (by rw [hvm]; exact hp)) Try.func131 rfl rfl (by simp) rfl ?_
        rintro v27 L27 ⟨rfl, rfl⟩
        change At _ _ _ [N25, N9, N24, N6, N4, N3, N5, N7, R] _
        rw [hv, hvm]
        refine At.andS (.cons _ (.cons _ (.cons _ (.cons _ (.cons _ (.cons _ (.refl _))))))) ?_
        refine op_move (nxpf rfl rfl) rfl rfl ?_
        refine op_extract (nxpf rfl rfl) rfl rfl rfl ?_
        refine op_extract (nxpf rfl rfl) rfl rfl rfl ?_
        refine At.fork ?_ ?_
        rotate_left
        · exact At.pNo
        refine op_alloc (Nx.agree (nxpa rfl rfl)) ze24 rfl (fun N10 b10 B10 => ?_)
        change Blk N10 b10 _ [.int .u64 0, .int .u64 0, .int .u64 0, .int .u64 0] at B10
        refine At.andS (.cons _ (.cons _ (.cons _ (.cons _ (.cons _ (.cons _ (.cons _ (.refl _)))))))) ?_
        refine At.fork ?_ ?_
        rotate_left
        · exact At.pNo
        refine op_store (nxpa rfl rfl) sz24 rfl rfl rfl rfl rfl B9 (by simp) sel2 (fun N9 B9 => ?_)
        rw [setL_whole (by simp)] at B9
        refine At.andS (.cons _ (.cons _ (.cons _ (.cons _ (.cons _ (.cons _ (.cons _ (.refl _)))))))) ?_
        refine At.fork ?_ ?_
        rotate_left
        · exact At.pNo
        refine op_store (nxpl rfl rfl) sz24 rfl rfl rfl rfl rfl B10 (by simp) sel1 (fun N10 B10 => ?_)
        rw [setL_whole (by simp)] at B10
        refine At.pDone ?_
        refine At.sub (L' := [N10, N6, R]) (.cons_cons _ (.cons _ (.cons _ (.cons _ (.cons_cons _ (.cons _ (.cons _ (.cons _ (.cons _ (.cons_cons _ (.slnil))))))))))) ?_
        refine At.perm sel2 ?_
        refine At.perm sel1 ?_
        refine At.perm sel2 ?_
        refine At.norm (jk_5 ?_ (.refl _) ⟨N10, b10, rfl, rfl, B10⟩)
        exact .cons (by first | exact lkI rfl (by omega) | rfl) (.cons (by first | exact lkI rfl (by omega) | rfl) .nil)
      refine op_appendG (Nx.agree (nxpa rfl rfl)) Try.underlying95 Try.underlying95 te22 rfl rfl s7 (by first | exact mem0 | exact mem1 | exact mem2 | exact mem3 | exact mem4 | exact mem5 | exact mem6 | exact mem7 | exact mem8 | exact mem9) s24 (by first | exact mem0 | exact mem1 | exact mem2 | exact mem3 | exact mem4 | exact mem5 | exact mem6 | exact mem7 | exact mem8 | exact mem9) (by omega) (by omega) (by omega) (by omega) (by omega) rfl (fun N25 a25 p25 r25 => ?_)
      have s25 := r25.rsl
      rw [← u64s_app2] at s25
      refine At.andS (.cons _ (.cons _ (.cons _ (.cons _ (.cons _ (.refl _)))))) ?_
      refine At.fork ?_ ?_
      rotate_left
      · refine At.fork ?_ ?_
        rotate_left
        · refine At.fork ?_ ?_
          rotate_left
          · exact At.pNo
          refine op_alloc (Nx.agree (nxpa rfl rfl)) ze24 rfl (fun N10 b10 B10 => ?_)
          change Blk N10 b10 _ [.int .u64 0, .int .u64 0, .int .u64 0, .int .u64 0] at B10
          refine At.andS (.cons _ (.cons _ (.cons _ (.cons _ (.cons _ (.cons _ (.refl _))))))) ?_
          refine At.fork ?_ ?_
          rotate_left
          · refine At.fork ?_ ?_
            rotate_left
            · exact At.pNo
            refine op_alloc (Nx.agree (nxpa rfl rfl)) ze24 rfl (fun N9 b9 B9 => ?_)
            change Blk N9 b9 _ [.int .u64 0, .int .u64 0, .int .u64 0, .int .u64 0] at B9
            refine At.andS (.cons _ (.cons _ (.cons _ (.cons _ (.cons _ (.cons _ (.cons _ (.refl _)))))))) ?_
            refine At.fork ?_ ?_
            rotate_left
            · exact At.pNo
            refine op_callA (Nx.agree (nxpa rfl rfl)) (.cons rfl (.cons rfl .nil)) (divide_f s25 s5 (by omega) (by omega) (by rw [hvm]; exact hp)) Try.func131 rfl rfl (by simp) rfl ?_
            rintro v27 L27 ⟨rfl, rfl⟩
            change At _ _ _ [N9, N10, N25, N24, N6, N4, N3, N5, N7, R] _
            rw [hv, hvm]
            refine At.andS (.cons _ (.cons _ (.cons _ (.cons _ (.cons _ (.cons _ (.cons _ (.refl _)))))))) ?_
            refine op_move (nxpf rfl rfl) rfl rfl ?_
            refine op_extract (nxpf rfl rfl) rfl rfl rfl ?_
            refine op_extract (nxpf rfl rfl) rfl rfl rfl ?_
            refine At.fork ?_ ?_
            rotate_left
            · exact At.pNo
            refine op_store (nxpa rfl rfl) sz24 rfl rfl rfl rfl rfl B9 (by simp) sel0 (fun N9 B9 => ?_)
            rw [setL_whole (by simp)] at B9
            refine At.andS (.cons _ (.cons _ (.cons _ (.cons _ (.cons _ (.cons _ (.cons _ (.refl _)))))))) ?_
            refine At.fork ?_ ?_
            rotate_left
            · exact At.pNo
            refine op_store (nxpl rfl rfl) sz24 rfl rfl rfl rfl rfl B10 (by simp) sel1 (fun N10 B10 => ?_)
            rw [setL_whole (by simp)] at B10
            refine At.pDone ?_
            refine At.sub (L' := [N10, N6, R]) (.cons_cons _ (.cons _ (.cons _ (.cons _ (.cons_cons _ (.cons _ (.cons _ (.cons _ (.cons _ (.cons_cons _ (.slnil))))))))))) ?_
            refine At.perm sel2 ?_
            refine At.perm sel1 ?_
            refine At.perm sel2 ?_
            refine At.norm (jk_5 ?_ (.refl _) ⟨N10, b10, rfl, rfl, B10⟩)
            exact .cons (by first | exact lkI rfl (by omega) | rfl) (.cons (by first | exact lkI rfl (by omega) | rfl) .nil)
          refine op_callA (Nx.agree (nxpa rfl rfl)) (.cons rfl (.cons rfl .nil)) (divide_f s25 s5 (by omega) (by omega) (by rw [hvm]; exact hp)) Try.func131 rfl rfl (by simp) rfl ?_
          rintro v27 L27 ⟨rfl, rfl⟩
          change At _ _ _ [N10, N25, N24, N6, N4, N3, N5, N7, R] _
          rw [hv, hvm]
          refine At.andS (.cons _ (.cons _ (.cons _ (.cons _ (.cons _ (.cons _ (.refl _))))))) ?_
          refine op_move (nxpf rfl rfl) rfl rfl ?_
          refine op_extract (nxpf rfl rfl) rfl rfl rfl ?_
          refine op_extract (nxpf rfl rfl) rfl rfl rfl ?_
          refine At.fork ?_ ?_
          rotate_left
          · exact At.pNo
          refine op_alloc (Nx.agree (nxpa rfl rfl)) ze24 rfl (fun N9 b9 B9 => ?_)
          change Blk N9 b9 _ [.int .u64 0, .int .u64 0, .int .u64 0, .int .u64 0] at B9
          refine At.andS (.cons _ (.cons _ (.cons _ (.cons _ (.cons _ (.cons _ (.cons _ (.refl _)))))))) ?_
          refine At.fork ?_ ?_
          rotate_left
          · exact At.pNo
          refine op_store (nxpa rfl rfl) sz24 rfl rfl rfl rfl rfl B9 (by simp) sel0 (fun N9 B9 => ?_)
          rw [setL_whole (by simp)] at B9
          refine At.andS (.cons _ (.cons _ (.cons _ (.cons _ (.cons _ (.cons _ (.cons _ (.refl _)))))))) ?_
          refine At.fork ?_ ?_
          rotate_left
          · exact At.pNo
          refine op_store (nxpl rfl rfl) sz24 rfl rfl rfl rfl rfl B10 (by simp) sel1 (fun N10 B10 => ?_)
          rw [setL_whole (by simp)] at B10
          refine At.pDone ?_
          refine At.sub (L' := [N10, N6, R]) (.cons_cons _ (.cons _ (.cons _ (.cons _ (.cons_cons _ (.cons _ (.cons _ (.cons _ (.cons _ (.cons_cons _ (.slnil))))))))))) ?_
          refine At.perm sel2 ?_
          refine At.perm sel1 ?_
          refine At.perm sel2 ?_
          refine At.norm (jk_5 ?_ (.refl _) ⟨N10, b10, rfl, rfl, B10⟩)
          exact .cons (by first | exact lkI rfl (by omega) | rfl) (.cons (by first | exact lkI rfl (by omega) | rfl) .nil)
        refine op_alloc (Nx.agree (nxpa rfl rfl)) ze24 rfl (fun N9 b9 B9 => ?_)
        change Blk N9 b9 _ [.int .u64 0, .int .u64 0, .int .u64 0, .int .u64 0] at B9
        refine At.andS (.cons _ (.cons _ (.cons _ (.cons _ (.cons _ (.cons _ (.refl _))))))) ?_
        refine At.fork ?_ ?_
        rotate_left
        · refine At.fork ?_ ?_
          rotate_left
          · exact At.pNo
          refine op_alloc (Nx.agree (nxpa rfl rfl)) ze24 rfl (fun N10 b10 B10 => ?_)
          change Blk N10 b10 _ [.int .u64 0, .int .u64 0, .int .u64 0, .int .u64 0] at B10
          refine At.andS (.cons _ (.cons _ (.cons _ (.cons _ (.cons _ (.cons _ (.cons _ (.refl _)))))))) ?_
          refine At.fork ?_ ?_
          rotate_left
          · exact At.pNo
          refine op_callA (Nx.agree (nxpa rfl rfl)) (.cons rfl (.cons rfl .nil)) (divide_f s25 s5 (by omega) (by omega) (by rw [hvm]; exact hp)) Try.func131 rfl rfl (by simp) rfl ?_
          rintro v27 L27 ⟨rfl, rfl⟩
          change At _ _ _ [N10, N9, N25, N24, N6, N4, N3, N5, N7, R] _
          rw [hv, hvm]
          refine At.andS (.cons _ (.cons _ (.cons _ (.cons _ (.cons _ (.cons _ (.cons _ (.refl _)))))))) ?_
          refine op_move (nxpf rfl rfl) rfl rfl ?_
          refine op_extract (nxpf rfl rfl) rfl rfl rfl ?_
          refine op_extract (nxpf rfl rfl) rfl rfl rfl ?_
          refine At.fork ?_ ?_
          rotate_left
          · exact At.pNo
          refine op_store (nxpa rfl rfl) sz24 rfl rfl rfl rfl rfl B9 (by simp) sel1 (fun N9 B9 => ?_)
          rw [setL_whole (by simp)] at B9
          refine At.andS (.cons _ (.cons _ (.cons _ (.cons _ (.cons _ (.cons _ (.cons _ (.refl _)))))))) ?_
          refine At.fork ?_ ?_
          rotate_left
          · exact At.pNo
          refine op_store (nxpl rfl rfl) sz24 rfl rfl rfl rfl rfl B10 (by simp) sel1 (fun N10 B10 => ?_)
          rw [setL_whole (by simp)] at B10
          refine At.pDone ?_
          refine At.sub (L' := [N10, N6, R]) (.cons_cons _ (.cons _ (.cons _ (.cons _ (.cons_cons _ (.cons _ (.cons _ (.cons _ (.cons _ (.cons_cons _ (.slnil))))))))))) ?_
          refine At.perm sel2 ?_
          refine At.perm sel1 ?_
          refine At.perm sel2 ?_
          refine At.norm (jk_5 ?_ (.refl _) ⟨N10, b10, rfl, rfl, B10⟩)
          exact .cons (by first | exact lkI rfl (by omega) | rfl) (.cons (by first | exact lkI rfl (by omega) | rfl) .nil)
        refine op_callA (Nx.agree (nxpa rfl rfl)) (.cons rfl (.cons rfl .nil)) (divide_f s25 s5 (by omega) (by omega) (by rw [hvm]; exact hp)) Try.func131 rfl rfl (by simp) rfl ?_
        rintro v27 L27 ⟨rfl, rfl⟩
        change At _ _ _ [N9, N25, N24, N6, N4, N3, N5, N7, R] _
        rw [hv, hvm]
        refine At.andS (.cons _ (.cons _ (.cons _ (.cons _ (.cons _ (.cons _ (.refl _))))))) ?_
        refine op_move (nxpf rfl rfl) rfl rfl ?_
        refine op_extract (nxpf rfl rfl) rfl rfl rfl ?_
        refine op_extract (nxpf rfl rfl) rfl rfl rfl ?_
        refine At.fork ?_ ?_
        rotate_left
        · exact At.pNo
        refine op_alloc (Nx.agree (nxpa rfl rfl)) ze24 rfl (fun N10 b10 B10 => ?_)
        change Blk N10 b10 _ [.int .u64 0, .int .u64 0, .int .u64 0, .int .u64 0] at B10
        refine At.andS (.cons _ (.cons _ (.cons _ (.cons _ (.cons _ (.cons _ (.cons _ (.refl _)))))))) ?_
        refine At.fork ?_ ?_
        rotate_left
        · exact At.pNo
        refine op_store (nxpa rfl rfl) sz24 rfl rfl rfl rfl rfl B9 (by simp) sel1 (fun N9 B9 => ?_)
        rw [setL_whole (by simp)] at B9
        refine At.andS (.cons _ (.cons _ (.cons _ (.cons _ (.cons _ (.cons _ (.cons _ (.refl _)))))))) ?_
        refine At.fork ?_ ?_
        rotate_left
        · exact At.pNo
        refine op_store (nxpl rfl rfl) sz24 rfl rfl rfl rfl rfl B10 (by simp) sel1 (fun N10 B10 => ?_)
        rw [setL_whole (by simp)] at B10
        refine At.pDone ?_
        refine At.sub (L' := [N10, N6, R]) (.cons_cons _ (.cons _ (.cons _ (.cons _ (.cons_cons _ (.cons _ (.cons _ (.cons _ (.cons _ (.cons_cons _ (.slnil))))))))))) ?_
        refine At.perm sel2 ?_
        refine At.perm sel1 ?_
        refine At.perm sel2 ?_
        refine At.norm (jk_5 ?_ (.refl _) ⟨N10, b10, rfl, rfl, B10⟩)
        exact .cons (by first | exact lkI rfl (by omega) | rfl) (.cons (by first | exact lkI rfl (by omega) | rfl) .nil)
      refine op_callA (Nx.agree (nxpa rfl rfl)) (.cons rfl (.cons rfl .nil)) (divide_f s25 s5 (by omega) (by omega) (by rw [hvm]; exact hp)) Try.func131 rfl rfl (by simp) rfl ?_
      rintro v27 L27 ⟨rfl, rfl⟩
      change At _ _ _ [N25, N24, N6, N4, N3, N5, N7, R] _
      rw [hv, hvm]
      refine At.andS (.cons _ (.cons _ (.cons _ (.cons _ (.cons _ (.refl _)))))) ?_
      refine op_move (nxpf rfl rfl) rfl rfl ?_
      refine op_extract (nxpf rfl rfl) rfl rfl rfl ?_
      refine op_extract (nxpf rfl rfl) rfl rfl rfl ?_
      refine At.fork ?_ ?_
      rotate_left
      · refine At.fork ?_ ?_
        rotate_left
        · exact At.pNo
        refine op_alloc (Nx.agree (nxpa rfl rfl)) ze24 rfl (fun N10 b10 B10 => ?_)
        change Blk N10 b10 _ [.int .u64 0, .int .u64 0, .int .u64 0, .int .u64 0] at B10
        refine At.andS (.cons _ (.cons _ (.cons _ (.cons _ (.cons _ (.cons _ (.refl _))))))) ?_
        refine At.fork ?_ ?_
        rotate_left
        · exact At.pNo
        refine op_alloc (Nx.agree (nxpa rfl rfl)) ze24 rfl (fun N9 b9 B9 => ?_)
        change Blk N9 b9 _ [.int .u64 0, .int .u64 0, .int .u64 0, .int .u64 0] at B9
        refine At.andS (.cons _ (.cons _ (.cons _ (.cons _ (.cons _ (.cons _ (.cons _ (.refl _)))))))) ?_
        refine At.fork ?_ ?_
        rotate_left
        · exact At.pNo
        refine op_store (nxpa rfl rfl) sz24 rfl rfl rfl rfl rfl B9 (by simp) sel0 (fun N9 B9 => ?_)
        rw [setL_whole (by simp)] at B9
        refine At.andS (.cons _ (.cons _ (.cons _ (.cons _ (.cons _ (.cons _ (.cons _ (.refl _)))))))) ?_
        refine At.fork ?_ ?_
        rotate_left
        · exact At.pNo
        refine op_store (nxpl rfl rfl) sz24 rfl rfl rfl rfl rfl B10 (by simp) sel1 (fun N10 B10 => ?_)
        rw [setL_whole (by simp)] at B10
        refine At.pDone ?_
        refine At.sub (L' := [N10, N6, R]) (.cons_cons _ (.cons _ (.cons _ (.cons _ (.cons_cons _ (.cons _ (.cons _ (.cons _ (.cons _ (.cons_cons _ (.slnil))))))))))) ?_
        refine At.perm sel2 ?_
        refine At.perm sel1 ?_
        refine At.perm sel2 ?_
        refine At.norm (jk_5 ?_ (.refl _) ⟨N10, b10, rfl, rfl, B10⟩)
        exact .cons (by first | exact lkI rfl (by omega) | rfl) (.cons (by first | exact lkI rfl (by omega) | rfl) .nil)
      refine op_alloc (Nx.agree (nxpa rfl rfl)) ze24 rfl (fun N9 b9 B9 => ?_)
      change Blk N9 b9 _ [.int .u64 0, .int .u64 0, .int .u64 0, .int .u64 0] at B9
      refine At.andS (.cons _ (.cons _ (.cons _ (.cons _ (.cons _ (.cons _ (.refl _))))))) ?_
      refine At.fork ?_ ?_
      rotate_left
      · exact At.pNo
      refine op_alloc (Nx.agree (nxpa rfl rfl)) ze24 rfl (fun N10 b10 B10 => ?_)
      change Blk N10 b10 _ [.int .u64 0, .int .u64 0, .int .u64 0, .int .u64 0] at B10
      refine At.andS (.cons _ (.cons _ (.cons _ (.cons _ (.cons _ (.cons _ (.cons _ (.refl _)))))))) ?_
      refine At.fork ?_ ?_
      rotate_left
      · exact At.pNo
      refine op_store (nxpa rfl rfl) sz24 rfl rfl rfl rfl rfl B9 (by simp) sel1 (fun N9 B9 => ?_)
      rw [setL_whole (by simp)] at B9
      refine At.andS (.cons _ (.cons _ (.cons _ (.cons _ (.cons _ (.cons _ (.cons _ (.refl _)))))))) ?_
      refine At.fork ?_ ?_
      rotate_left
      · exact At.pNo
      refine op_store (nxpl rfl rfl) sz24 rfl rfl rfl rfl rfl B10 (by simp) sel1 (fun N10 B10 => ?_)
      rw [setL_whole (by simp)] at B10
      refine At.pDone ?_
      refine At.sub (L' := [N10, N6, R]) (.cons_cons _ (.cons _ (.cons _ (.cons _ (.cons_cons _ (.cons _ (.cons _ (.cons _ (.cons _ (.cons_cons _ (.slnil))))))))))) ?_
      refine At.perm sel2 ?_
      refine At.perm sel1 ?_
      refine At.perm sel2 ?_
      refine At.norm (jk_5 ?_ (.refl _) ⟨N10, b10, rfl, rfl, B10⟩)
      exact .cons (by first | exact lkI rfl (by omega) | rfl) (.cons (by first | exact lkI rfl (by omega) | rfl) .nil)
    rintro _ _ ⟨N10, b10, rfl, rfl, B10⟩
    refine hk_5 ?_
    refine At.seq fun K6 hk_6 => ?_
    refine At.region ?_
    refine op_loadAggB (ds := u64s (wl ((x + y) % m))) (nxlf rfl) ag24 rfl B10 (by first | (rw [List.drop_zero, List.take_of_length_le (by first | (simp; done) | (simp; omega))]; done) | rfl) (by first | (simp; done) | (simp; omega)) mem1 rfl ?_
    refine op_store (nxl rfl) sz24 rfl rfl rfl rfl rfl B6 (by simp) sel0 (fun N6 B6 => ?_)
    rw [setL_whole (by simp)] at B6
    refine At.opsNil ?_
    refine At.norm (hk_6 ?_)
    refine At.ret (?_)
    refine At.sub (L' := [N6, R]) (.cons_cons _ (.cons _ (.cons_cons _ (.slnil)))) ?_
    refine At.ret1 (L1 := []) rfl (.cell rfl (res_agg (ds := u64s (wl ((x + y) % m))) ag24 B6 (by first | (rw [List.drop_zero, List.take_of_length_le (by first | (simp; done) | (simp; omega))]; done) | rfl) (by first | (simp; done) | (simp; omega)) mem0) .nil) (.cons _ (.refl _)) (.refl _) ?_
    exact ⟨rfl, rfl⟩
theorem WAddmod_f {x y m : Nat} (hx : x < WW) (hy : y < WW) (hm : m < WW) : Fn Try.prog 62 #[wo x, wo y, wo m] [] [] (fun v L => v = wo (modZ (x + y) m) ∧ L = []) := by
  rcases Nat.eq_zero_or_pos m with h | h
  · subst h
    rw [modZ, if_pos rfl]
    exact WAddmod_0
  · rw [modZ, if_neg (by omega)]
    exact WAddmod_p hx hy hm h
set_option maxRecDepth 100000 in
theorem WMulmod_0 {x y : Nat} : Fn Try.prog 64 #[wo x, wo y, wo 0] [] [] (fun v L => v = wo 0 ∧ L = []) := by
  have h0 : wl 0 = [0, 0, 0, 0] := wl_zero
  refine Fn.enter (vs := [wo x, wo y, wo 0]) Try.func64 rfl rfl rfl ?_
  intro E R hR
  change At _ _ E [R] _
  refine At.seq fun K1 hk_1 => ?_
  refine At.region ?_
  refine op_box (nxla rfl) rfl rfl rfl (fun N3 b3 B3 => ?_)
  refine op_box (nxla rfl) rfl rfl rfl (fun N4 b4 B4 => ?_)
  refine op_box (nxla rfl) rfl rfl rfl (fun N5 b5 B5 => ?_)
  change Blk N5 b5 _ (u64s (wl 0)) at B5
  refine op_alloc (nxla rfl) ze24 rfl (fun N6 b6 B6 => ?_)
  change Blk N6 b6 _ [.int .u64 0, .int .u64 0, .int .u64 0, .int .u64 0] at B6
  refine At.opsNil ?_
  refine At.norm (hk_1 ?_)
  refine At.seq fun K2 hk_2 => ?_
  refine At.seq fun K3 hk_3 => ?_
  refine At.region ?_
  refine op_loadAggB (ds := u64s (wl 0)) (nxlf rfl) ag24 rfl B5 (by first | (rw [List.drop_zero, List.take_of_length_le (by first | (simp; done) | (simp; omega))]; done) | rfl) (by first | (simp; done) | (simp; omega)) mem1 rfl ?_
  refine op_buildA (out := [.int .u64 0, .int .u64 0, .int .u64 0, .int .u64 0]) (nxlf rfl) ze24 ae24 .nil rfl rfl ?_
  refine op_eqW (a := wl 0) (b := [0, 0, 0, 0]) (nxlf rfl) ae24 Try.underlying22 (by kernel_rfl) rfl rfl rfl rfl rfl ?_
  refine At.opsNil ?_
  refine At.norm (hk_3 ?_)
  refine At.condP rfl (fun c13 => ?_) (fun c13 => ?_)
  · refine At.seq fun K4 hk_4 => ?_
    refine At.region ?_
    refine op_loadAggB (ds := u64s (wl 0)) (nxlf rfl) ag24 rfl B5 (by first | (rw [List.drop_zero, List.take_of_length_le (by first | (simp; done) | (simp; omega))]; done) | rfl) (by first | (simp; done) | (simp; omega)) mem1 rfl ?_
    refine op_store (nxl rfl) sz24 rfl rfl rfl rfl rfl B6 (by simp) sel0 (fun N6 B6 => ?_)
    rw [setL_whole (by simp)] at B6
    refine At.opsNil ?_
    refine At.norm (hk_4 ?_)
    refine At.ret (At.thenRet (?_))
    refine At.sub (L' := [N6, R]) (.cons_cons _ (.cons _ (.cons _ (.cons _ (.cons_cons _ (.slnil)))))) ?_
    refine At.ret1 (L1 := []) rfl (.cell rfl (res_agg (ds := u64s (wl 0)) ag24 B6 (by first | (rw [List.drop_zero, List.take_of_length_le (by first | (simp; done) | (simp; omega))]; done) | rfl) (by first | (simp; done) | (simp; omega)) mem0) .nil) (.cons _ (.refl _)) (.refl _) ?_
    exact ⟨rfl, rfl⟩
  · exact absurd h0 c13
set_option maxRecDepth 100000 in
set_option maxHeartbeats 2000000 in
theorem WMulmod_p {x y m : Nat} (hx : x < WW) (hy : y < WW) (hm : m < WW) (hp : 0 < m) : Fn Try.prog 64 #[wo x, wo y, wo m] [] [] (fun v L => v = wo (x * y % m) ∧ L = []) := by
  have h0 := wl_eq_zero hm
  have hvm := v64_wl_lt hm
  have hl5 : (wl (x * y)).length = 4 := rfl
  have hq : x * y / WW < WW := Nat.div_lt_of_lt_mul (Nat.mul_lt_mul'' hx hy)
  have hv : v64 (wl (x * y) ++ wl (x * y / WW)) = x * y := by
    rw [v64_append, v64_wl, v64_wl_lt hq, hl5, ← WW_eq]
    exact Nat.mod_add_div _ _
  refine Fn.enter (vs := [wo x, wo y, wo m]) Try.func64 rfl rfl rfl ?_
  intro E R hR
  change At _ _ E [R] _
  refine At.seq fun K1 hk_1 => ?_
  refine At.region ?_
  refine op_box (nxla rfl) rfl rfl rfl (fun N3 b3 B3 => ?_)
  change Blk N3 b3 _ (u64s (wl x)) at B3
  refine op_box (nxla rfl) rfl rfl rfl (fun N4 b4 B4 => ?_)
  change Blk N4 b4 _ (u64s (wl y)) at B4
  refine op_box (nxla rfl) rfl rfl rfl (fun N5 b5 B5 => ?_)
  change Blk N5 b5 _ (u64s (wl m)) at B5
  refine op_alloc (nxla rfl) ze24 rfl (fun N6 b6 B6 => ?_)
  change Blk N6 b6 _ [.int .u64 0, .int .u64 0, .int .u64 0, .int .u64 0] at B6
  refine At.opsNil ?_
  refine At.norm (hk_1 ?_)
  refine At.seq fun K2 hk_2 => ?_
  refine At.seq fun K3 hk_3 => ?_
  refine At.region ?_
  refine op_loadAggB (ds := u64s (wl m)) (nxlf rfl) ag24 rfl B5 (by first | (rw [List.drop_zero, List.take_of_length_le (by first | (simp; done) | (simp; omega))]; done) | rfl) (by first | (simp; done) | (simp; omega)) mem1 rfl ?_
  refine op_buildA (out := [.int .u64 0, .int .u64 0, .int .u64 0, .int .u64 0]) (nxlf rfl) ze24 ae24 .nil rfl rfl ?_
  refine op_eqW (a := wl m) (b := [0, 0, 0, 0]) (nxlf rfl) ae24 Try.underlying22 (by kernel_rfl) rfl rfl rfl rfl rfl ?_
  refine At.opsNil ?_
  refine At.norm (hk_3 ?_)
  refine At.condP rfl (fun c13 => ?_) (fun c13 => ?_)
  · exact absurd (h0.1 c13) (by omega)
  · refine At.skip ?_
    refine At.norm (hk_2 ?_)
    refine At.seq fun K4 hk_4 => ?_
    refine At.region ?_
    refine op_loadAggB (ds := u64s (wl x)) (nxlf rfl) ag24 rfl B3 (by first | (rw [List.drop_zero, List.take_of_length_le (by first | (simp; done) | (simp; omega))]; done) | rfl) (by first | (simp; done) | (simp; omega)) mem3 rfl ?_
    refine op_loadAggB (ds := u64s (wl y)) (nxlf rfl) ag24 rfl B4 (by first | (rw [List.drop_zero, List.take_of_length_le (by first | (simp; done) | (simp; omega))]; done) | rfl) (by first | (simp; done) | (simp; omega)) mem2 rfl ?_
    refine op_callA (nxla rfl) (.cons rfl (.cons rfl .nil)) (Wide_f hx hy) Try.func27 rfl rfl (by simp) rfl ?_
    rintro v18 L18 ⟨rfl, rfl⟩
    change At _ _ _ [N6, N5, N4, N3, R] _
    refine op_move (nxlf rfl) rfl rfl ?_
    refine op_extract (nxlf rfl) rfl rfl rfl ?_
    refine op_extract (nxlf rfl) rfl rfl rfl ?_
    refine op_alloc (nxla rfl) ze24 rfl (fun N7 b7 B7 => ?_)
    change Blk N7 b7 _ [.int .u64 0, .int .u64 0, .int .u64 0, .int .u64 0] at B7
    refine op_alloc (nxla rfl) ze24 rfl (fun N8 b8 B8 => ?_)
    change Blk N8 b8 _ [.int .u64 0, .int .u64 0, .int .u64 0, .int .u64 0] at B8
    refine op_store (nxl rfl) sz24 rfl rfl rfl rfl rfl B7 (by simp) sel1 (fun N7 B7 => ?_)
    rw [setL_whole (by simp)] at B7
    refine op_store (nxl rfl) sz24 rfl rfl rfl rfl rfl B8 (by simp) sel1 (fun N8 B8 => ?_)
    rw [setL_whole (by simp)] at B8
    refine At.opsNil ?_
    refine At.norm (hk_4 ?_)
    refine At.seq fun K5 hk_5 => ?_
    refine At.meet (fun fr_ hp_ => ∃ (N10 : Heaplet) (b10 : Nat), fr_ = [(6, .pointer (some ⟨b6, 0, none⟩)), (10, .pointer (some ⟨b10, 0, none⟩))] ∧ hp_ = [N6, N10, R] ∧ (Blk N10 b10 24 (u64s (wl (x * y % m))))) ?_ (fun K5_ jk_5 => ?_)
    rotate_left
    · skip
      refine At.perm sel6 ?_
      refine At.perm sel1 ?_
      refine At.perm sel2 ?_
      refine At.perm sel4 ?_
      refine At.perm sel6 ?_
      refine At.perm sel6 ?_
      refine At.perm sel6 ?_
      refine At.planS [N5, N7, N8, R] (.take 0 (.take 1 (.take 3 (.fork 2 false (.fork 4 true (.take 5 (.take 6 (.take 7 (.fork 8 false (.fork 9 false (.fork 10 false (.fork 11 true .done .nofork) .nofork) .nofork) (.fork 9 false (.fork 8 false (.fork 10 false (.fork 11 true .done .nofork) .nofork) .nofork) .nofork))))) (.fork 8 false (.fork 4 false (.take 5 (.take 6 (.take 7 (.fork 9 false (.fork 10 false (.fork 11 true .done .nofork) .nofork) .nofork)))) (.fork 9 false (.fork 4 false (.take 5 (.take 6 (.take 7 (.fork 10 false (.fork 11 true .done .nofork) .nofork)))) .nofork) .nofork)) (.fork 9 false (.fork 4 false (.take 5 (.take 6 (.take 7 (.fork 8 false (.fork 10 false (.fork 11 true .done .nofork) .nofork) .nofork)))) (.fork 8 false (.fork 4 false (.take 5 (.take 6 (.take 7 (.fork 10 false (.fork 11 true .done .nofork) .nofork)))) .nofork) .nofork)) .nofork))) (.fork 8 false (.fork 2 false (.fork 4 false (.take 5 (.take 6 (.take 7 (.fork 9 false (.fork 10 false (.fork 11 true .done .nofork) .nofork) .nofork)))) (.fork 9 false (.fork 4 false (.take 5 (.take 6 (.take 7 (.fork 10 false (.fork 11 true .done .nofork) .nofork)))) .nofork) .nofork)) (.fork 9 false (.fork 2 false (.fork 4 false (.take 5 (.take 6 (.take 7 (.fork 10 false (.fork 11 true .done .nofork) .nofork)))) .nofork) .nofork) .nofork)) (.fork 9 false (.fork 2 false (.fork 4 false (.take 5 (.take 6 (.take 7 (.fork 8 false (.fork 10 false (.fork 11 true .done .nofork) .nofork) .nofork)))) (.fork 8 false (.fork 4 false (.take 5 (.take 6 (.take 7 (.fork 10 false (.fork 11 true .done .nofork) .nofork)))) .nofork) .nofork)) (.fork 8 false (.fork 2 false (.fork 4 false (.take 5 (.take 6 (.take 7 (.fork 10 false (.fork 11 true .done .nofork) .nofork)))) .nofork) .nofork) .nofork)) .nofork)))))) (by kernel_rfl) (by kernel_rfl) (.cons _ (.cons _ (.cons _ (.refl _)))) ?_
      have s7 := arr_part B7 (lo := 0) (hi := 4) (c := 4) (by omega) (by simp) (by omega) (by omega)
      have s8 := arr_part B8 (lo := 0) (hi := 4) (c := 4) (by omega) (by simp) (by omega) (by omega)
      have s5 := arr_part B5 (lo := 0) (hi := 4) (c := 4) (by omega) (by simp) (by omega) (by omega)
      change RSl N7 1 _ (4 - 0) (4 - 0) (u64s (wl (x * y / WW))) at s7
      change RSl N8 1 _ (4 - 0) (4 - 0) (u64s (wl (x * y))) at s8
      change RSl N5 1 _ (4 - 0) (4 - 0) (u64s (wl m)) at s5
      refine op_sliceA (nxpf rfl rfl) ae24 rfl .none .none .none (by omega) (by omega) (by omega) (by simp) rfl ?_
      refine op_sliceA (nxpf rfl rfl) ae24 rfl .none .none .none (by omega) (by omega) (by omega) (by simp) rfl ?_
      refine op_sliceA (nxpf rfl rfl) ae24 rfl .none .none .none (by omega) (by omega) (by omega) (by simp) rfl ?_
      refine At.fork ?_ ?_
      rotate_left
      · refine At.fork ?_ ?_
        rotate_left
        · refine At.fork ?_ ?_
          rotate_left
          · exact At.pNo
          refine op_alloc (Nx.agree (nxpa rfl rfl)) ze24 rfl (fun N10 b10 B10 => ?_)
          change Blk N10 b10 _ [.int .u64 0, .int .u64 0, .int .u64 0, .int .u64 0] at B10
          refine At.andS (.cons _ (.cons _ (.cons _ (.cons _ (.refl _))))) ?_
          refine At.fork ?_ ?_
          rotate_left
          · refine At.fork ?_ ?_
            rotate_left
            · exact At.pNo
            refine op_alloc (Nx.agree (nxpa rfl rfl)) ze24 rfl (fun N9 b9 B9 => ?_)
            change Blk N9 b9 _ [.int .u64 0, .int .u64 0, .int .u64 0, .int .u64 0] at B9
            refine At.andS (.cons _ (.cons _ (.cons _ (.cons _ (.cons _ (.refl _)))))) ?_
            refine At.fork ?_ ?_
            rotate_left
            · exact At.pNo
            refine op_appendG (Nx.agree (nxpa rfl rfl)) Try.underlying95 Try.underlying95 te22 rfl rfl s8 (by first | exact mem0 | exact mem1 | exact mem2 | exact mem3 | exact mem4 | exact mem5 | exact mem6 | exact mem7 | exact mem8 | exact mem9) s7 (by first | exact mem0 | exact mem1 | exact mem2 | exact mem3 | exact mem4 | exact mem5 | exact mem6 | exact mem7 | exact mem8 | exact mem9) (by omega) (by omega) (by omega) (by omega) (by omega) rfl (fun N24 a24 p24 r24 => ?_)
            have s24 := r24.rsl
            rw [← u64s_app2] at s24
            refine At.andS (.cons _ (.cons _ (.cons _ (.cons _ (.cons _ (.cons _ (.refl _))))))) ?_
            refine At.fork ?_ ?_
            rotate_left
            · exact At.pNo
            refine op_callA (Nx.agree (nxpa rfl rfl)) (.cons rfl (.cons rfl .nil)) (divide_f s24 s5 (by omega) (by omega) (by rw [hvm]; exact hp)) Try.func131 rfl rfl (by simp) rfl ?_
            rintro v26 L26 ⟨rfl, rfl⟩
            change At _ _ _ [N24, N9, N10, N6, N4, N3, N5, N7, N8, R] _
            rw [hv, hvm]
            refine At.andS (.cons _ (.cons _ (.cons _ (.cons _ (.cons _ (.cons _ (.refl _))))))) ?_
            refine op_move (nxpf rfl rfl) rfl rfl ?_
            refine op_extract (nxpf rfl rfl) rfl rfl rfl ?_
            refine op_extract (nxpf rfl rfl) rfl rfl rfl ?_
            refine At.fork ?_ ?_
            rotate_left
            · exact At.pNo
            refine op_store (nxpa rfl rfl) sz24 rfl rfl rfl rfl rfl B9 (by simp) sel1 (fun N9 B9 => ?_)
            rw [setL_whole (by simp)] at B9
            refine At.andS (.cons _ (.cons _ (.cons _ (.cons _ (.cons _ (.cons _ (.refl _))))))) ?_
            refine At.fork ?_ ?_
            rotate_left
            · exact At.pNo
            refine op_store (nxpl rfl rfl) sz24 rfl rfl rfl rfl rfl B10 (by simp) sel2 (fun N10 B10 => ?_)
            rw [setL_whole (by simp)] at B10
            refine At.pDone ?_
            refine At.sub (L' := [N10, N6, R]) (.cons_cons _ (.cons _ (.cons _ (.cons_cons _ (.cons _ (.cons _ (.cons _ (.cons _ (.cons _ (.cons_cons _ (.slnil))))))))))) ?_
            refine At.perm sel2 ?_
            refine At.perm sel1 ?_
            refine At.perm sel2 ?_
            refine At.norm (jk_5 ?_ (.refl _) ⟨N10, b10, rfl, rfl, B10⟩)
            exact .cons (by first | exact lkI rfl (by omega) | rfl) (.cons (by first | exact lkI rfl (by omega) | rfl) .nil)
          refine op_appendG (Nx.agree (nxpa rfl rfl)) Try.underlying95 Try.underlying95 te22 rfl rfl s8 (by first | exact mem0 | exact mem1 | exact mem2 | exact mem3 | exact mem4 | exact mem5 | exact mem6 | exact mem7 | exact mem8 | exact mem9) s7 (by first | exact mem0 | exact mem1 | exact mem2 | exact mem3 | exact mem4 | exact mem5 | exact mem6 | exact mem7 | exact mem8 | exact mem9) (by omega) (by omega) (by omega) (by omega) (by omega) rfl (fun N24 a24 p24 r24 => ?_)
          have s24 := r24.rsl
          rw [← u64s_app2] at s24
          refine At.andS (.cons _ (.cons _ (.cons _ (.cons _ (.cons _ (.refl _)))))) ?_
          refine At.fork ?_ ?_
          rotate_left
          · refine At.fork ?_ ?_
            rotate_left
            · exact At.pNo
            refine op_alloc (Nx.agree (nxpa rfl rfl)) ze24 rfl (fun N9 b9 B9 => ?_)
            change Blk N9 b9 _ [.int .u64 0, .int .u64 0, .int .u64 0, .int .u64 0] at B9
            refine At.andS (.cons _ (.cons _ (.cons _ (.cons _ (.cons _ (.cons _ (.refl _))))))) ?_
            refine At.fork ?_ ?_
            rotate_left
            · exact At.pNo
            refine op_callA (Nx.agree (nxpa rfl rfl)) (.cons rfl (.cons rfl .nil)) (divide_f s24 s5 (by omega) (by omega) (by rw [hvm]; exact hp)) Try.func131 rfl rfl (by simp) rfl ?_
            rintro v26 L26 ⟨rfl, rfl⟩
            change At _ _ _ [N9, N24, N10, N6, N4, N3, N5, N7, N8, R] _
            rw [hv, hvm]
            refine At.andS (.cons _ (.cons _ (.cons _ (.cons _ (.cons _ (.cons _ (.refl _))))))) ?_
            refine op_move (nxpf rfl rfl) rfl rfl ?_
            refine op_extract (nxpf rfl rfl) rfl rfl rfl ?_
            refine op_extract (nxpf rfl rfl) rfl rfl rfl ?_
            refine At.fork ?_ ?_
            rotate_left
            · exact At.pNo
            refine op_store (nxpa rfl rfl) sz24 rfl rfl rfl rfl rfl B9 (by simp) sel0 (fun N9 B9 => ?_)
            rw [setL_whole (by simp)] at B9
            refine At.andS (.cons _ (.cons _ (.cons _ (.cons _ (.cons _ (.cons _ (.refl _))))))) ?_
            refine At.fork ?_ ?_
            rotate_left
            · exact At.pNo
            refine op_store (nxpl rfl rfl) sz24 rfl rfl rfl rfl rfl B10 (by simp) sel2 (fun N10 B10 => ?_)
            rw [setL_whole (by simp)] at B10
            refine At.pDone ?_
            refine At.sub (L' := [N10, N6, R]) (.cons_cons _ (.cons _ (.cons _ (.cons_cons _ (.cons _ (.cons _ (.cons _ (.cons _ (.cons _ (.cons_cons _ (.slnil))))))))))) ?_
            refine At.perm sel2 ?_
            refine At.perm sel1 ?_
            refine At.perm sel2 ?_
            refine At.norm (jk_5 ?_ (.refl _) ⟨N10, b10, rfl, rfl, B10⟩)
            exact .cons (by first | exact lkI rfl (by omega) | rfl) (.cons (by first | exact lkI rfl (by omega) | rfl) .nil)
          refine op_callA (Nx.agree (nxpa rfl rfl)) (.cons rfl (.cons rfl .nil)) (divide_f s24 s5 (by omega) (by omega) (by rw [hvm]; exact hp)) Try.func131 rfl rfl (by simp) rfl ?_
          rintro v26 L26 ⟨rfl, rfl⟩
          change At _ _ _ [N24, N10, N6, N4, N3, N5, N7, N8, R] _
          rw [hv, hvm]
          refine At.andS (.cons _ (.cons _ (.cons _ (.cons _ (.cons _ (.refl _)))))) ?_
          refine op_move (nxpf rfl rfl) rfl rfl ?_
          refine op_extract (nxpf rfl rfl) rfl rfl rfl ?_
          refine op_extract (nxpf rfl rfl) rfl rfl rfl ?_
          refine At.fork ?_ ?_
          rotate_left
          · exact At.pNo
          refine op_alloc (Nx.agree (nxpa rfl rfl)) ze24 rfl (fun N9 b9 B9 => ?_)
          change Blk N9 b9 _ [.int .u64 0, .int .u64 0, .int .u64 0, .int .u64 0] at B9
          refine At.andS (.cons _ (.cons _ (.cons _ (.cons _ (.cons _ (.cons _ (.refl _))))))) ?_
          refine At.fork ?_ ?_
          rotate_left
          · exact At.pNo
          refine op_store (nxpa rfl rfl) sz24 rfl rfl rfl rfl rfl B9 (by simp) sel0 (fun N9 B9 => ?_)
          rw [setL_whole (by simp)] at B9
          refine At.andS (.cons _ (.cons _ (.cons _ (.cons _ (.cons _ (.cons _ (.refl _))))))) ?_
          refine At.fork ?_ ?_
          rotate_left
          · exact At.pNo
          refine op_store (nxpl rfl rfl) sz24 rfl rfl rfl rfl rfl B10 (by simp) sel2 (fun N10 B10 => ?_)
          rw [setL_whole (by simp)] at B10
          refine At.pDone ?_
          refine At.sub (L' := [N10, N6, R]) (.cons_cons _ (.cons _ (.cons _ (.cons_cons _ (.cons _ (.cons _ (.cons _ (.cons _ (.cons _ (.cons_cons _ (.slnil))))))))))) ?_
          refine At.perm sel2 ?_
          refine At.perm sel1 ?_
          refine At.perm sel2 ?_
          refine At.norm (jk_5 ?_ (.refl _) ⟨N10, b10, rfl, rfl, B10⟩)
          exact .cons (by first | exact lkI rfl (by omega) | rfl) (.cons (by first | exact lkI rfl (by omega) | rfl) .nil)
        refine op_alloc (Nx.agree (nxpa rfl rfl)) ze24 rfl (fun N9 b9 B9 => ?_)
        change Blk N9 b9 _ [.int .u64 0, .int .u64 0, .int .u64 0, .int .u64 0] at B9
        refine At.andS (.cons _ (.cons _ (.cons _ (.cons _ (.refl _))))) ?_
        refine At.fork ?_ ?_
        rotate_left
        · refine At.fork ?_ ?_
          rotate_left
          · exact At.pNo
          refine op_alloc (Nx.agree (nxpa rfl rfl)) ze24 rfl (fun N10 b10 B10 => ?_)
          change Blk N10 b10 _ [.int .u64 0, .int .u64 0, .int .u64 0, .int .u64 0] at B10
          refine At.andS (.cons _ (.cons _ (.cons _ (.cons _ (.cons _ (.refl _)))))) ?_
          refine At.fork ?_ ?_
          rotate_left
          · exact At.pNo
          refine op_appendG (Nx.agree (nxpa rfl rfl)) Try.underlying95 Try.underlying95 te22 rfl rfl s8 (by first | exact mem0 | exact mem1 | exact mem2 | exact mem3 | exact mem4 | exact mem5 | exact mem6 | exact mem7 | exact mem8 | exact mem9) s7 (by first | exact mem0 | exact mem1 | exact mem2 | exact mem3 | exact mem4 | exact mem5 | exact mem6 | exact mem7 | exact mem8 | exact mem9) (by omega) (by omega) (by omega) (by omega) (by omega) rfl (fun N24 a24 p24 r24 => ?_)
          have s24 := r24.rsl
          rw [← u64s_app2] at s24
          refine At.andS (.cons _ (.cons _ (.cons _ (.cons _ (.cons _ (.cons _ (.refl _))))))) ?_
          refine At.fork ?_ ?_
          rotate_left
          · exact At.pNo
          refine op_callA (Nx.agree (nxpa rfl rfl)) (.cons rfl (.cons rfl .nil)) (divide_f s24 s5 (by omega) (by omega) (by rw [hvm]; exact hp)) Try.func131 rfl rfl (by simp) rfl ?_
          rintro v26 L26 ⟨rfl, rfl⟩
          change At _ _ _ [N24, N10, N9, N6, N4, N3, N5, N7, N8, R] _
          rw [hv, hvm]
          refine At.andS (.cons _ (.cons _ (.cons _ (.cons _ (.cons _ (.cons _ (.refl _))))))) ?_
          refine op_move (nxpf rfl rfl) rfl rfl ?_
          refine op_extract (nxpf rfl rfl) rfl rfl rfl ?_
          refine op_extract (nxpf rfl rfl) rfl rfl rfl ?_
          refine At.fork ?_ ?_
          rotate_left
          · exact At.pNo
          refine op_store (nxpa rfl rfl) sz24 rfl rfl rfl rfl rfl B9 (by simp) sel2 (fun N9 B9 => ?_)
          rw [setL_whole (by simp)] at B9
          refine At.andS (.cons _ (.cons _ (.cons _ (.cons _ (.cons _ (.cons _ (.refl _))))))) ?_
          refine At.fork ?_ ?_
          rotate_left
          · exact At.pNo
          refine op_store (nxpl rfl rfl) sz24 rfl rfl rfl rfl rfl B10 (by simp) sel2 (fun N10 B10 => ?_)
          rw [setL_whole (by simp)] at B10
          refine At.pDone ?_
          refine At.sub (L' := [N10, N6, R]) (.cons_cons _ (.cons _ (.cons _ (.cons_cons _ (.cons _ (.cons _ (.cons _ (.cons _ (.cons _ (.cons_cons _ (.slnil))))))))))) ?_
          refine At.perm sel2 ?_
          refine At.perm sel1 ?_
          refine At.perm sel2 ?_
          refine At.norm (jk_5 ?_ (.refl _) ⟨N10, b10, rfl, rfl, B10⟩)
          exact .cons (by first | exact lkI rfl (by omega) | rfl) (.cons (by first | exact lkI rfl (by omega) | rfl) .nil)
        refine op_appendG (Nx.agree (nxpa rfl rfl)) Try.underlying95 Try.underlying95 te22 rfl rfl s8 (by first | exact mem0 | exact mem1 | exact mem2 | exact mem3 | exact mem4 | exact mem5 | exact mem6 | exact mem7 | exact mem8 | exact mem9) s7 (by first | exact mem0 | exact mem1 | exact mem2 | exact mem3 | exact mem4 | exact mem5 | exact mem6 | exact mem7 | exact mem8 | exact mem9) (by omega) (by omega) (by omega) (by omega) (by omega) rfl (fun N24 a24 p24 r24 => ?_)
        have s24 := r24.rsl
        rw [← u64s_app2] at s24
        refine At.andS (.cons _ (.cons _ (.cons _ (.cons _ (.cons _ (.refl _)))))) ?_
        refine At.fork ?_ ?_
        rotate_left
        · refine At.fork ?_ ?_
          rotate_left
          · exact At.pNo
          refine op_alloc (Nx.agree (nxpa rfl rfl)) ze24 rfl (fun N10 b10 B10 => ?_)
          change Blk N10 b10 _ [.int .u64 0, .int .u64 0, .int .u64 0, .int .u64 0] at B10
          refine At.andS (.cons _ (.cons _ (.cons _ (.cons _ (.cons _ (.cons _ (.refl _))))))) ?_
          refine At.fork ?_ ?_
          rotate_left
          · exact At.pNo
          refine op_callA (Nx.agree (nxpa rfl rfl)) (.cons rfl (.cons rfl .nil)) (divide_f s24 s5 (by omega) (by omega) (by rw [hvm]; exact hp)) Try.func131 rfl rfl (by simp) rfl ?_
          rintro v26 L26 ⟨rfl, rfl⟩
          change At _ _ _ [N10, N24, N9, N6, N4, N3, N5, N7, N8, R] _
          rw [hv, hvm]
          refine At.andS (.cons _ (.cons _ (.cons _ (.cons _ (.cons _ (.cons _ (.refl _))))))) ?_
          refine op_move (nxpf rfl rfl) rfl rfl ?_
          refine op_extract (nxpf rfl rfl) rfl rfl rfl ?_
          refine op_extract (nxpf rfl rfl) rfl rfl rfl ?_
          refine At.fork ?_ ?_
          rotate_left
          · exact At.pNo
          refine op_store (nxpa rfl rfl) sz24 rfl rfl rfl rfl rfl B9 (by simp) sel2 (fun N9 B9 => ?_)
          rw [setL_whole (by simp)] at B9
          refine At.andS (.cons _ (.cons _ (.cons _ (.cons _ (.cons _ (.cons _ (.refl _))))))) ?_
          refine At.fork ?_ ?_
          rotate_left
          · exact At.pNo
          refine op_store (nxpl rfl rfl) sz24 rfl rfl rfl rfl rfl B10 (by simp) sel1 (fun N10 B10 => ?_)
          rw [setL_whole (by simp)] at B10
          refine At.pDone ?_
          refine At.sub (L' := [N10, N6, R]) (.cons_cons _ (.cons _ (.cons _ (.cons_cons _ (.cons _ (.cons _ (.cons _ (.cons _ (.cons _ (.cons_cons _ (.slnil))))))))))) ?_
          refine At.perm sel2 ?_
          refine At.perm sel1 ?_
          refine At.perm sel2 ?_
          refine At.norm (jk_5 ?_ (.refl _) ⟨N10, b10, rfl, rfl, B10⟩)
          exact .cons (by first | exact lkI rfl (by omega) | rfl) (.cons (by first | exact lkI rfl (by omega) | rfl) .nil)
        refine op_callA (Nx.agree (nxpa rfl rfl)) (.cons rfl (.cons rfl .nil)) (divide_f s24 s5 (by omega) (by omega) (by rw [hvm]; exact hp)) Try.func131 rfl rfl (by simp) rfl ?_
        rintro v26 L26 ⟨rfl, rfl⟩
        change At _ _ _ [N24, N9, N6, N4, N3, N5, N7, N8, R] _
        rw [hv, hvm]
        refine At.andS (.cons _ (.cons _ (.cons _ (.cons _ (.cons _ (.refl _)))))) ?_
        refine op_move (nxpf rfl rfl) rfl rfl ?_
        refine op_extract (nxpf rfl rfl) rfl rfl rfl ?_
        refine op_extract (nxpf rfl rfl) rfl rfl rfl ?_
        refine At.fork ?_ ?_
        rotate_left
        · exact At.pNo
        refine op_alloc (Nx.agree (nxpa rfl rfl)) ze24 rfl (fun N10 b10 B10 => ?_)
        change Blk N10 b10 _ [.int .u64 0, .int .u64 0, .int .u64 0, .int .u64 0] at B10
        refine At.andS (.cons _ (.cons _ (.cons _ (.cons _ (.cons _ (.cons _ (.refl _))))))) ?_
        refine At.fork ?_ ?_
        rotate_left
        · exact At.pNo
        refine op_store (nxpa rfl rfl) sz24 rfl rfl rfl rfl rfl B9 (by simp) sel2 (fun N9 B9 => ?_)
        rw [setL_whole (by simp)] at B9
        refine At.andS (.cons _ (.cons _ (.cons _ (.cons _ (.cons _ (.cons _ (.refl _))))))) ?_
        refine At.fork ?_ ?_
        rotate_left
        · exact At.pNo
        refine op_store (nxpl rfl rfl) sz24 rfl rfl rfl rfl rfl B10 (by simp) sel1 (fun N10 B10 => ?_)
        rw [setL_whole (by simp)] at B10
        refine At.pDone ?_
        refine At.sub (L' := [N10, N6, R]) (.cons_cons _ (.cons _ (.cons _ (.cons_cons _ (.cons _ (.cons _ (.cons _ (.cons _ (.cons _ (.cons_cons _ (.slnil))))))))))) ?_
        refine At.perm sel2 ?_
        refine At.perm sel1 ?_
        refine At.perm sel2 ?_
        refine At.norm (jk_5 ?_ (.refl _) ⟨N10, b10, rfl, rfl, B10⟩)
        exact .cons (by first | exact lkI rfl (by omega) | rfl) (.cons (by first | exact lkI rfl (by omega) | rfl) .nil)
      refine op_appendG (Nx.agree (nxpa rfl rfl)) Try.underlying95 Try.underlying95 te22 rfl rfl s8 (by first | exact mem0 | exact mem1 | exact mem2 | exact mem3 | exact mem4 | exact mem5 | exact mem6 | exact mem7 | exact mem8 | exact mem9) s7 (by first | exact mem0 | exact mem1 | exact mem2 | exact mem3 | exact mem4 | exact mem5 | exact mem6 | exact mem7 | exact mem8 | exact mem9) (by omega) (by omega) (by omega) (by omega) (by omega) rfl (fun N24 a24 p24 r24 => ?_)
      have s24 := r24.rsl
      rw [← u64s_app2] at s24
      refine At.andS (.cons _ (.cons _ (.cons _ (.cons _ (.refl _))))) ?_
      refine At.fork ?_ ?_
      rotate_left
      · refine At.fork ?_ ?_
        rotate_left
        · refine At.fork ?_ ?_
          rotate_left
          · exact At.pNo
          refine op_alloc (Nx.agree (nxpa rfl rfl)) ze24 rfl (fun N10 b10 B10 => ?_)
          change Blk N10 b10 _ [.int .u64 0, .int .u64 0, .int .u64 0, .int .u64 0] at B10
          refine At.andS (.cons _ (.cons _ (.cons _ (.cons _ (.cons _ (.refl _)))))) ?_
          refine At.fork ?_ ?_
          rotate_left
          · refine At.fork ?_ ?_
            rotate_left
            · exact At.pNo
            refine op_alloc (Nx.agree (nxpa rfl rfl)) ze24 rfl (fun N9 b9 B9 => ?_)
            change Blk N9 b9 _ [.int .u64 0, .int .u64 0, .int .u64 0, .int .u64 0] at B9
            refine At.andS (.cons _ (.cons _ (.cons _ (.cons _ (.cons _ (.cons _ (.refl _))))))) ?_
            refine At.fork ?_ ?_
            rotate_left
            · exact At.pNo
            refine op_callA (Nx.agree (nxpa rfl rfl)) (.cons rfl (.cons rfl .nil)) (divide_f s24 s5 (by omega) (by omega) (by rw [hvm]; exact hp)) Try.func131 rfl rfl (by simp) rfl ?_
            rintro v26 L26 ⟨rfl, rfl⟩
            change At _ _ _ [N9, N10, N24, N6, N4, N3, N5, N7, N8, R] _
            rw [hv, hvm]
            refine At.andS (.cons _ (.cons _ (.cons _ (.cons _ (.cons _ (.cons _ (.refl _))))))) ?_
            refine op_move (nxpf rfl rfl) rfl rfl ?_
            refine op_extract (nxpf rfl rfl) rfl rfl rfl ?_
            refine op_extract (nxpf rfl rfl) rfl rfl rfl ?_
            refine At.fork ?_ ?_
            rotate_left
            · exact At.pNo
            refine op_store (nxpa rfl rfl) sz24 rfl rfl rfl rfl rfl B9 (by simp) sel0 (fun N9 B9 => ?_)
            rw [setL_whole (by simp)] at B9
            refine At.andS (.cons _ (.cons _ (.cons _ (.cons _ (.cons _ (.cons _ (.refl _))))))) ?_
            refine At.fork ?_ ?_
            rotate_left
            · exact At.pNo
            refine op_store (nxpl rfl rfl) sz24 rfl rfl rfl rfl rfl B10 (by simp) sel1 (fun N10 B10 => ?_)
            rw [setL_whole (by simp)] at B10
            refine At.pDone ?_
            refine At.sub (L' := [N10, N6, R]) (.cons_cons _ (.cons _ (.cons _ (.cons_cons _ (.cons _ (.cons _ (.cons _ (.cons _ (.cons _ (.cons_cons _ (.slnil))))))))))) ?_
            refine At.perm sel2 ?_
            refine At.perm sel1 ?_
            refine At.perm sel2 ?_
            refine At.norm (jk_5 ?_ (.refl _) ⟨N10, b10, rfl, rfl, B10⟩)
            exact .cons (by first | exact lkI rfl (by omega) | rfl) (.cons (by first | exact lkI rfl (by omega) | rfl) .nil)
          refine op_callA (Nx.agree (nxpa rfl rfl)) (.cons rfl (.cons rfl .nil)) (divide_f s24 s5 (by omega) (by omega) (by rw [hvm]; exact hp)) Try.func131 rfl rfl (by simp) rfl ?_
          rintro v26 L26 ⟨rfl, rfl⟩
          change At _ _ _ [N10, N24, N6, N4, N3, N5, N7, N8, R] _
          rw [hv, hvm]
          refine At.andS (.cons _ (.cons _ (.cons _ (.cons _ (.cons _ (.refl _)))))) ?_
          refine op_move (nxpf rfl rfl) rfl rfl ?_
          refine op_extract (nxpf rfl rfl) rfl rfl rfl ?_
          refine op_extract (nxpf rfl rfl) rfl rfl rfl ?_
          refine At.fork ?_ ?_
          rotate_left
          · exact At.pNo
          refine op_alloc (Nx.agree (nxpa rfl rfl)) ze24 rfl (fun N9 b9 B9 => ?_)
          change Blk N9 b9 _ [.int .u64 0, .int .u64 0, .int .u64 0, .int .u64 0] at B9
          refine At.andS (.cons _ (.cons _ (.cons _ (.cons _ (.cons _ (.cons _ (.refl _))))))) ?_
          refine At.fork ?_ ?_
          rotate_left
          · exact At.pNo
          refine op_store (nxpa rfl rfl) sz24 rfl rfl rfl rfl rfl B9 (by simp) sel0 (fun N9 B9 => ?_)
          rw [setL_whole (by simp)] at B9
          refine At.andS (.cons _ (.cons _ (.cons _ (.cons _ (.cons _ (.cons _ (.refl _))))))) ?_
          refine At.fork ?_ ?_
          rotate_left
          · exact At.pNo
          refine op_store (nxpl rfl rfl) sz24 rfl rfl rfl rfl rfl B10 (by simp) sel1 (fun N10 B10 => ?_)
          rw [setL_whole (by simp)] at B10
          refine At.pDone ?_
          refine At.sub (L' := [N10, N6, R]) (.cons_cons _ (.cons _ (.cons _ (.cons_cons _ (.cons _ (.cons _ (.cons _ (.cons _ (.cons _ (.cons_cons _ (.slnil))))))))))) ?_
          refine At.perm sel2 ?_
          refine At.perm sel1 ?_
          refine At.perm sel2 ?_
          refine At.norm (jk_5 ?_ (.refl _) ⟨N10, b10, rfl, rfl, B10⟩)
          exact .cons (by first | exact lkI rfl (by omega) | rfl) (.cons (by first | exact lkI rfl (by omega) | rfl) .nil)
        refine op_alloc (Nx.agree (nxpa rfl rfl)) ze24 rfl (fun N9 b9 B9 => ?_)
        change Blk N9 b9 _ [.int .u64 0, .int .u64 0, .int .u64 0, .int .u64 0] at B9
        refine At.andS (.cons _ (.cons _ (.cons _ (.cons _ (.cons _ (.refl _)))))) ?_
        refine At.fork ?_ ?_
        rotate_left
        · refine At.fork ?_ ?_
          rotate_left
          · exact At.pNo
          refine op_alloc (Nx.agree (nxpa rfl rfl)) ze24 rfl (fun N10 b10 B10 => ?_)
          change Blk N10 b10 _ [.int .u64 0, .int .u64 0, .int .u64 0, .int .u64 0] at B10
          refine At.andS (.cons _ (.cons _ (.cons _ (.cons _ (.cons _ (.cons _ (.refl _))))))) ?_
          refine At.fork ?_ ?_
          rotate_left
          · exact At.pNo
          refine op_callA (Nx.agree (nxpa rfl rfl)) (.cons rfl (.cons rfl .nil)) (divide_f s24 s5 (by omega) (by omega) (by rw [hvm]; exact hp)) Try.func131 rfl rfl (by simp) rfl ?_
          rintro v26 L26 ⟨rfl, rfl⟩
          change At _ _ _ [N10, N9, N24, N6, N4, N3, N5, N7, N8, R] _
          rw [hv, hvm]
          refine At.andS (.cons _ (.cons _ (.cons _ (.cons _ (.cons _ (.cons _ (.refl _))))))) ?_
          refine op_move (nxpf rfl rfl) rfl rfl ?_
          refine op_extract (nxpf rfl rfl) rfl rfl rfl ?_
          refine op_extract (nxpf rfl rfl) rfl rfl rfl ?_
          refine At.fork ?_ ?_
          rotate_left
          · exact At.pNo
          refine op_store (nxpa rfl rfl) sz24 rfl rfl rfl rfl rfl B9 (by simp) sel1 (fun N9 B9 => ?_)
          rw [setL_whole (by simp)] at B9
          refine At.andS (.cons _ (.cons _ (.cons _ (.cons _ (.cons _ (.cons _ (.refl _))))))) ?_
          refine At.fork ?_ ?_
          rotate_left
          · exact At.pNo
          refine op_store (nxpl rfl rfl) sz24 rfl rfl rfl rfl rfl B10 (by simp) sel1 (fun N10 B10 => ?_)
          rw [setL_whole (by simp)] at B10
          refine At.pDone ?_
          refine At.sub (L' := [N10, N6, R]) (.cons_cons _ (.cons _ (.cons _ (.cons_cons _ (.cons _ (.cons _ (.cons _ (.cons _ (.cons _ (.cons_cons _ (.slnil))))))))))) ?_
          refine At.perm sel2 ?_
          refine At.perm sel1 ?_
          refine At.perm sel2 ?_
          refine At.norm (jk_5 ?_ (.refl _) ⟨N10, b10, rfl, rfl, B10⟩)
          exact .cons (by first | exact lkI rfl (by omega) | rfl) (.cons (by first | exact lkI rfl (by omega) | rfl) .nil)
        refine op_callA (Nx.agree (nxpa rfl rfl)) (.cons rfl (.cons rfl .nil)) (divide_f s24 s5 (by omega) (by omega) (by rw [hvm]; exact hp)) Try.func131 rfl rfl (by simp) rfl ?_
        rintro v26 L26 ⟨rfl, rfl⟩
        change At _ _ _ [N9, N24, N6, N4, N3, N5, N7, N8, R] _
        rw [hv, hvm]
        refine At.andS (.cons _ (.cons _ (.cons _ (.cons _ (.cons _ (.refl _)))))) ?_
        refine op_move (nxpf rfl rfl) rfl rfl ?_
        refine op_extract (nxpf rfl rfl) rfl rfl rfl ?_
        refine op_extract (nxpf rfl rfl) rfl rfl rfl ?_
        refine At.fork ?_ ?_
        rotate_left
        · exact At.pNo
        refine op_alloc (Nx.agree (nxpa rfl rfl)) ze24 rfl (fun N10 b10 B10 => ?_)
        change Blk N10 b10 _ [.int .u64 0, .int .u64 0, .int .u64 0, .int .u64 0] at B10
        refine At.andS (.cons _ (.cons _ (.cons _ (.cons _ (.cons _ (.cons _ (.refl _))))))) ?_
        refine At.fork ?_ ?_
        rotate_left
        · exact At.pNo
        refine op_store (nxpa rfl rfl) sz24 rfl rfl rfl rfl rfl B9 (by simp) sel1 (fun N9 B9 => ?_)
        rw [setL_whole (by simp)] at B9
        refine At.andS (.cons _ (.cons _ (.cons _ (.cons _ (.cons _ (.cons _ (.refl _))))))) ?_
        refine At.fork ?_ ?_
        rotate_left
        · exact At.pNo
        refine op_store (nxpl rfl rfl) sz24 rfl rfl rfl rfl rfl B10 (by simp) sel1 (fun N10 B10 => ?_)
        rw [setL_whole (by simp)] at B10
        refine At.pDone ?_
        refine At.sub (L' := [N10, N6, R]) (.cons_cons _ (.cons _ (.cons _ (.cons_cons _ (.cons _ (.cons _ (.cons _ (.cons _ (.cons _ (.cons_cons _ (.slnil))))))))))) ?_
        refine At.perm sel2 ?_
        refine At.perm sel1 ?_
        refine At.perm sel2 ?_
        refine At.norm (jk_5 ?_ (.refl _) ⟨N10, b10, rfl, rfl, B10⟩)
        exact .cons (by first | exact lkI rfl (by omega) | rfl) (.cons (by first | exact lkI rfl (by omega) | rfl) .nil)
      refine op_callA (Nx.agree (nxpa rfl rfl)) (.cons rfl (.cons rfl .nil)) (divide_f s24 s5 (by omega) (by omega) (by rw [hvm]; exact hp)) Try.func131 rfl rfl (by simp) rfl ?_
      rintro v26 L26 ⟨rfl, rfl⟩
      change At _ _ _ [N24, N6, N4, N3, N5, N7, N8, R] _
      rw [hv, hvm]
      refine At.andS (.cons _ (.cons _ (.cons _ (.cons _ (.refl _))))) ?_
      refine op_move (nxpf rfl rfl) rfl rfl ?_
      refine op_extract (nxpf rfl rfl) rfl rfl rfl ?_
      refine op_extract (nxpf rfl rfl) rfl rfl rfl ?_
      refine At.fork ?_ ?_
      rotate_left
      · refine At.fork ?_ ?_
        rotate_left
        · exact At.pNo
        refine op_alloc (Nx.agree (nxpa rfl rfl)) ze24 rfl (fun N10 b10 B10 => ?_)
        change Blk N10 b10 _ [.int .u64 0, .int .u64 0, .int .u64 0, .int .u64 0] at B10
        refine At.andS (.cons _ (.cons _ (.cons _ (.cons _ (.cons _ (.refl _)))))) ?_
        refine At.fork ?_ ?_
        rotate_left
        · exact At.pNo
        refine op_alloc (Nx.agree (nxpa rfl rfl)) ze24 rfl (fun N9 b9 B9 => ?_)
        change Blk N9 b9 _ [.int .u64 0, .int .u64 0, .int .u64 0, .int .u64 0] at B9
        refine At.andS (.cons _ (.cons _ (.cons _ (.cons _ (.cons _ (.cons _ (.refl _))))))) ?_
        refine At.fork ?_ ?_
        rotate_left
        · exact At.pNo
        refine op_store (nxpa rfl rfl) sz24 rfl rfl rfl rfl rfl B9 (by simp) sel0 (fun N9 B9 => ?_)
        rw [setL_whole (by simp)] at B9
        refine At.andS (.cons _ (.cons _ (.cons _ (.cons _ (.cons _ (.cons _ (.refl _))))))) ?_
        refine At.fork ?_ ?_
        rotate_left
        · exact At.pNo
        refine op_store (nxpl rfl rfl) sz24 rfl rfl rfl rfl rfl B10 (by simp) sel1 (fun N10 B10 => ?_)
        rw [setL_whole (by simp)] at B10
        refine At.pDone ?_
        refine At.sub (L' := [N10, N6, R]) (.cons_cons _ (.cons _ (.cons _ (.cons_cons _ (.cons _ (.cons _ (.cons _ (.cons _ (.cons _ (.cons_cons _ (.slnil))))))))))) ?_
        refine At.perm sel2 ?_
        refine At.perm sel1 ?_
        refine At.perm sel2 ?_
        refine At.norm (jk_5 ?_ (.refl _) ⟨N10, b10, rfl, rfl, B10⟩)
        exact .cons (by first | exact lkI rfl (by omega) | rfl) (.cons (by first | exact lkI rfl (by omega) | rfl) .nil)
      refine op_alloc (Nx.agree (nxpa rfl rfl)) ze24 rfl (fun N9 b9 B9 => ?_)
      change Blk N9 b9 _ [.int .u64 0, .int .u64 0, .int .u64 0, .int .u64 0] at B9
      refine At.andS (.cons _ (.cons _ (.cons _ (.cons _ (.cons _ (.refl _)))))) ?_
      refine At.fork ?_ ?_
      rotate_left
      · exact At.pNo
      refine op_alloc (Nx.agree (nxpa rfl rfl)) ze24 rfl (fun N10 b10 B10 => ?_)
      change Blk N10 b10 _ [.int .u64 0, .int .u64 0, .int .u64 0, .int .u64 0] at B10
      refine At.andS (.cons _ (.cons _ (.cons _ (.cons _ (.cons _ (.cons _ (.refl _))))))) ?_
      refine At.fork ?_ ?_
      rotate_left
      · exact At.pNo
      refine op_store (nxpa rfl rfl) sz24 rfl rfl rfl rfl rfl B9 (by simp) sel1 (fun N9 B9 => ?_)
      rw [setL_whole (by simp)] at B9
      refine At.andS (.cons _ (.cons _ (.cons _ (.cons _ (.cons _ (.cons _ (.refl _))))))) ?_
      refine At.fork ?_ ?_
      rotate_left
      · exact At.pNo
      refine op_store (nxpl rfl rfl) sz24 rfl rfl rfl rfl rfl B10 (by simp) sel1 (fun N10 B10 => ?_)
      rw [setL_whole (by simp)] at B10
      refine At.pDone ?_
      refine At.sub (L' := [N10, N6, R]) (.cons_cons _ (.cons _ (.cons _ (.cons_cons _ (.cons _ (.cons _ (.cons _ (.cons _ (.cons _ (.cons_cons _ (.slnil))))))))))) ?_
      refine At.perm sel2 ?_
      refine At.perm sel1 ?_
      refine At.perm sel2 ?_
      refine At.norm (jk_5 ?_ (.refl _) ⟨N10, b10, rfl, rfl, B10⟩)
      exact .cons (by first | exact lkI rfl (by omega) | rfl) (.cons (by first | exact lkI rfl (by omega) | rfl) .nil)
    rintro _ _ ⟨N10, b10, rfl, rfl, B10⟩
    refine hk_5 ?_
    refine At.seq fun K6 hk_6 => ?_
    refine At.region ?_
    refine op_loadAggB (ds := u64s (wl (x * y % m))) (nxlf rfl) ag24 rfl B10 (by first | (rw [List.drop_zero, List.take_of_length_le (by first | (simp; done) | (simp; omega))]; done) | rfl) (by first | (simp; done) | (simp; omega)) mem1 rfl ?_
    refine op_store (nxl rfl) sz24 rfl rfl rfl rfl rfl B6 (by simp) sel0 (fun N6 B6 => ?_)
    rw [setL_whole (by simp)] at B6
    refine At.opsNil ?_
    refine At.norm (hk_6 ?_)
    refine At.ret (?_)
    refine At.sub (L' := [N6, R]) (.cons_cons _ (.cons _ (.cons_cons _ (.slnil)))) ?_
    refine At.ret1 (L1 := []) rfl (.cell rfl (res_agg (ds := u64s (wl (x * y % m))) ag24 B6 (by first | (rw [List.drop_zero, List.take_of_length_le (by first | (simp; done) | (simp; omega))]; done) | rfl) (by first | (simp; done) | (simp; omega)) mem0) .nil) (.cons _ (.refl _)) (.refl _) ?_
    exact ⟨rfl, rfl⟩
theorem WMulmod_f {x y m : Nat} (hx : x < WW) (hy : y < WW) (hm : m < WW) : Fn Try.prog 64 #[wo x, wo y, wo m] [] [] (fun v L => v = wo (modZ (x * y) m) ∧ L = []) := by
  rcases Nat.eq_zero_or_pos m with h | h
  · subst h
    rw [modZ, if_pos rfl]
    exact WMulmod_0
  · rw [modZ, if_neg (by omega)]
    exact WMulmod_p hx hy hm h
set_option maxRecDepth 100000 in
theorem rExp_w {x y : Nat} (hx : x < WW) (hy : y < WW) : Fn Try.prog 66 #[wo x, wo y] [] [] (fun v L => v = wo (x ^ y) ∧ L = []) := by
  have hdx := dig_w hx
  have hdy := dig_w hy
  have ht := dig_top
  refine Fn.enter (vs := [wo x, wo y]) Try.func66 rfl rfl rfl ?_
  intro E R hR
  change At _ _ E [R] _
  refine At.seq fun K1 hk_1 => ?_
  refine At.region ?_
  refine op_box (nxla rfl) rfl rfl rfl (fun N2 b2 B2 => ?_)
  change Blk N2 b2 _ (u64s (wl x)) at B2
  refine op_box (nxla rfl) rfl rfl rfl (fun N3 b3 B3 => ?_)
  change Blk N3 b3 _ (u64s (wl y)) at B3
  refine op_alloc (nxla rfl) ze24 rfl (fun N4 b4 B4 => ?_)
  change Blk N4 b4 _ [.int .u64 0, .int .u64 0, .int .u64 0, .int .u64 0] at B4
  refine At.opsNil ?_
  refine At.norm (hk_1 ?_)
  refine At.seq fun K2 hk_2 => ?_
  refine At.perm sel3 ?_
  refine At.perm sel2 ?_
  refine At.perm sel3 ?_
  refine At.perm sel3 ?_
  refine At.drawnS [N2, N3, R] [3,4,5,6,7] [] [0,2,1,3,4,5,6,7] (by kernel_rfl) (by kernel_rfl) (.cons _ (.refl _)) ?_
  refine op_loadAggB (ds := u64s (wl x)) (nxsf rfl rfl rfl) ag24 rfl B2 (by first | (rw [List.drop_zero, List.take_of_length_le (by first | (simp; done) | (simp; omega))]; done) | rfl) (by first | (simp; done) | (simp; omega)) mem0 rfl ?_
  refine op_loadAggB (ds := u64s (wl y)) (nxsf rfl rfl rfl) ag24 rfl B3 (by first | (rw [List.drop_zero, List.take_of_length_le (by first | (simp; done) | (simp; omega))]; done) | rfl) (by first | (simp; done) | (simp; omega)) mem1 rfl ?_
  refine op_callA (Nx.agree (nxsm rfl rfl rfl)) (.cons rfl .nil) (rN_w hx) Try.func104 rfl rfl (by simp) rfl ?_
  rintro v6 L6 ⟨M6, p6, c6, rfl, rfl, s6⟩
  change At _ _ _ [M6, N4, N2, N3, R] _
  refine At.perm sel4 ?_
  refine At.perm sel4 ?_
  refine At.perm sel4 ?_
  refine At.perm sel3 ?_
  refine At.perm sel4 ?_
  refine At.moreS (Lst := [N2, N3, R]) (Lst' := [M6, N2, N3, R]) (.cons _ (.refl _)) (.cons _ (.refl _)) ?_
  refine op_callA (Nx.agree (nxss rfl rfl rfl rfl)) (.cons rfl .nil) (rN_w hy) Try.func104 rfl rfl (by simp) rfl ?_
  rintro v8 L8 ⟨M8, p8, c8, rfl, rfl, s8⟩
  change At _ _ _ [M8, N4, M6, N2, N3, R] _
  refine At.anyS (.refl _) ?_
  refine op_callA (Nx.agree (nxss rfl rfl rfl rfl)) .nil (top_f) Try.func115 rfl rfl (by simp) rfl ?_
  rintro v9 L9 ⟨M9, p9, c9, rfl, rfl, s9⟩
  change At _ _ _ [M9, M8, N4, M6, N2, N3, R] _
  refine At.anyS (.refl _) ?_
  refine op_callA (Nx.agree (nxss rfl rfl rfl rfl)) (.cons rfl (.cons rfl (.cons rfl .nil))) (rModExp_f s6 s8 s9 (by omega) (by omega) (by omega) WW_pos) Try.func45 rfl rfl (by simp) rfl ?_
  rintro v10 L10 ⟨M10, p10, c10, rfl, rfl, s10⟩
  change At _ _ _ [M10, M9, M8, N4, M6, N2, N3, R] _
  refine At.anyS (.refl _) ?_
  refine op_callA (Nx.agree (nxss rfl rfl rfl rfl)) (.cons rfl .nil) (rW_w s10) Try.func105 rfl rfl (by simp) rfl ?_
  rintro v11 L11 ⟨rfl, rfl⟩
  change At _ _ _ [M10, M9, M8, N4, M6, N2, N3, R] _
  rw [wo_mod]
  refine At.anyS (.refl _) ?_
  refine op_store (nxsl rfl rfl rfl rfl) sz24 rfl rfl rfl rfl rfl B4 (by simp) sel3 (fun N4 B4 => ?_)
  rw [setL_whole (by simp)] at B4
  refine At.sNil ?_
  refine At.norm (hk_2 ?_)
  refine At.ret (?_)
  refine At.sub (L' := [N4, R]) (.cons_cons _ (.cons _ (.cons _ (.cons _ (.cons _ (.cons _ (.cons _ (.cons_cons _ (.slnil))))))))) ?_
  refine At.ret1 (L1 := []) rfl (.cell rfl (res_agg (ds := u64s (wl (x ^ y))) ag24 B4 (by first | (rw [List.drop_zero, List.take_of_length_le (by first | (simp; done) | (simp; omega))]; done) | rfl) (by first | (simp; done) | (simp; omega)) mem0) .nil) (.cons _ (.refl _)) (.refl _) ?_
  exact ⟨rfl, rfl⟩
set_option maxRecDepth 100000 in
theorem rAddmod_0 {x y : Nat} : Fn Try.prog 63 #[wo x, wo y, wo 0] [] [] (fun v L => v = wo 0 ∧ L = []) := by
  refine Fn.enter (vs := [wo x, wo y, wo 0]) Try.func63 rfl rfl rfl ?_
  intro E R hR
  change At _ _ E [R] _
  refine At.seq fun K1 hk_1 => ?_
  refine At.region ?_
  refine op_box (nxla rfl) rfl rfl rfl (fun N3 b3 B3 => ?_)
  refine op_box (nxla rfl) rfl rfl rfl (fun N4 b4 B4 => ?_)
  refine op_box (nxla rfl) rfl rfl rfl (fun N5 b5 B5 => ?_)
  change Blk N5 b5 _ (u64s (wl 0)) at B5
  refine op_alloc (nxla rfl) ze24 rfl (fun N6 b6 B6 => ?_)
  change Blk N6 b6 _ [.int .u64 0, .int .u64 0, .int .u64 0, .int .u64 0] at B6
  refine At.opsNil ?_
  refine At.norm (hk_1 ?_)
  refine At.seq fun K2 hk_2 => ?_
  refine At.seq fun K3 hk_3 => ?_
  refine At.region ?_
  refine op_loadAggB (ds := u64s (wl 0)) (nxlf rfl) ag24 rfl B5 (by first | (rw [List.drop_zero, List.take_of_length_le (by first | (simp; done) | (simp; omega))]; done) | rfl) (by first | (simp; done) | (simp; omega)) mem1 rfl ?_
  refine op_callA (nxla rfl) (.cons rfl .nil) (zero_t) Try.func103 rfl rfl (by simp) rfl ?_
  rintro v8 L8 ⟨rfl, rfl⟩
  change At _ _ _ [N6, N5, N4, N3, R] _
  refine At.opsNil ?_
  refine At.norm (hk_3 ?_)
  refine At.condT rfl ?_
  refine At.seq fun K4 hk_4 => ?_
  refine At.region ?_
  refine op_loadAggB (ds := u64s (wl 0)) (nxlf rfl) ag24 rfl B5 (by first | (rw [List.drop_zero, List.take_of_length_le (by first | (simp; done) | (simp; omega))]; done) | rfl) (by first | (simp; done) | (simp; omega)) mem1 rfl ?_
  refine op_store (nxl rfl) sz24 rfl rfl rfl rfl rfl B6 (by simp) sel0 (fun N6 B6 => ?_)
  rw [setL_whole (by simp)] at B6
  refine At.opsNil ?_
  refine At.norm (hk_4 ?_)
  refine At.ret (At.thenRet (?_))
  refine At.sub (L' := [N6, R]) (.cons_cons _ (.cons _ (.cons _ (.cons _ (.cons_cons _ (.slnil)))))) ?_
  refine At.ret1 (L1 := []) rfl (.cell rfl (res_agg (ds := u64s (wl 0)) ag24 B6 (by first | (rw [List.drop_zero, List.take_of_length_le (by first | (simp; done) | (simp; omega))]; done) | rfl) (by first | (simp; done) | (simp; omega)) mem0) .nil) (.cons _ (.refl _)) (.refl _) ?_
  exact ⟨rfl, rfl⟩
set_option maxRecDepth 100000 in
theorem rAddmod_p {x y m : Nat} (hx : x < WW) (hy : y < WW) (hm : m < WW) (hp : 0 < m) : Fn Try.prog 63 #[wo x, wo y, wo m] [] [] (fun v L => v = wo ((x + y) % m) ∧ L = []) := by
  have hdx := dig_w hx
  have hdy := dig_w hy
  have hdm := dig_w hm
  have hd2 : (digsOf (x + y)).length ≤ 9 := dig_2top (by omega)
  refine Fn.enter (vs := [wo x, wo y, wo m]) Try.func63 rfl rfl rfl ?_
  intro E R hR
  change At _ _ E [R] _
  refine At.seq fun K1 hk_1 => ?_
  refine At.region ?_
  refine op_box (nxla rfl) rfl rfl rfl (fun N3 b3 B3 => ?_)
  change Blk N3 b3 _ (u64s (wl x)) at B3
  refine op_box (nxla rfl) rfl rfl rfl (fun N4 b4 B4 => ?_)
  change Blk N4 b4 _ (u64s (wl y)) at B4
  refine op_box (nxla rfl) rfl rfl rfl (fun N5 b5 B5 => ?_)
  change Blk N5 b5 _ (u64s (wl m)) at B5
  refine op_alloc (nxla rfl) ze24 rfl (fun N6 b6 B6 => ?_)
  change Blk N6 b6 _ [.int .u64 0, .int .u64 0, .int .u64 0, .int .u64 0] at B6
  refine At.opsNil ?_
  refine At.norm (hk_1 ?_)
  refine At.seq fun K2 hk_2 => ?_
  refine At.seq fun K3 hk_3 => ?_
  refine At.region ?_
  refine op_loadAggB (ds := u64s (wl m)) (nxlf rfl) ag24 rfl B5 (by first | (rw [List.drop_zero, List.take_of_length_le (by first | (simp; done) | (simp; omega))]; done) | rfl) (by first | (simp; done) | (simp; omega)) mem1 rfl ?_
  refine op_callA (nxla rfl) (.cons rfl .nil) (zero_n hm hp) Try.func103 rfl rfl (by simp) rfl ?_
  rintro v8 L8 ⟨rfl, rfl⟩
  change At _ _ _ [N6, N5, N4, N3, R] _
  refine At.opsNil ?_
  refine At.norm (hk_3 ?_)
  refine At.condF rfl ?_
  refine At.skip ?_
  refine At.norm (hk_2 ?_)
  refine At.seq fun K4 hk_4 => ?_
  refine At.perm sel4 ?_
  refine At.perm sel2 ?_
  refine At.perm sel3 ?_
  refine At.perm sel4 ?_
  refine At.perm sel4 ?_
  refine At.drawnS [N3, N4, N5, R] [6,7,8,9] [] [0,2,5,1,3,4,6,7,8,9] (by kernel_rfl) (by kernel_rfl) (.cons _ (.refl _)) ?_
  refine op_loadAggB (ds := u64s (wl x)) (nxsf rfl rfl rfl) ag24 rfl B3 (by first | (rw [List.drop_zero, List.take_of_length_le (by first | (simp; done) | (simp; omega))]; done) | rfl) (by first | (simp; done) | (simp; omega)) mem0 rfl ?_
  refine op_loadAggB (ds := u64s (wl y)) (nxsf rfl rfl rfl) ag24 rfl B4 (by first | (rw [List.drop_zero, List.take_of_length_le (by first | (simp; done) | (simp; omega))]; done) | rfl) (by first | (simp; done) | (simp; omega)) mem1 rfl ?_
  refine op_loadAggB (ds := u64s (wl m)) (nxsf rfl rfl rfl) ag24 rfl B5 (by first | (rw [List.drop_zero, List.take_of_length_le (by first | (simp; done) | (simp; omega))]; done) | rfl) (by first | (simp; done) | (simp; omega)) mem2 rfl ?_
  refine op_callA (Nx.agree (nxsm rfl rfl rfl)) (.cons rfl .nil) (rN_w hx) Try.func104 rfl rfl (by simp) rfl ?_
  rintro v11 L11 ⟨M11, p11, c11, rfl, rfl, s11⟩
  change At _ _ _ [M11, N6, N3, N4, N5, R] _
  refine At.perm sel5 ?_
  refine At.perm sel5 ?_
  refine At.perm sel5 ?_
  refine At.perm sel5 ?_
  refine At.perm sel4 ?_
  refine At.perm sel5 ?_
  refine At.moreS (Lst := [N3, N4, N5, R]) (Lst' := [M11, N3, N4, N5, R]) (.cons _ (.refl _)) (.cons _ (.refl _)) ?_
  refine op_callA (Nx.agree (nxsm rfl rfl rfl)) (.cons rfl .nil) (rN_w hy) Try.func104 rfl rfl (by simp) rfl ?_
  rintro v13 L13 ⟨M13, p13, c13, rfl, rfl, s13⟩
  change At _ _ _ [M13, N6, M11, N3, N4, N5, R] _
  refine At.perm sel6 ?_
  refine At.perm sel6 ?_
  refine At.perm sel6 ?_
  refine At.perm sel6 ?_
  refine At.perm sel6 ?_
  refine At.perm sel5 ?_
  refine At.perm sel6 ?_
  refine At.moreS (Lst := [M11, N3, N4, N5, R]) (Lst' := [M13, M11, N3, N4, N5, R]) (.cons _ (.refl _)) (.cons _ (.refl _)) ?_
  refine op_callA (Nx.agree (nxsm rfl rfl rfl)) (.cons rfl (.cons rfl .nil)) (rAdd_f s11 s13 (by omega) (by omega)) Try.func96 rfl rfl (by simp) rfl ?_
  rintro v14 L14 ⟨M14, p14, c14, rfl, rfl, s14⟩
  change At _ _ _ [M14, N6, M13, M11, N3, N4, N5, R] _
  rw [v32_digsOf, v32_digsOf] at s14 ⊢
  refine At.perm sel7 ?_
  refine At.perm sel7 ?_
  refine At.perm sel7 ?_
  refine At.perm sel7 ?_
  refine At.perm sel7 ?_
  refine At.perm sel7 ?_
  refine At.perm sel6 ?_
  refine At.perm sel7 ?_
  refine At.moreS (Lst := [M13, M11, N3, N4, N5, R]) (Lst' := [M14, M13, M11, N3, N4, N5, R]) (.cons _ (.refl _)) (.cons _ (.refl _)) ?_
  refine op_callA (Nx.agree (nxss rfl rfl rfl rfl)) (.cons rfl .nil) (rN_w hm) Try.func104 rfl rfl (by simp) rfl ?_
  rintro v16 L16 ⟨M16, p16, c16, rfl, rfl, s16⟩
  change At _ _ _ [M16, N6, M14, M13, M11, N3, N4, N5, R] _
  refine At.anyS (.refl _) ?_
  refine op_callA (Nx.agree (nxss rfl rfl rfl rfl)) (.cons rfl (.cons rfl .nil)) (rMod_f s14 s16 (by omega) (by omega) hp) Try.func106 rfl rfl (by simp) rfl ?_
  rintro v17 L17 ⟨M17, p17, c17, rfl, rfl, h17⟩
  change At _ _ _ [M17, M16, N6, M14, M13, M11, N3, N4, N5, R] _
  refine At.anyS (.refl _) ?_
  refine op_callA (Nx.agree (nxss rfl rfl rfl rfl)) (.cons rfl .nil) (or_W h17) Try.func105 rfl rfl (by simp) rfl ?_
  rintro v18 L18 ⟨rfl, rfl⟩
  change At _ _ _ [M17, M16, N6, M14, M13, M11, N3, N4, N5, R] _
  refine At.anyS (.refl _) ?_
  refine op_store (nxsl rfl rfl rfl rfl) sz24 rfl rfl rfl rfl rfl B6 (by simp) sel2 (fun N6 B6 => ?_)
  rw [setL_whole (by simp)] at B6
  refine At.sNil ?_
  refine At.norm (hk_4 ?_)
  refine At.ret (?_)
  refine At.sub (L' := [N6, R]) (.cons_cons _ (.cons _ (.cons _ (.cons _ (.cons _ (.cons _ (.cons _ (.cons _ (.cons _ (.cons_cons _ (.slnil))))))))))) ?_
  refine At.ret1 (L1 := []) rfl (.cell rfl (res_agg (ds := u64s (wl ((x + y) % m))) ag24 B6 (by first | (rw [List.drop_zero, List.take_of_length_le (by first | (simp; done) | (simp; omega))]; done) | rfl) (by first | (simp; done) | (simp; omega)) mem0) .nil) (.cons _ (.refl _)) (.refl _) ?_
  exact ⟨rfl, rfl⟩
theorem rAddmod_w {x y m : Nat} (hx : x < WW) (hy : y < WW) (hm : m < WW) : Fn Try.prog 63 #[wo x, wo y, wo m] [] [] (fun v L => v = wo (modZ (x + y) m) ∧ L = []) := by
  rcases Nat.eq_zero_or_pos m with h | h
  · subst h
    rw [modZ, if_pos rfl]
    exact rAddmod_0
  · rw [modZ, if_neg (by omega)]
    exact rAddmod_p hx hy hm h
set_option maxRecDepth 100000 in
theorem rMulmod_0 {x y : Nat} : Fn Try.prog 65 #[wo x, wo y, wo 0] [] [] (fun v L => v = wo 0 ∧ L = []) := by
  refine Fn.enter (vs := [wo x, wo y, wo 0]) Try.func65 rfl rfl rfl ?_
  intro E R hR
  change At _ _ E [R] _
  refine At.seq fun K1 hk_1 => ?_
  refine At.region ?_
  refine op_box (nxla rfl) rfl rfl rfl (fun N3 b3 B3 => ?_)
  refine op_box (nxla rfl) rfl rfl rfl (fun N4 b4 B4 => ?_)
  refine op_box (nxla rfl) rfl rfl rfl (fun N5 b5 B5 => ?_)
  change Blk N5 b5 _ (u64s (wl 0)) at B5
  refine op_alloc (nxla rfl) ze24 rfl (fun N6 b6 B6 => ?_)
  change Blk N6 b6 _ [.int .u64 0, .int .u64 0, .int .u64 0, .int .u64 0] at B6
  refine At.opsNil ?_
  refine At.norm (hk_1 ?_)
  refine At.seq fun K2 hk_2 => ?_
  refine At.seq fun K3 hk_3 => ?_
  refine At.region ?_
  refine op_loadAggB (ds := u64s (wl 0)) (nxlf rfl) ag24 rfl B5 (by first | (rw [List.drop_zero, List.take_of_length_le (by first | (simp; done) | (simp; omega))]; done) | rfl) (by first | (simp; done) | (simp; omega)) mem1 rfl ?_
  refine op_callA (nxla rfl) (.cons rfl .nil) (zero_t) Try.func103 rfl rfl (by simp) rfl ?_
  rintro v8 L8 ⟨rfl, rfl⟩
  change At _ _ _ [N6, N5, N4, N3, R] _
  refine At.opsNil ?_
  refine At.norm (hk_3 ?_)
  refine At.condT rfl ?_
  refine At.seq fun K4 hk_4 => ?_
  refine At.region ?_
  refine op_loadAggB (ds := u64s (wl 0)) (nxlf rfl) ag24 rfl B5 (by first | (rw [List.drop_zero, List.take_of_length_le (by first | (simp; done) | (simp; omega))]; done) | rfl) (by first | (simp; done) | (simp; omega)) mem1 rfl ?_
  refine op_store (nxl rfl) sz24 rfl rfl rfl rfl rfl B6 (by simp) sel0 (fun N6 B6 => ?_)
  rw [setL_whole (by simp)] at B6
  refine At.opsNil ?_
  refine At.norm (hk_4 ?_)
  refine At.ret (At.thenRet (?_))
  refine At.sub (L' := [N6, R]) (.cons_cons _ (.cons _ (.cons _ (.cons _ (.cons_cons _ (.slnil)))))) ?_
  refine At.ret1 (L1 := []) rfl (.cell rfl (res_agg (ds := u64s (wl 0)) ag24 B6 (by first | (rw [List.drop_zero, List.take_of_length_le (by first | (simp; done) | (simp; omega))]; done) | rfl) (by first | (simp; done) | (simp; omega)) mem0) .nil) (.cons _ (.refl _)) (.refl _) ?_
  exact ⟨rfl, rfl⟩
set_option maxRecDepth 100000 in
theorem rMulmod_p {x y m : Nat} (hx : x < WW) (hy : y < WW) (hm : m < WW) (hp : 0 < m) : Fn Try.prog 65 #[wo x, wo y, wo m] [] [] (fun v L => v = wo (x * y % m) ∧ L = []) := by
  have hdx := dig_w hx
  have hdy := dig_w hy
  have hdm := dig_w hm
  have hd2 := digs_mul hdx hdy
  refine Fn.enter (vs := [wo x, wo y, wo m]) Try.func65 rfl rfl rfl ?_
  intro E R hR
  change At _ _ E [R] _
  refine At.seq fun K1 hk_1 => ?_
  refine At.region ?_
  refine op_box (nxla rfl) rfl rfl rfl (fun N3 b3 B3 => ?_)
  change Blk N3 b3 _ (u64s (wl x)) at B3
  refine op_box (nxla rfl) rfl rfl rfl (fun N4 b4 B4 => ?_)
  change Blk N4 b4 _ (u64s (wl y)) at B4
  refine op_box (nxla rfl) rfl rfl rfl (fun N5 b5 B5 => ?_)
  change Blk N5 b5 _ (u64s (wl m)) at B5
  refine op_alloc (nxla rfl) ze24 rfl (fun N6 b6 B6 => ?_)
  change Blk N6 b6 _ [.int .u64 0, .int .u64 0, .int .u64 0, .int .u64 0] at B6
  refine At.opsNil ?_
  refine At.norm (hk_1 ?_)
  refine At.seq fun K2 hk_2 => ?_
  refine At.seq fun K3 hk_3 => ?_
  refine At.region ?_
  refine op_loadAggB (ds := u64s (wl m)) (nxlf rfl) ag24 rfl B5 (by first | (rw [List.drop_zero, List.take_of_length_le (by first | (simp; done) | (simp; omega))]; done) | rfl) (by first | (simp; done) | (simp; omega)) mem1 rfl ?_
  refine op_callA (nxla rfl) (.cons rfl .nil) (zero_n hm hp) Try.func103 rfl rfl (by simp) rfl ?_
  rintro v8 L8 ⟨rfl, rfl⟩
  change At _ _ _ [N6, N5, N4, N3, R] _
  refine At.opsNil ?_
  refine At.norm (hk_3 ?_)
  refine At.condF rfl ?_
  refine At.skip ?_
  refine At.norm (hk_2 ?_)
  refine At.seq fun K4 hk_4 => ?_
  refine At.perm sel4 ?_
  refine At.perm sel2 ?_
  refine At.perm sel3 ?_
  refine At.perm sel4 ?_
  refine At.perm sel4 ?_
  refine At.drawnS [N3, N4, N5, R] [6,7,8,9] [] [0,2,5,1,3,4,6,7,8,9] (by kernel_rfl) (by kernel_rfl) (.cons _ (.refl _)) ?_
  refine op_loadAggB (ds := u64s (wl x)) (nxsf rfl rfl rfl) ag24 rfl B3 (by first | (rw [List.drop_zero, List.take_of_length_le (by first | (simp; done) | (simp; omega))]; done) | rfl) (by first | (simp; done) | (simp; omega)) mem0 rfl ?_
  refine op_loadAggB (ds := u64s (wl y)) (nxsf rfl rfl rfl) ag24 rfl B4 (by first | (rw [List.drop_zero, List.take_of_length_le (by first | (simp; done) | (simp; omega))]; done) | rfl) (by first | (simp; done) | (simp; omega)) mem1 rfl ?_
  refine op_loadAggB (ds := u64s (wl m)) (nxsf rfl rfl rfl) ag24 rfl B5 (by first | (rw [List.drop_zero, List.take_of_length_le (by first | (simp; done) | (simp; omega))]; done) | rfl) (by first | (simp; done) | (simp; omega)) mem2 rfl ?_
  refine op_callA (Nx.agree (nxsm rfl rfl rfl)) (.cons rfl .nil) (rN_w hx) Try.func104 rfl rfl (by simp) rfl ?_
  rintro v11 L11 ⟨M11, p11, c11, rfl, rfl, s11⟩
  change At _ _ _ [M11, N6, N3, N4, N5, R] _
  refine At.perm sel5 ?_
  refine At.perm sel5 ?_
  refine At.perm sel5 ?_
  refine At.perm sel5 ?_
  refine At.perm sel4 ?_
  refine At.perm sel5 ?_
  refine At.moreS (Lst := [N3, N4, N5, R]) (Lst' := [M11, N3, N4, N5, R]) (.cons _ (.refl _)) (.cons _ (.refl _)) ?_
  refine op_callA (Nx.agree (nxsm rfl rfl rfl)) (.cons rfl .nil) (rN_w hy) Try.func104 rfl rfl (by simp) rfl ?_
  rintro v13 L13 ⟨M13, p13, c13, rfl, rfl, s13⟩
  change At _ _ _ [M13, N6, M11, N3, N4, N5, R] _
  refine At.perm sel6 ?_
  refine At.perm sel6 ?_
  refine At.perm sel6 ?_
  refine At.perm sel6 ?_
  refine At.perm sel6 ?_
  refine At.perm sel5 ?_
  refine At.perm sel6 ?_
  refine At.moreS (Lst := [M11, N3, N4, N5, R]) (Lst' := [M13, M11, N3, N4, N5, R]) (.cons _ (.refl _)) (.cons _ (.refl _)) ?_
  refine op_callA (Nx.agree (nxsm rfl rfl rfl)) (.cons rfl (.cons rfl .nil)) (rMul_f s11 s13 (by omega) (by omega)) Try.func97 rfl rfl (by simp) rfl ?_
  rintro v14 L14 ⟨M14, p14, c14, rfl, rfl, s14⟩
  change At _ _ _ [M14, N6, M13, M11, N3, N4, N5, R] _
  rw [v32_digsOf, v32_digsOf] at s14 ⊢
  refine At.perm sel7 ?_
  refine At.perm sel7 ?_
  refine At.perm sel7 ?_
  refine At.perm sel7 ?_
  refine At.perm sel7 ?_
  refine At.perm sel7 ?_
  refine At.perm sel6 ?_
  refine At.perm sel7 ?_
  refine At.moreS (Lst := [M13, M11, N3, N4, N5, R]) (Lst' := [M14, M13, M11, N3, N4, N5, R]) (.cons _ (.refl _)) (.cons _ (.refl _)) ?_
  refine op_callA (Nx.agree (nxss rfl rfl rfl rfl)) (.cons rfl .nil) (rN_w hm) Try.func104 rfl rfl (by simp) rfl ?_
  rintro v16 L16 ⟨M16, p16, c16, rfl, rfl, s16⟩
  change At _ _ _ [M16, N6, M14, M13, M11, N3, N4, N5, R] _
  refine At.anyS (.refl _) ?_
  refine op_callA (Nx.agree (nxss rfl rfl rfl rfl)) (.cons rfl (.cons rfl .nil)) (rMod_f s14 s16 (by omega) (by omega) hp) Try.func106 rfl rfl (by simp) rfl ?_
  rintro v17 L17 ⟨M17, p17, c17, rfl, rfl, h17⟩
  change At _ _ _ [M17, M16, N6, M14, M13, M11, N3, N4, N5, R] _
  refine At.anyS (.refl _) ?_
  refine op_callA (Nx.agree (nxss rfl rfl rfl rfl)) (.cons rfl .nil) (or_W h17) Try.func105 rfl rfl (by simp) rfl ?_
  rintro v18 L18 ⟨rfl, rfl⟩
  change At _ _ _ [M17, M16, N6, M14, M13, M11, N3, N4, N5, R] _
  refine At.anyS (.refl _) ?_
  refine op_store (nxsl rfl rfl rfl rfl) sz24 rfl rfl rfl rfl rfl B6 (by simp) sel2 (fun N6 B6 => ?_)
  rw [setL_whole (by simp)] at B6
  refine At.sNil ?_
  refine At.norm (hk_4 ?_)
  refine At.ret (?_)
  refine At.sub (L' := [N6, R]) (.cons_cons _ (.cons _ (.cons _ (.cons _ (.cons _ (.cons _ (.cons _ (.cons _ (.cons _ (.cons_cons _ (.slnil))))))))))) ?_
  refine At.ret1 (L1 := []) rfl (.cell rfl (res_agg (ds := u64s (wl (x * y % m))) ag24 B6 (by first | (rw [List.drop_zero, List.take_of_length_le (by first | (simp; done) | (simp; omega))]; done) | rfl) (by first | (simp; done) | (simp; omega)) mem0) .nil) (.cons _ (.refl _)) (.refl _) ?_
  exact ⟨rfl, rfl⟩
theorem rMulmod_w {x y m : Nat} (hx : x < WW) (hy : y < WW) (hm : m < WW) : Fn Try.prog 65 #[wo x, wo y, wo m] [] [] (fun v L => v = wo (modZ (x * y) m) ∧ L = []) := by
  rcases Nat.eq_zero_or_pos m with h | h
  · subst h
    rw [modZ, if_pos rfl]
    exact rMulmod_0
  · rw [modZ, if_neg (by omega)]
    exact rMulmod_p hx hy hm h
end Go.Proofs.Ytefljbbpaideaaa
