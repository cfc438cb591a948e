/- quarrylaw01.WordRing answers true. No condition. -/
import Derived.Test.YtefljbbpaideaaaKWw
import Derived.Test.YtefljbbpaideaaaKWg
import Derived.Test.YtefljbbpaideaaaKA5
namespace Go.Proofs.Ytefljbbpaideaaa
set_option linter.unusedVariables false
set_option linter.unusedSimpArgs false
open Go Go.RowKit
set_option maxRecDepth 100000 in
set_option maxHeartbeats 4000000 in
theorem WordRing_w {x y z : Nat} (hx : x < WW) (hy : y < WW) (hz : z < WW) : Fn Try.prog 8 #[.agg (u64s (wl x ++ wl y ++ wl z)).toArray] [] [] (fun v L => v = .bool true ∧ L = []) := by
  have hp := WW_pos
  have hlt : ∀ V : Nat, V % WW < WW := fun V => Nat.mod_lt V WW_pos
  have h1 : (1 : UInt64).toNat < WW := Nat.lt_trans (by decide) (Nat.pow_lt_pow_right (by decide) (by decide) : 2 ^ 65 < WW)
  have hn : WW - 1 - x < WW := by omega
  have a1 : wl (x + y) = wl (y + x) := by rw [Nat.add_comm]
  have a2 : wl ((x + y) % WW + z) = wl (x + (y + z) % WW) := wl_congr (by rw [Nat.mod_add_mod, Nat.add_mod_mod, Nat.add_assoc])
  have a3 : wl (x * y) = wl (y * x) := by rw [Nat.mul_comm]
  have a4 : wl (x * y % WW * z) = wl (x * (y * z % WW)) := wl_congr (by rw [Nat.mod_mul_mod, Nat.mul_mod_mod, Nat.mul_assoc])
  have a5 : wl (x * ((y + z) % WW)) = wl (x * y % WW + x * z % WW) := wl_congr (by rw [Nat.mul_mod_mod, ← Nat.add_mod, Nat.mul_add])
  have a6 : wl ((x + y) % WW + WW - y) = wl x := by
    refine wl_congr ?_
    rcases Nat.lt_or_ge (x + y) WW with h | h
    · rw [Nat.mod_eq_of_lt h, show x + y + WW - y = x + WW by omega, Nat.add_mod_right]
    · rw [Nat.mod_eq_sub_mod h, Nat.mod_eq_of_lt (show x + y - WW < WW by omega), show x + y - WW + WW - y = x by omega]
  have a7 : wl (WW - 1 - x + (1 : UInt64).toNat) = wl (0 + WW - x) := by rw [show (1 : UInt64).toNat = 1 from rfl, show WW - 1 - x + 1 = 0 + WW - x by omega]
  refine Fn.enter (vs := [.agg (u64s (wl x ++ wl y ++ wl z)).toArray]) Try.func8 rfl rfl rfl ?_
  intro E R hR
  change At _ _ E [R] _
  refine At.seq fun K1 hk_1 => ?_
  refine At.region ?_
  refine op_box (nxla rfl) rfl rfl rfl (fun N1 b1 B1 => ?_)
  change Blk N1 b1 _ (u64s (wl x ++ wl y ++ wl z)) at B1
  refine op_assign (nxlf rfl) rfl rfl ?_
  refine At.opsNil ?_
  refine At.norm (hk_1 ?_)
  refine At.seq fun K2 hk_2 => ?_
  refine At.meet (fun fr_ hp_ => ∃ (N3 N4 N5 : Heaplet) (b3 b4 b5 : Nat), fr_ = [(3, .pointer (some ⟨b3, 0, none⟩)), (4, .pointer (some ⟨b4, 0, none⟩)), (5, .pointer (some ⟨b5, 0, none⟩))] ∧ hp_ = [N3, N4, N5, R] ∧ (Blk N3 b3 24 (u64s (wl x))) ∧ (Blk N4 b4 24 (u64s (wl y))) ∧ (Blk N5 b5 24 (u64s (wl z)))) ?_ (fun K2_ jk_2 => ?_)
  rotate_left
  · skip
    refine At.planS [N1, R] (.take 0 (.take 1 (.take 2 (.take 3 (.take 4 (.take 5 (.fork 6 false (.fork 7 false (.fork 8 false (.fork 9 false (.fork 10 false (.fork 11 true .done .nofork) .nofork) .nofork) .nofork) (.fork 8 false (.fork 7 false (.fork 9 false (.fork 10 false (.fork 11 true .done .nofork) .nofork) .nofork) .nofork) .nofork)) (.fork 7 false (.fork 6 false (.fork 8 false (.fork 9 false (.fork 10 false (.fork 11 true .done .nofork) .nofork) .nofork) .nofork) (.fork 8 false (.fork 6 false (.fork 9 false (.fork 10 false (.fork 11 true .done .nofork) .nofork) .nofork) .nofork) .nofork)) (.fork 8 false (.fork 6 false (.fork 7 false (.fork 9 false (.fork 10 false (.fork 11 true .done .nofork) .nofork) .nofork) .nofork) (.fork 7 false (.fork 6 false (.fork 9 false (.fork 10 false (.fork 11 true .done .nofork) .nofork) .nofork) .nofork) .nofork)) .nofork))))))))) (by kernel_rfl) (by kernel_rfl) (.refl _) ?_
    refine op_fieldAddr (nxpf rfl rfl) fl26_0 rfl rfl ?_
    refine op_loadAggB (ds := u64s (wl x)) (nxpf rfl rfl) ag24 rfl B1 (by first | (rw [List.drop_zero, List.take_of_length_le (by first | (simp; done) | (simp; omega))]; done) | rfl) (by first | (simp; done) | (simp; omega)) mem0 rfl ?_
    refine op_fieldAddr (nxpf rfl rfl) fl26_1 rfl rfl ?_
    refine op_loadAggB (ds := u64s (wl y)) (nxpf rfl rfl) ag24 rfl B1 (by first | (rw [List.drop_zero, List.take_of_length_le (by first | (simp; done) | (simp; omega))]; done) | rfl) (by first | (simp; done) | (simp; omega)) mem0 rfl ?_
    refine op_fieldAddr (nxpf rfl rfl) fl26_2 rfl rfl ?_
    refine op_loadAggB (ds := u64s (wl z)) (nxpf rfl rfl) ag24 rfl B1 (by first | (rw [List.drop_zero, List.take_of_length_le (by first | (simp; done) | (simp; omega))]; done) | rfl) (by first | (simp; done) | (simp; omega)) mem0 rfl ?_
    refine At.fork ?_ ?_
    rotate_left
    · refine At.fork ?_ ?_
      rotate_left
      · refine At.fork ?_ ?_
        rotate_left
        · exact At.pNo
        refine op_alloc (Nx.agree (nxpa rfl rfl)) ze24 rfl (fun N5 b5 B5 => ?_)
        change Blk N5 b5 _ [.int .u64 0, .int .u64 0, .int .u64 0, .int .u64 0] at B5
        refine At.andS (.cons _ (.refl _)) ?_
        refine At.fork ?_ ?_
        rotate_left
        · refine At.fork ?_ ?_
          rotate_left
          · exact At.pNo
          refine op_alloc (Nx.agree (nxpa rfl rfl)) ze24 rfl (fun N4 b4 B4 => ?_)
          change Blk N4 b4 _ [.int .u64 0, .int .u64 0, .int .u64 0, .int .u64 0] at B4
          refine At.andS (.cons _ (.cons _ (.refl _))) ?_
          refine At.fork ?_ ?_
          rotate_left
          · exact At.pNo
          refine op_alloc (Nx.agree (nxpa rfl rfl)) ze24 rfl (fun N3 b3 B3 => ?_)
          change Blk N3 b3 _ [.int .u64 0, .int .u64 0, .int .u64 0, .int .u64 0] at B3
          refine At.andS (.cons _ (.cons _ (.cons _ (.refl _)))) ?_
          refine At.fork ?_ ?_
          rotate_left
          · exact At.pNo
          refine op_store (nxpa rfl rfl) sz24 rfl rfl rfl rfl rfl B3 (by simp) sel0 (fun N3 B3 => ?_)
          rw [setL_whole (by simp)] at B3
          refine At.andS (.cons _ (.cons _ (.cons _ (.refl _)))) ?_
          refine At.fork ?_ ?_
          rotate_left
          · exact At.pNo
          refine op_store (nxpa rfl rfl) sz24 rfl rfl rfl rfl rfl B4 (by simp) sel1 (fun N4 B4 => ?_)
          rw [setL_whole (by simp)] at B4
          refine At.andS (.cons _ (.cons _ (.cons _ (.refl _)))) ?_
          refine At.fork ?_ ?_
          rotate_left
          · exact At.pNo
          refine op_store (nxpl rfl rfl) sz24 rfl rfl rfl rfl rfl B5 (by simp) sel2 (fun N5 B5 => ?_)
          rw [setL_whole (by simp)] at B5
          refine At.pDone ?_
          refine At.sub (L' := [N5, N4, N3, R]) (.cons_cons _ (.cons_cons _ (.cons_cons _ (.cons _ (.cons_cons _ (.slnil)))))) ?_
          refine At.perm sel3 ?_
          refine At.perm sel1 ?_
          refine At.perm sel2 ?_
          refine At.perm sel3 ?_
          refine At.norm (jk_2 ?_ (.refl _) ⟨N3, N4, N5, b3, b4, b5, rfl, rfl, B3, B4, B5⟩)
          exact .cons (by first | exact lkI rfl (by omega) | rfl) (.cons (by first | exact lkI rfl (by omega) | rfl) (.cons (by first | exact lkI rfl (by omega) | rfl) .nil))
        refine op_alloc (Nx.agree (nxpa rfl rfl)) ze24 rfl (fun N3 b3 B3 => ?_)
        change Blk N3 b3 _ [.int .u64 0, .int .u64 0, .int .u64 0, .int .u64 0] at B3
        refine At.andS (.cons _ (.cons _ (.refl _))) ?_
        refine At.fork ?_ ?_
        rotate_left
        · exact At.pNo
        refine op_alloc (Nx.agree (nxpa rfl rfl)) ze24 rfl (fun N4 b4 B4 => ?_)
        change Blk N4 b4 _ [.int .u64 0, .int .u64 0, .int .u64 0, .int .u64 0] at B4
        refine At.andS (.cons _ (.cons _ (.cons _ (.refl _)))) ?_
        refine At.fork ?_ ?_
        rotate_left
        · exact At.pNo
        refine op_store (nxpa rfl rfl) sz24 rfl rfl rfl rfl rfl B3 (by simp) sel1 (fun N3 B3 => ?_)
        rw [setL_whole (by simp)] at B3
        refine At.andS (.cons _ (.cons _ (.cons _ (.refl _)))) ?_
        refine At.fork ?_ ?_
        rotate_left
        · exact At.pNo
        refine op_store (nxpa rfl rfl) sz24 rfl rfl rfl rfl rfl B4 (by simp) sel1 (fun N4 B4 => ?_)
        rw [setL_whole (by simp)] at B4
        refine At.andS (.cons _ (.cons _ (.cons _ (.refl _)))) ?_
        refine At.fork ?_ ?_
        rotate_left
        · exact At.pNo
        refine op_store (nxpl rfl rfl) sz24 rfl rfl rfl rfl rfl B5 (by simp) sel2 (fun N5 B5 => ?_)
        rw [setL_whole (by simp)] at B5
        refine At.pDone ?_
        refine At.sub (L' := [N5, N4, N3, R]) (.cons_cons _ (.cons_cons _ (.cons_cons _ (.cons _ (.cons_cons _ (.slnil)))))) ?_
        refine At.perm sel3 ?_
        refine At.perm sel1 ?_
        refine At.perm sel2 ?_
        refine At.perm sel3 ?_
        refine At.norm (jk_2 ?_ (.refl _) ⟨N3, N4, N5, b3, b4, b5, rfl, rfl, B3, B4, B5⟩)
        exact .cons (by first | exact lkI rfl (by omega) | rfl) (.cons (by first | exact lkI rfl (by omega) | rfl) (.cons (by first | exact lkI rfl (by omega) | rfl) .nil))
      refine op_alloc (Nx.agree (nxpa rfl rfl)) ze24 rfl (fun N4 b4 B4 => ?_)
      change Blk N4 b4 _ [.int .u64 0, .int .u64 0, .int .u64 0, .int .u64 0] at B4
      refine At.andS (.cons _ (.refl _)) ?_
      refine At.fork ?_ ?_
      rotate_left
      · refine At.fork ?_ ?_
        rotate_left
        · exact At.pNo
        refine op_alloc (Nx.agree (nxpa rfl rfl)) ze24 rfl (fun N5 b5 B5 => ?_)
        change Blk N5 b5 _ [.int .u64 0, .int .u64 0, .int .u64 0, .int .u64 0] at B5
        refine At.andS (.cons _ (.cons _ (.refl _))) ?_
        refine At.fork ?_ ?_
        rotate_left
        · exact At.pNo
        refine op_alloc (Nx.agree (nxpa rfl rfl)) ze24 rfl (fun N3 b3 B3 => ?_)
        change Blk N3 b3 _ [.int .u64 0, .int .u64 0, .int .u64 0, .int .u64 0] at B3
        refine At.andS (.cons _ (.cons _ (.cons _ (.refl _)))) ?_
        refine At.fork ?_ ?_
        rotate_left
        · exact At.pNo
        refine op_store (nxpa rfl rfl) sz24 rfl rfl rfl rfl rfl B3 (by simp) sel0 (fun N3 B3 => ?_)
        rw [setL_whole (by simp)] at B3
        refine At.andS (.cons _ (.cons _ (.cons _ (.refl _)))) ?_
        refine At.fork ?_ ?_
        rotate_left
        · exact At.pNo
        refine op_store (nxpa rfl rfl) sz24 rfl rfl rfl rfl rfl B4 (by simp) sel2 (fun N4 B4 => ?_)
        rw [setL_whole (by simp)] at B4
        refine At.andS (.cons _ (.cons _ (.cons _ (.refl _)))) ?_
        refine At.fork ?_ ?_
        rotate_left
        · exact At.pNo
        refine op_store (nxpl rfl rfl) sz24 rfl rfl rfl rfl rfl B5 (by simp) sel2 (fun N5 B5 => ?_)
        rw [setL_whole (by simp)] at B5
        refine At.pDone ?_
        refine At.sub (L' := [N5, N4, N3, R]) (.cons_cons _ (.cons_cons _ (.cons_cons _ (.cons _ (.cons_cons _ (.slnil)))))) ?_
        refine At.perm sel3 ?_
        refine At.perm sel1 ?_
        refine At.perm sel2 ?_
        refine At.perm sel3 ?_
        refine At.norm (jk_2 ?_ (.refl _) ⟨N3, N4, N5, b3, b4, b5, rfl, rfl, B3, B4, B5⟩)
        exact .cons (by first | exact lkI rfl (by omega) | rfl) (.cons (by first | exact lkI rfl (by omega) | rfl) (.cons (by first | exact lkI rfl (by omega) | rfl) .nil))
      refine op_alloc (Nx.agree (nxpa rfl rfl)) ze24 rfl (fun N3 b3 B3 => ?_)
      change Blk N3 b3 _ [.int .u64 0, .int .u64 0, .int .u64 0, .int .u64 0] at B3
      refine At.andS (.cons _ (.cons _ (.refl _))) ?_
      refine At.fork ?_ ?_
      rotate_left
      · exact At.pNo
      refine op_alloc (Nx.agree (nxpa rfl rfl)) ze24 rfl (fun N5 b5 B5 => ?_)
      change Blk N5 b5 _ [.int .u64 0, .int .u64 0, .int .u64 0, .int .u64 0] at B5
      refine At.andS (.cons _ (.cons _ (.cons _ (.refl _)))) ?_
      refine At.fork ?_ ?_
      rotate_left
      · exact At.pNo
      refine op_store (nxpa rfl rfl) sz24 rfl rfl rfl rfl rfl B3 (by simp) sel1 (fun N3 B3 => ?_)
      rw [setL_whole (by simp)] at B3
      refine At.andS (.cons _ (.cons _ (.cons _ (.refl _)))) ?_
      refine At.fork ?_ ?_
      rotate_left
      · exact At.pNo
      refine op_store (nxpa rfl rfl) sz24 rfl rfl rfl rfl rfl B4 (by simp) sel2 (fun N4 B4 => ?_)
      rw [setL_whole (by simp)] at B4
      refine At.andS (.cons _ (.cons _ (.cons _ (.refl _)))) ?_
      refine At.fork ?_ ?_
      rotate_left
      · exact At.pNo
      refine op_store (nxpl rfl rfl) sz24 rfl rfl rfl rfl rfl B5 (by simp) sel2 (fun N5 B5 => ?_)
      rw [setL_whole (by simp)] at B5
      refine At.pDone ?_
      refine At.sub (L' := [N5, N4, N3, R]) (.cons_cons _ (.cons_cons _ (.cons_cons _ (.cons _ (.cons_cons _ (.slnil)))))) ?_
      refine At.perm sel3 ?_
      refine At.perm sel1 ?_
      refine At.perm sel2 ?_
      refine At.perm sel3 ?_
      refine At.norm (jk_2 ?_ (.refl _) ⟨N3, N4, N5, b3, b4, b5, rfl, rfl, B3, B4, B5⟩)
      exact .cons (by first | exact lkI rfl (by omega) | rfl) (.cons (by first | exact lkI rfl (by omega) | rfl) (.cons (by first | exact lkI rfl (by omega) | rfl) .nil))
    refine op_alloc (Nx.agree (nxpa rfl rfl)) ze24 rfl (fun N3 b3 B3 => ?_)
    change Blk N3 b3 _ [.int .u64 0, .int .u64 0, .int .u64 0, .int .u64 0] at B3
    refine At.andS (.cons _ (.refl _)) ?_
    refine At.fork ?_ ?_
    rotate_left
    · refine At.fork ?_ ?_
      rotate_left
      · exact At.pNo
      refine op_alloc (Nx.agree (nxpa rfl rfl)) ze24 rfl (fun N5 b5 B5 => ?_)
      change Blk N5 b5 _ [.int .u64 0, .int .u64 0, .int .u64 0, .int .u64 0] at B5
      refine At.andS (.cons _ (.cons _ (.refl _))) ?_
      refine At.fork ?_ ?_
      rotate_left
      · exact At.pNo
      refine op_alloc (Nx.agree (nxpa rfl rfl)) ze24 rfl (fun N4 b4 B4 => ?_)
      change Blk N4 b4 _ [.int .u64 0, .int .u64 0, .int .u64 0, .int .u64 0] at B4
      refine At.andS (.cons _ (.cons _ (.cons _ (.refl _)))) ?_
      refine At.fork ?_ ?_
      rotate_left
      · exact At.pNo
      refine op_store (nxpa rfl rfl) sz24 rfl rfl rfl rfl rfl B3 (by simp) sel2 (fun N3 B3 => ?_)
      rw [setL_whole (by simp)] at B3
      refine At.andS (.cons _ (.cons _ (.cons _ (.refl _)))) ?_
      refine At.fork ?_ ?_
      rotate_left
      · exact At.pNo
      refine op_store (nxpa rfl rfl) sz24 rfl rfl rfl rfl rfl B4 (by simp) sel1 (fun N4 B4 => ?_)
      rw [setL_whole (by simp)] at B4
      refine At.andS (.cons _ (.cons _ (.cons _ (.refl _)))) ?_
      refine At.fork ?_ ?_
      rotate_left
      · exact At.pNo
      refine op_store (nxpl rfl rfl) sz24 rfl rfl rfl rfl rfl B5 (by simp) sel2 (fun N5 B5 => ?_)
      rw [setL_whole (by simp)] at B5
      refine At.pDone ?_
      refine At.sub (L' := [N5, N4, N3, R]) (.cons_cons _ (.cons_cons _ (.cons_cons _ (.cons _ (.cons_cons _ (.slnil)))))) ?_
      refine At.perm sel3 ?_
      refine At.perm sel1 ?_
      refine At.perm sel2 ?_
      refine At.perm sel3 ?_
      refine At.norm (jk_2 ?_ (.refl _) ⟨N3, N4, N5, b3, b4, b5, rfl, rfl, B3, B4, B5⟩)
      exact .cons (by first | exact lkI rfl (by omega) | rfl) (.cons (by first | exact lkI rfl (by omega) | rfl) (.cons (by first | exact lkI rfl (by omega) | rfl) .nil))
    refine op_alloc (Nx.agree (nxpa rfl rfl)) ze24 rfl (fun N4 b4 B4 => ?_)
    change Blk N4 b4 _ [.int .u64 0, .int .u64 0, .int .u64 0, .int .u64 0] at B4
    refine At.andS (.cons _ (.cons _ (.refl _))) ?_
    refine At.fork ?_ ?_
    rotate_left
    · exact At.pNo
    refine op_alloc (Nx.agree (nxpa rfl rfl)) ze24 rfl (fun N5 b5 B5 => ?_)
    change Blk N5 b5 _ [.int .u64 0, .int .u64 0, .int .u64 0, .int .u64 0] at B5
    refine At.andS (.cons _ (.cons _ (.cons _ (.refl _)))) ?_
    refine At.fork ?_ ?_
    rotate_left
    · exact At.pNo
    refine op_store (nxpa rfl rfl) sz24 rfl rfl rfl rfl rfl B3 (by simp) sel2 (fun N3 B3 => ?_)
    rw [setL_whole (by simp)] at B3
    refine At.andS (.cons _ (.cons _ (.cons _ (.refl _)))) ?_
    refine At.fork ?_ ?_
    rotate_left
    · exact At.pNo
    refine op_store (nxpa rfl rfl) sz24 rfl rfl rfl rfl rfl B4 (by simp) sel2 (fun N4 B4 => ?_)
    rw [setL_whole (by simp)] at B4
    refine At.andS (.cons _ (.cons _ (.cons _ (.refl _)))) ?_
    refine At.fork ?_ ?_
    rotate_left
    · exact At.pNo
    refine op_store (nxpl rfl rfl) sz24 rfl rfl rfl rfl rfl B5 (by simp) sel2 (fun N5 B5 => ?_)
    rw [setL_whole (by simp)] at B5
    refine At.pDone ?_
    refine At.sub (L' := [N5, N4, N3, R]) (.cons_cons _ (.cons_cons _ (.cons_cons _ (.cons _ (.cons_cons _ (.slnil)))))) ?_
    refine At.perm sel3 ?_
    refine At.perm sel1 ?_
    refine At.perm sel2 ?_
    refine At.perm sel3 ?_
    refine At.norm (jk_2 ?_ (.refl _) ⟨N3, N4, N5, b3, b4, b5, rfl, rfl, B3, B4, B5⟩)
    exact .cons (by first | exact lkI rfl (by omega) | rfl) (.cons (by first | exact lkI rfl (by omega) | rfl) (.cons (by first | exact lkI rfl (by omega) | rfl) .nil))
  rintro _ _ ⟨N3, N4, N5, b3, b4, b5, rfl, rfl, B3, B4, B5⟩
  refine hk_2 ?_
  refine At.seq fun K3 hk_3 => ?_
  refine At.seq fun K4 hk_4 => ?_
  refine At.drawnS [N3, N4, N5, R] [5,17,26,39,53,54] [] [0,1,3,4,2,5,6,7,8,9,11,13,14,15,10,12,16,17,18,19,20,21,22,24,25,23,26,27,28,29,30,31,33,35,36,37,32,34,38,39,40,41,42,43,44,45,48,49,51,52,46,47,50,53,54,55,56] (by kernel_rfl) (by kernel_rfl) (.refl _) ?_
  refine op_loadAggB (ds := u64s (wl x)) (nxsf rfl rfl rfl) ag24 rfl B3 (by first | (rw [List.drop_zero, List.take_of_length_le (by first | (simp; done) | (simp; omega))]; done) | rfl) (by first | (simp; done) | (simp; omega)) mem0 rfl ?_
  refine op_loadAggB (ds := u64s (wl y)) (nxsf rfl rfl rfl) ag24 rfl B4 (by first | (rw [List.drop_zero, List.take_of_length_le (by first | (simp; done) | (simp; omega))]; done) | rfl) (by first | (simp; done) | (simp; omega)) mem1 rfl ?_
  refine op_loadAggB (ds := u64s (wl y)) (nxsf rfl rfl rfl) ag24 rfl B4 (by first | (rw [List.drop_zero, List.take_of_length_le (by first | (simp; done) | (simp; omega))]; done) | rfl) (by first | (simp; done) | (simp; omega)) mem1 rfl ?_
  refine op_loadAggB (ds := u64s (wl x)) (nxsf rfl rfl rfl) ag24 rfl B3 (by first | (rw [List.drop_zero, List.take_of_length_le (by first | (simp; done) | (simp; omega))]; done) | rfl) (by first | (simp; done) | (simp; omega)) mem0 rfl ?_
  refine op_callA (Nx.agree (nxsm rfl rfl rfl)) (.cons rfl (.cons rfl .nil)) (WAdd_f hx hy) Try.func29 rfl rfl (by simp) rfl ?_
  rintro v16 L16 ⟨rfl, rfl⟩
  change At _ _ _ [N3, N4, N5, R] _
  refine At.moreS (Lst := [N3, N4, N5, R]) (Lst' := [N3, N4, N5, R]) (.refl _) (.refl _) ?_
  refine op_callA (Nx.agree (nxss rfl rfl rfl rfl)) (.cons rfl (.cons rfl .nil)) (WAdd_f hy hx) Try.func29 rfl rfl (by simp) rfl ?_
  rintro v19 L19 ⟨rfl, rfl⟩
  change At _ _ _ [N3, N4, N5, R] _
  refine At.anyS (.refl _) ?_
  refine op_neW (a := wl (x + y)) (b := wl (y + x)) (nxsf rfl rfl rfl) ae24 Try.underlying22 (by kernel_rfl) rfl rfl rfl rfl rfl ?_
  refine op_move (nxsf rfl rfl rfl) rfl rfl ?_
  refine At.partP (d := 21) rfl (fun g21 => ?_) (fun g21 => ?_)
  · exact absurd a1 g21
  · refine op_loadAggB (ds := u64s (wl x)) (nxsgf rfl rfl rfl rfl rfl rfl) ag24 rfl B3 (by first | (rw [List.drop_zero, List.take_of_length_le (by first | (simp; done) | (simp; omega))]; done) | rfl) (by first | (simp; done) | (simp; omega)) mem0 rfl ?_
    refine op_loadAggB (ds := u64s (wl y)) (nxsgf rfl rfl rfl rfl rfl rfl) ag24 rfl B4 (by first | (rw [List.drop_zero, List.take_of_length_le (by first | (simp; done) | (simp; omega))]; done) | rfl) (by first | (simp; done) | (simp; omega)) mem1 rfl ?_
    refine op_loadAggB (ds := u64s (wl z)) (nxsgf rfl rfl rfl rfl rfl rfl) ag24 rfl B5 (by first | (rw [List.drop_zero, List.take_of_length_le (by first | (simp; done) | (simp; omega))]; done) | rfl) (by first | (simp; done) | (simp; omega)) mem2 rfl ?_
    refine op_loadAggB (ds := u64s (wl x)) (nxsgf rfl rfl rfl rfl rfl rfl) ag24 rfl B3 (by first | (rw [List.drop_zero, List.take_of_length_le (by first | (simp; done) | (simp; omega))]; done) | rfl) (by first | (simp; done) | (simp; omega)) mem0 rfl ?_
    refine op_loadAggB (ds := u64s (wl y)) (nxsgf rfl rfl rfl rfl rfl rfl) ag24 rfl B4 (by first | (rw [List.drop_zero, List.take_of_length_le (by first | (simp; done) | (simp; omega))]; done) | rfl) (by first | (simp; done) | (simp; omega)) mem1 rfl ?_
    refine op_loadAggB (ds := u64s (wl z)) (nxsgf rfl rfl rfl rfl rfl rfl) ag24 rfl B5 (by first | (rw [List.drop_zero, List.take_of_length_le (by first | (simp; done) | (simp; omega))]; done) | rfl) (by first | (simp; done) | (simp; omega)) mem2 rfl ?_
    refine op_callA (Nx.agree (nxsgm rfl rfl rfl rfl rfl rfl)) (.cons rfl (.cons rfl .nil)) (WAdd_f hx hy) Try.func29 rfl rfl (by simp) rfl ?_
    rintro v24 L24 ⟨rfl, rfl⟩
    change At _ _ _ [N3, N4, N5, R] _
    rw [← wo_mod (x + y)]
    refine At.moreS (Lst := [N3, N4, N5, R]) (Lst' := [N3, N4, N5, R]) (.refl _) (.refl _) ?_
    refine op_callA (Nx.agree (nxsgm rfl rfl rfl rfl rfl rfl)) (.cons rfl (.cons rfl .nil)) (WAdd_f (hlt _) hz) Try.func29 rfl rfl (by simp) rfl ?_
    rintro v26 L26 ⟨rfl, rfl⟩
    change At _ _ _ [N3, N4, N5, R] _
    refine At.moreS (Lst := [N3, N4, N5, R]) (Lst' := [N3, N4, N5, R]) (.refl _) (.refl _) ?_
    refine op_callA (Nx.agree (nxsgm rfl rfl rfl rfl rfl rfl)) (.cons rfl (.cons rfl .nil)) (WAdd_f hy hz) Try.func29 rfl rfl (by simp) rfl ?_
    rintro v30 L30 ⟨rfl, rfl⟩
    change At _ _ _ [N3, N4, N5, R] _
    rw [← wo_mod (y + z)]
    refine At.moreS (Lst := [N3, N4, N5, R]) (Lst' := [N3, N4, N5, R]) (.refl _) (.refl _) ?_
    refine op_callA (Nx.agree (nxsgs rfl rfl rfl rfl rfl rfl rfl)) (.cons rfl (.cons rfl .nil)) (WAdd_f hx (hlt _)) Try.func29 rfl rfl (by simp) rfl ?_
    rintro v31 L31 ⟨rfl, rfl⟩
    change At _ _ _ [N3, N4, N5, R] _
    refine At.anyS (.refl _) ?_
    refine op_neW (a := wl ((x + y) % WW + z)) (b := wl (x + (y + z) % WW)) (nxsgf rfl rfl rfl rfl rfl rfl) ae24 Try.underlying22 (by kernel_rfl) rfl rfl rfl rfl rfl ?_
    refine op_pickF (nxsf rfl rfl rfl) rfl rfl rfl ?_
    refine op_move (nxsf rfl rfl rfl) rfl rfl ?_
    refine At.partP (d := 34) rfl (fun g34 => ?_) (fun g34 => ?_)
    · exact absurd a2 g34
    · refine op_loadAggB (ds := u64s (wl x)) (nxsgf rfl rfl rfl rfl rfl rfl) ag24 rfl B3 (by first | (rw [List.drop_zero, List.take_of_length_le (by first | (simp; done) | (simp; omega))]; done) | rfl) (by first | (simp; done) | (simp; omega)) mem0 rfl ?_
      refine op_loadAggB (ds := u64s (wl y)) (nxsgf rfl rfl rfl rfl rfl rfl) ag24 rfl B4 (by first | (rw [List.drop_zero, List.take_of_length_le (by first | (simp; done) | (simp; omega))]; done) | rfl) (by first | (simp; done) | (simp; omega)) mem1 rfl ?_
      refine op_loadAggB (ds := u64s (wl y)) (nxsgf rfl rfl rfl rfl rfl rfl) ag24 rfl B4 (by first | (rw [List.drop_zero, List.take_of_length_le (by first | (simp; done) | (simp; omega))]; done) | rfl) (by first | (simp; done) | (simp; omega)) mem1 rfl ?_
      refine op_loadAggB (ds := u64s (wl x)) (nxsgf rfl rfl rfl rfl rfl rfl) ag24 rfl B3 (by first | (rw [List.drop_zero, List.take_of_length_le (by first | (simp; done) | (simp; omega))]; done) | rfl) (by first | (simp; done) | (simp; omega)) mem0 rfl ?_
      refine op_callA (Nx.agree (nxsgm rfl rfl rfl rfl rfl rfl)) (.cons rfl (.cons rfl .nil)) (WMul_f hx hy) Try.func33 rfl rfl (by simp) rfl ?_
      rintro v37 L37 ⟨rfl, rfl⟩
      change At _ _ _ [N3, N4, N5, R] _
      refine At.moreS (Lst := [N3, N4, N5, R]) (Lst' := [N3, N4, N5, R]) (.refl _) (.refl _) ?_
      refine op_callA (Nx.agree (nxsgs rfl rfl rfl rfl rfl rfl rfl)) (.cons rfl (.cons rfl .nil)) (WMul_f hy hx) Try.func33 rfl rfl (by simp) rfl ?_
      rintro v40 L40 ⟨rfl, rfl⟩
      change At _ _ _ [N3, N4, N5, R] _
      refine At.anyS (.refl _) ?_
      refine op_neW (a := wl (x * y)) (b := wl (y * x)) (nxsgf rfl rfl rfl rfl rfl rfl) ae24 Try.underlying22 (by kernel_rfl) rfl rfl rfl rfl rfl ?_
      refine op_pickF (nxsf rfl rfl rfl) rfl rfl rfl ?_
      refine op_move (nxsf rfl rfl rfl) rfl rfl ?_
      refine At.partP (d := 43) rfl (fun g43 => ?_) (fun g43 => ?_)
      · exact absurd a3 g43
      · refine op_loadAggB (ds := u64s (wl x)) (nxsgf rfl rfl rfl rfl rfl rfl) ag24 rfl B3 (by first | (rw [List.drop_zero, List.take_of_length_le (by first | (simp; done) | (simp; omega))]; done) | rfl) (by first | (simp; done) | (simp; omega)) mem0 rfl ?_
        refine op_loadAggB (ds := u64s (wl y)) (nxsgf rfl rfl rfl rfl rfl rfl) ag24 rfl B4 (by first | (rw [List.drop_zero, List.take_of_length_le (by first | (simp; done) | (simp; omega))]; done) | rfl) (by first | (simp; done) | (simp; omega)) mem1 rfl ?_
        refine op_loadAggB (ds := u64s (wl z)) (nxsgf rfl rfl rfl rfl rfl rfl) ag24 rfl B5 (by first | (rw [List.drop_zero, List.take_of_length_le (by first | (simp; done) | (simp; omega))]; done) | rfl) (by first | (simp; done) | (simp; omega)) mem2 rfl ?_
        refine op_loadAggB (ds := u64s (wl x)) (nxsgf rfl rfl rfl rfl rfl rfl) ag24 rfl B3 (by first | (rw [List.drop_zero, List.take_of_length_le (by first | (simp; done) | (simp; omega))]; done) | rfl) (by first | (simp; done) | (simp; omega)) mem0 rfl ?_
        refine op_loadAggB (ds := u64s (wl y)) (nxsgf rfl rfl rfl rfl rfl rfl) ag24 rfl B4 (by first | (rw [List.drop_zero, List.take_of_length_le (by first | (simp; done) | (simp; omega))]; done) | rfl) (by first | (simp; done) | (simp; omega)) mem1 rfl ?_
        refine op_loadAggB (ds := u64s (wl z)) (nxsgf rfl rfl rfl rfl rfl rfl) ag24 rfl B5 (by first | (rw [List.drop_zero, List.take_of_length_le (by first | (simp; done) | (simp; omega))]; done) | rfl) (by first | (simp; done) | (simp; omega)) mem2 rfl ?_
        refine op_callA (Nx.agree (nxsgm rfl rfl rfl rfl rfl rfl)) (.cons rfl (.cons rfl .nil)) (WMul_f hx hy) Try.func33 rfl rfl (by simp) rfl ?_
        rintro v46 L46 ⟨rfl, rfl⟩
        change At _ _ _ [N3, N4, N5, R] _
        rw [← wo_mod (x * y)]
        refine At.moreS (Lst := [N3, N4, N5, R]) (Lst' := [N3, N4, N5, R]) (.refl _) (.refl _) ?_
        refine op_callA (Nx.agree (nxsgm rfl rfl rfl rfl rfl rfl)) (.cons rfl (.cons rfl .nil)) (WMul_f (hlt _) hz) Try.func33 rfl rfl (by simp) rfl ?_
        rintro v48 L48 ⟨rfl, rfl⟩
        change At _ _ _ [N3, N4, N5, R] _
        refine At.moreS (Lst := [N3, N4, N5, R]) (Lst' := [N3, N4, N5, R]) (.refl _) (.refl _) ?_
        refine op_callA (Nx.agree (nxsgm rfl rfl rfl rfl rfl rfl)) (.cons rfl (.cons rfl .nil)) (WMul_f hy hz) Try.func33 rfl rfl (by simp) rfl ?_
        rintro v52 L52 ⟨rfl, rfl⟩
        change At _ _ _ [N3, N4, N5, R] _
        rw [← wo_mod (y * z)]
        refine At.moreS (Lst := [N3, N4, N5, R]) (Lst' := [N3, N4, N5, R]) (.refl _) (.refl _) ?_
        refine op_callA (Nx.agree (nxsgs rfl rfl rfl rfl rfl rfl rfl)) (.cons rfl (.cons rfl .nil)) (WMul_f hx (hlt _)) Try.func33 rfl rfl (by simp) rfl ?_
        rintro v53 L53 ⟨rfl, rfl⟩
        change At _ _ _ [N3, N4, N5, R] _
        refine At.anyS (.refl _) ?_
        refine op_neW (a := wl (x * y % WW * z)) (b := wl (x * (y * z % WW))) (nxsgf rfl rfl rfl rfl rfl rfl) ae24 Try.underlying22 (by kernel_rfl) rfl rfl rfl rfl rfl ?_
        refine op_pickF (nxsf rfl rfl rfl) rfl rfl rfl ?_
        refine op_move (nxsf rfl rfl rfl) rfl rfl ?_
        refine At.partP (d := 56) rfl (fun g56 => ?_) (fun g56 => ?_)
        · exact absurd a4 g56
        · refine op_loadAggB (ds := u64s (wl x)) (nxsgf rfl rfl rfl rfl rfl rfl) ag24 rfl B3 (by first | (rw [List.drop_zero, List.take_of_length_le (by first | (simp; done) | (simp; omega))]; done) | rfl) (by first | (simp; done) | (simp; omega)) mem0 rfl ?_
          refine op_loadAggB (ds := u64s (wl y)) (nxsgf rfl rfl rfl rfl rfl rfl) ag24 rfl B4 (by first | (rw [List.drop_zero, List.take_of_length_le (by first | (simp; done) | (simp; omega))]; done) | rfl) (by first | (simp; done) | (simp; omega)) mem1 rfl ?_
          refine op_loadAggB (ds := u64s (wl z)) (nxsgf rfl rfl rfl rfl rfl rfl) ag24 rfl B5 (by first | (rw [List.drop_zero, List.take_of_length_le (by first | (simp; done) | (simp; omega))]; done) | rfl) (by first | (simp; done) | (simp; omega)) mem2 rfl ?_
          refine op_loadAggB (ds := u64s (wl x)) (nxsgf rfl rfl rfl rfl rfl rfl) ag24 rfl B3 (by first | (rw [List.drop_zero, List.take_of_length_le (by first | (simp; done) | (simp; omega))]; done) | rfl) (by first | (simp; done) | (simp; omega)) mem0 rfl ?_
          refine op_loadAggB (ds := u64s (wl y)) (nxsgf rfl rfl rfl rfl rfl rfl) ag24 rfl B4 (by first | (rw [List.drop_zero, List.take_of_length_le (by first | (simp; done) | (simp; omega))]; done) | rfl) (by first | (simp; done) | (simp; omega)) mem1 rfl ?_
          refine op_loadAggB (ds := u64s (wl x)) (nxsgf rfl rfl rfl rfl rfl rfl) ag24 rfl B3 (by first | (rw [List.drop_zero, List.take_of_length_le (by first | (simp; done) | (simp; omega))]; done) | rfl) (by first | (simp; done) | (simp; omega)) mem0 rfl ?_
          refine op_loadAggB (ds := u64s (wl z)) (nxsgf rfl rfl rfl rfl rfl rfl) ag24 rfl B5 (by first | (rw [List.drop_zero, List.take_of_length_le (by first | (simp; done) | (simp; omega))]; done) | rfl) (by first | (simp; done) | (simp; omega)) mem2 rfl ?_
          refine op_callA (Nx.agree (nxsgm rfl rfl rfl rfl rfl rfl)) (.cons rfl (.cons rfl .nil)) (WAdd_f hy hz) Try.func29 rfl rfl (by simp) rfl ?_
          rintro v60 L60 ⟨rfl, rfl⟩
          change At _ _ _ [N3, N4, N5, R] _
          rw [← wo_mod (y + z)]
          refine At.moreS (Lst := [N3, N4, N5, R]) (Lst' := [N3, N4, N5, R]) (.refl _) (.refl _) ?_
          refine op_callA (Nx.agree (nxsgm rfl rfl rfl rfl rfl rfl)) (.cons rfl (.cons rfl .nil)) (WMul_f hx (hlt _)) Try.func33 rfl rfl (by simp) rfl ?_
          rintro v61 L61 ⟨rfl, rfl⟩
          change At _ _ _ [N3, N4, N5, R] _
          refine At.moreS (Lst := [N3, N4, N5, R]) (Lst' := [N3, N4, N5, R]) (.refl _) (.refl _) ?_
          refine op_callA (Nx.agree (nxsgm rfl rfl rfl rfl rfl rfl)) (.cons rfl (.cons rfl .nil)) (WMul_f hx hy) Try.func33 rfl rfl (by simp) rfl ?_
          rintro v64 L64 ⟨rfl, rfl⟩
          change At _ _ _ [N3, N4, N5, R] _
          rw [← wo_mod (x * y)]
          refine At.moreS (Lst := [N3, N4, N5, R]) (Lst' := [N3, N4, N5, R]) (.refl _) (.refl _) ?_
          refine op_callA (Nx.agree (nxsgs rfl rfl rfl rfl rfl rfl rfl)) (.cons rfl (.cons rfl .nil)) (WMul_f hx hz) Try.func33 rfl rfl (by simp) rfl ?_
          rintro v67 L67 ⟨rfl, rfl⟩
          change At _ _ _ [N3, N4, N5, R] _
          rw [← wo_mod (x * z)]
          refine At.anyS (.refl _) ?_
          refine op_callA (Nx.agree (nxsgs rfl rfl rfl rfl rfl rfl rfl)) (.cons rfl (.cons rfl .nil)) (WAdd_f (hlt _) (hlt _)) Try.func29 rfl rfl (by simp) rfl ?_
          rintro v68 L68 ⟨rfl, rfl⟩
          change At _ _ _ [N3, N4, N5, R] _
          refine At.anyS (.refl _) ?_
          refine op_neW (a := wl (x * ((y + z) % WW))) (b := wl (x * y % WW + x * z % WW)) (nxsgf rfl rfl rfl rfl rfl rfl) ae24 Try.underlying22 (by kernel_rfl) rfl rfl rfl rfl rfl ?_
          refine op_pickF (nxsf rfl rfl rfl) rfl rfl rfl ?_
          refine At.sNil ?_
          refine At.norm (hk_4 ?_)
          refine At.condP rfl (fun c70 => ?_) (fun c70 => ?_)
          · exact absurd a5 c70
          · refine At.skip ?_
            refine At.norm (hk_3 ?_)
            refine At.seq fun K5 hk_5 => ?_
            refine At.seq fun K6 hk_6 => ?_
            refine At.drawnS [N3, N4, N5, R] [14] [] [0,1,3,5,2,4,6,7,8,12,13,9,10,11,14,15,16] (by kernel_rfl) (by kernel_rfl) (.refl _) ?_
            refine op_loadAggB (ds := u64s (wl x)) (nxsf rfl rfl rfl) ag24 rfl B3 (by first | (rw [List.drop_zero, List.take_of_length_le (by first | (simp; done) | (simp; omega))]; done) | rfl) (by first | (simp; done) | (simp; omega)) mem0 rfl ?_
            refine op_loadAggB (ds := u64s (wl y)) (nxsf rfl rfl rfl) ag24 rfl B4 (by first | (rw [List.drop_zero, List.take_of_length_le (by first | (simp; done) | (simp; omega))]; done) | rfl) (by first | (simp; done) | (simp; omega)) mem1 rfl ?_
            refine op_loadAggB (ds := u64s (wl y)) (nxsf rfl rfl rfl) ag24 rfl B4 (by first | (rw [List.drop_zero, List.take_of_length_le (by first | (simp; done) | (simp; omega))]; done) | rfl) (by first | (simp; done) | (simp; omega)) mem1 rfl ?_
            refine op_loadAggB (ds := u64s (wl x)) (nxsf rfl rfl rfl) ag24 rfl B3 (by first | (rw [List.drop_zero, List.take_of_length_le (by first | (simp; done) | (simp; omega))]; done) | rfl) (by first | (simp; done) | (simp; omega)) mem0 rfl ?_
            refine op_callA (Nx.agree (nxsm rfl rfl rfl)) (.cons rfl (.cons rfl .nil)) (WAdd_f hx hy) Try.func29 rfl rfl (by simp) rfl ?_
            rintro v73 L73 ⟨rfl, rfl⟩
            change At _ _ _ [N3, N4, N5, R] _
            rw [← wo_mod (x + y)]
            refine At.moreS (Lst := [N3, N4, N5, R]) (Lst' := [N3, N4, N5, R]) (.refl _) (.refl _) ?_
            refine op_callA (Nx.agree (nxsm rfl rfl rfl)) (.cons rfl (.cons rfl .nil)) (WSub_f (hlt _) hy) Try.func31 rfl rfl (by simp) rfl ?_
            rintro v75 L75 ⟨rfl, rfl⟩
            change At _ _ _ [N3, N4, N5, R] _
            refine At.moreS (Lst := [N3, N4, N5, R]) (Lst' := [N3, N4, N5, R]) (.refl _) (.refl _) ?_
            refine op_neW (a := wl ((x + y) % WW + WW - y)) (b := wl (x)) (nxsf rfl rfl rfl) ae24 Try.underlying22 (by kernel_rfl) rfl rfl rfl rfl rfl ?_
            refine op_move (nxsf rfl rfl rfl) rfl rfl ?_
            refine At.partP (d := 78) rfl (fun g78 => ?_) (fun g78 => ?_)
            · exact absurd a6 g78
            · refine op_loadAggB (ds := u64s (wl x)) (nxsgf rfl rfl rfl rfl rfl rfl) ag24 rfl B3 (by first | (rw [List.drop_zero, List.take_of_length_le (by first | (simp; done) | (simp; omega))]; done) | rfl) (by first | (simp; done) | (simp; omega)) mem0 rfl ?_
              refine op_buildA (out := [.int .u64 0, .int .u64 0, .int .u64 0, .int .u64 0]) (nxsgf rfl rfl rfl rfl rfl rfl) ze24 ae24 .nil rfl rfl ?_
              refine op_loadAggB (ds := u64s (wl x)) (nxsgf rfl rfl rfl rfl rfl rfl) ag24 rfl B3 (by first | (rw [List.drop_zero, List.take_of_length_le (by first | (simp; done) | (simp; omega))]; done) | rfl) (by first | (simp; done) | (simp; omega)) mem0 rfl ?_
              refine op_callA (Nx.agree (nxsgm rfl rfl rfl rfl rfl rfl)) (.cons rfl .nil) (WNot_f hx) Try.func46 rfl rfl (by simp) rfl ?_
              rintro v80 L80 ⟨rfl, rfl⟩
              change At _ _ _ [N3, N4, N5, R] _
              refine At.moreS (Lst := [N3, N4, N5, R]) (Lst' := [N3, N4, N5, R]) (.refl _) (.refl _) ?_
              refine op_callA (Nx.agree (nxsgm rfl rfl rfl rfl rfl rfl)) (.cons rfl .nil) (WOf_f 1) Try.func36 rfl rfl (by simp) rfl ?_
              rintro v81 L81 ⟨rfl, rfl⟩
              change At _ _ _ [N3, N4, N5, R] _
              refine At.moreS (Lst := [N3, N4, N5, R]) (Lst' := [N3, N4, N5, R]) (.refl _) (.refl _) ?_
              refine op_callA (Nx.agree (nxsgm rfl rfl rfl rfl rfl rfl)) (.cons rfl (.cons rfl .nil)) (WAdd_f (y := (1 : UInt64).toNat) hn h1) Try.func29 rfl rfl (by simp) rfl ?_
              rintro v82 L82 ⟨rfl, rfl⟩
              change At _ _ _ [N3, N4, N5, R] _
              refine At.moreS (Lst := [N3, N4, N5, R]) (Lst' := [N3, N4, N5, R]) (.refl _) (.refl _) ?_
              refine op_callA (Nx.agree (nxsgs rfl rfl rfl rfl rfl rfl rfl)) (.cons rfl (.cons rfl .nil)) (WSub_f (x := 0) WW_pos hx) Try.func31 rfl rfl (by simp) rfl ?_
              rintro v85 L85 ⟨rfl, rfl⟩
              change At _ _ _ [N3, N4, N5, R] _
              refine At.anyS (.refl _) ?_
              refine op_neW (a := wl (WW - 1 - x + (1 : UInt64).toNat)) (b := wl (0 + WW - x)) (nxsgf rfl rfl rfl rfl rfl rfl) ae24 Try.underlying22 (by kernel_rfl) rfl rfl rfl rfl rfl ?_
              refine op_pickF (nxsf rfl rfl rfl) rfl rfl rfl ?_
              refine At.sNil ?_
              refine At.norm (hk_6 ?_)
              refine At.condP rfl (fun c87 => ?_) (fun c87 => ?_)
              · exact absurd a7 c87
              · refine At.skip ?_
                refine At.norm (hk_5 ?_)
                refine At.seq fun K7 hk_7 => ?_
                refine At.region ?_
                refine op_loadAggB (ds := u64s (wl x)) (nxlf rfl) ag24 rfl B3 (by first | (rw [List.drop_zero, List.take_of_length_le (by first | (simp; done) | (simp; omega))]; done) | rfl) (by first | (simp; done) | (simp; omega)) mem0 rfl ?_
                refine op_loadAggB (ds := u64s (wl y)) (nxlf rfl) ag24 rfl B4 (by first | (rw [List.drop_zero, List.take_of_length_le (by first | (simp; done) | (simp; omega))]; done) | rfl) (by first | (simp; done) | (simp; omega)) mem1 rfl ?_
                refine op_callA (nxla rfl) (.cons rfl (.cons rfl .nil)) (Wide_f hx hy) Try.func27 rfl rfl (by simp) rfl ?_
                rintro v91 L91 ⟨rfl, rfl⟩
                change At _ _ _ [N3, N4, N5, R] _
                refine op_move (nxlf rfl) rfl rfl ?_
                refine op_extract (nxlf rfl) rfl rfl rfl ?_
                refine op_extract (nxlf rfl) rfl rfl rfl ?_
                refine op_alloc (nxla rfl) ze24 rfl (fun N6 b6 B6 => ?_)
                change Blk N6 b6 _ [.int .u64 0, .int .u64 0, .int .u64 0, .int .u64 0] at B6
                refine op_alloc (nxla rfl) ze24 rfl (fun N7 b7 B7 => ?_)
                change Blk N7 b7 _ [.int .u64 0, .int .u64 0, .int .u64 0, .int .u64 0] at B7
                refine op_store (nxl rfl) sz24 rfl rfl rfl rfl rfl B6 (by simp) sel1 (fun N6 B6 => ?_)
                rw [setL_whole (by simp)] at B6
                refine op_store (nxl rfl) sz24 rfl rfl rfl rfl rfl B7 (by simp) sel1 (fun N7 B7 => ?_)
                rw [setL_whole (by simp)] at B7
                refine At.opsNil ?_
                refine At.norm (hk_7 ?_)
                refine At.seq fun K8 hk_8 => ?_
                refine At.seq fun K9 hk_9 => ?_
                refine At.perm sel5 ?_
                refine At.perm sel1 ?_
                refine At.perm sel4 ?_
                refine At.perm sel4 ?_
                refine At.perm sel5 ?_
                refine At.perm sel5 ?_
                refine At.drawnS [N3, N4, N7, R] [] [] [0,1,2,3,4] (by kernel_rfl) (by kernel_rfl) (.cons _ (.cons _ (.refl _))) ?_
                refine op_loadAggB (ds := u64s (wl (x * y))) (nxsf rfl rfl rfl) ag24 rfl B7 (by first | (rw [List.drop_zero, List.take_of_length_le (by first | (simp; done) | (simp; omega))]; done) | rfl) (by first | (simp; done) | (simp; omega)) mem2 rfl ?_
                refine op_loadAggB (ds := u64s (wl x)) (nxsf rfl rfl rfl) ag24 rfl B3 (by first | (rw [List.drop_zero, List.take_of_length_le (by first | (simp; done) | (simp; omega))]; done) | rfl) (by first | (simp; done) | (simp; omega)) mem0 rfl ?_
                refine op_loadAggB (ds := u64s (wl y)) (nxsf rfl rfl rfl) ag24 rfl B4 (by first | (rw [List.drop_zero, List.take_of_length_le (by first | (simp; done) | (simp; omega))]; done) | rfl) (by first | (simp; done) | (simp; omega)) mem1 rfl ?_
                refine op_callA (Nx.agree (nxsm rfl rfl rfl)) (.cons rfl (.cons rfl .nil)) (WMul_f hx hy) Try.func33 rfl rfl (by simp) rfl ?_
                rintro v97 L97 ⟨rfl, rfl⟩
                change At _ _ _ [N6, N5, N3, N4, N7, R] _
                refine At.moreS (Lst := [N3, N4, N7, R]) (Lst' := [N3, N4, N7, R]) (.refl _) (.cons _ (.cons _ (.refl _))) ?_
                refine op_neW (a := wl (x * y)) (b := wl (x * y)) (nxsf rfl rfl rfl) ae24 Try.underlying22 (by kernel_rfl) rfl rfl rfl rfl rfl ?_
                refine At.sNil ?_
                refine At.norm (hk_9 ?_)
                refine At.condP rfl (fun c98 => ?_) (fun c98 => ?_)
                · exact absurd rfl c98
                · refine At.skip ?_
                  refine At.norm (hk_8 ?_)
                  refine At.seq fun K10 hk_10 => ?_
                  refine At.seq fun K11 hk_11 => ?_
                  refine At.region ?_
                  refine op_loadAggB (ds := u64s (wl y)) (nxlf rfl) ag24 rfl B4 (by first | (rw [List.drop_zero, List.take_of_length_le (by first | (simp; done) | (simp; omega))]; done) | rfl) (by first | (simp; done) | (simp; omega)) mem3 rfl ?_
                  refine op_buildA (out := [.int .u64 0, .int .u64 0, .int .u64 0, .int .u64 0]) (nxlf rfl) ze24 ae24 .nil rfl rfl ?_
                  refine op_eqW (a := wl y) (b := [0, 0, 0, 0]) (nxlf rfl) ae24 Try.underlying22 (by kernel_rfl) rfl rfl rfl rfl rfl ?_
                  refine At.opsNil ?_
                  refine At.norm (hk_11 ?_)
                  refine At.condP rfl (fun c101 => ?_) (fun c101 => ?_)
                  · have hy0 : y = 0 := (wl_eq_zero hy).1 c101
                    have a8 : wl (x / y) = wl y := by rw [hy0, Nat.div_zero]
                    have a9 : wl (modZ x y) = wl y := by rw [modZ, if_pos hy0, hy0]
                    refine At.seq fun K12 hk_12 => ?_
                    refine At.perm sel5 ?_
                    refine At.perm sel4 ?_
                    refine At.perm sel4 ?_
                    refine At.perm sel5 ?_
                    refine At.perm sel5 ?_
                    refine At.perm sel5 ?_
                    refine At.drawnS [N3, N4, R] [13] [] [0,1,3,2,4,5,6,7,9,8,10,11,12,13,14,15] (by kernel_rfl) (by kernel_rfl) (.cons _ (.cons _ (.cons _ (.refl _)))) ?_
                    refine op_loadAggB (ds := u64s (wl x)) (nxsf rfl rfl rfl) ag24 rfl B3 (by first | (rw [List.drop_zero, List.take_of_length_le (by first | (simp; done) | (simp; omega))]; done) | rfl) (by first | (simp; done) | (simp; omega)) mem0 rfl ?_
                    refine op_loadAggB (ds := u64s (wl y)) (nxsf rfl rfl rfl) ag24 rfl B4 (by first | (rw [List.drop_zero, List.take_of_length_le (by first | (simp; done) | (simp; omega))]; done) | rfl) (by first | (simp; done) | (simp; omega)) mem1 rfl ?_
                    refine op_loadAggB (ds := u64s (wl y)) (nxsf rfl rfl rfl) ag24 rfl B4 (by first | (rw [List.drop_zero, List.take_of_length_le (by first | (simp; done) | (simp; omega))]; done) | rfl) (by first | (simp; done) | (simp; omega)) mem1 rfl ?_
                    refine op_callA (Nx.agree (nxsm rfl rfl rfl)) (.cons rfl (.cons rfl .nil)) (WDiv_f hx hy) Try.func18 rfl rfl (by simp) rfl ?_
                    rintro v104 L104 ⟨rfl, rfl⟩
                    change At _ _ _ [N6, N5, N7, N3, N4, R] _
                    refine At.moreS (Lst := [N3, N4, R]) (Lst' := [N3, N4, R]) (.refl _) (.cons _ (.cons _ (.cons _ (.refl _)))) ?_
                    refine op_eqW (a := wl (x / y)) (b := wl (y)) (nxsf rfl rfl rfl) ae24 Try.underlying22 (by kernel_rfl) rfl rfl rfl rfl rfl ?_
                    refine op_move (nxsf rfl rfl rfl) rfl rfl ?_
                    refine At.partP (d := 107) rfl (fun g107 => ?_) (fun g107 => ?_)
                    · refine op_loadAggB (ds := u64s (wl x)) (nxsgf rfl rfl rfl rfl rfl rfl) ag24 rfl B3 (by first | (rw [List.drop_zero, List.take_of_length_le (by first | (simp; done) | (simp; omega))]; done) | rfl) (by first | (simp; done) | (simp; omega)) mem0 rfl ?_
                      refine op_loadAggB (ds := u64s (wl y)) (nxsgf rfl rfl rfl rfl rfl rfl) ag24 rfl B4 (by first | (rw [List.drop_zero, List.take_of_length_le (by first | (simp; done) | (simp; omega))]; done) | rfl) (by first | (simp; done) | (simp; omega)) mem1 rfl ?_
                      refine op_loadAggB (ds := u64s (wl y)) (nxsgf rfl rfl rfl rfl rfl rfl) ag24 rfl B4 (by first | (rw [List.drop_zero, List.take_of_length_le (by first | (simp; done) | (simp; omega))]; done) | rfl) (by first | (simp; done) | (simp; omega)) mem1 rfl ?_
                      refine op_callA (Nx.agree (nxsgm rfl rfl rfl rfl rfl rfl)) (.cons rfl (.cons rfl .nil)) (WMod_f hx hy) Try.func20 rfl rfl (by simp) rfl ?_
                      rintro v110 L110 ⟨rfl, rfl⟩
                      change At _ _ _ [N6, N5, N7, N3, N4, R] _
                      refine At.moreS (Lst := [N3, N4, R]) (Lst' := [N3, N4, R]) (.refl _) (.cons _ (.cons _ (.cons _ (.refl _)))) ?_
                      refine op_eqW (a := wl (modZ x y)) (b := wl (y)) (nxsgf rfl rfl rfl rfl rfl rfl) ae24 Try.underlying22 (by kernel_rfl) rfl rfl rfl rfl rfl ?_
                      refine op_pickT (nxsf rfl rfl rfl) rfl rfl rfl ?_
                      refine op_move (nxsf rfl rfl rfl) rfl rfl ?_
                      refine At.partP (d := 114) rfl (fun g114 => ?_) (fun g114 => ?_)
                      · refine op_callA (Nx.agree (nxsgs rfl rfl rfl rfl rfl rfl rfl)) .nil (Wwakes_f) Try.func26 rfl rfl (by simp) rfl ?_
                        rintro v115 L115 ⟨rfl, rfl⟩
                        change At _ _ _ [N6, N5, N7, N3, N4, R] _
                        refine At.anyS (.refl _) ?_
                        refine op_pickT (nxsf rfl rfl rfl) rfl rfl rfl ?_
                        refine op_assign (nxsf rfl rfl rfl) rfl rfl ?_
                        refine At.sNil ?_
                        refine At.norm (hk_12 ?_)
                        refine At.ret (At.thenRet (?_))
                        refine At.sub (L' := [R]) (.cons _ (.cons _ (.cons _ (.cons _ (.cons _ (.cons_cons _ (.slnil))))))) ?_
                        refine At.ret1 (L1 := []) rfl (.tmp rfl .nil) (.refl _) (.refl _) ?_
                        exact ⟨rfl, rfl⟩
                      · exact absurd a9 g114
                    · exact absurd a8 g107
                  · have hy0 : y ≠ 0 := fun h => c101 ((wl_eq_zero hy).2 h)
                    have hmz : modZ x y = x % y := by rw [modZ, if_neg hy0]
                    have a8 : wl (x / y * y % WW + modZ x y) = wl x := wl_congr (by rw [Nat.mod_add_mod, hmz, Nat.mul_comm, Nat.div_add_mod])
                    have a9 : cmpN (modZ x y) y < 0 := cmpN_neg.2 (by rw [hmz]; exact Nat.mod_lt x (by omega))
                    refine At.skip ?_
                    refine At.norm (hk_10 ?_)
                    refine At.seq fun K13 hk_13 => ?_
                    refine At.perm sel5 ?_
                    refine At.perm sel4 ?_
                    refine At.perm sel4 ?_
                    refine At.perm sel5 ?_
                    refine At.perm sel5 ?_
                    refine At.perm sel5 ?_
                    refine At.drawnS [N3, N4, R] [16,20] [] [0,1,3,5,6,9,2,4,7,8,10,11,12,13,15,14,16,17,18,19,20,21,22] (by kernel_rfl) (by kernel_rfl) (.cons _ (.cons _ (.cons _ (.refl _)))) ?_
                    refine op_loadAggB (ds := u64s (wl x)) (nxsf rfl rfl rfl) ag24 rfl B3 (by first | (rw [List.drop_zero, List.take_of_length_le (by first | (simp; done) | (simp; omega))]; done) | rfl) (by first | (simp; done) | (simp; omega)) mem0 rfl ?_
                    refine op_loadAggB (ds := u64s (wl y)) (nxsf rfl rfl rfl) ag24 rfl B4 (by first | (rw [List.drop_zero, List.take_of_length_le (by first | (simp; done) | (simp; omega))]; done) | rfl) (by first | (simp; done) | (simp; omega)) mem1 rfl ?_
                    refine op_loadAggB (ds := u64s (wl y)) (nxsf rfl rfl rfl) ag24 rfl B4 (by first | (rw [List.drop_zero, List.take_of_length_le (by first | (simp; done) | (simp; omega))]; done) | rfl) (by first | (simp; done) | (simp; omega)) mem1 rfl ?_
                    refine op_loadAggB (ds := u64s (wl x)) (nxsf rfl rfl rfl) ag24 rfl B3 (by first | (rw [List.drop_zero, List.take_of_length_le (by first | (simp; done) | (simp; omega))]; done) | rfl) (by first | (simp; done) | (simp; omega)) mem0 rfl ?_
                    refine op_loadAggB (ds := u64s (wl y)) (nxsf rfl rfl rfl) ag24 rfl B4 (by first | (rw [List.drop_zero, List.take_of_length_le (by first | (simp; done) | (simp; omega))]; done) | rfl) (by first | (simp; done) | (simp; omega)) mem1 rfl ?_
                    refine op_loadAggB (ds := u64s (wl x)) (nxsf rfl rfl rfl) ag24 rfl B3 (by first | (rw [List.drop_zero, List.take_of_length_le (by first | (simp; done) | (simp; omega))]; done) | rfl) (by first | (simp; done) | (simp; omega)) mem0 rfl ?_
                    refine op_callA (Nx.agree (nxsm rfl rfl rfl)) (.cons rfl (.cons rfl .nil)) (WDiv_f hx hy) Try.func18 rfl rfl (by simp) rfl ?_
                    rintro v119 L119 ⟨rfl, rfl⟩
                    change At _ _ _ [N6, N5, N7, N3, N4, R] _
                    refine At.moreS (Lst := [N3, N4, R]) (Lst' := [N3, N4, R]) (.refl _) (.cons _ (.cons _ (.cons _ (.refl _)))) ?_
                    refine op_callA (Nx.agree (nxsm rfl rfl rfl)) (.cons rfl (.cons rfl .nil)) (WMul_f (div_lt hx) hy) Try.func33 rfl rfl (by simp) rfl ?_
                    rintro v121 L121 ⟨rfl, rfl⟩
                    change At _ _ _ [N6, N5, N7, N3, N4, R] _
                    rw [← wo_mod (x / y * y)]
                    refine At.moreS (Lst := [N3, N4, R]) (Lst' := [N3, N4, R]) (.refl _) (.cons _ (.cons _ (.cons _ (.refl _)))) ?_
                    refine op_callA (Nx.agree (nxsm rfl rfl rfl)) (.cons rfl (.cons rfl .nil)) (WMod_f hx hy) Try.func20 rfl rfl (by simp) rfl ?_
                    rintro v124 L124 ⟨rfl, rfl⟩
                    change At _ _ _ [N6, N5, N7, N3, N4, R] _
                    refine At.moreS (Lst := [N3, N4, R]) (Lst' := [N3, N4, R]) (.refl _) (.cons _ (.cons _ (.cons _ (.refl _)))) ?_
                    refine op_callA (Nx.agree (nxsm rfl rfl rfl)) (.cons rfl (.cons rfl .nil)) (WAdd_f (hlt _) (modZ_lt hx)) Try.func29 rfl rfl (by simp) rfl ?_
                    rintro v125 L125 ⟨rfl, rfl⟩
                    change At _ _ _ [N6, N5, N7, N3, N4, R] _
                    refine At.moreS (Lst := [N3, N4, R]) (Lst' := [N3, N4, R]) (.refl _) (.cons _ (.cons _ (.cons _ (.refl _)))) ?_
                    refine op_eqW (a := wl (x / y * y % WW + modZ x y)) (b := wl (x)) (nxsf rfl rfl rfl) ae24 Try.underlying22 (by kernel_rfl) rfl rfl rfl rfl rfl ?_
                    refine op_move (nxsf rfl rfl rfl) rfl rfl ?_
                    refine At.partP (d := 128) rfl (fun g128 => ?_) (fun g128 => ?_)
                    · refine op_loadAggB (ds := u64s (wl x)) (nxsgf rfl rfl rfl rfl rfl rfl) ag24 rfl B3 (by first | (rw [List.drop_zero, List.take_of_length_le (by first | (simp; done) | (simp; omega))]; done) | rfl) (by first | (simp; done) | (simp; omega)) mem0 rfl ?_
                      refine op_loadAggB (ds := u64s (wl y)) (nxsgf rfl rfl rfl rfl rfl rfl) ag24 rfl B4 (by first | (rw [List.drop_zero, List.take_of_length_le (by first | (simp; done) | (simp; omega))]; done) | rfl) (by first | (simp; done) | (simp; omega)) mem1 rfl ?_
                      refine op_loadAggB (ds := u64s (wl y)) (nxsgf rfl rfl rfl rfl rfl rfl) ag24 rfl B4 (by first | (rw [List.drop_zero, List.take_of_length_le (by first | (simp; done) | (simp; omega))]; done) | rfl) (by first | (simp; done) | (simp; omega)) mem1 rfl ?_
                      refine op_callA (Nx.agree (nxsgm rfl rfl rfl rfl rfl rfl)) (.cons rfl (.cons rfl .nil)) (WMod_f hx hy) Try.func20 rfl rfl (by simp) rfl ?_
                      rintro v131 L131 ⟨rfl, rfl⟩
                      change At _ _ _ [N6, N5, N7, N3, N4, R] _
                      refine At.moreS (Lst := [N3, N4, R]) (Lst' := [N3, N4, R]) (.refl _) (.cons _ (.cons _ (.cons _ (.refl _)))) ?_
                      refine op_callA (Nx.agree (nxsgs rfl rfl rfl rfl rfl rfl rfl)) (.cons rfl (.cons rfl .nil)) (WCmp_f (modZ_lt hx) hy) Try.func47 rfl rfl (by simp) rfl ?_
                      rintro v133 L133 ⟨rfl, rfl⟩
                      change At _ _ _ [N6, N5, N7, N3, N4, R] _
                      refine At.anyS (.refl _) ?_
                      refine op_lss (nxsgf rfl rfl rfl rfl rfl rfl) rfl rfl rfl ?_
                      refine op_pickT (nxsf rfl rfl rfl) rfl rfl rfl ?_
                      refine op_move (nxsf rfl rfl rfl) rfl rfl ?_
                      refine At.partP (d := 136) rfl (fun g136 => ?_) (fun g136 => ?_)
                      · refine op_callA (Nx.agree (nxsgs rfl rfl rfl rfl rfl rfl rfl)) .nil (Wwakes_f) Try.func26 rfl rfl (by simp) rfl ?_
                        rintro v137 L137 ⟨rfl, rfl⟩
                        change At _ _ _ [N6, N5, N7, N3, N4, R] _
                        refine At.anyS (.refl _) ?_
                        refine op_pickT (nxsf rfl rfl rfl) rfl rfl rfl ?_
                        refine op_assign (nxsf rfl rfl rfl) rfl rfl ?_
                        refine At.sNil ?_
                        refine At.norm (hk_13 ?_)
                        refine At.ret (?_)
                        refine At.sub (L' := [R]) (.cons _ (.cons _ (.cons _ (.cons _ (.cons _ (.cons_cons _ (.slnil))))))) ?_
                        refine At.ret1 (L1 := []) rfl (.tmp rfl .nil) (.refl _) (.refl _) ?_
                        exact ⟨rfl, rfl⟩
                      · exact absurd a9 g136
                    · exact absurd a8 g128
theorem WordRing_f {wa wb wm : List UInt64} (ha : wa.length = 4) (hb : wb.length = 4) (hm : wm.length = 4) : Fn Try.prog 8 #[.agg (u64s (wa ++ wb ++ wm)).toArray] [] [] (fun v L => v = .bool true ∧ L = []) := by
  rw [wl_self ha, wl_self hb, wl_self hm]
  exact WordRing_w (v64_lt4 ha) (v64_lt4 hb) (v64_lt4 hm)
end Go.Proofs.Ytefljbbpaideaaa
