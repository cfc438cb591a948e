/- quarrylaw01.WordPower answers true. No condition. -/
import Derived.Test.YtefljbbpaideaaaKWw
import Derived.Test.YtefljbbpaideaaaKWe
namespace Go.Proofs.Ytefljbbpaideaaa
set_option linter.unusedVariables false
set_option linter.unusedSimpArgs false
open Go Go.RowKit
set_option maxRecDepth 100000 in
set_option maxHeartbeats 2000000 in
theorem WordPower_w {x : Nat} (m n : UInt64) (hx : x < WW) : Fn Try.prog 5 #[wo x, .int .u64 (m.toNat : Int), .int .u64 (n.toNat : Int)] [] [] (fun v L => v = .bool true ∧ L = []) := by
  have hm := m.toNat_lt
  have hn := n.toNat_lt
  have h65 : 2 ^ 65 < WW := Nat.pow_lt_pow_right (by decide) (by decide)
  have hmW : m.toNat < WW := by omega
  have hnW : n.toNat < WW := by omega
  have hs : m.toNat + n.toNat < WW := by omega
  have h1W : (1 : UInt64).toNat < WW := Nat.lt_trans (by decide) h65
  have hlt : ∀ V : Nat, V % WW < WW := fun V => Nat.mod_lt V WW_pos
  have hpow : wl (x ^ m.toNat % WW * (x ^ n.toNat % WW)) = wl (x ^ (m.toNat + n.toNat)) := wl_congr (by rw [← Nat.mul_mod, Nat.pow_add])
  have h0 : wl (x ^ 0) = wl (1 : UInt64).toNat := by rw [Nat.pow_zero]; rfl
  have h1 : wl (x ^ (1 : UInt64).toNat) = wl x := by rw [show (1 : UInt64).toNat = 1 from rfl, Nat.pow_one]
  refine Fn.enter (vs := [wo x, .int .u64 (m.toNat : Int), .int .u64 (n.toNat : Int)]) Try.func5 rfl rfl rfl ?_
  intro E R hR
  change At _ _ E [R] _
  refine At.seq fun K1 hk_1 => ?_
  refine At.region ?_
  refine op_box (nxla rfl) rfl rfl rfl (fun N3 b3 B3 => ?_)
  change Blk N3 b3 _ (u64s (wl x)) at B3
  refine op_assign (nxlf rfl) rfl rfl ?_
  refine At.opsNil ?_
  refine At.norm (hk_1 ?_)
  refine At.seq fun K2 hk_2 => ?_
  refine At.meet (fun fr_ hp_ => ∃ (N7 : Heaplet) (b7 : Nat), fr_ = [(1, .int .u64 (m.toNat : Int)), (2, .int .u64 (n.toNat : Int)), (3, .pointer (some ⟨b3, 0, none⟩)), (7, .pointer (some ⟨b7, 0, none⟩))] ∧ hp_ = [N3, N7, R] ∧ (Blk N7 b7 24 (u64s (wl (x ^ m.toNat % WW))))) ?_ (fun K2_ jk_2 => ?_)
  rotate_left
  · skip
    refine At.planS [N3, R] (.take 0 (.take 1 (.fork 2 false (.fork 3 true (.fork 4 false (.fork 5 true .done .nofork) .nofork) (.fork 4 false (.fork 3 false (.fork 5 true .done .nofork) .nofork) .nofork)) (.fork 4 false (.fork 2 false (.fork 3 false (.fork 5 true .done .nofork) .nofork) .nofork) .nofork)))) (by kernel_rfl) (by kernel_rfl) (.refl _) ?_
    refine op_loadAggB (ds := u64s (wl x)) (nxpf rfl rfl) ag24 rfl B3 (by first | (rw [List.drop_zero, List.take_of_length_le (by first | (simp; done) | (simp; omega))]; done) | rfl) (by first | (simp; done) | (simp; omega)) mem0 rfl ?_
    refine op_move (nxpf rfl rfl) rfl rfl ?_
    refine At.fork ?_ ?_
    rotate_left
    · refine At.fork ?_ ?_
      rotate_left
      · exact At.pNo
      refine op_alloc (Nx.agree (nxpa rfl rfl)) ze24 rfl (fun N7 b7 B7 => ?_)
      change Blk N7 b7 _ [.int .u64 0, .int .u64 0, .int .u64 0, .int .u64 0] at B7
      refine At.andS (.cons _ (.refl _)) ?_
      refine At.fork ?_ ?_
      rotate_left
      · exact At.pNo
      refine op_callA (Nx.agree (nxpa rfl rfl)) (.cons rfl .nil) (WOf_f m) Try.func36 rfl rfl (by simp) rfl ?_
      rintro v12 L12 ⟨rfl, rfl⟩
      change At _ _ _ [N7, N3, R] _
      refine At.andS (.cons _ (.refl _)) ?_
      refine At.fork ?_ ?_
      rotate_left
      · exact At.pNo
      refine op_callA (Nx.agree (nxpa rfl rfl)) (.cons rfl (.cons rfl .nil)) (WExp_f hx hmW) Try.func35 rfl rfl (by simp) rfl ?_
      rintro v13 L13 ⟨rfl, rfl⟩
      change At _ _ _ [N7, N3, R] _
      rw [← wo_mod (x ^ m.toNat)]
      refine At.andS (.cons _ (.refl _)) ?_
      refine At.fork ?_ ?_
      rotate_left
      · exact At.pNo
      refine op_store (nxpl rfl rfl) sz24 rfl rfl rfl rfl rfl B7 (by simp) sel0 (fun N7 B7 => ?_)
      rw [setL_whole (by simp)] at B7
      refine At.pDone ?_
      refine At.perm sel2 ?_
      refine At.perm sel1 ?_
      refine At.perm sel2 ?_
      refine At.norm (jk_2 ?_ (.refl _) ⟨N7, b7, rfl, rfl, B7⟩)
      exact .cons (by first | exact lkI rfl (by omega) | rfl) (.cons (by first | exact lkI rfl (by omega) | rfl) (.cons (by first | exact lkI rfl (by omega) | rfl) (.cons (by first | exact lkI rfl (by omega) | rfl) .nil)))
    refine op_callA (Nx.agree (nxpa rfl rfl)) (.cons rfl .nil) (WOf_f m) Try.func36 rfl rfl (by simp) rfl ?_
    rintro v12 L12 ⟨rfl, rfl⟩
    change At _ _ _ [N3, R] _
    refine At.andS (.refl _) ?_
    refine At.fork ?_ ?_
    rotate_left
    · refine At.fork ?_ ?_
      rotate_left
      · exact At.pNo
      refine op_alloc (Nx.agree (nxpa rfl rfl)) ze24 rfl (fun N7 b7 B7 => ?_)
      change Blk N7 b7 _ [.int .u64 0, .int .u64 0, .int .u64 0, .int .u64 0] at B7
      refine At.andS (.cons _ (.refl _)) ?_
      refine At.fork ?_ ?_
      rotate_left
      · exact At.pNo
      refine op_callA (Nx.agree (nxpa rfl rfl)) (.cons rfl (.cons rfl .nil)) (WExp_f hx hmW) Try.func35 rfl rfl (by simp) rfl ?_
      rintro v13 L13 ⟨rfl, rfl⟩
      change At _ _ _ [N7, N3, R] _
      rw [← wo_mod (x ^ m.toNat)]
      refine At.andS (.cons _ (.refl _)) ?_
      refine At.fork ?_ ?_
      rotate_left
      · exact At.pNo
      refine op_store (nxpl rfl rfl) sz24 rfl rfl rfl rfl rfl B7 (by simp) sel0 (fun N7 B7 => ?_)
      rw [setL_whole (by simp)] at B7
      refine At.pDone ?_
      refine At.perm sel2 ?_
      refine At.perm sel1 ?_
      refine At.perm sel2 ?_
      refine At.norm (jk_2 ?_ (.refl _) ⟨N7, b7, rfl, rfl, B7⟩)
      exact .cons (by first | exact lkI rfl (by omega) | rfl) (.cons (by first | exact lkI rfl (by omega) | rfl) (.cons (by first | exact lkI rfl (by omega) | rfl) (.cons (by first | exact lkI rfl (by omega) | rfl) .nil)))
    refine op_callA (Nx.agree (nxpa rfl rfl)) (.cons rfl (.cons rfl .nil)) (WExp_f hx hmW) Try.func35 rfl rfl (by simp) rfl ?_
    rintro v13 L13 ⟨rfl, rfl⟩
    change At _ _ _ [N3, R] _
    rw [← wo_mod (x ^ m.toNat)]
    refine At.andS (.refl _) ?_
    refine At.fork ?_ ?_
    rotate_left
    · exact At.pNo
    refine op_alloc (Nx.agree (nxpa rfl rfl)) ze24 rfl (fun N7 b7 B7 => ?_)
    change Blk N7 b7 _ [.int .u64 0, .int .u64 0, .int .u64 0, .int .u64 0] at B7
    refine At.andS (.cons _ (.refl _)) ?_
    refine At.fork ?_ ?_
    rotate_left
    · exact At.pNo
    refine op_store (nxpl rfl rfl) sz24 rfl rfl rfl rfl rfl B7 (by simp) sel0 (fun N7 B7 => ?_)
    rw [setL_whole (by simp)] at B7
    refine At.pDone ?_
    refine At.perm sel2 ?_
    refine At.perm sel1 ?_
    refine At.perm sel2 ?_
    refine At.norm (jk_2 ?_ (.refl _) ⟨N7, b7, rfl, rfl, B7⟩)
    exact .cons (by first | exact lkI rfl (by omega) | rfl) (.cons (by first | exact lkI rfl (by omega) | rfl) (.cons (by first | exact lkI rfl (by omega) | rfl) (.cons (by first | exact lkI rfl (by omega) | rfl) .nil)))
  rintro _ _ ⟨N7, b7, rfl, rfl, B7⟩
  refine hk_2 ?_
  refine At.seq fun K3 hk_3 => ?_
  refine At.meet (fun fr_ hp_ => ∃ (N8 : Heaplet) (b8 : Nat), fr_ = [(1, .int .u64 (m.toNat : Int)), (2, .int .u64 (n.toNat : Int)), (3, .pointer (some ⟨b3, 0, none⟩)), (7, .pointer (some ⟨b7, 0, none⟩)), (8, .pointer (some ⟨b8, 0, none⟩))] ∧ hp_ = [N3, N7, N8, R] ∧ (Blk N8 b8 24 (u64s (wl (x ^ n.toNat % WW))))) ?_ (fun K3_ jk_3 => ?_)
  rotate_left
  · skip
    refine At.perm sel2 ?_
    refine At.perm sel1 ?_
    refine At.perm sel2 ?_
    refine At.planS [N3, R] (.take 0 (.take 1 (.fork 2 false (.fork 3 true (.fork 4 false (.fork 5 true .done .nofork) .nofork) (.fork 4 false (.fork 3 false (.fork 5 true .done .nofork) .nofork) .nofork)) (.fork 4 false (.fork 2 false (.fork 3 false (.fork 5 true .done .nofork) .nofork) .nofork) .nofork)))) (by kernel_rfl) (by kernel_rfl) (.cons _ (.refl _)) ?_
    refine op_loadAggB (ds := u64s (wl x)) (nxpf rfl rfl) ag24 rfl B3 (by first | (rw [List.drop_zero, List.take_of_length_le (by first | (simp; done) | (simp; omega))]; done) | rfl) (by first | (simp; done) | (simp; omega)) mem0 rfl ?_
    refine op_move (nxpf rfl rfl) rfl rfl ?_
    refine At.fork ?_ ?_
    rotate_left
    · refine At.fork ?_ ?_
      rotate_left
      · exact At.pNo
      refine op_alloc (Nx.agree (nxpa rfl rfl)) ze24 rfl (fun N8 b8 B8 => ?_)
      change Blk N8 b8 _ [.int .u64 0, .int .u64 0, .int .u64 0, .int .u64 0] at B8
      refine At.andS (.cons _ (.cons _ (.refl _))) ?_
      refine At.fork ?_ ?_
      rotate_left
      · exact At.pNo
      refine op_callA (Nx.agree (nxpa rfl rfl)) (.cons rfl .nil) (WOf_f n) Try.func36 rfl rfl (by simp) rfl ?_
      rintro v16 L16 ⟨rfl, rfl⟩
      change At _ _ _ [N8, N7, N3, R] _
      refine At.andS (.cons _ (.cons _ (.refl _))) ?_
      refine At.fork ?_ ?_
      rotate_left
      · exact At.pNo
      refine op_callA (Nx.agree (nxpa rfl rfl)) (.cons rfl (.cons rfl .nil)) (WExp_f hx hnW) Try.func35 rfl rfl (by simp) rfl ?_
      rintro v17 L17 ⟨rfl, rfl⟩
      change At _ _ _ [N8, N7, N3, R] _
      rw [← wo_mod (x ^ n.toNat)]
      refine At.andS (.cons _ (.cons _ (.refl _))) ?_
      refine At.fork ?_ ?_
      rotate_left
      · exact At.pNo
      refine op_store (nxpl rfl rfl) sz24 rfl rfl rfl rfl rfl B8 (by simp) sel0 (fun N8 B8 => ?_)
      rw [setL_whole (by simp)] at B8
      refine At.pDone ?_
      refine At.perm sel3 ?_
      refine At.perm sel1 ?_
      refine At.perm sel2 ?_
      refine At.perm sel3 ?_
      refine At.norm (jk_3 ?_ (.refl _) ⟨N8, b8, rfl, rfl, B8⟩)
      exact .cons (by first | exact lkI rfl (by omega) | rfl) (.cons (by first | exact lkI rfl (by omega) | rfl) (.cons (by first | exact lkI rfl (by omega) | rfl) (.cons (by first | exact lkI rfl (by omega) | rfl) (.cons (by first | exact lkI rfl (by omega) | rfl) .nil))))
    refine op_callA (Nx.agree (nxpa rfl rfl)) (.cons rfl .nil) (WOf_f n) Try.func36 rfl rfl (by simp) rfl ?_
    rintro v16 L16 ⟨rfl, rfl⟩
    change At _ _ _ [N7, N3, R] _
    refine At.andS (.cons _ (.refl _)) ?_
    refine At.fork ?_ ?_
    rotate_left
    · refine At.fork ?_ ?_
      rotate_left
      · exact At.pNo
      refine op_alloc (Nx.agree (nxpa rfl rfl)) ze24 rfl (fun N8 b8 B8 => ?_)
      change Blk N8 b8 _ [.int .u64 0, .int .u64 0, .int .u64 0, .int .u64 0] at B8
      refine At.andS (.cons _ (.cons _ (.refl _))) ?_
      refine At.fork ?_ ?_
      rotate_left
      · exact At.pNo
      refine op_callA (Nx.agree (nxpa rfl rfl)) (.cons rfl (.cons rfl .nil)) (WExp_f hx hnW) Try.func35 rfl rfl (by simp) rfl ?_
      rintro v17 L17 ⟨rfl, rfl⟩
      change At _ _ _ [N8, N7, N3, R] _
      rw [← wo_mod (x ^ n.toNat)]
      refine At.andS (.cons _ (.cons _ (.refl _))) ?_
      refine At.fork ?_ ?_
      rotate_left
      · exact At.pNo
      refine op_store (nxpl rfl rfl) sz24 rfl rfl rfl rfl rfl B8 (by simp) sel0 (fun N8 B8 => ?_)
      rw [setL_whole (by simp)] at B8
      refine At.pDone ?_
      refine At.perm sel3 ?_
      refine At.perm sel1 ?_
      refine At.perm sel2 ?_
      refine At.perm sel3 ?_
      refine At.norm (jk_3 ?_ (.refl _) ⟨N8, b8, rfl, rfl, B8⟩)
      exact .cons (by first | exact lkI rfl (by omega) | rfl) (.cons (by first | exact lkI rfl (by omega) | rfl) (.cons (by first | exact lkI rfl (by omega) | rfl) (.cons (by first | exact lkI rfl (by omega) | rfl) (.cons (by first | exact lkI rfl (by omega) | rfl) .nil))))
    refine op_callA (Nx.agree (nxpa rfl rfl)) (.cons rfl (.cons rfl .nil)) (WExp_f hx hnW) Try.func35 rfl rfl (by simp) rfl ?_
    rintro v17 L17 ⟨rfl, rfl⟩
    change At _ _ _ [N7, N3, R] _
    rw [← wo_mod (x ^ n.toNat)]
    refine At.andS (.cons _ (.refl _)) ?_
    refine At.fork ?_ ?_
    rotate_left
    · exact At.pNo
    refine op_alloc (Nx.agree (nxpa rfl rfl)) ze24 rfl (fun N8 b8 B8 => ?_)
    change Blk N8 b8 _ [.int .u64 0, .int .u64 0, .int .u64 0, .int .u64 0] at B8
    refine At.andS (.cons _ (.cons _ (.refl _))) ?_
    refine At.fork ?_ ?_
    rotate_left
    · exact At.pNo
    refine op_store (nxpl rfl rfl) sz24 rfl rfl rfl rfl rfl B8 (by simp) sel0 (fun N8 B8 => ?_)
    rw [setL_whole (by simp)] at B8
    refine At.pDone ?_
    refine At.perm sel3 ?_
    refine At.perm sel1 ?_
    refine At.perm sel2 ?_
    refine At.perm sel3 ?_
    refine At.norm (jk_3 ?_ (.refl _) ⟨N8, b8, rfl, rfl, B8⟩)
    exact .cons (by first | exact lkI rfl (by omega) | rfl) (.cons (by first | exact lkI rfl (by omega) | rfl) (.cons (by first | exact lkI rfl (by omega) | rfl) (.cons (by first | exact lkI rfl (by omega) | rfl) (.cons (by first | exact lkI rfl (by omega) | rfl) .nil))))
  rintro _ _ ⟨N8, b8, rfl, rfl, B8⟩
  refine hk_3 ?_
  refine At.seq fun K4 hk_4 => ?_
  refine At.meet (fun fr_ hp_ => ∃ (N9 : Heaplet) (b9 : Nat), fr_ = [(1, .int .u64 (m.toNat : Int)), (2, .int .u64 (n.toNat : Int)), (3, .pointer (some ⟨b3, 0, none⟩)), (7, .pointer (some ⟨b7, 0, none⟩)), (8, .pointer (some ⟨b8, 0, none⟩)), (9, .pointer (some ⟨b9, 0, none⟩))] ∧ hp_ = [N3, N7, N8, N9, R] ∧ (Blk N9 b9 24 (u64s (wl (x ^ (m.toNat + n.toNat)))))) ?_ (fun K4_ jk_4 => ?_)
  rotate_left
  · skip
    refine At.perm sel3 ?_
    refine At.perm sel1 ?_
    refine At.perm sel3 ?_
    refine At.perm sel3 ?_
    refine At.planS [N3, R] (.take 0 (.take 1 (.take 3 (.fork 2 false (.fork 4 false (.fork 5 false (.fork 6 true (.fork 7 false (.fork 8 true .done .nofork) .nofork) (.fork 7 false (.fork 6 false (.fork 8 true .done .nofork) .nofork) .nofork)) (.fork 7 false (.fork 5 false (.fork 6 false (.fork 8 true .done .nofork) .nofork) .nofork) .nofork)) (.fork 7 false (.fork 4 false (.fork 5 false (.fork 6 false (.fork 8 true .done .nofork) .nofork) .nofork) .nofork) .nofork)) (.fork 7 false (.fork 2 false (.fork 4 false (.fork 5 false (.fork 6 false (.fork 8 true .done .nofork) .nofork) .nofork) .nofork) .nofork) .nofork))))) (by kernel_rfl) (by kernel_rfl) (.cons _ (.cons _ (.refl _))) ?_
    refine op_loadAggB (ds := u64s (wl x)) (nxpf rfl rfl) ag24 rfl B3 (by first | (rw [List.drop_zero, List.take_of_length_le (by first | (simp; done) | (simp; omega))]; done) | rfl) (by first | (simp; done) | (simp; omega)) mem0 rfl ?_
    refine op_move (nxpf rfl rfl) rfl rfl ?_
    refine op_move (nxpf rfl rfl) rfl rfl ?_
    refine At.fork ?_ ?_
    rotate_left
    · refine At.fork ?_ ?_
      rotate_left
      · exact At.pNo
      refine op_alloc (Nx.agree (nxpa rfl rfl)) ze24 rfl (fun N9 b9 B9 => ?_)
      change Blk N9 b9 _ [.int .u64 0, .int .u64 0, .int .u64 0, .int .u64 0] at B9
      refine At.andS (.cons _ (.cons _ (.cons _ (.refl _)))) ?_
      refine At.fork ?_ ?_
      rotate_left
      · exact At.pNo
      refine op_callA (Nx.agree (nxpa rfl rfl)) (.cons rfl .nil) (WOf_f m) Try.func36 rfl rfl (by simp) rfl ?_
      rintro v20 L20 ⟨rfl, rfl⟩
      change At _ _ _ [N9, N7, N8, N3, R] _
      refine At.andS (.cons _ (.cons _ (.cons _ (.refl _)))) ?_
      refine At.fork ?_ ?_
      rotate_left
      · exact At.pNo
      refine op_callA (Nx.agree (nxpa rfl rfl)) (.cons rfl .nil) (WOf_f n) Try.func36 rfl rfl (by simp) rfl ?_
      rintro v22 L22 ⟨rfl, rfl⟩
      change At _ _ _ [N9, N7, N8, N3, R] _
      refine At.andS (.cons _ (.cons _ (.cons _ (.refl _)))) ?_
      refine At.fork ?_ ?_
      rotate_left
      · exact At.pNo
      refine op_callA (Nx.agree (nxpa rfl rfl)) (.cons rfl (.cons rfl .nil)) (WAdd_f hmW hnW) Try.func29 rfl rfl (by simp) rfl ?_
      rintro v23 L23 ⟨rfl, rfl⟩
      change At _ _ _ [N9, N7, N8, N3, R] _
      refine At.andS (.cons _ (.cons _ (.cons _ (.refl _)))) ?_
      refine At.fork ?_ ?_
      rotate_left
      · exact At.pNo
      refine op_callA (Nx.agree (nxpa rfl rfl)) (.cons rfl (.cons rfl .nil)) (WExp_f hx hs) Try.func35 rfl rfl (by simp) rfl ?_
      rintro v24 L24 ⟨rfl, rfl⟩
      change At _ _ _ [N9, N7, N8, N3, R] _
      refine At.andS (.cons _ (.cons _ (.cons _ (.refl _)))) ?_
      refine At.fork ?_ ?_
      rotate_left
      · exact At.pNo
      refine op_store (nxpl rfl rfl) sz24 rfl rfl rfl rfl rfl B9 (by simp) sel0 (fun N9 B9 => ?_)
      rw [setL_whole (by simp)] at B9
      refine At.pDone ?_
      refine At.perm sel4 ?_
      refine At.perm sel1 ?_
      refine At.perm sel3 ?_
      refine At.perm sel3 ?_
      refine At.perm sel4 ?_
      refine At.norm (jk_4 ?_ (.refl _) ⟨N9, b9, rfl, rfl, B9⟩)
      exact .cons (by first | exact lkI rfl (by omega) | rfl) (.cons (by first | exact lkI rfl (by omega) | rfl) (.cons (by first | exact lkI rfl (by omega) | rfl) (.cons (by first | exact lkI rfl (by omega) | rfl) (.cons (by first | exact lkI rfl (by omega) | rfl) (.cons (by first | exact lkI rfl (by omega) | rfl) .nil)))))
    refine op_callA (Nx.agree (nxpa rfl rfl)) (.cons rfl .nil) (WOf_f m) Try.func36 rfl rfl (by simp) rfl ?_
    rintro v20 L20 ⟨rfl, rfl⟩
    change At _ _ _ [N7, N8, N3, R] _
    refine At.andS (.cons _ (.cons _ (.refl _))) ?_
    refine At.fork ?_ ?_
    rotate_left
    · refine At.fork ?_ ?_
      rotate_left
      · exact At.pNo
      refine op_alloc (Nx.agree (nxpa rfl rfl)) ze24 rfl (fun N9 b9 B9 => ?_)
      change Blk N9 b9 _ [.int .u64 0, .int .u64 0, .int .u64 0, .int .u64 0] at B9
      refine At.andS (.cons _ (.cons _ (.cons _ (.refl _)))) ?_
      refine At.fork ?_ ?_
      rotate_left
      · exact At.pNo
      refine op_callA (Nx.agree (nxpa rfl rfl)) (.cons rfl .nil) (WOf_f n) Try.func36 rfl rfl (by simp) rfl ?_
      rintro v22 L22 ⟨rfl, rfl⟩
      change At _ _ _ [N9, N7, N8, N3, R] _
      refine At.andS (.cons _ (.cons _ (.cons _ (.refl _)))) ?_
      refine At.fork ?_ ?_
      rotate_left
      · exact At.pNo
      refine op_callA (Nx.agree (nxpa rfl rfl)) (.cons rfl (.cons rfl .nil)) (WAdd_f hmW hnW) Try.func29 rfl rfl (by simp) rfl ?_
      rintro v23 L23 ⟨rfl, rfl⟩
      change At _ _ _ [N9, N7, N8, N3, R] _
      refine At.andS (.cons _ (.cons _ (.cons _ (.refl _)))) ?_
      refine At.fork ?_ ?_
      rotate_left
      · exact At.pNo
      refine op_callA (Nx.agree (nxpa rfl rfl)) (.cons rfl (.cons rfl .nil)) (WExp_f hx hs) Try.func35 rfl rfl (by simp) rfl ?_
      rintro v24 L24 ⟨rfl, rfl⟩
      change At _ _ _ [N9, N7, N8, N3, R] _
      refine At.andS (.cons _ (.cons _ (.cons _ (.refl _)))) ?_
      refine At.fork ?_ ?_
      rotate_left
      · exact At.pNo
      refine op_store (nxpl rfl rfl) sz24 rfl rfl rfl rfl rfl B9 (by simp) sel0 (fun N9 B9 => ?_)
      rw [setL_whole (by simp)] at B9
      refine At.pDone ?_
      refine At.perm sel4 ?_
      refine At.perm sel1 ?_
      refine At.perm sel3 ?_
      refine At.perm sel3 ?_
      refine At.perm sel4 ?_
      refine At.norm (jk_4 ?_ (.refl _) ⟨N9, b9, rfl, rfl, B9⟩)
      exact .cons (by first | exact lkI rfl (by omega) | rfl) (.cons (by first | exact lkI rfl (by omega) | rfl) (.cons (by first | exact lkI rfl (by omega) | rfl) (.cons (by first | exact lkI rfl (by omega) | rfl) (.cons (by first | exact lkI rfl (by omega) | rfl) (.cons (by first | exact lkI rfl (by omega) | rfl) .nil)))))
    refine op_callA (Nx.agree (nxpa rfl rfl)) (.cons rfl .nil) (WOf_f n) Try.func36 rfl rfl (by simp) rfl ?_
    rintro v22 L22 ⟨rfl, rfl⟩
    change At _ _ _ [N7, N8, N3, R] _
    refine At.andS (.cons _ (.cons _ (.refl _))) ?_
    refine At.fork ?_ ?_
    rotate_left
    · refine At.fork ?_ ?_
      rotate_left
      · exact At.pNo
      refine op_alloc (Nx.agree (nxpa rfl rfl)) ze24 rfl (fun N9 b9 B9 => ?_)
      change Blk N9 b9 _ [.int .u64 0, .int .u64 0, .int .u64 0, .int .u64 0] at B9
      refine At.andS (.cons _ (.cons _ (.cons _ (.refl _)))) ?_
      refine At.fork ?_ ?_
      rotate_left
      · exact At.pNo
      refine op_callA (Nx.agree (nxpa rfl rfl)) (.cons rfl (.cons rfl .nil)) (WAdd_f hmW hnW) Try.func29 rfl rfl (by simp) rfl ?_
      rintro v23 L23 ⟨rfl, rfl⟩
      change At _ _ _ [N9, N7, N8, N3, R] _
      refine At.andS (.cons _ (.cons _ (.cons _ (.refl _)))) ?_
      refine At.fork ?_ ?_
      rotate_left
      · exact At.pNo
      refine op_callA (Nx.agree (nxpa rfl rfl)) (.cons rfl (.cons rfl .nil)) (WExp_f hx hs) Try.func35 rfl rfl (by simp) rfl ?_
      rintro v24 L24 ⟨rfl, rfl⟩
      change At _ _ _ [N9, N7, N8, N3, R] _
      refine At.andS (.cons _ (.cons _ (.cons _ (.refl _)))) ?_
      refine At.fork ?_ ?_
      rotate_left
      · exact At.pNo
      refine op_store (nxpl rfl rfl) sz24 rfl rfl rfl rfl rfl B9 (by simp) sel0 (fun N9 B9 => ?_)
      rw [setL_whole (by simp)] at B9
      refine At.pDone ?_
      refine At.perm sel4 ?_
      refine At.perm sel1 ?_
      refine At.perm sel3 ?_
      refine At.perm sel3 ?_
      refine At.perm sel4 ?_
      refine At.norm (jk_4 ?_ (.refl _) ⟨N9, b9, rfl, rfl, B9⟩)
      exact .cons (by first | exact lkI rfl (by omega) | rfl) (.cons (by first | exact lkI rfl (by omega) | rfl) (.cons (by first | exact lkI rfl (by omega) | rfl) (.cons (by first | exact lkI rfl (by omega) | rfl) (.cons (by first | exact lkI rfl (by omega) | rfl) (.cons (by first | exact lkI rfl (by omega) | rfl) .nil)))))
    refine op_callA (Nx.agree (nxpa rfl rfl)) (.cons rfl (.cons rfl .nil)) (WAdd_f hmW hnW) Try.func29 rfl rfl (by simp) rfl ?_
    rintro v23 L23 ⟨rfl, rfl⟩
    change At _ _ _ [N7, N8, N3, R] _
    refine At.andS (.cons _ (.cons _ (.refl _))) ?_
    refine At.fork ?_ ?_
    rotate_left
    · refine At.fork ?_ ?_
      rotate_left
      · exact At.pNo
      refine op_alloc (Nx.agree (nxpa rfl rfl)) ze24 rfl (fun N9 b9 B9 => ?_)
      change Blk N9 b9 _ [.int .u64 0, .int .u64 0, .int .u64 0, .int .u64 0] at B9
      refine At.andS (.cons _ (.cons _ (.cons _ (.refl _)))) ?_
      refine At.fork ?_ ?_
      rotate_left
      · exact At.pNo
      refine op_callA (Nx.agree (nxpa rfl rfl)) (.cons rfl (.cons rfl .nil)) (WExp_f hx hs) Try.func35 rfl rfl (by simp) rfl ?_
      rintro v24 L24 ⟨rfl, rfl⟩
      change At _ _ _ [N9, N7, N8, N3, R] _
      refine At.andS (.cons _ (.cons _ (.cons _ (.refl _)))) ?_
      refine At.fork ?_ ?_
      rotate_left
      · exact At.pNo
      refine op_store (nxpl rfl rfl) sz24 rfl rfl rfl rfl rfl B9 (by simp) sel0 (fun N9 B9 => ?_)
      rw [setL_whole (by simp)] at B9
      refine At.pDone ?_
      refine At.perm sel4 ?_
      refine At.perm sel1 ?_
      refine At.perm sel3 ?_
      refine At.perm sel3 ?_
      refine At.perm sel4 ?_
      refine At.norm (jk_4 ?_ (.refl _) ⟨N9, b9, rfl, rfl, B9⟩)
      exact .cons (by first | exact lkI rfl (by omega) | rfl) (.cons (by first | exact lkI rfl (by omega) | rfl) (.cons (by first | exact lkI rfl (by omega) | rfl) (.cons (by first | exact lkI rfl (by omega) | rfl) (.cons (by first | exact lkI rfl (by omega) | rfl) (.cons (by first | exact lkI rfl (by omega) | rfl) .nil)))))
    refine op_callA (Nx.agree (nxpa rfl rfl)) (.cons rfl (.cons rfl .nil)) (WExp_f hx hs) Try.func35 rfl rfl (by simp) rfl ?_
    rintro v24 L24 ⟨rfl, rfl⟩
    change At _ _ _ [N7, N8, N3, R] _
    refine At.andS (.cons _ (.cons _ (.refl _))) ?_
    refine At.fork ?_ ?_
    rotate_left
    · exact At.pNo
    refine op_alloc (Nx.agree (nxpa rfl rfl)) ze24 rfl (fun N9 b9 B9 => ?_)
    change Blk N9 b9 _ [.int .u64 0, .int .u64 0, .int .u64 0, .int .u64 0] at B9
    refine At.andS (.cons _ (.cons _ (.cons _ (.refl _)))) ?_
    refine At.fork ?_ ?_
    rotate_left
    · exact At.pNo
    refine op_store (nxpl rfl rfl) sz24 rfl rfl rfl rfl rfl B9 (by simp) sel0 (fun N9 B9 => ?_)
    rw [setL_whole (by simp)] at B9
    refine At.pDone ?_
    refine At.perm sel4 ?_
    refine At.perm sel1 ?_
    refine At.perm sel3 ?_
    refine At.perm sel3 ?_
    refine At.perm sel4 ?_
    refine At.norm (jk_4 ?_ (.refl _) ⟨N9, b9, rfl, rfl, B9⟩)
    exact .cons (by first | exact lkI rfl (by omega) | rfl) (.cons (by first | exact lkI rfl (by omega) | rfl) (.cons (by first | exact lkI rfl (by omega) | rfl) (.cons (by first | exact lkI rfl (by omega) | rfl) (.cons (by first | exact lkI rfl (by omega) | rfl) (.cons (by first | exact lkI rfl (by omega) | rfl) .nil)))))
  rintro _ _ ⟨N9, b9, rfl, rfl, B9⟩
  refine hk_4 ?_
  refine At.seq fun K5 hk_5 => ?_
  refine At.drawnS [N3, N7, N8, N9, R] [8,9,20] [] [0,1,3,2,4,5,6,7,8,9,10,11,12,13,16,14,15,17,18,19,20,21,22] (by kernel_rfl) (by kernel_rfl) (.refl _) ?_
  refine op_loadAggB (ds := u64s (wl (x ^ m.toNat % WW))) (nxsf rfl rfl rfl) ag24 rfl B7 (by first | (rw [List.drop_zero, List.take_of_length_le (by first | (simp; done) | (simp; omega))]; done) | rfl) (by first | (simp; done) | (simp; omega)) mem1 rfl ?_
  refine op_loadAggB (ds := u64s (wl (x ^ n.toNat % WW))) (nxsf rfl rfl rfl) ag24 rfl B8 (by first | (rw [List.drop_zero, List.take_of_length_le (by first | (simp; done) | (simp; omega))]; done) | rfl) (by first | (simp; done) | (simp; omega)) mem2 rfl ?_
  refine op_loadAggB (ds := u64s (wl (x ^ (m.toNat + n.toNat)))) (nxsf rfl rfl rfl) ag24 rfl B9 (by first | (rw [List.drop_zero, List.take_of_length_le (by first | (simp; done) | (simp; omega))]; done) | rfl) (by first | (simp; done) | (simp; omega)) mem3 rfl ?_
  refine op_callA (Nx.agree (nxsm rfl rfl rfl)) (.cons rfl (.cons rfl .nil)) (WMul_f (hlt _) (hlt _)) Try.func33 rfl rfl (by simp) rfl ?_
  rintro v27 L27 ⟨rfl, rfl⟩
  change At _ _ _ [N3, N7, N8, N9, R] _
  refine At.moreS (Lst := [N3, N7, N8, N9, R]) (Lst' := [N3, N7, N8, N9, R]) (.refl _) (.refl _) ?_
  refine op_eqW (a := wl (x ^ m.toNat % WW * (x ^ n.toNat % WW))) (b := wl (x ^ (m.toNat + n.toNat))) (nxsf rfl rfl rfl) ae24 Try.underlying22 (by kernel_rfl) rfl rfl rfl rfl rfl ?_
  refine op_move (nxsf rfl rfl rfl) rfl rfl ?_
  refine At.partP (d := 30) rfl (fun g30 => ?_) (fun g30 => ?_)
  · refine op_loadAggB (ds := u64s (wl x)) (nxsgf rfl rfl rfl rfl rfl rfl) ag24 rfl B3 (by first | (rw [List.drop_zero, List.take_of_length_le (by first | (simp; done) | (simp; omega))]; done) | rfl) (by first | (simp; done) | (simp; omega)) mem0 rfl ?_
    refine op_buildA (out := [.int .u64 0, .int .u64 0, .int .u64 0, .int .u64 0]) (nxsgf rfl rfl rfl rfl rfl rfl) ze24 ae24 .nil rfl rfl ?_
    refine op_callA (Nx.agree (nxsgs rfl rfl rfl rfl rfl rfl rfl)) (.cons rfl (.cons rfl .nil)) (WExp_f (y := 0) hx WW_pos) Try.func35 rfl rfl (by simp) rfl ?_
    rintro v33 L33 ⟨rfl, rfl⟩
    change At _ _ _ [N3, N7, N8, N9, R] _
    refine At.anyS (.refl _) ?_
    refine op_callA (Nx.agree (nxsgs rfl rfl rfl rfl rfl rfl rfl)) (.cons rfl .nil) (WOf_f 1) Try.func36 rfl rfl (by simp) rfl ?_
    rintro v34 L34 ⟨rfl, rfl⟩
    change At _ _ _ [N3, N7, N8, N9, R] _
    refine At.anyS (.refl _) ?_
    refine op_eqW (a := wl (x ^ 0)) (b := wl (1 : UInt64).toNat) (nxsgf rfl rfl rfl rfl rfl rfl) ae24 Try.underlying22 (by kernel_rfl) rfl rfl rfl rfl rfl ?_
    refine op_pickT (nxsf rfl rfl rfl) rfl rfl rfl ?_
    refine op_move (nxsf rfl rfl rfl) rfl rfl ?_
    refine At.partP (d := 37) rfl (fun g37 => ?_) (fun g37 => ?_)
    · refine op_loadAggB (ds := u64s (wl x)) (nxsgf rfl rfl rfl rfl rfl rfl) ag24 rfl B3 (by first | (rw [List.drop_zero, List.take_of_length_le (by first | (simp; done) | (simp; omega))]; done) | rfl) (by first | (simp; done) | (simp; omega)) mem0 rfl ?_
      refine op_loadAggB (ds := u64s (wl x)) (nxsgf rfl rfl rfl rfl rfl rfl) ag24 rfl B3 (by first | (rw [List.drop_zero, List.take_of_length_le (by first | (simp; done) | (simp; omega))]; done) | rfl) (by first | (simp; done) | (simp; omega)) mem0 rfl ?_
      refine op_callA (Nx.agree (nxsgm rfl rfl rfl rfl rfl rfl)) (.cons rfl .nil) (WOf_f 1) Try.func36 rfl rfl (by simp) rfl ?_
      rintro v39 L39 ⟨rfl, rfl⟩
      change At _ _ _ [N3, N7, N8, N9, R] _
      refine At.moreS (Lst := [N3, N7, N8, N9, R]) (Lst' := [N3, N7, N8, N9, R]) (.refl _) (.refl _) ?_
      refine op_callA (Nx.agree (nxsgm rfl rfl rfl rfl rfl rfl)) (.cons rfl (.cons rfl .nil)) (WExp_f (y := (1 : UInt64).toNat) hx h1W) Try.func35 rfl rfl (by simp) rfl ?_
      rintro v40 L40 ⟨rfl, rfl⟩
      change At _ _ _ [N3, N7, N8, N9, R] _
      refine At.moreS (Lst := [N3, N7, N8, N9, R]) (Lst' := [N3, N7, N8, N9, R]) (.refl _) (.refl _) ?_
      refine op_eqW (a := wl (x ^ (1 : UInt64).toNat)) (b := wl x) (nxsgf rfl rfl rfl rfl rfl rfl) ae24 Try.underlying22 (by kernel_rfl) rfl rfl rfl rfl rfl ?_
      refine op_pickT (nxsf rfl rfl rfl) rfl rfl rfl ?_
      refine op_move (nxsf rfl rfl rfl) rfl rfl ?_
      refine At.partP (d := 44) rfl (fun g44 => ?_) (fun g44 => ?_)
      · refine op_callA (Nx.agree (nxsgs rfl rfl rfl rfl rfl rfl rfl)) .nil (Wwakes_f) Try.func26 rfl rfl (by simp) rfl ?_
        rintro v45 L45 ⟨rfl, rfl⟩
        change At _ _ _ [N3, N7, N8, N9, R] _
        refine At.anyS (.refl _) ?_
        refine op_pickT (nxsf rfl rfl rfl) rfl rfl rfl ?_
        refine op_assign (nxsf rfl rfl rfl) rfl rfl ?_
        refine At.sNil ?_
        refine At.norm (hk_5 ?_)
        refine At.ret (?_)
        refine At.sub (L' := [R]) (.cons _ (.cons _ (.cons _ (.cons _ (.cons_cons _ (.slnil)))))) ?_
        refine At.ret1 (L1 := []) rfl (.tmp rfl .nil) (.refl _) (.refl _) ?_
        exact ⟨rfl, rfl⟩
      · exact absurd h1 g44
    · exact absurd h0 g37
  · exact absurd hpow g30
theorem WordPower_f {a b c d : UInt64} (m n : UInt64) : Fn Try.prog 5 #[.agg #[.int .u64 (a.toNat : Int), .int .u64 (b.toNat : Int), .int .u64 (c.toNat : Int), .int .u64 (d.toNat : Int)], .int .u64 (m.toNat : Int), .int .u64 (n.toNat : Int)] [] [] (fun v L => v = .bool true ∧ L = []) := by
  have h : ([a, b, c, d] : List UInt64).length = 4 := rfl
  have e := wo_list h
  have := WordPower_w m n (v64_lt4 h)
  rw [← e] at this
  exact this
end Go.Proofs.Ytefljbbpaideaaa
