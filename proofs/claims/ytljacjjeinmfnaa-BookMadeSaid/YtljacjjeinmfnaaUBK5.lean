/- quarrylaw14.BookMade answers true. No condition. -/
import Derived.Test.YtljacjjeinmfnaaU13
namespace Go.Proofs.Ytljacjjeinmfnaa
set_option linter.unusedVariables false
set_option linter.unusedSimpArgs false
open Go Go.RowKit
set_option maxRecDepth 100000
/-- A maker's cells. -/
def mkC (a : List UInt8) (n : UInt64) (x : Nat) (v : Value) : List Value := u8s a ++ (.int .u64 (n.toNat : Int) :: (u64s (wl x) ++ [v]))
section
variable {N : Heaplet} {ao : Option Addr} {m cap : Nat} {a l : List UInt8} {n : UInt64} {x : Nat} {v : Value}
theorem mkC_len (ha : a.length = 20) : (mkC a n x v).length = 26 := by
  have := length_wl x
  simp [mkC, u8s, u64s, ha, this]
theorem mkC_one (h : v.oneCell' = true) : (mkC a n x v).all (·.oneCell') = true := by
  refine List.all_eq_true.2 fun u hu => ?_
  rcases List.mem_append.1 hu with hu | hu
  · exact one_u8s _ u hu
  · rcases List.mem_cons.1 hu with rfl | hu
    · rfl
    · rcases List.mem_append.1 hu with hu | hu
      · exact one_u64s _ u hu
      · obtain rfl := List.mem_singleton.1 hu; exact h
theorem u8s_len (l : List UInt8) : (u8s l).length = l.length := by simp [u8s]
theorem u64s_len (l : List UInt64) : (u64s l).length = l.length := by simp [u64s]
theorem mkC_a (ha : a.length = 20) : ((mkC a n x v).drop 0).take 20 = u8s a := by
  rw [List.drop_zero, mkC, List.take_left' (by rw [u8s_len, ha])]
theorem mkC_n (ha : a.length = 20) : (mkC a n x v)[0 + 20]? = some (.int .u64 (n.toNat : Int)) := by
  rw [mkC, List.getElem?_append_right (by rw [u8s_len, ha]; decide), u8s_len, ha]; rfl
theorem mkC_w (ha : a.length = 20) : ((mkC a n x v).drop (0 + 21)).take 4 = u64s (wl x) := by
  have h : mkC a n x v = (u8s a ++ [.int .u64 (n.toNat : Int)]) ++ (u64s (wl x) ++ [v]) := by simp [mkC]
  rw [h, List.drop_left' (by simp [u8s, ha]), List.take_left' (by rw [u64s_len, length_wl])]
theorem mkC_v (ha : a.length = 20) : (mkC a n x v)[0 + 25]? = some v := by
  have h : mkC a n x v = (u8s a ++ (.int .u64 (n.toNat : Int) :: u64s (wl x))) ++ [v] := by simp [mkC]
  rw [h, List.getElem?_append_right (by simp [u8s, u64s, ha, length_wl])]
  simp [u8s, u64s, ha, length_wl]
set_option maxHeartbeats 1000000 in
theorem BookMade_f (h : RSl N 1 ao m cap (u8s l)) (ha : a.length = 20) (hx : x < WW) : Fn Try.prog 3 #[.agg (mkC a n x (.slice ao m cap)).toArray] [] [N] (fun v L => v = .bool true ∧ L = []) := by
  have hul : (u8s a).length = 20 := by rw [u8s_len, ha]
  have hwl : (u64s (wl x)).length = 4 := by rw [u64s_len, length_wl]
  have hcl := mkC_len (n := n) (x := x) (v := .slice ao m cap) ha
  have hml : (madeA a n.toNat).length = 20 := lastA_len _
  have hsl : ∀ y, (saltA a x y).length = 20 := fun y => lastA_len _
  obtain ⟨y, hy⟩ : ∃ y, l.take 300 = y := ⟨_, rfl⟩
  have hyl : y.length ≤ 300 := by rw [← hy, List.length_take]; omega
  have hyt : y.take 300 = y := List.take_of_length_le hyl
  refine Fn.enter (vs := [.agg (mkC a n x (.slice ao m cap)).toArray]) Try.func3 rfl rfl rfl ?_
  intro E R hR
  have h := h.le (hR N (by simp))
  change At _ _ E [R] _
  refine At.seq fun K1 hk_1 => ?_
  refine At.region ?_
  refine op_box (nxla rfl) rfl rfl rfl (fun N1 b1 B1 => ?_)
  refine op_assign (nxlf rfl) rfl rfl ?_
  refine At.opsNil ?_
  refine At.norm (hk_1 ?_)
  refine At.seq fun K2 hk_2 => ?_
  refine At.planS [N1, R] (.take 0 (.take 1 (.take 2 (.take 3 (.take 4 (.take 5 (.fork 6 false (.fork 7 false (.fork 8 false (.take 9 (.fork 10 true .done .nofork)) .nofork) .nofork) (.fork 7 false (.fork 6 false (.fork 8 false (.take 9 (.fork 10 true .done .nofork)) .nofork) .nofork) .nofork)))))))) (by kernel_rfl) (by kernel_rfl) (.refl _) ?_
  refine op_fieldAddr (nxpf rfl rfl) fl29_0 rfl rfl ?_
  refine op_loadAggB (ds := u8s a) (nxpf rfl rfl) ag23 rfl B1 (by exact mkC_a ha) (by exact hul) mem0 rfl ?_
  refine op_fieldAddr (nxpf rfl rfl) fl29_1 rfl rfl ?_
  refine op_loadB (nxpf rfl rfl) sc24 rfl B1 (by first | rfl | exact mkC_n ha | exact mkC_v ha) mem0 rfl ?_
  refine op_fieldAddr (nxpf rfl rfl) fl29_2 rfl rfl ?_
  refine op_loadAggB (ds := u64s (wl x)) (nxpf rfl rfl) ag26 rfl B1 (by exact mkC_w ha) (by exact hwl) mem0 rfl ?_
  refine At.fork ?_ ?_
  rotate_left
  · refine At.fork ?_ ?_
    rotate_left
    · exact At.pNo
    refine op_alloc (Nx.agree (nxpa rfl rfl)) ze26 rfl (fun N5 b5 B5 => ?_)
    change Blk N5 b5 _ [.int .u64 0, .int .u64 0, .int .u64 0, .int .u64 0] at B5
    refine At.andS (.cons _ (.refl _)) ?_
    refine At.fork ?_ ?_
    rotate_left
    · exact At.pNo
    refine op_alloc (Nx.agree (nxpa rfl rfl)) ze23 rfl (fun N3 b3 B3 => ?_)
    change Blk N3 b3 _ [.int .u8 0, .int .u8 0, .int .u8 0, .int .u8 0, .int .u8 0, .int .u8 0, .int .u8 0, .int .u8 0, .int .u8 0, .int .u8 0, .int .u8 0, .int .u8 0, .int .u8 0, .int .u8 0, .int .u8 0, .int .u8 0, .int .u8 0, .int .u8 0, .int .u8 0, .int .u8 0] at B3
    refine At.andS (.cons _ (.cons _ (.refl _))) ?_
    refine At.fork ?_ ?_
    rotate_left
    · exact At.pNo
    refine op_store (nxpa rfl rfl) sz23 rfl rfl rfl (by simp [u8s, ha]) (all8x2 _) B3 (by simp [u8s, ha]) sel0 (fun N3 B3 => ?_)
    rw [setL_whole (by simp [u8s, ha])] at B3
    refine At.andS (.cons _ (.cons _ (.refl _))) ?_
    refine op_assign (nxpf rfl rfl) rfl rfl ?_
    refine At.fork ?_ ?_
    rotate_left
    · exact At.pNo
    refine op_store (nxpl rfl rfl) sz26 rfl rfl rfl rfl rfl B5 (by simp) sel1 (fun N5 B5 => ?_)
    rw [setL_whole (by simp)] at B5
    refine At.pDone ?_
    refine At.norm (hk_2 ?_)
    refine At.seq fun K3 hk_3 => ?_
    refine At.region ?_
    refine op_fieldAddr (nxlf rfl) fl29_3 rfl rfl ?_
    refine op_loadB (nxlf rfl) sc27 rfl B1 (by first | rfl | exact mkC_n ha | exact mkC_v ha) mem2 rfl ?_
    refine op_callA (nxla rfl) (.cons rfl (.cons rfl .nil)) (KTwin_f h 300 300 rfl (by decide)) Try.func8 rfl rfl (by simp) rfl ?_
    rintro v15 L15 ⟨N15, a15, c15, rfl, rfl, r15⟩
    change At _ _ _ [N15, N5, N3, N1, R] _
    rw [hy] at r15 ⊢; have s15 := r15.rsl
    refine op_assign (nxlf rfl) rfl rfl ?_
    refine At.opsNil ?_
    refine At.norm (hk_3 ?_)
    refine At.seq fun K4 hk_4 => ?_
    refine At.drawn [5,16,20] [0,1,3,4,2,5,6,7,8,9,10,13,14,15,11,12,16,17,18,19,20,21,22] (by kernel_rfl) (by kernel_rfl) ?_
    refine op_loadAggB (ds := u8s a) (nxof rfl rfl rfl (by kernel_rfl)) ag23 rfl B3 (by exact tk_all hul) (by exact hul) mem2 rfl ?_
    refine op_move (nxof rfl rfl rfl (by kernel_rfl)) rfl rfl ?_
    refine op_loadAggB (ds := u8s a) (nxof rfl rfl rfl (by kernel_rfl)) ag23 rfl B3 (by exact tk_all hul) (by exact hul) mem2 rfl ?_
    refine op_move (nxof rfl rfl rfl (by kernel_rfl)) rfl rfl ?_
    refine op_callA (nxoa rfl rfl rfl) (.cons rfl (.cons rfl .nil)) (FMade_b ha n) Try.func9 rfl rfl (by simp) rfl ?_
    rintro v18 L18 ⟨rfl, rfl⟩
    change At _ _ _ [N15, N5, N3, N1, R] _
    refine op_callA (nxosa rfl rfl rfl rfl) (.cons rfl (.cons rfl .nil)) (rMade_b ha n) Try.func10 rfl rfl (by simp) rfl ?_
    rintro v21 L21 ⟨rfl, rfl⟩
    change At _ _ _ [N15, N5, N3, N1, R] _
    refine op_eqW8 (a := madeA a n.toNat) (b := madeA a n.toNat) (nxof rfl rfl rfl (by kernel_rfl)) ae23 Try.underlying5 (by kernel_rfl) rfl rfl hml hml rfl ?_
    rw [decide_eq_true (rfl : madeA a n.toNat = madeA a n.toNat)]
    refine op_move (nxof rfl rfl rfl (by kernel_rfl)) rfl rfl ?_
    refine op_loadAggB (ds := u8s a) (nxogf rfl rfl rfl rfl rfl rfl (by kernel_rfl)) ag23 rfl B3 (by exact tk_all hul) (by exact hul) mem2 rfl ?_
    refine op_loadAggB (ds := u64s (wl x)) (nxogf rfl rfl rfl rfl rfl rfl (by kernel_rfl)) ag26 rfl B5 (by first | (rw [List.drop_zero, List.take_of_length_le (by first | (simp; done) | (simp; omega))]; done) | rfl) (by first | (simp; done) | (simp; omega)) mem1 rfl ?_
    refine op_move (nxogf rfl rfl rfl rfl rfl rfl (by kernel_rfl)) rfl rfl ?_
    refine op_loadAggB (ds := u8s a) (nxogf rfl rfl rfl rfl rfl rfl (by kernel_rfl)) ag23 rfl B3 (by exact tk_all hul) (by exact hul) mem2 rfl ?_
    refine op_loadAggB (ds := u64s (wl x)) (nxogf rfl rfl rfl rfl rfl rfl (by kernel_rfl)) ag26 rfl B5 (by first | (rw [List.drop_zero, List.take_of_length_le (by first | (simp; done) | (simp; omega))]; done) | rfl) (by first | (simp; done) | (simp; omega)) mem1 rfl ?_
    refine op_move (nxogf rfl rfl rfl rfl rfl rfl (by kernel_rfl)) rfl rfl ?_
    refine op_callA (nxoga rfl rfl rfl rfl rfl rfl) (.cons rfl (.cons rfl .nil)) (KTwin_f s15 300 300 rfl (by decide)) Try.func8 rfl rfl (by simp) rfl ?_
    rintro v27 L27 ⟨N27, a27, c27, rfl, rfl, r27⟩
    change At _ _ _ [N27, N15, N5, N3, N1, R] _
    rw [hyt] at r27 ⊢; have s27 := r27.rsl
    refine op_callA (nxoga rfl rfl rfl rfl rfl rfl) (.cons rfl (.cons rfl (.cons rfl .nil))) (FSalted_b ha hx s27 (by omega)) Try.func11 rfl rfl (by simp) rfl ?_
    rintro v28 L28 ⟨rfl, rfl⟩
    change At _ _ _ [N27, N15, N5, N3, N1, R] _
    refine op_callA (Nx.agree (nxogs rfl rfl rfl rfl rfl rfl rfl)) (.cons rfl (.cons rfl (.cons rfl .nil))) (rSalted_b ha hx s15 (by omega)) Try.func12 rfl rfl (by simp) rfl ?_
    rintro v32 L32 ⟨rfl, rfl⟩
    change At _ _ _ [N27, N15, N5, N3, N1, R] _
    refine op_eqW8 (a := saltA a x y) (b := saltA a x y) (nxogf rfl rfl rfl rfl rfl rfl (by kernel_rfl)) ae23 Try.underlying5 (by kernel_rfl) rfl rfl (hsl y) (hsl y) rfl ?_
    rw [decide_eq_true (rfl : saltA a x y = saltA a x y)]
    refine op_pickT (nxof rfl rfl rfl (by kernel_rfl)) rfl rfl rfl ?_
    refine op_move (nxof rfl rfl rfl (by kernel_rfl)) rfl rfl ?_
    refine op_callA (Nx.agree (nxogs rfl rfl rfl rfl rfl rfl rfl)) .nil (BWakes_f) Try.func13 rfl rfl (by simp) rfl ?_
    rintro v36 L36 ⟨rfl, rfl⟩
    change At _ _ _ [N27, N15, N5, N3, N1, R] _
    refine op_pickT (nxof rfl rfl rfl (by kernel_rfl)) rfl rfl rfl ?_
    refine op_assign (nxof rfl rfl rfl (by kernel_rfl)) rfl rfl ?_
    refine At.oneNil ?_
    refine At.norm (hk_4 ?_)
    refine At.ret (?_)
    refine At.sub (L' := [R]) (.cons _ (.cons _ (.cons _ (.cons _ (.cons _ (.cons_cons _ (.slnil))))))) ?_
    refine At.ret1 (L1 := []) rfl (.tmp rfl .nil) (.refl _) (.refl _) ?_
    exact ⟨rfl, rfl⟩
  refine op_alloc (Nx.agree (nxpa rfl rfl)) ze23 rfl (fun N3 b3 B3 => ?_)
  change Blk N3 b3 _ [.int .u8 0, .int .u8 0, .int .u8 0, .int .u8 0, .int .u8 0, .int .u8 0, .int .u8 0, .int .u8 0, .int .u8 0, .int .u8 0, .int .u8 0, .int .u8 0, .int .u8 0, .int .u8 0, .int .u8 0, .int .u8 0, .int .u8 0, .int .u8 0, .int .u8 0, .int .u8 0] at B3
  refine At.andS (.cons _ (.refl _)) ?_
  refine At.fork ?_ ?_
  rotate_left
  · exact At.pNo
  refine op_alloc (Nx.agree (nxpa rfl rfl)) ze26 rfl (fun N5 b5 B5 => ?_)
  change Blk N5 b5 _ [.int .u64 0, .int .u64 0, .int .u64 0, .int .u64 0] at B5
  refine At.andS (.cons _ (.cons _ (.refl _))) ?_
  refine At.fork ?_ ?_
  rotate_left
  · exact At.pNo
  refine op_store (nxpa rfl rfl) sz23 rfl rfl rfl (by simp [u8s, ha]) (all8x2 _) B3 (by simp [u8s, ha]) sel1 (fun N3 B3 => ?_)
  rw [setL_whole (by simp [u8s, ha])] at B3
  refine At.andS (.cons _ (.cons _ (.refl _))) ?_
  refine op_assign (nxpf rfl rfl) rfl rfl ?_
  refine At.fork ?_ ?_
  rotate_left
  · exact At.pNo
  refine op_store (nxpl rfl rfl) sz26 rfl rfl rfl rfl rfl B5 (by simp) sel1 (fun N5 B5 => ?_)
  rw [setL_whole (by simp)] at B5
  refine At.pDone ?_
  refine At.norm (hk_2 ?_)
  refine At.seq fun K5 hk_5 => ?_
  refine At.region ?_
  refine op_fieldAddr (nxlf rfl) fl29_3 rfl rfl ?_
  refine op_loadB (nxlf rfl) sc27 rfl B1 (by first | rfl | exact mkC_n ha | exact mkC_v ha) mem2 rfl ?_
  refine op_callA (nxla rfl) (.cons rfl (.cons rfl .nil)) (KTwin_f h 300 300 rfl (by decide)) Try.func8 rfl rfl (by simp) rfl ?_
  rintro v15 L15 ⟨N15, a15, c15, rfl, rfl, r15⟩
  change At _ _ _ [N15, N5, N3, N1, R] _
  rw [hy] at r15 ⊢; have s15 := r15.rsl
  refine op_assign (nxlf rfl) rfl rfl ?_
  refine At.opsNil ?_
  refine At.norm (hk_5 ?_)
  refine At.seq fun K6 hk_6 => ?_
  refine At.drawn [5,16,20] [0,1,3,4,2,5,6,7,8,9,10,13,14,15,11,12,16,17,18,19,20,21,22] (by kernel_rfl) (by kernel_rfl) ?_
  refine op_loadAggB (ds := u8s a) (nxof rfl rfl rfl (by kernel_rfl)) ag23 rfl B3 (by exact tk_all hul) (by exact hul) mem2 rfl ?_
  refine op_move (nxof rfl rfl rfl (by kernel_rfl)) rfl rfl ?_
  refine op_loadAggB (ds := u8s a) (nxof rfl rfl rfl (by kernel_rfl)) ag23 rfl B3 (by exact tk_all hul) (by exact hul) mem2 rfl ?_
  refine op_move (nxof rfl rfl rfl (by kernel_rfl)) rfl rfl ?_
  refine op_callA (nxoa rfl rfl rfl) (.cons rfl (.cons rfl .nil)) (FMade_b ha n) Try.func9 rfl rfl (by simp) rfl ?_
  rintro v18 L18 ⟨rfl, rfl⟩
  change At _ _ _ [N15, N5, N3, N1, R] _
  refine op_callA (nxosa rfl rfl rfl rfl) (.cons rfl (.cons rfl .nil)) (rMade_b ha n) Try.func10 rfl rfl (by simp) rfl ?_
  rintro v21 L21 ⟨rfl, rfl⟩
  change At _ _ _ [N15, N5, N3, N1, R] _
  refine op_eqW8 (a := madeA a n.toNat) (b := madeA a n.toNat) (nxof rfl rfl rfl (by kernel_rfl)) ae23 Try.underlying5 (by kernel_rfl) rfl rfl hml hml rfl ?_
  rw [decide_eq_true (rfl : madeA a n.toNat = madeA a n.toNat)]
  refine op_move (nxof rfl rfl rfl (by kernel_rfl)) rfl rfl ?_
  refine op_loadAggB (ds := u8s a) (nxogf rfl rfl rfl rfl rfl rfl (by kernel_rfl)) ag23 rfl B3 (by exact tk_all hul) (by exact hul) mem2 rfl ?_
  refine op_loadAggB (ds := u64s (wl x)) (nxogf rfl rfl rfl rfl rfl rfl (by kernel_rfl)) ag26 rfl B5 (by first | (rw [List.drop_zero, List.take_of_length_le (by first | (simp; done) | (simp; omega))]; done) | rfl) (by first | (simp; done) | (simp; omega)) mem1 rfl ?_
  refine op_move (nxogf rfl rfl rfl rfl rfl rfl (by kernel_rfl)) rfl rfl ?_
  refine op_loadAggB (ds := u8s a) (nxogf rfl rfl rfl rfl rfl rfl (by kernel_rfl)) ag23 rfl B3 (by exact tk_all hul) (by exact hul) mem2 rfl ?_
  refine op_loadAggB (ds := u64s (wl x)) (nxogf rfl rfl rfl rfl rfl rfl (by kernel_rfl)) ag26 rfl B5 (by first | (rw [List.drop_zero, List.take_of_length_le (by first | (simp; done) | (simp; omega))]; done) | rfl) (by first | (simp; done) | (simp; omega)) mem1 rfl ?_
  refine op_move (nxogf rfl rfl rfl rfl rfl rfl (by kernel_rfl)) rfl rfl ?_
  refine op_callA (nxoga rfl rfl rfl rfl rfl rfl) (.cons rfl (.cons rfl .nil)) (KTwin_f s15 300 300 rfl (by decide)) Try.func8 rfl rfl (by simp) rfl ?_
  rintro v27 L27 ⟨N27, a27, c27, rfl, rfl, r27⟩
  change At _ _ _ [N27, N15, N5, N3, N1, R] _
  rw [hyt] at r27 ⊢; have s27 := r27.rsl
  refine op_callA (nxoga rfl rfl rfl rfl rfl rfl) (.cons rfl (.cons rfl (.cons rfl .nil))) (FSalted_b ha hx s27 (by omega)) Try.func11 rfl rfl (by simp) rfl ?_
  rintro v28 L28 ⟨rfl, rfl⟩
  change At _ _ _ [N27, N15, N5, N3, N1, R] _
  refine op_callA (Nx.agree (nxogs rfl rfl rfl rfl rfl rfl rfl)) (.cons rfl (.cons rfl (.cons rfl .nil))) (rSalted_b ha hx s15 (by omega)) Try.func12 rfl rfl (by simp) rfl ?_
  rintro v32 L32 ⟨rfl, rfl⟩
  change At _ _ _ [N27, N15, N5, N3, N1, R] _
  refine op_eqW8 (a := saltA a x y) (b := saltA a x y) (nxogf rfl rfl rfl rfl rfl rfl (by kernel_rfl)) ae23 Try.underlying5 (by kernel_rfl) rfl rfl (hsl y) (hsl y) rfl ?_
  rw [decide_eq_true (rfl : saltA a x y = saltA a x y)]
  refine op_pickT (nxof rfl rfl rfl (by kernel_rfl)) rfl rfl rfl ?_
  refine op_move (nxof rfl rfl rfl (by kernel_rfl)) rfl rfl ?_
  refine op_callA (Nx.agree (nxogs rfl rfl rfl rfl rfl rfl rfl)) .nil (BWakes_f) Try.func13 rfl rfl (by simp) rfl ?_
  rintro v36 L36 ⟨rfl, rfl⟩
  change At _ _ _ [N27, N15, N5, N3, N1, R] _
  refine op_pickT (nxof rfl rfl rfl (by kernel_rfl)) rfl rfl rfl ?_
  refine op_assign (nxof rfl rfl rfl (by kernel_rfl)) rfl rfl ?_
  refine At.oneNil ?_
  refine At.norm (hk_6 ?_)
  refine At.ret (?_)
  refine At.sub (L' := [R]) (.cons _ (.cons _ (.cons _ (.cons _ (.cons _ (.cons_cons _ (.slnil))))))) ?_
  refine At.ret1 (L1 := []) rfl (.tmp rfl .nil) (.refl _) (.refl _) ?_
  exact ⟨rfl, rfl⟩
end
end Go.Proofs.Ytljacjjeinmfnaa
