/- quarrylaw01.WordSums answers true. No condition. -/
import Derived.Test.YtefljbbpaideaaaKWw
namespace Go.Proofs.Ytefljbbpaideaaa
set_option linter.unusedVariables false
set_option linter.unusedSimpArgs false
open Go Go.RowKit
set_option maxRecDepth 100000 in
set_option maxHeartbeats 2000000 in
theorem WordSums_w {x y z : Nat} (hx : x < WW) (hy : y < WW) (hz : z < WW) : Fn Try.prog 4 #[.agg (u64s (wl x ++ wl y ++ wl z)).toArray] [] [] (fun v L => v = .bool true ∧ L = []) := by
  refine Fn.enter (vs := [.agg (u64s (wl x ++ wl y ++ wl z)).toArray]) Try.func4 rfl rfl rfl ?_
  intro E R hR
  change At _ _ E [R] _
  refine At.seq fun K1 hk_1 => ?_
  refine At.region ?_
  refine op_box (nxla rfl) rfl rfl rfl (fun N1 b1 B1 => ?_)
  change Blk N1 b1 _ (u64s (wl x ++ wl y ++ wl z)) at B1
  refine op_assign (nxlf rfl) rfl rfl ?_
  refine At.opsNil ?_
  refine At.norm (hk_1 ?_)
  refine At.seq fun K2 hk_2 => ?_
  refine At.region ?_
  refine op_fieldAddr (nxlf rfl) fl26_0 rfl rfl ?_
  refine op_loadAggB (ds := u64s (wl x)) (nxlf rfl) ag24 rfl B1 (by first | (rw [List.drop_zero, List.take_of_length_le (by first | (simp; done) | (simp; omega))]; done) | rfl) (by first | (simp; done) | (simp; omega)) mem0 rfl ?_
  refine op_fieldAddr (nxlf rfl) fl26_1 rfl rfl ?_
  refine op_loadAggB (ds := u64s (wl y)) (nxlf rfl) ag24 rfl B1 (by first | (rw [List.drop_zero, List.take_of_length_le (by first | (simp; done) | (simp; omega))]; done) | rfl) (by first | (simp; done) | (simp; omega)) mem0 rfl ?_
  refine op_callA (nxla rfl) (.cons rfl (.cons rfl .nil)) (Wide_f hx hy) Try.func27 rfl rfl (by simp) rfl ?_
  rintro v12 L12 ⟨rfl, rfl⟩
  change At _ _ _ [N1, R] _
  refine op_move (nxlf rfl) rfl rfl ?_
  refine op_extract (nxlf rfl) rfl rfl rfl ?_
  refine op_extract (nxlf rfl) rfl rfl rfl ?_
  refine op_alloc (nxla rfl) ze24 rfl (fun N3 b3 B3 => ?_)
  change Blk N3 b3 _ [.int .u64 0, .int .u64 0, .int .u64 0, .int .u64 0] at B3
  refine op_alloc (nxla rfl) ze24 rfl (fun N4 b4 B4 => ?_)
  change Blk N4 b4 _ [.int .u64 0, .int .u64 0, .int .u64 0, .int .u64 0] at B4
  refine op_store (nxl rfl) sz24 rfl rfl rfl rfl rfl B3 (by simp) sel1 (fun N3 B3 => ?_)
  rw [setL_whole (by simp)] at B3
  refine op_store (nxl rfl) sz24 rfl rfl rfl rfl rfl B4 (by simp) sel1 (fun N4 B4 => ?_)
  rw [setL_whole (by simp)] at B4
  refine At.opsNil ?_
  refine At.norm (hk_2 ?_)
  refine At.seq fun K3 hk_3 => ?_
  refine At.region ?_
  refine op_fieldAddr (nxlf rfl) fl26_0 rfl rfl ?_
  refine op_loadAggB (ds := u64s (wl x)) (nxlf rfl) ag24 rfl B1 (by first | (rw [List.drop_zero, List.take_of_length_le (by first | (simp; done) | (simp; omega))]; done) | rfl) (by first | (simp; done) | (simp; omega)) mem2 rfl ?_
  refine op_fieldAddr (nxlf rfl) fl26_1 rfl rfl ?_
  refine op_loadAggB (ds := u64s (wl y)) (nxlf rfl) ag24 rfl B1 (by first | (rw [List.drop_zero, List.take_of_length_le (by first | (simp; done) | (simp; omega))]; done) | rfl) (by first | (simp; done) | (simp; omega)) mem2 rfl ?_
  refine op_callA (nxla rfl) (.cons rfl (.cons rfl .nil)) (rWide_w hx hy) Try.func28 rfl rfl (by simp) rfl ?_
  rintro v20 L20 ⟨rfl, rfl⟩
  change At _ _ _ [N4, N3, N1, R] _
  refine op_move (nxlf rfl) rfl rfl ?_
  refine op_extract (nxlf rfl) rfl rfl rfl ?_
  refine op_extract (nxlf rfl) rfl rfl rfl ?_
  refine op_alloc (nxla rfl) ze24 rfl (fun N5 b5 B5 => ?_)
  change Blk N5 b5 _ [.int .u64 0, .int .u64 0, .int .u64 0, .int .u64 0] at B5
  refine op_alloc (nxla rfl) ze24 rfl (fun N6 b6 B6 => ?_)
  change Blk N6 b6 _ [.int .u64 0, .int .u64 0, .int .u64 0, .int .u64 0] at B6
  refine op_store (nxl rfl) sz24 rfl rfl rfl rfl rfl B5 (by simp) sel1 (fun N5 B5 => ?_)
  rw [setL_whole (by simp)] at B5
  refine op_store (nxl rfl) sz24 rfl rfl rfl rfl rfl B6 (by simp) sel1 (fun N6 B6 => ?_)
  rw [setL_whole (by simp)] at B6
  refine At.opsNil ?_
  refine At.norm (hk_3 ?_)
  refine At.seq fun K4 hk_4 => ?_
  refine At.perm sel5 ?_
  refine At.perm sel1 ?_
  refine At.perm sel2 ?_
  refine At.perm sel3 ?_
  refine At.perm sel4 ?_
  refine At.perm sel5 ?_
  refine At.drawnS [N1, N3, N4, N5, N6, R] [18,31,44,48] [] [0,1,2,3,4,5,6,7,8,9,10,11,12,14,15,16,17,13,18,19,20,21,22,23,24,25,27,28,29,30,26,31,32,33,34,35,36,37,38,40,41,42,43,39,44,45,46,47,48,49,50] (by kernel_rfl) (by kernel_rfl) (.refl _) ?_
  refine op_loadAggB (ds := u64s (wl (x * y / WW))) (nxsf rfl rfl rfl) ag24 rfl B3 (by first | (rw [List.drop_zero, List.take_of_length_le (by first | (simp; done) | (simp; omega))]; done) | rfl) (by first | (simp; done) | (simp; omega)) mem1 rfl ?_
  refine op_loadAggB (ds := u64s (wl (x * y / WW))) (nxsf rfl rfl rfl) ag24 rfl B5 (by first | (rw [List.drop_zero, List.take_of_length_le (by first | (simp; done) | (simp; omega))]; done) | rfl) (by first | (simp; done) | (simp; omega)) mem3 rfl ?_
  refine op_eqW (a := wl (x * y / WW)) (b := wl (x * y / WW)) (nxsf rfl rfl rfl) ae24 Try.underlying22 (by kernel_rfl) rfl rfl rfl rfl rfl ?_
  refine op_move (nxsf rfl rfl rfl) rfl rfl ?_
  refine At.partP (d := 26) rfl (fun g26 => ?_) (fun g26 => ?_)
  · refine op_loadAggB (ds := u64s (wl (x * y))) (nxsgf rfl rfl rfl rfl rfl rfl) ag24 rfl B4 (by first | (rw [List.drop_zero, List.take_of_length_le (by first | (simp; done) | (simp; omega))]; done) | rfl) (by first | (simp; done) | (simp; omega)) mem2 rfl ?_
    refine op_loadAggB (ds := u64s (wl (x * y))) (nxsgf rfl rfl rfl rfl rfl rfl) ag24 rfl B6 (by first | (rw [List.drop_zero, List.take_of_length_le (by first | (simp; done) | (simp; omega))]; done) | rfl) (by first | (simp; done) | (simp; omega)) mem4 rfl ?_
    refine op_eqW (a := wl (x * y)) (b := wl (x * y)) (nxsgf rfl rfl rfl rfl rfl rfl) ae24 Try.underlying22 (by kernel_rfl) rfl rfl rfl rfl rfl ?_
    refine op_pickT (nxsf rfl rfl rfl) rfl rfl rfl ?_
    refine op_move (nxsf rfl rfl rfl) rfl rfl ?_
    refine At.partP (d := 31) rfl (fun g31 => ?_) (fun g31 => ?_)
    · refine op_fieldAddr (nxsgf rfl rfl rfl rfl rfl rfl) fl26_0 rfl rfl ?_
      refine op_loadAggB (ds := u64s (wl x)) (nxsgf rfl rfl rfl rfl rfl rfl) ag24 rfl B1 (by first | (rw [List.drop_zero, List.take_of_length_le (by first | (simp; done) | (simp; omega))]; done) | rfl) (by first | (simp; done) | (simp; omega)) mem0 rfl ?_
      refine op_fieldAddr (nxsgf rfl rfl rfl rfl rfl rfl) fl26_1 rfl rfl ?_
      refine op_loadAggB (ds := u64s (wl y)) (nxsgf rfl rfl rfl rfl rfl rfl) ag24 rfl B1 (by first | (rw [List.drop_zero, List.take_of_length_le (by first | (simp; done) | (simp; omega))]; done) | rfl) (by first | (simp; done) | (simp; omega)) mem0 rfl ?_
      refine op_fieldAddr (nxsgf rfl rfl rfl rfl rfl rfl) fl26_0 rfl rfl ?_
      refine op_loadAggB (ds := u64s (wl x)) (nxsgf rfl rfl rfl rfl rfl rfl) ag24 rfl B1 (by first | (rw [List.drop_zero, List.take_of_length_le (by first | (simp; done) | (simp; omega))]; done) | rfl) (by first | (simp; done) | (simp; omega)) mem0 rfl ?_
      refine op_fieldAddr (nxsgf rfl rfl rfl rfl rfl rfl) fl26_1 rfl rfl ?_
      refine op_loadAggB (ds := u64s (wl y)) (nxsgf rfl rfl rfl rfl rfl rfl) ag24 rfl B1 (by first | (rw [List.drop_zero, List.take_of_length_le (by first | (simp; done) | (simp; omega))]; done) | rfl) (by first | (simp; done) | (simp; omega)) mem0 rfl ?_
      refine op_callA (Nx.agree (nxsgm rfl rfl rfl rfl rfl rfl)) (.cons rfl (.cons rfl .nil)) (WAdd_f hx hy) Try.func29 rfl rfl (by simp) rfl ?_
      rintro v36 L36 ⟨rfl, rfl⟩
      change At _ _ _ [N1, N3, N4, N5, N6, R] _
      refine At.moreS (Lst := [N1, N3, N4, N5, N6, R]) (Lst' := [N1, N3, N4, N5, N6, R]) (.refl _) (.refl _) ?_
      refine op_callA (Nx.agree (nxsgs rfl rfl rfl rfl rfl rfl rfl)) (.cons rfl (.cons rfl .nil)) (rAdd_w hx hy) Try.func30 rfl rfl (by simp) rfl ?_
      rintro v41 L41 ⟨rfl, rfl⟩
      change At _ _ _ [N1, N3, N4, N5, N6, R] _
      refine At.anyS (.refl _) ?_
      refine op_eqW (a := wl (x + y)) (b := wl (x + y)) (nxsgf rfl rfl rfl rfl rfl rfl) ae24 Try.underlying22 (by kernel_rfl) rfl rfl rfl rfl rfl ?_
      refine op_pickT (nxsf rfl rfl rfl) rfl rfl rfl ?_
      refine op_move (nxsf rfl rfl rfl) rfl rfl ?_
      refine At.partP (d := 44) rfl (fun g44 => ?_) (fun g44 => ?_)
      · refine op_fieldAddr (nxsgf rfl rfl rfl rfl rfl rfl) fl26_0 rfl rfl ?_
        refine op_loadAggB (ds := u64s (wl x)) (nxsgf rfl rfl rfl rfl rfl rfl) ag24 rfl B1 (by first | (rw [List.drop_zero, List.take_of_length_le (by first | (simp; done) | (simp; omega))]; done) | rfl) (by first | (simp; done) | (simp; omega)) mem0 rfl ?_
        refine op_fieldAddr (nxsgf rfl rfl rfl rfl rfl rfl) fl26_1 rfl rfl ?_
        refine op_loadAggB (ds := u64s (wl y)) (nxsgf rfl rfl rfl rfl rfl rfl) ag24 rfl B1 (by first | (rw [List.drop_zero, List.take_of_length_le (by first | (simp; done) | (simp; omega))]; done) | rfl) (by first | (simp; done) | (simp; omega)) mem0 rfl ?_
        refine op_fieldAddr (nxsgf rfl rfl rfl rfl rfl rfl) fl26_0 rfl rfl ?_
        refine op_loadAggB (ds := u64s (wl x)) (nxsgf rfl rfl rfl rfl rfl rfl) ag24 rfl B1 (by first | (rw [List.drop_zero, List.take_of_length_le (by first | (simp; done) | (simp; omega))]; done) | rfl) (by first | (simp; done) | (simp; omega)) mem0 rfl ?_
        refine op_fieldAddr (nxsgf rfl rfl rfl rfl rfl rfl) fl26_1 rfl rfl ?_
        refine op_loadAggB (ds := u64s (wl y)) (nxsgf rfl rfl rfl rfl rfl rfl) ag24 rfl B1 (by first | (rw [List.drop_zero, List.take_of_length_le (by first | (simp; done) | (simp; omega))]; done) | rfl) (by first | (simp; done) | (simp; omega)) mem0 rfl ?_
        refine op_callA (Nx.agree (nxsgm rfl rfl rfl rfl rfl rfl)) (.cons rfl (.cons rfl .nil)) (WSub_f hx hy) Try.func31 rfl rfl (by simp) rfl ?_
        rintro v49 L49 ⟨rfl, rfl⟩
        change At _ _ _ [N1, N3, N4, N5, N6, R] _
        refine At.moreS (Lst := [N1, N3, N4, N5, N6, R]) (Lst' := [N1, N3, N4, N5, N6, R]) (.refl _) (.refl _) ?_
        refine op_callA (Nx.agree (nxsgs rfl rfl rfl rfl rfl rfl rfl)) (.cons rfl (.cons rfl .nil)) (rSub_w hx hy) Try.func32 rfl rfl (by simp) rfl ?_
        rintro v54 L54 ⟨rfl, rfl⟩
        change At _ _ _ [N1, N3, N4, N5, N6, R] _
        refine At.anyS (.refl _) ?_
        refine op_eqW (a := wl (x + WW - y)) (b := wl (x + WW - y)) (nxsgf rfl rfl rfl rfl rfl rfl) ae24 Try.underlying22 (by kernel_rfl) rfl rfl rfl rfl rfl ?_
        refine op_pickT (nxsf rfl rfl rfl) rfl rfl rfl ?_
        refine op_move (nxsf rfl rfl rfl) rfl rfl ?_
        refine At.partP (d := 57) rfl (fun g57 => ?_) (fun g57 => ?_)
        · refine op_fieldAddr (nxsgf rfl rfl rfl rfl rfl rfl) fl26_0 rfl rfl ?_
          refine op_loadAggB (ds := u64s (wl x)) (nxsgf rfl rfl rfl rfl rfl rfl) ag24 rfl B1 (by first | (rw [List.drop_zero, List.take_of_length_le (by first | (simp; done) | (simp; omega))]; done) | rfl) (by first | (simp; done) | (simp; omega)) mem0 rfl ?_
          refine op_fieldAddr (nxsgf rfl rfl rfl rfl rfl rfl) fl26_1 rfl rfl ?_
          refine op_loadAggB (ds := u64s (wl y)) (nxsgf rfl rfl rfl rfl rfl rfl) ag24 rfl B1 (by first | (rw [List.drop_zero, List.take_of_length_le (by first | (simp; done) | (simp; omega))]; done) | rfl) (by first | (simp; done) | (simp; omega)) mem0 rfl ?_
          refine op_fieldAddr (nxsgf rfl rfl rfl rfl rfl rfl) fl26_0 rfl rfl ?_
          refine op_loadAggB (ds := u64s (wl x)) (nxsgf rfl rfl rfl rfl rfl rfl) ag24 rfl B1 (by first | (rw [List.drop_zero, List.take_of_length_le (by first | (simp; done) | (simp; omega))]; done) | rfl) (by first | (simp; done) | (simp; omega)) mem0 rfl ?_
          refine op_fieldAddr (nxsgf rfl rfl rfl rfl rfl rfl) fl26_1 rfl rfl ?_
          refine op_loadAggB (ds := u64s (wl y)) (nxsgf rfl rfl rfl rfl rfl rfl) ag24 rfl B1 (by first | (rw [List.drop_zero, List.take_of_length_le (by first | (simp; done) | (simp; omega))]; done) | rfl) (by first | (simp; done) | (simp; omega)) mem0 rfl ?_
          refine op_callA (Nx.agree (nxsgm rfl rfl rfl rfl rfl rfl)) (.cons rfl (.cons rfl .nil)) (WMul_f hx hy) Try.func33 rfl rfl (by simp) rfl ?_
          rintro v62 L62 ⟨rfl, rfl⟩
          change At _ _ _ [N1, N3, N4, N5, N6, R] _
          refine At.moreS (Lst := [N1, N3, N4, N5, N6, R]) (Lst' := [N1, N3, N4, N5, N6, R]) (.refl _) (.refl _) ?_
          refine op_callA (Nx.agree (nxsgs rfl rfl rfl rfl rfl rfl rfl)) (.cons rfl (.cons rfl .nil)) (rMul_w hx hy) Try.func34 rfl rfl (by simp) rfl ?_
          rintro v67 L67 ⟨rfl, rfl⟩
          change At _ _ _ [N1, N3, N4, N5, N6, R] _
          refine At.anyS (.refl _) ?_
          refine op_eqW (a := wl (x * y)) (b := wl (x * y)) (nxsgf rfl rfl rfl rfl rfl rfl) ae24 Try.underlying22 (by kernel_rfl) rfl rfl rfl rfl rfl ?_
          refine op_pickT (nxsf rfl rfl rfl) rfl rfl rfl ?_
          refine op_move (nxsf rfl rfl rfl) rfl rfl ?_
          refine At.partP (d := 70) rfl (fun g70 => ?_) (fun g70 => ?_)
          · refine op_callA (Nx.agree (nxsgs rfl rfl rfl rfl rfl rfl rfl)) .nil (Wwakes_f) Try.func26 rfl rfl (by simp) rfl ?_
            rintro v71 L71 ⟨rfl, rfl⟩
            change At _ _ _ [N1, N3, N4, N5, N6, R] _
            refine At.anyS (.refl _) ?_
            refine op_pickT (nxsf rfl rfl rfl) rfl rfl rfl ?_
            refine op_assign (nxsf rfl rfl rfl) rfl rfl ?_
            refine At.sNil ?_
            refine At.norm (hk_4 ?_)
            refine At.ret (?_)
            refine At.sub (L' := [R]) (.cons _ (.cons _ (.cons _ (.cons _ (.cons _ (.cons_cons _ (.slnil))))))) ?_
            refine At.ret1 (L1 := []) rfl (.tmp rfl .nil) (.refl _) (.refl _) ?_
            exact ⟨rfl, rfl⟩
          · exact absurd rfl g70
        · exact absurd rfl g57
      · exact absurd rfl g44
    · exact absurd rfl g31
  · exact absurd rfl g26
theorem WordSums_f {wa wb wm : List UInt64} (ha : wa.length = 4) (hb : wb.length = 4) (hm : wm.length = 4) : Fn Try.prog 4 #[.agg (u64s (wa ++ wb ++ wm)).toArray] [] [] (fun v L => v = .bool true ∧ L = []) := by
  rw [wl_self ha, wl_self hb, wl_self hm]
  exact WordSums_w (v64_lt4 ha) (v64_lt4 hb) (v64_lt4 hm)
end Go.Proofs.Ytefljbbpaideaaa
