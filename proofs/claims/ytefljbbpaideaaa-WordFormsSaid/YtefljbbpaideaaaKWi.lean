/- quarrylaw01.WordForms answers true. No condition. -/
import Derived.Test.YtefljbbpaideaaaKWk
import Derived.Test.YtefljbbpaideaaaKWw
import Derived.Test.YtefljbbpaideaaaK3
import Derived.Test.YtefljbbpaideaaaKA7
namespace Go.Proofs.Ytefljbbpaideaaa
set_option linter.unusedVariables false
set_option linter.unusedSimpArgs false
open Go Go.RowKit
def smallV (x : Nat) : Nat := if x < 2 ^ 64 then x else 0
theorem WSmall_any {x : Nat} (hx : x < WW) : Fn Try.prog 50 #[wo x] [] [] (fun v L => v = .tuple #[.int .u64 (smallV x : Int), .bool (decide (x < 2 ^ 64))] ∧ L = []) := by
  by_cases h : x < 2 ^ 64
  · rw [smallV, if_pos h, decide_eq_true h]
    exact WSmall_f hx h
  · rw [smallV, if_neg h, decide_eq_false h]
    exact WSmall_no hx h
theorem rSmall_any {x : Nat} (hx : x < WW) : Fn Try.prog 51 #[wo x] [] [] (fun v L => v = .tuple #[.int .u64 (smallV x : Int), .bool (decide (x < 2 ^ 64))] ∧ L = []) := by
  by_cases h : x < 2 ^ 64
  · rw [smallV, if_pos h, decide_eq_true h]
    exact rSmall_y hx h
  · rw [smallV, if_neg h, decide_eq_false h]
    exact rSmall_no hx h
set_option maxRecDepth 100000 in
set_option maxHeartbeats 4000000 in
theorem WordForms_w {x y z : Nat} {N : Heaplet} {ao : Option Addr} {n cap : Nat} {l : List UInt8} (ha : RSl N 1 ao n cap (u8s l)) (hx : x < WW) (hy : y < WW) (hz : z < WW) : Fn Try.prog 9 #[.agg (u64s (wl x ++ wl y ++ wl z)).toArray, .slice ao n cap] [] [N] (fun v L => v = .bool true ∧ L = []) := by
  have hbl : (bytesN 32 x).length = 32 := length_bytesN 32 x
  have hcx := cmpN_eq x
  refine Fn.enter (vs := [.agg (u64s (wl x ++ wl y ++ wl z)).toArray, .slice ao n cap]) Try.func9 rfl rfl rfl ?_
  intro E R hR
  have ha := ha.le (hR N (by simp))
  change At _ _ E [R] _
  refine At.seq fun K1 hk_1 => ?_
  refine At.region ?_
  refine op_box (nxla rfl) rfl rfl rfl (fun N2 b2 B2 => ?_)
  change Blk N2 b2 _ (u64s (wl x ++ wl y ++ wl z)) at B2
  refine op_assign (nxlf rfl) rfl rfl ?_
  refine At.opsNil ?_
  refine At.norm (hk_1 ?_)
  refine At.seq fun K2 hk_2 => ?_
  refine At.region ?_
  refine op_move (nxlf rfl) rfl rfl ?_
  refine op_callA (nxla rfl) (.cons rfl (.cons rfl .nil)) (KTwin_f ha 100 100 rfl (by omega)) Try.func43 rfl rfl (by simp) rfl ?_
  rintro v15 L15 ⟨M15, p15, c15, rfl, rfl, r15⟩
  change At _ _ _ [M15, N2, R] _
  have s15 := r15.rsl
  refine op_callA (nxla rfl) (.cons rfl .nil) (WFrom_w s15) Try.func48 rfl rfl (by simp) rfl ?_
  rintro v16 L16 ⟨rfl, rfl⟩
  change At _ _ _ [M15, N2, R] _
  refine op_move (nxlf rfl) rfl rfl ?_
  refine op_extract (nxlf rfl) rfl rfl rfl ?_
  refine op_extract (nxlf rfl) rfl rfl rfl ?_
  refine op_alloc (nxla rfl) ze24 rfl (fun N5 b5 B5 => ?_)
  change Blk N5 b5 _ [.int .u64 0, .int .u64 0, .int .u64 0, .int .u64 0] at B5
  refine op_store (nxl rfl) sz24 rfl rfl rfl rfl rfl B5 (by simp) sel0 (fun N5 B5 => ?_)
  rw [setL_whole (by simp)] at B5
  refine op_assign (nxlf rfl) rfl rfl ?_
  refine At.opsNil ?_
  refine At.norm (hk_2 ?_)
  refine At.seq fun K3 hk_3 => ?_
  refine At.region ?_
  refine op_move (nxlf rfl) rfl rfl ?_
  refine op_callA (nxla rfl) (.cons rfl (.cons rfl .nil)) (KTwin_f ha 100 100 rfl (by omega)) Try.func43 rfl rfl (by simp) rfl ?_
  rintro v21 L21 ⟨M21, p21, c21, rfl, rfl, r21⟩
  change At _ _ _ [M21, N5, M15, N2, R] _
  have s21 := r21.rsl
  refine op_callA (nxla rfl) (.cons rfl .nil) (rFrom_w s21) Try.func49 rfl rfl (by simp) rfl ?_
  rintro v22 L22 ⟨rfl, rfl⟩
  change At _ _ _ [M21, N5, M15, N2, R] _
  refine op_move (nxlf rfl) rfl rfl ?_
  refine op_extract (nxlf rfl) rfl rfl rfl ?_
  refine op_extract (nxlf rfl) rfl rfl rfl ?_
  refine op_alloc (nxla rfl) ze24 rfl (fun N7 b7 B7 => ?_)
  change Blk N7 b7 _ [.int .u64 0, .int .u64 0, .int .u64 0, .int .u64 0] at B7
  refine op_store (nxl rfl) sz24 rfl rfl rfl rfl rfl B7 (by simp) sel0 (fun N7 B7 => ?_)
  rw [setL_whole (by simp)] at B7
  refine op_assign (nxlf rfl) rfl rfl ?_
  refine At.opsNil ?_
  refine At.norm (hk_3 ?_)
  refine At.seq fun K4 hk_4 => ?_
  refine At.region ?_
  refine op_fieldAddr (nxlf rfl) fl26_0 rfl rfl ?_
  refine op_loadAggB (ds := u64s (wl x)) (nxlf rfl) ag24 rfl B2 (by first | (rw [List.drop_zero, List.take_of_length_le (by first | (simp; done) | (simp; omega))]; done) | rfl) (by first | (simp; done) | (simp; omega)) mem4 rfl ?_
  refine op_callA (nxla rfl) (.cons rfl .nil) (WSmall_any hx) Try.func50 rfl rfl (by simp) rfl ?_
  rintro v28 L28 ⟨rfl, rfl⟩
  change At _ _ _ [N7, M21, N5, M15, N2, R] _
  refine op_move (nxlf rfl) rfl rfl ?_
  refine op_extract (nxlf rfl) rfl rfl rfl ?_
  refine op_extract (nxlf rfl) rfl rfl rfl ?_
  refine op_assign (nxlf rfl) rfl rfl ?_
  refine op_assign (nxlf rfl) rfl rfl ?_
  refine At.opsNil ?_
  refine At.norm (hk_4 ?_)
  refine At.seq fun K5 hk_5 => ?_
  refine At.region ?_
  refine op_fieldAddr (nxlf rfl) fl26_0 rfl rfl ?_
  refine op_loadAggB (ds := u64s (wl x)) (nxlf rfl) ag24 rfl B2 (by first | (rw [List.drop_zero, List.take_of_length_le (by first | (simp; done) | (simp; omega))]; done) | rfl) (by first | (simp; done) | (simp; omega)) mem4 rfl ?_
  refine op_callA (nxla rfl) (.cons rfl .nil) (rSmall_any hx) Try.func51 rfl rfl (by simp) rfl ?_
  rintro v34 L34 ⟨rfl, rfl⟩
  change At _ _ _ [N7, M21, N5, M15, N2, R] _
  refine op_move (nxlf rfl) rfl rfl ?_
  refine op_extract (nxlf rfl) rfl rfl rfl ?_
  refine op_extract (nxlf rfl) rfl rfl rfl ?_
  refine op_assign (nxlf rfl) rfl rfl ?_
  refine op_assign (nxlf rfl) rfl rfl ?_
  refine At.opsNil ?_
  refine At.norm (hk_5 ?_)
  refine At.seq fun K6 hk_6 => ?_
  refine At.perm sel5 ?_
  refine At.perm sel1 ?_
  refine At.perm sel3 ?_
  refine At.perm sel5 ?_
  refine At.perm sel5 ?_
  refine At.perm sel5 ?_
  refine At.drawnS [N2, N5, N7, R] [24,44,55,68,81,89,93] [] [0,1,2,3,4,5,6,7,8,9,10,11,12,13,14,15,16,17,18,19,20,22,23,21,24,25,26,27,28,29,32,33,30,31,34,35,36,37,38,39,40,42,43,41,44,45,46,47,48,49,50,52,53,54,51,55,56,57,58,59,60,61,62,64,65,66,67,63,68,69,70,71,72,73,74,75,77,78,79,80,76,81,82,83,84,85,86,87,88,89,90,91,92,93,94,95] (by kernel_rfl) (by kernel_rfl) (.cons _ (.cons _ (.refl _))) ?_
  refine op_loadAggB (ds := u64s (wl (if (l.take 100).length ≤ 32 then be (l.take 100) else 0))) (nxsf rfl rfl rfl) ag24 rfl B5 (by first | (rw [List.drop_zero, List.take_of_length_le (by first | (simp; done) | (simp; omega))]; done) | rfl) (by first | (simp; done) | (simp; omega)) mem1 rfl ?_
  refine op_loadAggB (ds := u64s (wl (if (l.take 100).length ≤ 32 then be (l.take 100) else 0))) (nxsf rfl rfl rfl) ag24 rfl B7 (by first | (rw [List.drop_zero, List.take_of_length_le (by first | (simp; done) | (simp; omega))]; done) | rfl) (by first | (simp; done) | (simp; omega)) mem2 rfl ?_
  refine op_eqW (a := wl (if (l.take 100).length ≤ 32 then be (l.take 100) else 0)) (b := wl (if (l.take 100).length ≤ 32 then be (l.take 100) else 0)) (nxsf rfl rfl rfl) ae24 Try.underlying22 (by kernel_rfl) rfl rfl rfl rfl rfl ?_
  refine op_move (nxsf rfl rfl rfl) rfl rfl ?_
  refine At.partP (d := 40) rfl (fun g40 => ?_) (fun g40 => ?_)
  · refine op_move (nxsgf rfl rfl rfl rfl rfl rfl) rfl rfl ?_
    refine op_move (nxsgf rfl rfl rfl rfl rfl rfl) rfl rfl ?_
    refine op_eqB (nxsgf rfl rfl rfl rfl rfl rfl) Try.underlying4 rfl rfl rfl ?_
    refine op_pickT (nxsf rfl rfl rfl) rfl rfl rfl ?_
    refine op_move (nxsf rfl rfl rfl) rfl rfl ?_
    refine At.part (d := 45) rfl (fun g45 => ?_) (fun g45 => ?_)
    · refine op_move (nxsgf rfl rfl rfl rfl rfl rfl) rfl rfl ?_
      refine op_move (nxsgf rfl rfl rfl rfl rfl rfl) rfl rfl ?_
      refine op_eql (nxsgf rfl rfl rfl rfl rfl rfl) rfl rfl rfl ?_
      refine op_pickT (nxsf rfl rfl rfl) rfl rfl rfl ?_
      refine op_move (nxsf rfl rfl rfl) rfl rfl ?_
      refine At.partP (d := 50) rfl (fun g50 => ?_) (fun g50 => ?_)
      · refine op_move (nxsgf rfl rfl rfl rfl rfl rfl) rfl rfl ?_
        refine op_move (nxsgf rfl rfl rfl rfl rfl rfl) rfl rfl ?_
        refine op_eqB (nxsgf rfl rfl rfl rfl rfl rfl) Try.underlying4 rfl rfl rfl ?_
        refine op_pickT (nxsf rfl rfl rfl) rfl rfl rfl ?_
        refine op_move (nxsf rfl rfl rfl) rfl rfl ?_
        refine At.part (d := 55) rfl (fun g55 => ?_) (fun g55 => ?_)
        · refine op_fieldAddr (nxsgf rfl rfl rfl rfl rfl rfl) fl26_0 rfl rfl ?_
          refine op_loadAggB (ds := u64s (wl x)) (nxsgf rfl rfl rfl rfl rfl rfl) ag24 rfl B2 (by first | (rw [List.drop_zero, List.take_of_length_le (by first | (simp; done) | (simp; omega))]; done) | rfl) (by first | (simp; done) | (simp; omega)) mem0 rfl ?_
          refine op_fieldAddr (nxsgf rfl rfl rfl rfl rfl rfl) fl26_0 rfl rfl ?_
          refine op_loadAggB (ds := u64s (wl x)) (nxsgf rfl rfl rfl rfl rfl rfl) ag24 rfl B2 (by first | (rw [List.drop_zero, List.take_of_length_le (by first | (simp; done) | (simp; omega))]; done) | rfl) (by first | (simp; done) | (simp; omega)) mem0 rfl ?_
          refine op_callA (Nx.agree (nxsgm rfl rfl rfl rfl rfl rfl)) (.cons rfl .nil) (WBytes_w hx) Try.func52 rfl rfl (by simp) rfl ?_
          rintro v58 L58 ⟨rfl, rfl⟩
          change At _ _ _ [M21, M15, N2, N5, N7, R] _
          refine At.moreS (Lst := [N2, N5, N7, R]) (Lst' := [N2, N5, N7, R]) (.refl _) (.cons _ (.cons _ (.refl _))) ?_
          refine op_callA (Nx.agree (nxsgs rfl rfl rfl rfl rfl rfl rfl)) (.cons rfl .nil) (rBytes_w hx) Try.func53 rfl rfl (by simp) rfl ?_
          rintro v61 L61 ⟨rfl, rfl⟩
          change At _ _ _ [M21, M15, N2, N5, N7, R] _
          refine At.anyS (.refl _) ?_
          refine op_eqW8 (a := bytesN 32 x) (b := bytesN 32 x) (nxsgf rfl rfl rfl rfl rfl rfl) ae56 Try.underlying5 (by kernel_rfl) rfl rfl rfl rfl rfl ?_
          refine op_pickT (nxsf rfl rfl rfl) rfl rfl rfl ?_
          refine op_move (nxsf rfl rfl rfl) rfl rfl ?_
          refine At.partP (d := 64) rfl (fun g64 => ?_) (fun g64 => ?_)
          · refine op_fieldAddr (nxsgf rfl rfl rfl rfl rfl rfl) fl26_0 rfl rfl ?_
            refine op_loadAggB (ds := u64s (wl x)) (nxsgf rfl rfl rfl rfl rfl rfl) ag24 rfl B2 (by first | (rw [List.drop_zero, List.take_of_length_le (by first | (simp; done) | (simp; omega))]; done) | rfl) (by first | (simp; done) | (simp; omega)) mem2 rfl ?_
            refine op_fieldAddr (nxsgf rfl rfl rfl rfl rfl rfl) fl26_0 rfl rfl ?_
            refine op_loadAggB (ds := u64s (wl x)) (nxsgf rfl rfl rfl rfl rfl rfl) ag24 rfl B2 (by first | (rw [List.drop_zero, List.take_of_length_le (by first | (simp; done) | (simp; omega))]; done) | rfl) (by first | (simp; done) | (simp; omega)) mem2 rfl ?_
            refine op_callA (Nx.agree (nxsgm rfl rfl rfl rfl rfl rfl)) (.cons rfl .nil) (WShort_w hx) Try.func54 rfl rfl (by simp) rfl ?_
            rintro v67 L67 ⟨M67, p67, c67, rfl, rfl, r67⟩
            change At _ _ _ [M67, M21, M15, N2, N5, N7, R] _
            have s67 := r67.rsl
            refine At.moreS (Lst := [M21, M15, N2, N5, N7, R]) (Lst' := [M67, M21, M15, N2, N5, N7, R]) (.cons _ (.refl _)) (.refl _) ?_
            refine op_str (nxsgf rfl rfl rfl rfl rfl rfl) Try.underlying34 Try.underlying5 Try.underlying9 rfl (by assumption) (by first | exact mem0 | exact mem1 | exact mem2 | exact mem3 | exact mem4 | exact mem5 | exact mem6 | exact mem7 | exact mem8 | exact mem9) rfl ?_
            refine op_callA (Nx.agree (nxsgm rfl rfl rfl rfl rfl rfl)) (.cons rfl .nil) (rShort_w hx) Try.func55 rfl rfl (by simp) rfl ?_
            rintro v71 L71 ⟨M71, p71, c71, rfl, rfl, r71⟩
            change At _ _ _ [M71, M67, M21, M15, N2, N5, N7, R] _
            have s71 := r71.rsl
            refine At.moreS (Lst := [M67, M21, M15, N2, N5, N7, R]) (Lst' := [M71, M67, M21, M15, N2, N5, N7, R]) (.cons _ (.refl _)) (.refl _) ?_
            refine op_str (nxsgf rfl rfl rfl rfl rfl rfl) Try.underlying34 Try.underlying5 Try.underlying9 rfl (by assumption) (by first | exact mem0 | exact mem1 | exact mem2 | exact mem3 | exact mem4 | exact mem5 | exact mem6 | exact mem7 | exact mem8 | exact mem9) rfl ?_
            refine op_eqS (nxsgf rfl rfl rfl rfl rfl rfl) rfl rfl rfl ?_
            refine op_pickT (nxsf rfl rfl rfl) rfl rfl rfl ?_
            refine op_move (nxsf rfl rfl rfl) rfl rfl ?_
            refine At.partP (d := 75) rfl (fun g75 => ?_) (fun g75 => ?_)
            · refine op_fieldAddr (nxsgf rfl rfl rfl rfl rfl rfl) fl26_0 rfl rfl ?_
              refine op_loadAggB (ds := u64s (wl x)) (nxsgf rfl rfl rfl rfl rfl rfl) ag24 rfl B2 (by first | (rw [List.drop_zero, List.take_of_length_le (by first | (simp; done) | (simp; omega))]; done) | rfl) (by first | (simp; done) | (simp; omega)) mem4 rfl ?_
              refine op_fieldAddr (nxsgf rfl rfl rfl rfl rfl rfl) fl26_0 rfl rfl ?_
              refine op_loadAggB (ds := u64s (wl x)) (nxsgf rfl rfl rfl rfl rfl rfl) ag24 rfl B2 (by first | (rw [List.drop_zero, List.take_of_length_le (by first | (simp; done) | (simp; omega))]; done) | rfl) (by first | (simp; done) | (simp; omega)) mem4 rfl ?_
              refine op_callA (Nx.agree (nxsgm rfl rfl rfl rfl rfl rfl)) (.cons rfl .nil) (WBits_w hx) Try.func56 rfl rfl (by simp) rfl ?_
              rintro v78 L78 ⟨rfl, rfl⟩
              change At _ _ _ [M71, M67, M21, M15, N2, N5, N7, R] _
              refine At.moreS (Lst := [M71, M67, M21, M15, N2, N5, N7, R]) (Lst' := [M71, M67, M21, M15, N2, N5, N7, R]) (.refl _) (.refl _) ?_
              refine op_callA (Nx.agree (nxsgs rfl rfl rfl rfl rfl rfl rfl)) (.cons rfl .nil) (rBits_w hx) Try.func57 rfl rfl (by simp) rfl ?_
              rintro v81 L81 ⟨rfl, rfl⟩
              change At _ _ _ [M71, M67, M21, M15, N2, N5, N7, R] _
              refine At.anyS (.refl _) ?_
              refine op_eql (nxsgf rfl rfl rfl rfl rfl rfl) rfl rfl rfl ?_
              refine op_pickT (nxsf rfl rfl rfl) rfl rfl rfl ?_
              refine op_move (nxsf rfl rfl rfl) rfl rfl ?_
              refine At.partP (d := 84) rfl (fun g84 => ?_) (fun g84 => ?_)
              · refine op_fieldAddr (nxsgf rfl rfl rfl rfl rfl rfl) fl26_0 rfl rfl ?_
                refine op_idxA (nxsgf rfl rfl rfl rfl rfl rfl) ae24 rfl rfl (show _ = (((0 : Nat)) : Int) from by omega) (by omega) rfl ?_
                refine op_loadB (nxsgf rfl rfl rfl rfl rfl rfl) sc22 rfl B2 (by first | exact get64A (by omega) | rfl) mem4 rfl ?_
                refine op_fieldAddr (nxsgf rfl rfl rfl rfl rfl rfl) fl26_0 rfl rfl ?_
                refine op_idxA (nxsgf rfl rfl rfl rfl rfl rfl) ae24 rfl rfl (show _ = (((0 : Nat)) : Int) from by omega) (by omega) rfl ?_
                refine op_loadB (nxsgf rfl rfl rfl rfl rfl rfl) sc22 rfl B2 (by first | exact get64A (by omega) | rfl) mem4 rfl ?_
                refine op_callA (Nx.agree (nxsgm rfl rfl rfl rfl rfl rfl)) (.cons rfl .nil) (WOf_f _) Try.func36 rfl rfl (by simp) rfl ?_
                rintro v88 L88 ⟨rfl, rfl⟩
                change At _ _ _ [M71, M67, M21, M15, N2, N5, N7, R] _
                refine At.moreS (Lst := [M71, M67, M21, M15, N2, N5, N7, R]) (Lst' := [M71, M67, M21, M15, N2, N5, N7, R]) (.refl _) (.refl _) ?_
                refine op_callA (Nx.agree (nxsgs rfl rfl rfl rfl rfl rfl rfl)) (.cons rfl .nil) (rOf_w _) Try.func58 rfl rfl (by simp) rfl ?_
                rintro v92 L92 ⟨rfl, rfl⟩
                change At _ _ _ [M71, M67, M21, M15, N2, N5, N7, R] _
                refine At.anyS (.refl _) ?_
                refine op_eqW (a := wl ((wl x ++ wl y ++ wl z).getD 0 0).toNat) (b := wl ((wl x ++ wl y ++ wl z).getD 0 0).toNat) (nxsgf rfl rfl rfl rfl rfl rfl) ae24 Try.underlying22 (by kernel_rfl) rfl rfl rfl rfl rfl ?_
                refine op_pickT (nxsf rfl rfl rfl) rfl rfl rfl ?_
                refine op_move (nxsf rfl rfl rfl) rfl rfl ?_
                refine At.partP (d := 95) rfl (fun g95 => ?_) (fun g95 => ?_)
                · refine op_fieldAddr (nxsgf rfl rfl rfl rfl rfl rfl) fl26_0 rfl rfl ?_
                  refine op_loadAggB (ds := u64s (wl x)) (nxsgf rfl rfl rfl rfl rfl rfl) ag24 rfl B2 (by first | (rw [List.drop_zero, List.take_of_length_le (by first | (simp; done) | (simp; omega))]; done) | rfl) (by first | (simp; done) | (simp; omega)) mem4 rfl ?_
                  refine op_fieldAddr (nxsgf rfl rfl rfl rfl rfl rfl) fl26_1 rfl rfl ?_
                  refine op_loadAggB (ds := u64s (wl y)) (nxsgf rfl rfl rfl rfl rfl rfl) ag24 rfl B2 (by first | (rw [List.drop_zero, List.take_of_length_le (by first | (simp; done) | (simp; omega))]; done) | rfl) (by first | (simp; done) | (simp; omega)) mem4 rfl ?_
                  refine op_fieldAddr (nxsgf rfl rfl rfl rfl rfl rfl) fl26_0 rfl rfl ?_
                  refine op_loadAggB (ds := u64s (wl x)) (nxsgf rfl rfl rfl rfl rfl rfl) ag24 rfl B2 (by first | (rw [List.drop_zero, List.take_of_length_le (by first | (simp; done) | (simp; omega))]; done) | rfl) (by first | (simp; done) | (simp; omega)) mem4 rfl ?_
                  refine op_fieldAddr (nxsgf rfl rfl rfl rfl rfl rfl) fl26_1 rfl rfl ?_
                  refine op_loadAggB (ds := u64s (wl y)) (nxsgf rfl rfl rfl rfl rfl rfl) ag24 rfl B2 (by first | (rw [List.drop_zero, List.take_of_length_le (by first | (simp; done) | (simp; omega))]; done) | rfl) (by first | (simp; done) | (simp; omega)) mem4 rfl ?_
                  refine op_callA (Nx.agree (nxsgm rfl rfl rfl rfl rfl rfl)) (.cons rfl (.cons rfl .nil)) (WCmp_f hx hy) Try.func47 rfl rfl (by simp) rfl ?_
                  rintro v100 L100 ⟨rfl, rfl⟩
                  change At _ _ _ [M71, M67, M21, M15, N2, N5, N7, R] _
                  refine At.moreS (Lst := [M71, M67, M21, M15, N2, N5, N7, R]) (Lst' := [M71, M67, M21, M15, N2, N5, N7, R]) (.refl _) (.refl _) ?_
                  refine op_callA (Nx.agree (nxsgs rfl rfl rfl rfl rfl rfl rfl)) (.cons rfl (.cons rfl .nil)) (rCmp_w hx hy) Try.func59 rfl rfl (by simp) rfl ?_
                  rintro v105 L105 ⟨rfl, rfl⟩
                  change At _ _ _ [M71, M67, M21, M15, N2, N5, N7, R] _
                  refine At.anyS (.refl _) ?_
                  refine op_eql (nxsgf rfl rfl rfl rfl rfl rfl) rfl rfl rfl ?_
                  refine op_pickT (nxsf rfl rfl rfl) rfl rfl rfl ?_
                  refine op_move (nxsf rfl rfl rfl) rfl rfl ?_
                  refine At.partP (d := 108) rfl (fun g108 => ?_) (fun g108 => ?_)
                  · refine op_fieldAddr (nxsgf rfl rfl rfl rfl rfl rfl) fl26_0 rfl rfl ?_
                    refine op_loadAggB (ds := u64s (wl x)) (nxsgf rfl rfl rfl rfl rfl rfl) ag24 rfl B2 (by first | (rw [List.drop_zero, List.take_of_length_le (by first | (simp; done) | (simp; omega))]; done) | rfl) (by first | (simp; done) | (simp; omega)) mem4 rfl ?_
                    refine op_fieldAddr (nxsgf rfl rfl rfl rfl rfl rfl) fl26_1 rfl rfl ?_
                    refine op_loadAggB (ds := u64s (wl y)) (nxsgf rfl rfl rfl rfl rfl rfl) ag24 rfl B2 (by first | (rw [List.drop_zero, List.take_of_length_le (by first | (simp; done) | (simp; omega))]; done) | rfl) (by first | (simp; done) | (simp; omega)) mem4 rfl ?_
                    refine op_fieldAddr (nxsgf rfl rfl rfl rfl rfl rfl) fl26_0 rfl rfl ?_
                    refine op_loadAggB (ds := u64s (wl x)) (nxsgf rfl rfl rfl rfl rfl rfl) ag24 rfl B2 (by first | (rw [List.drop_zero, List.take_of_length_le (by first | (simp; done) | (simp; omega))]; done) | rfl) (by first | (simp; done) | (simp; omega)) mem4 rfl ?_
                    refine op_fieldAddr (nxsgf rfl rfl rfl rfl rfl rfl) fl26_1 rfl rfl ?_
                    refine op_loadAggB (ds := u64s (wl y)) (nxsgf rfl rfl rfl rfl rfl rfl) ag24 rfl B2 (by first | (rw [List.drop_zero, List.take_of_length_le (by first | (simp; done) | (simp; omega))]; done) | rfl) (by first | (simp; done) | (simp; omega)) mem4 rfl ?_
                    refine op_callA (Nx.agree (nxsgm rfl rfl rfl rfl rfl rfl)) (.cons rfl (.cons rfl .nil)) (WScmp_f hx hy) Try.func60 rfl rfl (by simp) rfl ?_
                    rintro v113 L113 ⟨rfl, rfl⟩
                    change At _ _ _ [M71, M67, M21, M15, N2, N5, N7, R] _
                    refine At.moreS (Lst := [M71, M67, M21, M15, N2, N5, N7, R]) (Lst' := [M71, M67, M21, M15, N2, N5, N7, R]) (.refl _) (.refl _) ?_
                    refine op_callA (Nx.agree (nxsgs rfl rfl rfl rfl rfl rfl rfl)) (.cons rfl (.cons rfl .nil)) (rScmp_w hx hy) Try.func61 rfl rfl (by simp) rfl ?_
                    rintro v118 L118 ⟨rfl, rfl⟩
                    change At _ _ _ [M71, M67, M21, M15, N2, N5, N7, R] _
                    refine At.anyS (.refl _) ?_
                    refine op_eql (nxsgf rfl rfl rfl rfl rfl rfl) rfl rfl rfl ?_
                    refine op_pickT (nxsf rfl rfl rfl) rfl rfl rfl ?_
                    refine op_move (nxsf rfl rfl rfl) rfl rfl ?_
                    refine At.partP (d := 121) rfl (fun g121 => ?_) (fun g121 => ?_)
                    · refine op_fieldAddr (nxsgf rfl rfl rfl rfl rfl rfl) fl26_0 rfl rfl ?_
                      refine op_loadAggB (ds := u64s (wl x)) (nxsgf rfl rfl rfl rfl rfl rfl) ag24 rfl B2 (by first | (rw [List.drop_zero, List.take_of_length_le (by first | (simp; done) | (simp; omega))]; done) | rfl) (by first | (simp; done) | (simp; omega)) mem4 rfl ?_
                      refine op_fieldAddr (nxsgf rfl rfl rfl rfl rfl rfl) fl26_0 rfl rfl ?_
                      refine op_loadAggB (ds := u64s (wl x)) (nxsgf rfl rfl rfl rfl rfl rfl) ag24 rfl B2 (by first | (rw [List.drop_zero, List.take_of_length_le (by first | (simp; done) | (simp; omega))]; done) | rfl) (by first | (simp; done) | (simp; omega)) mem4 rfl ?_
                      refine op_callA (Nx.agree (nxsgs rfl rfl rfl rfl rfl rfl rfl)) (.cons rfl (.cons rfl .nil)) (WCmp_f hx hx) Try.func47 rfl rfl (by simp) rfl ?_
                      rintro v126 L126 ⟨rfl, rfl⟩
                      change At _ _ _ [M71, M67, M21, M15, N2, N5, N7, R] _
                      refine At.anyS (.refl _) ?_
                      refine op_eql (nxsgf rfl rfl rfl rfl rfl rfl) rfl rfl rfl ?_
                      refine op_pickT (nxsf rfl rfl rfl) rfl rfl rfl ?_
                      refine op_move (nxsf rfl rfl rfl) rfl rfl ?_
                      refine At.partP (d := 129) rfl (fun g129 => ?_) (fun g129 => ?_)
                      · refine op_callA (Nx.agree (nxsgs rfl rfl rfl rfl rfl rfl rfl)) .nil (Wwakes_f) Try.func26 rfl rfl (by simp) rfl ?_
                        rintro v130 L130 ⟨rfl, rfl⟩
                        change At _ _ _ [M71, M67, M21, M15, N2, N5, N7, R] _
                        refine At.anyS (.refl _) ?_
                        refine op_pickT (nxsf rfl rfl rfl) rfl rfl rfl ?_
                        refine op_assign (nxsf rfl rfl rfl) rfl rfl ?_
                        refine At.sNil ?_
                        refine At.norm (hk_6 ?_)
                        refine At.ret (?_)
                        refine At.sub (L' := [R]) (.cons _ (.cons _ (.cons _ (.cons _ (.cons _ (.cons _ (.cons _ (.cons_cons _ (.slnil))))))))) ?_
                        refine At.ret1 (L1 := []) rfl (.tmp rfl .nil) (.refl _) (.refl _) ?_
                        exact ⟨rfl, rfl⟩
                      · exact absurd hcx g129
                    · exact absurd rfl g121
                  · exact absurd rfl g108
                · exact absurd rfl g95
              · exact absurd rfl g84
            · exact absurd rfl g75
          · exact absurd rfl g64
        · exact absurd g55 (by simp)
      · exact absurd rfl g50
    · exact absurd g45 (by simp)
  · exact absurd rfl g40
theorem WordForms_f {wa wb wm : List UInt64} {N : Heaplet} {ao : Option Addr} {n cap : Nat} {l : List UInt8} (ha : wa.length = 4) (hb : wb.length = 4) (hm : wm.length = 4) (h : RSl N 1 ao n cap (u8s l)) : Fn Try.prog 9 #[.agg (u64s (wa ++ wb ++ wm)).toArray, .slice ao n cap] [] [N] (fun v L => v = .bool true ∧ L = []) := by
  rw [wl_self ha, wl_self hb, wl_self hm]
  exact WordForms_w h (v64_lt4 ha) (v64_lt4 hb) (v64_lt4 hm)
end Go.Proofs.Ytefljbbpaideaaa
