/- quarrylaw01.WordBits answers true. No condition. -/
import Derived.Test.YtefljbbpaideaaaKXb
import Derived.Test.YtefljbbpaideaaaKXd
import Derived.Test.YtefljbbpaideaaaKXe
import Derived.Test.YtefljbbpaideaaaKWw
import Derived.Test.YtefljbbpaideaaaKA5
namespace Go.Proofs.Ytefljbbpaideaaa
set_option linter.unusedVariables false
set_option linter.unusedSimpArgs false
open Go Go.RowKit
set_option maxRecDepth 100000 in
set_option maxHeartbeats 4000000 in
theorem WordBits_w {x y z : Nat} (hx : x < WW) (hy : y < WW) (hz : z < WW) : Fn Try.prog 14 #[.agg (u64s (wl x ++ wl y ++ wl z)).toArray] [] [] (fun v L => v = .bool true ∧ L = []) := by
  refine Fn.enter (vs := [.agg (u64s (wl x ++ wl y ++ wl z)).toArray]) Try.func14 rfl rfl rfl ?_
  intro E R hR
  change At _ _ E [R] _
  refine At.seq fun K1 hk_1 => ?_
  refine At.region ?_
  refine op_box (nxla rfl) rfl rfl rfl (fun N1 b1 B1 => ?_)
  change Blk N1 b1 _ (u64s (wl x ++ wl y ++ wl z)) at B1
  refine op_assign (nxlf rfl) rfl rfl ?_
  refine At.opsNil ?_
  refine At.norm (hk_1 ?_)
  refine At.seq fun K2 hk_2 => ?_
  refine At.seq fun K3 hk_3 => ?_
  refine At.drawnS [N1, R] [9,21,34,43] [] [0,1,2,3,5,6,7,8,4,9,10,11,12,13,14,15,17,18,19,20,16,21,22,23,24,25,26,27,28,30,31,32,33,29,34,35,36,37,38,39,41,42,40,43,44,45] (by kernel_rfl) (by kernel_rfl) (.refl _) ?_
  refine op_fieldAddr (nxsf rfl rfl rfl) fl26_0 rfl rfl ?_
  refine op_loadAggB (ds := u64s (wl x)) (nxsf rfl rfl rfl) ag24 rfl B1 (by first | (rw [List.drop_zero, List.take_of_length_le (by first | (simp; done) | (simp; omega))]; done) | rfl) (by first | (simp; done) | (simp; omega)) mem0 rfl ?_
  refine op_fieldAddr (nxsf rfl rfl rfl) fl26_1 rfl rfl ?_
  refine op_loadAggB (ds := u64s (wl y)) (nxsf rfl rfl rfl) ag24 rfl B1 (by first | (rw [List.drop_zero, List.take_of_length_le (by first | (simp; done) | (simp; omega))]; done) | rfl) (by first | (simp; done) | (simp; omega)) mem0 rfl ?_
  refine op_fieldAddr (nxsf rfl rfl rfl) fl26_0 rfl rfl ?_
  refine op_loadAggB (ds := u64s (wl x)) (nxsf rfl rfl rfl) ag24 rfl B1 (by first | (rw [List.drop_zero, List.take_of_length_le (by first | (simp; done) | (simp; omega))]; done) | rfl) (by first | (simp; done) | (simp; omega)) mem0 rfl ?_
  refine op_fieldAddr (nxsf rfl rfl rfl) fl26_1 rfl rfl ?_
  refine op_loadAggB (ds := u64s (wl y)) (nxsf rfl rfl rfl) ag24 rfl B1 (by first | (rw [List.drop_zero, List.take_of_length_le (by first | (simp; done) | (simp; omega))]; done) | rfl) (by first | (simp; done) | (simp; omega)) mem0 rfl ?_
  refine op_callA (Nx.agree (nxsm rfl rfl rfl)) (.cons rfl (.cons rfl .nil)) (WAnd_f hx hy) Try.func82 rfl rfl (by simp) rfl ?_
  rintro v7 L7 ⟨rfl, rfl⟩
  change At _ _ _ [N1, R] _
  refine At.moreS (Lst := [N1, R]) (Lst' := [N1, R]) (.refl _) (.refl _) ?_
  refine op_callA (Nx.agree (nxss rfl rfl rfl rfl)) (.cons rfl (.cons rfl (.cons rfl .nil))) (rBit0_f hx hy) Try.func83 rfl rfl (by simp) rfl ?_
  rintro v12 L12 ⟨rfl, rfl⟩
  change At _ _ _ [N1, R] _
  refine At.anyS (.refl _) ?_
  refine op_neW (a := wl (x &&& y)) (b := wl (x &&& y)) (nxsf rfl rfl rfl) ae24 Try.underlying22 (by kernel_rfl) rfl rfl rfl rfl rfl ?_
  refine op_move (nxsf rfl rfl rfl) rfl rfl ?_
  refine At.partP (d := 14) rfl (fun g14 => ?_) (fun g14 => ?_)
  · exact absurd rfl g14
  · refine op_fieldAddr (nxsgf rfl rfl rfl rfl rfl rfl) fl26_0 rfl rfl ?_
    refine op_loadAggB (ds := u64s (wl x)) (nxsgf rfl rfl rfl rfl rfl rfl) ag24 rfl B1 (by first | (rw [List.drop_zero, List.take_of_length_le (by first | (simp; done) | (simp; omega))]; done) | rfl) (by first | (simp; done) | (simp; omega)) mem0 rfl ?_
    refine op_fieldAddr (nxsgf rfl rfl rfl rfl rfl rfl) fl26_1 rfl rfl ?_
    refine op_loadAggB (ds := u64s (wl y)) (nxsgf rfl rfl rfl rfl rfl rfl) ag24 rfl B1 (by first | (rw [List.drop_zero, List.take_of_length_le (by first | (simp; done) | (simp; omega))]; done) | rfl) (by first | (simp; done) | (simp; omega)) mem0 rfl ?_
    refine op_fieldAddr (nxsgf rfl rfl rfl rfl rfl rfl) fl26_0 rfl rfl ?_
    refine op_loadAggB (ds := u64s (wl x)) (nxsgf rfl rfl rfl rfl rfl rfl) ag24 rfl B1 (by first | (rw [List.drop_zero, List.take_of_length_le (by first | (simp; done) | (simp; omega))]; done) | rfl) (by first | (simp; done) | (simp; omega)) mem0 rfl ?_
    refine op_fieldAddr (nxsgf rfl rfl rfl rfl rfl rfl) fl26_1 rfl rfl ?_
    refine op_loadAggB (ds := u64s (wl y)) (nxsgf rfl rfl rfl rfl rfl rfl) ag24 rfl B1 (by first | (rw [List.drop_zero, List.take_of_length_le (by first | (simp; done) | (simp; omega))]; done) | rfl) (by first | (simp; done) | (simp; omega)) mem0 rfl ?_
    refine op_callA (Nx.agree (nxsgm rfl rfl rfl rfl rfl rfl)) (.cons rfl (.cons rfl .nil)) (WOr_f hx hy) Try.func84 rfl rfl (by simp) rfl ?_
    rintro v19 L19 ⟨rfl, rfl⟩
    change At _ _ _ [N1, R] _
    refine At.moreS (Lst := [N1, R]) (Lst' := [N1, R]) (.refl _) (.refl _) ?_
    refine op_callA (Nx.agree (nxsgs rfl rfl rfl rfl rfl rfl rfl)) (.cons rfl (.cons rfl (.cons rfl .nil))) (rBit1_f hx hy) Try.func83 rfl rfl (by simp) rfl ?_
    rintro v24 L24 ⟨rfl, rfl⟩
    change At _ _ _ [N1, R] _
    refine At.anyS (.refl _) ?_
    refine op_neW (a := wl (x ||| y)) (b := wl (x ||| y)) (nxsgf rfl rfl rfl rfl rfl rfl) ae24 Try.underlying22 (by kernel_rfl) rfl rfl rfl rfl rfl ?_
    refine op_pickF (nxsf rfl rfl rfl) rfl rfl rfl ?_
    refine op_move (nxsf rfl rfl rfl) rfl rfl ?_
    refine At.partP (d := 27) rfl (fun g27 => ?_) (fun g27 => ?_)
    · exact absurd rfl g27
    · refine op_fieldAddr (nxsgf rfl rfl rfl rfl rfl rfl) fl26_0 rfl rfl ?_
      refine op_loadAggB (ds := u64s (wl x)) (nxsgf rfl rfl rfl rfl rfl rfl) ag24 rfl B1 (by first | (rw [List.drop_zero, List.take_of_length_le (by first | (simp; done) | (simp; omega))]; done) | rfl) (by first | (simp; done) | (simp; omega)) mem0 rfl ?_
      refine op_fieldAddr (nxsgf rfl rfl rfl rfl rfl rfl) fl26_1 rfl rfl ?_
      refine op_loadAggB (ds := u64s (wl y)) (nxsgf rfl rfl rfl rfl rfl rfl) ag24 rfl B1 (by first | (rw [List.drop_zero, List.take_of_length_le (by first | (simp; done) | (simp; omega))]; done) | rfl) (by first | (simp; done) | (simp; omega)) mem0 rfl ?_
      refine op_fieldAddr (nxsgf rfl rfl rfl rfl rfl rfl) fl26_0 rfl rfl ?_
      refine op_loadAggB (ds := u64s (wl x)) (nxsgf rfl rfl rfl rfl rfl rfl) ag24 rfl B1 (by first | (rw [List.drop_zero, List.take_of_length_le (by first | (simp; done) | (simp; omega))]; done) | rfl) (by first | (simp; done) | (simp; omega)) mem0 rfl ?_
      refine op_fieldAddr (nxsgf rfl rfl rfl rfl rfl rfl) fl26_1 rfl rfl ?_
      refine op_loadAggB (ds := u64s (wl y)) (nxsgf rfl rfl rfl rfl rfl rfl) ag24 rfl B1 (by first | (rw [List.drop_zero, List.take_of_length_le (by first | (simp; done) | (simp; omega))]; done) | rfl) (by first | (simp; done) | (simp; omega)) mem0 rfl ?_
      refine op_callA (Nx.agree (nxsgm rfl rfl rfl rfl rfl rfl)) (.cons rfl (.cons rfl .nil)) (WXor_f hx hy) Try.func85 rfl rfl (by simp) rfl ?_
      rintro v32 L32 ⟨rfl, rfl⟩
      change At _ _ _ [N1, R] _
      refine At.moreS (Lst := [N1, R]) (Lst' := [N1, R]) (.refl _) (.refl _) ?_
      refine op_callA (Nx.agree (nxsgs rfl rfl rfl rfl rfl rfl rfl)) (.cons rfl (.cons rfl (.cons rfl .nil))) (rBit2_f hx hy) Try.func83 rfl rfl (by simp) rfl ?_
      rintro v37 L37 ⟨rfl, rfl⟩
      change At _ _ _ [N1, R] _
      refine At.anyS (.refl _) ?_
      refine op_neW (a := wl (x ^^^ y)) (b := wl (x ^^^ y)) (nxsgf rfl rfl rfl rfl rfl rfl) ae24 Try.underlying22 (by kernel_rfl) rfl rfl rfl rfl rfl ?_
      refine op_pickF (nxsf rfl rfl rfl) rfl rfl rfl ?_
      refine op_move (nxsf rfl rfl rfl) rfl rfl ?_
      refine At.partP (d := 40) rfl (fun g40 => ?_) (fun g40 => ?_)
      · exact absurd rfl g40
      · refine op_fieldAddr (nxsgf rfl rfl rfl rfl rfl rfl) fl26_0 rfl rfl ?_
        refine op_loadAggB (ds := u64s (wl x)) (nxsgf rfl rfl rfl rfl rfl rfl) ag24 rfl B1 (by first | (rw [List.drop_zero, List.take_of_length_le (by first | (simp; done) | (simp; omega))]; done) | rfl) (by first | (simp; done) | (simp; omega)) mem0 rfl ?_
        refine op_fieldAddr (nxsgf rfl rfl rfl rfl rfl rfl) fl26_0 rfl rfl ?_
        refine op_loadAggB (ds := u64s (wl x)) (nxsgf rfl rfl rfl rfl rfl rfl) ag24 rfl B1 (by first | (rw [List.drop_zero, List.take_of_length_le (by first | (simp; done) | (simp; omega))]; done) | rfl) (by first | (simp; done) | (simp; omega)) mem0 rfl ?_
        refine op_callA (Nx.agree (nxsgm rfl rfl rfl rfl rfl rfl)) (.cons rfl .nil) (WNot_f hx) Try.func46 rfl rfl (by simp) rfl ?_
        rintro v43 L43 ⟨rfl, rfl⟩
        change At _ _ _ [N1, R] _
        refine At.moreS (Lst := [N1, R]) (Lst' := [N1, R]) (.refl _) (.refl _) ?_
        refine op_callA (Nx.agree (nxsgs rfl rfl rfl rfl rfl rfl rfl)) (.cons rfl .nil) (rNot_w hx) Try.func86 rfl rfl (by simp) rfl ?_
        rintro v46 L46 ⟨rfl, rfl⟩
        change At _ _ _ [N1, R] _
        refine At.anyS (.refl _) ?_
        refine op_neW (a := wl (WW - 1 - x)) (b := wl (WW - 1 - x)) (nxsgf rfl rfl rfl rfl rfl rfl) ae24 Try.underlying22 (by kernel_rfl) rfl rfl rfl rfl rfl ?_
        refine op_pickF (nxsf rfl rfl rfl) rfl rfl rfl ?_
        refine At.sNil ?_
        refine At.norm (hk_3 ?_)
        refine At.condP rfl (fun c48 => ?_) (fun c48 => ?_)
        · exact absurd rfl c48
        · refine At.skip ?_
          refine At.norm (hk_2 ?_)
          refine At.seq fun K4 hk_4 => ?_
          refine At.drawn [9,21,34,47,60,64] [0,1,2,3,5,6,7,8,4,9,10,11,12,13,14,15,17,18,19,20,16,21,22,23,24,25,26,27,28,30,31,32,33,29,34,35,36,37,38,39,40,41,43,44,45,46,42,47,48,49,50,51,52,53,54,56,57,58,59,55,60,61,62,63,64,65,66] (by kernel_rfl) (by kernel_rfl) ?_
          refine op_fieldAddr (nxof rfl rfl rfl (by kernel_rfl)) fl26_2 rfl rfl ?_
          refine op_loadAggB (ds := u64s (wl z)) (nxof rfl rfl rfl (by kernel_rfl)) ag24 rfl B1 (by first | (rw [List.drop_zero, List.take_of_length_le (by first | (simp; done) | (simp; omega))]; done) | rfl) (by first | (simp; done) | (simp; omega)) mem0 rfl ?_
          refine op_fieldAddr (nxof rfl rfl rfl (by kernel_rfl)) fl26_0 rfl rfl ?_
          refine op_loadAggB (ds := u64s (wl x)) (nxof rfl rfl rfl (by kernel_rfl)) ag24 rfl B1 (by first | (rw [List.drop_zero, List.take_of_length_le (by first | (simp; done) | (simp; omega))]; done) | rfl) (by first | (simp; done) | (simp; omega)) mem0 rfl ?_
          refine op_fieldAddr (nxof rfl rfl rfl (by kernel_rfl)) fl26_2 rfl rfl ?_
          refine op_loadAggB (ds := u64s (wl z)) (nxof rfl rfl rfl (by kernel_rfl)) ag24 rfl B1 (by first | (rw [List.drop_zero, List.take_of_length_le (by first | (simp; done) | (simp; omega))]; done) | rfl) (by first | (simp; done) | (simp; omega)) mem0 rfl ?_
          refine op_fieldAddr (nxof rfl rfl rfl (by kernel_rfl)) fl26_0 rfl rfl ?_
          refine op_loadAggB (ds := u64s (wl x)) (nxof rfl rfl rfl (by kernel_rfl)) ag24 rfl B1 (by first | (rw [List.drop_zero, List.take_of_length_le (by first | (simp; done) | (simp; omega))]; done) | rfl) (by first | (simp; done) | (simp; omega)) mem0 rfl ?_
          refine op_callA (nxoa rfl rfl rfl) (.cons rfl (.cons rfl .nil)) (WSext_w hz hx) Try.func87 rfl rfl (by simp) rfl ?_
          rintro v53 L53 ⟨rfl, rfl⟩
          change At _ _ _ [N1, R] _
          refine op_callA (nxosa rfl rfl rfl rfl) (.cons rfl (.cons rfl .nil)) (rSext_w hz hx) Try.func88 rfl rfl (by simp) rfl ?_
          rintro v58 L58 ⟨rfl, rfl⟩
          change At _ _ _ [N1, R] _
          refine op_eqW (a := wl (sextV z x)) (b := wl (sextV z x)) (nxof rfl rfl rfl (by kernel_rfl)) ae24 Try.underlying22 (by kernel_rfl) rfl rfl rfl rfl rfl ?_
          refine op_move (nxof rfl rfl rfl (by kernel_rfl)) rfl rfl ?_
          refine At.partP (d := 60) rfl (fun g60 => ?_) (fun g60 => ?_)
          · refine op_fieldAddr (nxogf rfl rfl rfl rfl rfl rfl (by kernel_rfl)) fl26_2 rfl rfl ?_
            refine op_loadAggB (ds := u64s (wl z)) (nxogf rfl rfl rfl rfl rfl rfl (by kernel_rfl)) ag24 rfl B1 (by first | (rw [List.drop_zero, List.take_of_length_le (by first | (simp; done) | (simp; omega))]; done) | rfl) (by first | (simp; done) | (simp; omega)) mem0 rfl ?_
            refine op_fieldAddr (nxogf rfl rfl rfl rfl rfl rfl (by kernel_rfl)) fl26_0 rfl rfl ?_
            refine op_loadAggB (ds := u64s (wl x)) (nxogf rfl rfl rfl rfl rfl rfl (by kernel_rfl)) ag24 rfl B1 (by first | (rw [List.drop_zero, List.take_of_length_le (by first | (simp; done) | (simp; omega))]; done) | rfl) (by first | (simp; done) | (simp; omega)) mem0 rfl ?_
            refine op_fieldAddr (nxogf rfl rfl rfl rfl rfl rfl (by kernel_rfl)) fl26_2 rfl rfl ?_
            refine op_loadAggB (ds := u64s (wl z)) (nxogf rfl rfl rfl rfl rfl rfl (by kernel_rfl)) ag24 rfl B1 (by first | (rw [List.drop_zero, List.take_of_length_le (by first | (simp; done) | (simp; omega))]; done) | rfl) (by first | (simp; done) | (simp; omega)) mem0 rfl ?_
            refine op_fieldAddr (nxogf rfl rfl rfl rfl rfl rfl (by kernel_rfl)) fl26_0 rfl rfl ?_
            refine op_loadAggB (ds := u64s (wl x)) (nxogf rfl rfl rfl rfl rfl rfl (by kernel_rfl)) ag24 rfl B1 (by first | (rw [List.drop_zero, List.take_of_length_le (by first | (simp; done) | (simp; omega))]; done) | rfl) (by first | (simp; done) | (simp; omega)) mem0 rfl ?_
            refine op_callA (nxoga rfl rfl rfl rfl rfl rfl) (.cons rfl (.cons rfl .nil)) (WByte_w hz hx) Try.func81 rfl rfl (by simp) rfl ?_
            rintro v65 L65 ⟨rfl, rfl⟩
            change At _ _ _ [N1, R] _
            refine op_callA (Nx.agree (nxogs rfl rfl rfl rfl rfl rfl rfl)) (.cons rfl (.cons rfl .nil)) (rByte_w hz hx) Try.func89 rfl rfl (by simp) rfl ?_
            rintro v70 L70 ⟨rfl, rfl⟩
            change At _ _ _ [N1, R] _
            refine op_eqW (a := wl (byteV z x)) (b := wl (byteV z x)) (nxogf rfl rfl rfl rfl rfl rfl (by kernel_rfl)) ae24 Try.underlying22 (by kernel_rfl) rfl rfl rfl rfl rfl ?_
            refine op_pickT (nxof rfl rfl rfl (by kernel_rfl)) rfl rfl rfl ?_
            refine op_move (nxof rfl rfl rfl (by kernel_rfl)) rfl rfl ?_
            refine At.partP (d := 73) rfl (fun g73 => ?_) (fun g73 => ?_)
            · refine op_fieldAddr (nxogf rfl rfl rfl rfl rfl rfl (by kernel_rfl)) fl26_2 rfl rfl ?_
              refine op_loadAggB (ds := u64s (wl z)) (nxogf rfl rfl rfl rfl rfl rfl (by kernel_rfl)) ag24 rfl B1 (by first | (rw [List.drop_zero, List.take_of_length_le (by first | (simp; done) | (simp; omega))]; done) | rfl) (by first | (simp; done) | (simp; omega)) mem0 rfl ?_
              refine op_fieldAddr (nxogf rfl rfl rfl rfl rfl rfl (by kernel_rfl)) fl26_0 rfl rfl ?_
              refine op_loadAggB (ds := u64s (wl x)) (nxogf rfl rfl rfl rfl rfl rfl (by kernel_rfl)) ag24 rfl B1 (by first | (rw [List.drop_zero, List.take_of_length_le (by first | (simp; done) | (simp; omega))]; done) | rfl) (by first | (simp; done) | (simp; omega)) mem0 rfl ?_
              refine op_fieldAddr (nxogf rfl rfl rfl rfl rfl rfl (by kernel_rfl)) fl26_2 rfl rfl ?_
              refine op_loadAggB (ds := u64s (wl z)) (nxogf rfl rfl rfl rfl rfl rfl (by kernel_rfl)) ag24 rfl B1 (by first | (rw [List.drop_zero, List.take_of_length_le (by first | (simp; done) | (simp; omega))]; done) | rfl) (by first | (simp; done) | (simp; omega)) mem0 rfl ?_
              refine op_fieldAddr (nxogf rfl rfl rfl rfl rfl rfl (by kernel_rfl)) fl26_0 rfl rfl ?_
              refine op_loadAggB (ds := u64s (wl x)) (nxogf rfl rfl rfl rfl rfl rfl (by kernel_rfl)) ag24 rfl B1 (by first | (rw [List.drop_zero, List.take_of_length_le (by first | (simp; done) | (simp; omega))]; done) | rfl) (by first | (simp; done) | (simp; omega)) mem0 rfl ?_
              refine op_callA (nxoga rfl rfl rfl rfl rfl rfl) (.cons rfl (.cons rfl .nil)) (WShl_f hz hx) Try.func79 rfl rfl (by simp) rfl ?_
              rintro v78 L78 ⟨rfl, rfl⟩
              change At _ _ _ [N1, R] _
              refine op_callA (Nx.agree (nxogs rfl rfl rfl rfl rfl rfl rfl)) (.cons rfl (.cons rfl .nil)) (rShl_w hz hx) Try.func90 rfl rfl (by simp) rfl ?_
              rintro v83 L83 ⟨rfl, rfl⟩
              change At _ _ _ [N1, R] _
              refine op_eqW (a := wl (x * 2 ^ amt z)) (b := wl (x * 2 ^ amt z)) (nxogf rfl rfl rfl rfl rfl rfl (by kernel_rfl)) ae24 Try.underlying22 (by kernel_rfl) rfl rfl rfl rfl rfl ?_
              refine op_pickT (nxof rfl rfl rfl (by kernel_rfl)) rfl rfl rfl ?_
              refine op_move (nxof rfl rfl rfl (by kernel_rfl)) rfl rfl ?_
              refine At.partP (d := 86) rfl (fun g86 => ?_) (fun g86 => ?_)
              · refine op_fieldAddr (nxogf rfl rfl rfl rfl rfl rfl (by kernel_rfl)) fl26_2 rfl rfl ?_
                refine op_loadAggB (ds := u64s (wl z)) (nxogf rfl rfl rfl rfl rfl rfl (by kernel_rfl)) ag24 rfl B1 (by first | (rw [List.drop_zero, List.take_of_length_le (by first | (simp; done) | (simp; omega))]; done) | rfl) (by first | (simp; done) | (simp; omega)) mem0 rfl ?_
                refine op_fieldAddr (nxogf rfl rfl rfl rfl rfl rfl (by kernel_rfl)) fl26_0 rfl rfl ?_
                refine op_loadAggB (ds := u64s (wl x)) (nxogf rfl rfl rfl rfl rfl rfl (by kernel_rfl)) ag24 rfl B1 (by first | (rw [List.drop_zero, List.take_of_length_le (by first | (simp; done) | (simp; omega))]; done) | rfl) (by first | (simp; done) | (simp; omega)) mem0 rfl ?_
                refine op_fieldAddr (nxogf rfl rfl rfl rfl rfl rfl (by kernel_rfl)) fl26_2 rfl rfl ?_
                refine op_loadAggB (ds := u64s (wl z)) (nxogf rfl rfl rfl rfl rfl rfl (by kernel_rfl)) ag24 rfl B1 (by first | (rw [List.drop_zero, List.take_of_length_le (by first | (simp; done) | (simp; omega))]; done) | rfl) (by first | (simp; done) | (simp; omega)) mem0 rfl ?_
                refine op_fieldAddr (nxogf rfl rfl rfl rfl rfl rfl (by kernel_rfl)) fl26_0 rfl rfl ?_
                refine op_loadAggB (ds := u64s (wl x)) (nxogf rfl rfl rfl rfl rfl rfl (by kernel_rfl)) ag24 rfl B1 (by first | (rw [List.drop_zero, List.take_of_length_le (by first | (simp; done) | (simp; omega))]; done) | rfl) (by first | (simp; done) | (simp; omega)) mem0 rfl ?_
                refine op_callA (nxoga rfl rfl rfl rfl rfl rfl) (.cons rfl (.cons rfl .nil)) (WShr_f hz hx) Try.func80 rfl rfl (by simp) rfl ?_
                rintro v91 L91 ⟨rfl, rfl⟩
                change At _ _ _ [N1, R] _
                refine op_callA (Nx.agree (nxogs rfl rfl rfl rfl rfl rfl rfl)) (.cons rfl (.cons rfl .nil)) (rShr_w hz hx) Try.func91 rfl rfl (by simp) rfl ?_
                rintro v96 L96 ⟨rfl, rfl⟩
                change At _ _ _ [N1, R] _
                refine op_eqW (a := wl (x / 2 ^ amt z)) (b := wl (x / 2 ^ amt z)) (nxogf rfl rfl rfl rfl rfl rfl (by kernel_rfl)) ae24 Try.underlying22 (by kernel_rfl) rfl rfl rfl rfl rfl ?_
                refine op_pickT (nxof rfl rfl rfl (by kernel_rfl)) rfl rfl rfl ?_
                refine op_move (nxof rfl rfl rfl (by kernel_rfl)) rfl rfl ?_
                refine At.partP (d := 99) rfl (fun g99 => ?_) (fun g99 => ?_)
                · refine op_fieldAddr (nxogf rfl rfl rfl rfl rfl rfl (by kernel_rfl)) fl26_2 rfl rfl ?_
                  refine op_loadAggB (ds := u64s (wl z)) (nxogf rfl rfl rfl rfl rfl rfl (by kernel_rfl)) ag24 rfl B1 (by first | (rw [List.drop_zero, List.take_of_length_le (by first | (simp; done) | (simp; omega))]; done) | rfl) (by first | (simp; done) | (simp; omega)) mem0 rfl ?_
                  refine op_fieldAddr (nxogf rfl rfl rfl rfl rfl rfl (by kernel_rfl)) fl26_0 rfl rfl ?_
                  refine op_loadAggB (ds := u64s (wl x)) (nxogf rfl rfl rfl rfl rfl rfl (by kernel_rfl)) ag24 rfl B1 (by first | (rw [List.drop_zero, List.take_of_length_le (by first | (simp; done) | (simp; omega))]; done) | rfl) (by first | (simp; done) | (simp; omega)) mem0 rfl ?_
                  refine op_fieldAddr (nxogf rfl rfl rfl rfl rfl rfl (by kernel_rfl)) fl26_2 rfl rfl ?_
                  refine op_loadAggB (ds := u64s (wl z)) (nxogf rfl rfl rfl rfl rfl rfl (by kernel_rfl)) ag24 rfl B1 (by first | (rw [List.drop_zero, List.take_of_length_le (by first | (simp; done) | (simp; omega))]; done) | rfl) (by first | (simp; done) | (simp; omega)) mem0 rfl ?_
                  refine op_fieldAddr (nxogf rfl rfl rfl rfl rfl rfl (by kernel_rfl)) fl26_0 rfl rfl ?_
                  refine op_loadAggB (ds := u64s (wl x)) (nxogf rfl rfl rfl rfl rfl rfl (by kernel_rfl)) ag24 rfl B1 (by first | (rw [List.drop_zero, List.take_of_length_le (by first | (simp; done) | (simp; omega))]; done) | rfl) (by first | (simp; done) | (simp; omega)) mem0 rfl ?_
                  refine op_callA (nxoga rfl rfl rfl rfl rfl rfl) (.cons rfl (.cons rfl .nil)) (WSar_w hz hx) Try.func92 rfl rfl (by simp) rfl ?_
                  rintro v104 L104 ⟨rfl, rfl⟩
                  change At _ _ _ [N1, R] _
                  refine op_callA (Nx.agree (nxogs rfl rfl rfl rfl rfl rfl rfl)) (.cons rfl (.cons rfl .nil)) (rSar_w hz hx) Try.func93 rfl rfl (by simp) rfl ?_
                  rintro v109 L109 ⟨rfl, rfl⟩
                  change At _ _ _ [N1, R] _
                  refine op_eqW (a := wl (sarN (amt z) x)) (b := wl (sarN (amt z) x)) (nxogf rfl rfl rfl rfl rfl rfl (by kernel_rfl)) ae24 Try.underlying22 (by kernel_rfl) rfl rfl rfl rfl rfl ?_
                  refine op_pickT (nxof rfl rfl rfl (by kernel_rfl)) rfl rfl rfl ?_
                  refine op_move (nxof rfl rfl rfl (by kernel_rfl)) rfl rfl ?_
                  refine At.partP (d := 112) rfl (fun g112 => ?_) (fun g112 => ?_)
                  · refine op_callA (Nx.agree (nxogs rfl rfl rfl rfl rfl rfl rfl)) .nil (Wwakes_f) Try.func26 rfl rfl (by simp) rfl ?_
                    rintro v113 L113 ⟨rfl, rfl⟩
                    change At _ _ _ [N1, R] _
                    refine op_pickT (nxof rfl rfl rfl (by kernel_rfl)) rfl rfl rfl ?_
                    refine op_assign (nxof rfl rfl rfl (by kernel_rfl)) rfl rfl ?_
                    refine At.oneNil ?_
                    refine At.norm (hk_4 ?_)
                    refine At.ret (?_)
                    refine At.sub (L' := [R]) (.cons _ (.cons_cons _ (.slnil))) ?_
                    refine At.ret1 (L1 := []) rfl (.tmp rfl .nil) (.refl _) (.refl _) ?_
                    exact ⟨rfl, rfl⟩
                  · exact absurd rfl g112
                · exact absurd rfl g99
              · exact absurd rfl g86
            · exact absurd rfl g73
          · exact absurd rfl g60
theorem WordBits_f {wa wb wm : List UInt64} (ha : wa.length = 4) (hb : wb.length = 4) (hm : wm.length = 4) : Fn Try.prog 14 #[.agg (u64s (wa ++ wb ++ wm)).toArray] [] [] (fun v L => v = .bool true ∧ L = []) := by
  rw [wl_self ha, wl_self hb, wl_self hm]
  exact WordBits_w (v64_lt4 ha) (v64_lt4 hb) (v64_lt4 hm)
end Go.Proofs.Ytefljbbpaideaaa
