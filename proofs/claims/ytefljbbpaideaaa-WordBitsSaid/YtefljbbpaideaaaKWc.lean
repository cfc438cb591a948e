/- word.Shl. No condition. -/
import Derived.Test.YtefljbbpaideaaaKWb
namespace Go.Proofs.Ytefljbbpaideaaa
set_option linter.unusedVariables false
set_option linter.unusedSimpArgs false
open Go Go.RowKit
theorem getD_set_same {l : List UInt64} {i : Nat} {z : UInt64} (h : i < l.length) : (l.set i z).getD i 0 = z := by
  rw [List.getD_eq_getElem?_getD, List.getElem?_eq_getElem (by rw [List.length_set]; exact h), Option.getD_some, List.getElem_set_self]
set_option maxRecDepth 100000 in
theorem WShl_f {m x : Nat} (hm : m < WW) (hx : x < WW) : Fn Try.prog 79 #[wo m, wo x] [] [] (fun v L => v = wo (x * 2 ^ amt m) ∧ L = []) := by
  have hlx := length_wl x
  have hs := amt_le m
  obtain ⟨s, hse⟩ : ∃ s, s = amt m := ⟨_, rfl⟩
  rw [← hse] at hs ⊢
  refine Fn.enter (vs := [wo m, wo x]) Try.func79 rfl rfl rfl ?_
  intro E R hR
  change At _ _ E [R] _
  refine At.seq fun K1 hk_1 => ?_
  refine At.region ?_
  refine op_box (nxla rfl) rfl rfl rfl (fun N2 b2 B2 => ?_)
  change Blk N2 b2 _ (u64s (wl m)) at B2
  refine op_box (nxla rfl) rfl rfl rfl (fun N3 b3 B3 => ?_)
  change Blk N3 b3 _ (u64s (wl x)) at B3
  refine op_alloc (nxla rfl) ze24 rfl (fun N4 b4 B4 => ?_)
  change Blk N4 b4 _ [.int .u64 0, .int .u64 0, .int .u64 0, .int .u64 0] at B4
  refine At.opsNil ?_
  refine At.norm (hk_1 ?_)
  refine At.seq fun K2 hk_2 => ?_
  refine At.region ?_
  refine op_alloc (nxla rfl) ze24 rfl (fun N5 b5 B5 => ?_)
  change Blk N5 b5 _ [.int .u64 0, .int .u64 0, .int .u64 0, .int .u64 0] at B5
  refine At.opsNil ?_
  refine At.norm (hk_2 ?_)
  refine At.seq fun K3 hk_3 => ?_
  refine At.region ?_
  refine op_loadAggB (ds := u64s (wl m)) (nxlf rfl) ag24 rfl B2 (by first | (rw [List.drop_zero, List.take_of_length_le (by first | (simp; done) | (simp; omega))]; done) | rfl) (by first | (simp; done) | (simp; omega)) mem3 rfl ?_
  refine op_callA (nxla rfl) (.cons rfl .nil) (amount_f hm) Try.func134 rfl rfl (by simp) rfl ?_
  rintro v9 L9 ⟨rfl, rfl⟩
  change At _ _ _ [N5, N4, N3, N2, R] _
  rw [← hse]
  refine op_assign (nxlf rfl) rfl rfl ?_
  refine At.opsNil ?_
  refine At.norm (hk_3 ?_)
  refine At.seq fun K4 hk_4 => ?_
  refine At.seq fun K5 hk_5 => ?_
  refine At.region ?_
  have hlow : List.replicate 4 0 = wSt (x * 2 ^ s) (s / 64) := (wSt_low hs).symm
  change Blk N5 b5 24 (u64s (List.replicate 4 0)) at B5
  rw [hlow] at B5
  refine op_move (nxlf rfl) rfl rfl ?_
  refine op_quoI (nxlf rfl) rfl rfl (by omega) (by omega) (by omega) rfl ?_
  refine op_assign (nxlf rfl) rfl rfl ?_
  refine At.opsNil ?_
  refine At.norm (hk_5 ?_)
  refine At.block ?_
  refine At.sub (L' := [N5, N4, N3, R]) (.cons_cons _ (.cons_cons _ (.cons_cons _ (.cons _ (.cons_cons _ (.slnil)))))) ?_
  refine At.perm sel3 ?_
  refine At.perm sel1 ?_
  refine At.perm sel2 ?_
  refine At.perm sel3 ?_
  refine At.loop (fun fr_ hp_ ms_ => ∃ (i : Nat) (N5 : Heaplet), fr_ = [(3, .pointer (some ⟨b3, 0, none⟩)), (4, .pointer (some ⟨b4, 0, none⟩)), (5, .pointer (some ⟨b5, 0, none⟩)), (6, .int .i64 (s : Int)), (7, .int .i64 (i : Int))] ∧ hp_ = [N3, N4, N5, R] ∧ 4 - i = ms_ ∧ (s / 64 ≤ i) ∧ (i ≤ 4) ∧ (Blk N5 b5 24 (u64s (wSt (x * 2 ^ s) i)))) ?_ (.refl _) ⟨s / 64, N5, rfl, rfl, rfl, by omega, by omega, B5⟩ ?_
  · exact .cons (by first | exact lkI rfl (by omega) | rfl) (.cons (by first | exact lkI rfl (by omega) | rfl) (.cons (by first | exact lkI rfl (by omega) | rfl) (.cons (by first | exact lkI rfl (by omega) | rfl) (.cons (by first | exact lkI rfl (by omega) | rfl) .nil))))
  rintro _ _ _ ⟨i, N5, rfl, rfl, rfl, hq, hi, B5⟩
  have hwl := length_wSt (T := x * 2 ^ s) hi
  refine At.seq fun K6 hk_6 => ?_
  refine At.seq fun K7 hk_7 => ?_
  refine At.region ?_
  refine op_move (nxlf rfl) rfl rfl ?_
  refine op_lss (nxlf rfl) rfl rfl rfl ?_
  refine At.opsNil ?_
  refine At.norm (hk_7 ?_)
  refine At.condP rfl (fun c13 => ?_) (fun c13 => ?_)
  · refine At.skip ?_
    refine At.norm (hk_6 ?_)
    refine At.seq fun K8 hk_8 => ?_
    refine At.block ?_
    refine At.seq fun K9 hk_9 => ?_
    refine At.region ?_
    refine op_move (nxlf rfl) rfl rfl ?_
    refine op_move (nxlf rfl) rfl rfl ?_
    refine op_move (nxlf rfl) rfl rfl ?_
    refine op_quoI (nxlf rfl) rfl rfl (by omega) (by omega) (by omega) rfl ?_
    refine op_subI (nxlf rfl) rfl rfl (by omega) (by omega) rfl ?_
    refine op_idxA (nxlf rfl) ae24 rfl rfl (show _ = (((i - s / 64 : Nat)) : Int) from by omega) (by omega) rfl ?_
    refine op_loadB (nxlf rfl) sc22 rfl B3 (by first | exact get64A (by omega) | rfl) mem0 rfl ?_
    refine op_move (nxlf rfl) rfl rfl ?_
    refine op_rem (nxlf rfl) rfl rfl (by omega) (by omega) rfl ?_
    refine op_shlU (nxlf rfl) rfl rfl (show _ = (((s % 64 : Nat)) : Int) from by omega) rfl ?_
    refine op_idxA (nxlf rfl) ae24 rfl rfl (show _ = (((i : Nat)) : Int) from by omega) (by omega) rfl ?_
    refine op_store (nxl rfl) sz22 rfl rfl rfl rfl rfl B5 (by simp <;> omega) sel2 (fun N5 B5 => ?_)
    rw [set64A] at B5
    have hwl2 : ((wSt (x * 2 ^ s) i).set i (shl64 ((wl x).getD (i - s / 64) 0) (s % 64))).length = 4 := by rw [List.length_set]; exact hwl
    refine At.opsNil ?_
    refine At.norm (hk_9 ?_)
    refine At.seq fun K10 hk_10 => ?_
    refine At.region ?_
    refine op_move (nxlf rfl) rfl rfl ?_
    refine op_move (nxlf rfl) rfl rfl ?_
    refine op_quoI (nxlf rfl) rfl rfl (by omega) (by omega) (by omega) rfl ?_
    refine op_gtr (nxlf rfl) rfl rfl rfl ?_
    refine op_move (nxlf rfl) rfl rfl ?_
    refine At.partP (d := 31) rfl (fun g31 => ?_) (fun g31 => ?_)
    · refine op_move (nxgf rfl rfl rfl rfl) rfl rfl ?_
      refine op_rem (nxgf rfl rfl rfl rfl) rfl rfl (by omega) (by omega) rfl ?_
      refine op_gtr (nxgf rfl rfl rfl rfl) rfl rfl rfl ?_
      refine op_pickT (nxlf rfl) rfl rfl rfl ?_
      refine At.opsNil ?_
      refine At.norm (hk_10 ?_)
      refine At.condP rfl (fun c35 => ?_) (fun c35 => ?_)
      · refine At.perm sel3 ?_
        refine At.perm sel1 ?_
        refine At.perm sel2 ?_
        refine At.perm sel3 ?_
        refine At.drawnS [N3, N5, R] [16] [] [0,1,2,3,4,5,6,7,8,9,10,11,12,13,14,15,16] (by kernel_rfl) (by kernel_rfl) (.cons _ (.refl _)) ?_
        refine op_move (nxsf rfl rfl rfl) rfl rfl ?_
        refine op_idxA (nxsf rfl rfl rfl) ae24 rfl rfl (show _ = (((i : Nat)) : Int) from by omega) (by omega) rfl ?_
        refine op_loadB (nxsf rfl rfl rfl) sc22 rfl B5 (by first | exact get64A (by omega) | rfl) mem1 rfl ?_
        rw [getD_set_same (by omega)]
        refine op_move (nxsf rfl rfl rfl) rfl rfl ?_
        refine op_move (nxsf rfl rfl rfl) rfl rfl ?_
        refine op_quoI (nxsf rfl rfl rfl) rfl rfl (by omega) (by omega) (by omega) rfl ?_
        refine op_subI (nxsf rfl rfl rfl) rfl rfl (by omega) (by omega) rfl ?_
        refine op_subI (nxsf rfl rfl rfl) rfl rfl (by omega) (by omega) rfl ?_
        refine op_idxA (nxsf rfl rfl rfl) ae24 rfl rfl (show _ = (((i - s / 64 - 1 : Nat)) : Int) from by omega) (by omega) rfl ?_
        refine op_loadB (nxsf rfl rfl rfl) sc22 rfl B3 (by first | exact get64A (by omega) | rfl) mem0 rfl ?_
        refine op_move (nxsf rfl rfl rfl) rfl rfl ?_
        refine op_rem (nxsf rfl rfl rfl) rfl rfl (by omega) (by omega) rfl ?_
        refine op_subI (nxsf rfl rfl rfl) rfl rfl (by omega) (by omega) rfl ?_
        refine op_shrU (nxsf rfl rfl rfl) rfl rfl (show _ = (((64 - s % 64 : Nat)) : Int) from by omega) rfl ?_
        refine op_orU (nxsf rfl rfl rfl) rfl rfl rfl ?_
        refine op_idxA (nxsf rfl rfl rfl) ae24 rfl rfl (show _ = (((i : Nat)) : Int) from by omega) (by omega) rfl ?_
        refine op_store (nxsl rfl rfl rfl rfl) sz22 rfl rfl rfl rfl rfl B5 (by simp <;> omega) sel2 (fun N5 B5 => ?_)
        rw [set64A, List.set_set] at B5
        refine At.sNil ?_
        refine At.inNorm ?_
        refine At.norm (hk_8 ?_)
        refine At.region ?_
        refine op_move (nxlf rfl) rfl rfl ?_
        refine op_addI (nxlf rfl) rfl rfl (by omega) (by omega) rfl ?_
        refine op_assign (nxlf rfl) rfl rfl ?_
        refine At.opsNil ?_
        refine At.norm ?_
        refine At.perm sel3 ?_
        refine At.perm sel1 ?_
        refine At.perm sel2 ?_
        refine At.perm sel3 ?_
        refine At.back ?_ (.refl _) ⟨i + 1, N5, rfl, rfl, rfl, by omega, by omega, by rw [wSt_succ (by omega) ((shl_limb hx hq (by omega)).trans (if_pos ⟨by omega, by omega⟩))]; exact B5⟩ ?_
        · exact .cons (by first | exact lkI rfl (by omega) | rfl) (.cons (by first | exact lkI rfl (by omega) | rfl) (.cons (by first | exact lkI rfl (by omega) | rfl) (.cons (by first | exact lkI rfl (by omega) | rfl) (.cons (by first | exact lkI rfl (by omega) | rfl) .nil))))
        · omega
      · refine At.skip ?_
        refine At.inNorm ?_
        refine At.norm (hk_8 ?_)
        refine At.region ?_
        refine op_move (nxlf rfl) rfl rfl ?_
        refine op_addI (nxlf rfl) rfl rfl (by omega) (by omega) rfl ?_
        refine op_assign (nxlf rfl) rfl rfl ?_
        refine At.opsNil ?_
        refine At.norm ?_
        refine At.perm sel3 ?_
        refine At.perm sel1 ?_
        refine At.perm sel3 ?_
        refine At.perm sel3 ?_
        refine At.back ?_ (.refl _) ⟨i + 1, N5, rfl, rfl, rfl, by omega, by omega, by rw [wSt_succ (by omega) ((shl_limb hx hq (by omega)).trans (if_neg (by omega)))]; exact B5⟩ ?_
        · exact .cons (by first | exact lkI rfl (by omega) | rfl) (.cons (by first | exact lkI rfl (by omega) | rfl) (.cons (by first | exact lkI rfl (by omega) | rfl) (.cons (by first | exact lkI rfl (by omega) | rfl) (.cons (by first | exact lkI rfl (by omega) | rfl) .nil))))
        · omega
    · refine op_skip rfl rfl rfl rfl rfl rfl rfl ?_
      refine op_skip rfl rfl rfl rfl rfl rfl rfl ?_
      refine op_skip rfl rfl rfl rfl rfl rfl rfl ?_
      refine op_pickF (nxlf rfl) rfl rfl rfl ?_
      refine At.opsNil ?_
      refine At.norm (hk_10 ?_)
      refine At.condF rfl ?_
      refine At.skip ?_
      refine At.inNorm ?_
      refine At.norm (hk_8 ?_)
      refine At.region ?_
      refine op_move (nxlf rfl) rfl rfl ?_
      refine op_addI (nxlf rfl) rfl rfl (by omega) (by omega) rfl ?_
      refine op_assign (nxlf rfl) rfl rfl ?_
      refine At.opsNil ?_
      refine At.norm ?_
      refine At.perm sel3 ?_
      refine At.perm sel1 ?_
      refine At.perm sel3 ?_
      refine At.perm sel3 ?_
      refine At.back ?_ (.refl _) ⟨i + 1, N5, rfl, rfl, rfl, by omega, by omega, by rw [wSt_succ (by omega) ((shl_limb hx hq (by omega)).trans (if_neg (by omega)))]; exact B5⟩ ?_
      · exact .cons (by first | exact lkI rfl (by omega) | rfl) (.cons (by first | exact lkI rfl (by omega) | rfl) (.cons (by first | exact lkI rfl (by omega) | rfl) (.cons (by first | exact lkI rfl (by omega) | rfl) (.cons (by first | exact lkI rfl (by omega) | rfl) .nil))))
      · omega
  · refine At.exit (At.thenExit (At.thenExit (At.inHit ?_)))
    refine At.norm (hk_4 ?_)
    refine At.seq fun K11 hk_11 => ?_
    refine At.region ?_
    have hi4 : i = 4 := by omega
    rw [hi4, wSt_all] at B5
    refine op_loadAggB (ds := u64s (wl (x * 2 ^ s))) (nxlf rfl) ag24 rfl B5 (by first | (rw [List.drop_zero, List.take_of_length_le (by first | (simp; done) | (simp; omega))]; done) | rfl) (by first | (simp; done) | (simp; omega)) mem2 rfl ?_
    refine op_store (nxl rfl) sz24 rfl rfl rfl rfl rfl B4 (by simp) sel1 (fun N4 B4 => ?_)
    rw [setL_whole (by simp)] at B4
    refine At.opsNil ?_
    refine At.norm (hk_11 ?_)
    refine At.ret (?_)
    refine At.sub (L' := [N4, R]) (.cons_cons _ (.cons _ (.cons _ (.cons_cons _ (.slnil))))) ?_
    refine At.ret1 (L1 := []) rfl (.cell rfl (res_agg (ds := u64s (wl (x * 2 ^ s))) ag24 B4 (by first | (rw [List.drop_zero, List.take_of_length_le (by first | (simp; done) | (simp; omega))]; done) | rfl) (by first | (simp; done) | (simp; omega)) mem0) .nil) (.cons _ (.refl _)) (.refl _) ?_
    exact ⟨rfl, rfl⟩
end Go.Proofs.Ytefljbbpaideaaa
