/- word.Shr. No condition. -/
import Derived.Test.YtefljbbpaideaaaKWc
namespace Go.Proofs.Ytefljbbpaideaaa
set_option linter.unusedVariables false
set_option linter.unusedSimpArgs false
open Go Go.RowKit
theorem wl_getElem {T j : Nat} (h : j < 4) : (wl T)[j]'(by rw [length_wl]; exact h) = UInt64.ofNat (T / 2 ^ (64 * j)) := by
  have e0 : (wl T).getD j 0 = UInt64.ofNat (T / 2 ^ (64 * j)) := getD_limbsN h
  rwa [List.getD_eq_getElem?_getD, List.getElem?_eq_getElem (by rw [length_wl]; exact h), Option.getD_some] at e0
theorem wSt_end {T i : Nat} (h : i ≤ 4) (hz : ∀ j, i ≤ j → j < 4 → T / 2 ^ (64 * j) = 0) : wSt T i = wl T := by
  have e : (wl T).drop i = List.replicate (4 - i) 0 := by
    apply List.ext_getElem
    · rw [List.length_drop, List.length_replicate, length_wl]
    · intro k h1 h2
      rw [List.length_replicate] at h2
      rw [List.getElem_drop, List.getElem_replicate, wl_getElem (by omega), hz (i + k) (by omega) (by omega)]
      rfl
  rw [wSt, ← e, List.take_append_drop]
theorem shr_limb {x s i : Nat} (hx : x < WW) (hi : i + s / 64 < 4) :
    (wl (x / 2 ^ s)).getD i 0 = if i + s / 64 + 1 < 4 ∧ 0 < s % 64 then shr64 ((wl x).getD (i + s / 64) 0) (s % 64) ||| shl64 ((wl x).getD (i + s / 64 + 1) 0) (64 - s % 64) else shr64 ((wl x).getD (i + s / 64) 0) (s % 64) := by
  have e0 : (wl (x / 2 ^ s)).getD i 0 = UInt64.ofNat (x / 2 ^ s / 2 ^ (64 * i)) := getD_limbsN (by omega)
  have hr : s % 64 < 64 := Nat.mod_lt _ (by decide)
  have e1 : x / 2 ^ s / 2 ^ (64 * i) = v64 (wl x) / 2 ^ (64 * (i + s / 64) + s % 64) := by
    rw [v64_wl_lt hx, Nat.div_div_eq_div_mul, ← Nat.pow_add]
    congr 2
    omega
  have e2 : UInt64.ofNat (v64 (wl x) / 2 ^ (64 * (i + s / 64) + s % 64)) = shr64 ((wl x).getD (i + s / 64) 0) (s % 64) ||| shl64 ((wl x).getD (i + s / 64 + 1) 0) (64 - s % 64) := by
    apply UInt64.toNat_inj.1
    rw [UInt64.toNat_ofNat', mid_at (by omega)]
  rw [e0, e1, e2]
  split
  · rfl
  · rename_i h
    have hz : shl64 ((wl x).getD (i + s / 64 + 1) 0) (64 - s % 64) = 0 := by
      apply UInt64.toNat_inj.1
      rcases Nat.lt_or_ge (i + s / 64 + 1) 4 with h4 | h4
      · rw [shl64, UInt64.toNat_ofNat', show 64 - s % 64 = 64 by omega, Nat.mul_mod_left]; rfl
      · rw [shl64, UInt64.toNat_ofNat', List.getD_eq_getElem?_getD, List.getElem?_eq_none (by rw [length_wl]; exact h4), Option.getD_none, UInt64.toNat_zero, Nat.zero_mul]
    rw [hz, UInt64.or_zero]
theorem shr_end {x s j : Nat} (hx : x < WW) (h : 256 ≤ s + 64 * j) : x / 2 ^ s / 2 ^ (64 * j) = 0 := by
  rw [Nat.div_div_eq_div_mul, ← Nat.pow_add]
  exact Nat.div_eq_of_lt (Nat.lt_of_lt_of_le hx (Nat.pow_le_pow_right (by decide) h))
set_option maxRecDepth 100000 in
theorem WShr_f {m x : Nat} (hm : m < WW) (hx : x < WW) : Fn Try.prog 80 #[wo m, wo x] [] [] (fun v L => v = wo (x / 2 ^ amt m) ∧ L = []) := by
  have hlx := length_wl x
  have hs := amt_le m
  obtain ⟨s, hse⟩ : ∃ s, s = amt m := ⟨_, rfl⟩
  rw [← hse] at hs ⊢
  refine Fn.enter (vs := [wo m, wo x]) Try.func80 rfl rfl rfl ?_
  intro E R hR
  change At _ _ E [R] _
  refine At.seq fun K1 hk_1 => ?_
  refine At.region ?_
  refine op_box (nxla rfl) rfl rfl rfl (fun N2 b2 B2 => ?_)
  change Blk N2 b2 _ (u64s (wl m)) at B2
  refine op_box (nxla rfl) rfl rfl rfl (fun N3 b3 B3 => ?_)
  change Blk N3 b3 _ (u64s (wl x)) at B3
  refine op_alloc (nxla rfl) ze24 rfl (fun N4 b4 B4 => ?_)
  change Blk N4 b4 _ [.int .u64 0, .int .u64 0, .int .u64 0, .int .u64 0] at B4
  refine At.opsNil ?_
  refine At.norm (hk_1 ?_)
  refine At.seq fun K2 hk_2 => ?_
  refine At.region ?_
  refine op_alloc (nxla rfl) ze24 rfl (fun N5 b5 B5 => ?_)
  change Blk N5 b5 _ [.int .u64 0, .int .u64 0, .int .u64 0, .int .u64 0] at B5
  change Blk N5 b5 24 (u64s (wSt (x / 2 ^ s) 0)) at B5
  refine At.opsNil ?_
  refine At.norm (hk_2 ?_)
  refine At.seq fun K3 hk_3 => ?_
  refine At.region ?_
  refine op_loadAggB (ds := u64s (wl m)) (nxlf rfl) ag24 rfl B2 (by first | (rw [List.drop_zero, List.take_of_length_le (by first | (simp; done) | (simp; omega))]; done) | rfl) (by first | (simp; done) | (simp; omega)) mem3 rfl ?_
  refine op_callA (nxla rfl) (.cons rfl .nil) (amount_f hm) Try.func134 rfl rfl (by simp) rfl ?_
  rintro v9 L9 ⟨rfl, rfl⟩
  change At _ _ _ [N5, N4, N3, N2, R] _
  rw [← hse]
  refine op_assign (nxlf rfl) rfl rfl ?_
  refine At.opsNil ?_
  refine At.norm (hk_3 ?_)
  refine At.seq fun K4 hk_4 => ?_
  refine At.seq fun K5 hk_5 => ?_
  refine At.region ?_
  refine op_assign (nxlf rfl) rfl rfl ?_
  refine At.opsNil ?_
  refine At.norm (hk_5 ?_)
  refine At.block ?_
  refine At.sub (L' := [N5, N4, N3, R]) (.cons_cons _ (.cons_cons _ (.cons_cons _ (.cons _ (.cons_cons _ (.slnil)))))) ?_
  refine At.perm sel3 ?_
  refine At.perm sel1 ?_
  refine At.perm sel2 ?_
  refine At.perm sel3 ?_
  refine At.loop (fun fr_ hp_ ms_ => ∃ (i : Nat) (N5 : Heaplet), fr_ = [(3, .pointer (some ⟨b3, 0, none⟩)), (4, .pointer (some ⟨b4, 0, none⟩)), (5, .pointer (some ⟨b5, 0, none⟩)), (6, .int .i64 (s : Int)), (7, .int .i64 (i : Int))] ∧ hp_ = [N3, N4, N5, R] ∧ 4 - i = ms_ ∧ (i + s / 64 ≤ 4) ∧ (Blk N5 b5 24 (u64s (wSt (x / 2 ^ s) i)))) ?_ (.refl _) ⟨0, N5, rfl, rfl, rfl, by omega, B5⟩ ?_
  · exact .cons (by first | exact lkI rfl (by omega) | rfl) (.cons (by first | exact lkI rfl (by omega) | rfl) (.cons (by first | exact lkI rfl (by omega) | rfl) (.cons (by first | exact lkI rfl (by omega) | rfl) (.cons (by first | exact lkI rfl (by omega) | rfl) .nil))))
  rintro _ _ _ ⟨i, N5, rfl, rfl, rfl, hi, B5⟩
  have hwl := length_wSt (T := x / 2 ^ s) (i := i) (by omega)
  refine At.seq fun K6 hk_6 => ?_
  refine At.seq fun K7 hk_7 => ?_
  refine At.region ?_
  refine op_move (nxlf rfl) rfl rfl ?_
  refine op_move (nxlf rfl) rfl rfl ?_
  refine op_quoI (nxlf rfl) rfl rfl (by omega) (by omega) (by omega) rfl ?_
  refine op_addI (nxlf rfl) rfl rfl (by omega) (by omega) rfl ?_
  refine op_lss (nxlf rfl) rfl rfl rfl ?_
  refine At.opsNil ?_
  refine At.norm (hk_7 ?_)
  refine At.condP rfl (fun c14 => ?_) (fun c14 => ?_)
  · refine At.skip ?_
    refine At.norm (hk_6 ?_)
    refine At.seq fun K8 hk_8 => ?_
    refine At.block ?_
    refine At.seq fun K9 hk_9 => ?_
    refine At.region ?_
    refine op_move (nxlf rfl) rfl rfl ?_
    refine op_move (nxlf rfl) rfl rfl ?_
    refine op_move (nxlf rfl) rfl rfl ?_
    refine op_quoI (nxlf rfl) rfl rfl (by omega) (by omega) (by omega) rfl ?_
    refine op_addI (nxlf rfl) rfl rfl (by omega) (by omega) rfl ?_
    refine op_idxA (nxlf rfl) ae24 rfl rfl (show _ = (((i + s / 64 : Nat)) : Int) from by omega) (by omega) rfl ?_
    refine op_loadB (nxlf rfl) sc22 rfl B3 (by first | exact get64A (by omega) | rfl) mem0 rfl ?_
    refine op_move (nxlf rfl) rfl rfl ?_
    refine op_rem (nxlf rfl) rfl rfl (by omega) (by omega) rfl ?_
    refine op_shrU (nxlf rfl) rfl rfl (show _ = (((s % 64 : Nat)) : Int) from by omega) rfl ?_
    refine op_idxA (nxlf rfl) ae24 rfl rfl (show _ = (((i : Nat)) : Int) from by omega) (by omega) rfl ?_
    refine op_store (nxl rfl) sz22 rfl rfl rfl rfl rfl B5 (by simp <;> omega) sel2 (fun N5 B5 => ?_)
    rw [set64A] at B5
    have hwl2 : ((wSt (x / 2 ^ s) i).set i (shr64 ((wl x).getD (i + s / 64) 0) (s % 64))).length = 4 := by rw [List.length_set]; exact hwl
    refine At.opsNil ?_
    refine At.norm (hk_9 ?_)
    refine At.seq fun K10 hk_10 => ?_
    refine At.region ?_
    refine op_move (nxlf rfl) rfl rfl ?_
    refine op_move (nxlf rfl) rfl rfl ?_
    refine op_quoI (nxlf rfl) rfl rfl (by omega) (by omega) (by omega) rfl ?_
    refine op_addI (nxlf rfl) rfl rfl (by omega) (by omega) rfl ?_
    refine op_addI (nxlf rfl) rfl rfl (by omega) (by omega) rfl ?_
    refine op_lss (nxlf rfl) rfl rfl rfl ?_
    refine op_move (nxlf rfl) rfl rfl ?_
    refine At.partP (d := 34) rfl (fun g34 => ?_) (fun g34 => ?_)
    · refine op_move (nxgf rfl rfl rfl rfl) rfl rfl ?_
      refine op_rem (nxgf rfl rfl rfl rfl) rfl rfl (by omega) (by omega) rfl ?_
      refine op_gtr (nxgf rfl rfl rfl rfl) rfl rfl rfl ?_
      refine op_pickT (nxlf rfl) rfl rfl rfl ?_
      refine At.opsNil ?_
      refine At.norm (hk_10 ?_)
      refine At.condP rfl (fun c38 => ?_) (fun c38 => ?_)
      · refine At.perm sel3 ?_
        refine At.perm sel1 ?_
        refine At.perm sel2 ?_
        refine At.perm sel3 ?_
        refine At.drawnS [N3, N5, R] [16] [] [0,1,2,3,4,5,6,7,8,9,10,11,12,13,14,15,16] (by kernel_rfl) (by kernel_rfl) (.cons _ (.refl _)) ?_
        refine op_move (nxsf rfl rfl rfl) rfl rfl ?_
        refine op_idxA (nxsf rfl rfl rfl) ae24 rfl rfl (show _ = (((i : Nat)) : Int) from by omega) (by omega) rfl ?_
        refine op_loadB (nxsf rfl rfl rfl) sc22 rfl B5 (by first | exact get64A (by omega) | rfl) mem1 rfl ?_
        rw [getD_set_same (by omega)]
        refine op_move (nxsf rfl rfl rfl) rfl rfl ?_
        refine op_move (nxsf rfl rfl rfl) rfl rfl ?_
        refine op_quoI (nxsf rfl rfl rfl) rfl rfl (by omega) (by omega) (by omega) rfl ?_
        refine op_addI (nxsf rfl rfl rfl) rfl rfl (by omega) (by omega) rfl ?_
        refine op_addI (nxsf rfl rfl rfl) rfl rfl (by omega) (by omega) rfl ?_
        refine op_idxA (nxsf rfl rfl rfl) ae24 rfl rfl (show _ = (((i + s / 64 + 1 : Nat)) : Int) from by omega) (by omega) rfl ?_
        refine op_loadB (nxsf rfl rfl rfl) sc22 rfl B3 (by first | exact get64A (by omega) | rfl) mem0 rfl ?_
        refine op_move (nxsf rfl rfl rfl) rfl rfl ?_
        refine op_rem (nxsf rfl rfl rfl) rfl rfl (by omega) (by omega) rfl ?_
        refine op_subI (nxsf rfl rfl rfl) rfl rfl (by omega) (by omega) rfl ?_
        refine op_shlU (nxsf rfl rfl rfl) rfl rfl (show _ = (((64 - s % 64 : Nat)) : Int) from by omega) rfl ?_
        refine op_orU (nxsf rfl rfl rfl) rfl rfl rfl ?_
        refine op_idxA (nxsf rfl rfl rfl) ae24 rfl rfl (show _ = (((i : Nat)) : Int) from by omega) (by omega) rfl ?_
        refine op_store (nxsl rfl rfl rfl rfl) sz22 rfl rfl rfl rfl rfl B5 (by simp <;> omega) sel2 (fun N5 B5 => ?_)
        rw [set64A, List.set_set] at B5
        refine At.sNil ?_
        refine At.inNorm ?_
        refine At.norm (hk_8 ?_)
        refine At.region ?_
        refine op_move (nxlf rfl) rfl rfl ?_
        refine op_addI (nxlf rfl) rfl rfl (by omega) (by omega) rfl ?_
        refine op_assign (nxlf rfl) rfl rfl ?_
        refine At.opsNil ?_
        refine At.norm ?_
        refine At.perm sel3 ?_
        refine At.perm sel1 ?_
        refine At.perm sel2 ?_
        refine At.perm sel3 ?_
        refine At.back ?_ (.refl _) ⟨i + 1, N5, rfl, rfl, rfl, by omega, by rw [wSt_succ (by omega) ((shr_limb hx (by omega)).trans (if_pos ⟨by omega, by omega⟩))]; exact B5⟩ ?_
        · exact .cons (by first | exact lkI rfl (by omega) | rfl) (.cons (by first | exact lkI rfl (by omega) | rfl) (.cons (by first | exact lkI rfl (by omega) | rfl) (.cons (by first | exact lkI rfl (by omega) | rfl) (.cons (by first | exact lkI rfl (by omega) | rfl) .nil))))
        · omega
      · refine At.skip ?_
        refine At.inNorm ?_
        refine At.norm (hk_8 ?_)
        refine At.region ?_
        refine op_move (nxlf rfl) rfl rfl ?_
        refine op_addI (nxlf rfl) rfl rfl (by omega) (by omega) rfl ?_
        refine op_assign (nxlf rfl) rfl rfl ?_
        refine At.opsNil ?_
        refine At.norm ?_
        refine At.perm sel3 ?_
        refine At.perm sel1 ?_
        refine At.perm sel3 ?_
        refine At.perm sel3 ?_
        refine At.back ?_ (.refl _) ⟨i + 1, N5, rfl, rfl, rfl, by omega, by rw [wSt_succ (by omega) ((shr_limb hx (by omega)).trans (if_neg (by omega)))]; exact B5⟩ ?_
        · exact .cons (by first | exact lkI rfl (by omega) | rfl) (.cons (by first | exact lkI rfl (by omega) | rfl) (.cons (by first | exact lkI rfl (by omega) | rfl) (.cons (by first | exact lkI rfl (by omega) | rfl) (.cons (by first | exact lkI rfl (by omega) | rfl) .nil))))
        · omega
    · refine op_skip rfl rfl rfl rfl rfl rfl rfl ?_
      refine op_skip rfl rfl rfl rfl rfl rfl rfl ?_
      refine op_skip rfl rfl rfl rfl rfl rfl rfl ?_
      refine op_pickF (nxlf rfl) rfl rfl rfl ?_
      refine At.opsNil ?_
      refine At.norm (hk_10 ?_)
      refine At.condF rfl ?_
      refine At.skip ?_
      refine At.inNorm ?_
      refine At.norm (hk_8 ?_)
      refine At.region ?_
      refine op_move (nxlf rfl) rfl rfl ?_
      refine op_addI (nxlf rfl) rfl rfl (by omega) (by omega) rfl ?_
      refine op_assign (nxlf rfl) rfl rfl ?_
      refine At.opsNil ?_
      refine At.norm ?_
      refine At.perm sel3 ?_
      refine At.perm sel1 ?_
      refine At.perm sel3 ?_
      refine At.perm sel3 ?_
      refine At.back ?_ (.refl _) ⟨i + 1, N5, rfl, rfl, rfl, by omega, by rw [wSt_succ (by omega) ((shr_limb hx (by omega)).trans (if_neg (by omega)))]; exact B5⟩ ?_
      · exact .cons (by first | exact lkI rfl (by omega) | rfl) (.cons (by first | exact lkI rfl (by omega) | rfl) (.cons (by first | exact lkI rfl (by omega) | rfl) (.cons (by first | exact lkI rfl (by omega) | rfl) (.cons (by first | exact lkI rfl (by omega) | rfl) .nil))))
      · omega
  · refine At.exit (At.thenExit (At.thenExit (At.inHit ?_)))
    refine At.norm (hk_4 ?_)
    refine At.seq fun K11 hk_11 => ?_
    refine At.region ?_
    rw [wSt_end (by omega) (fun j h1 h2 => shr_end hx (by omega))] at B5
    refine op_loadAggB (ds := u64s (wl (x / 2 ^ s))) (nxlf rfl) ag24 rfl B5 (by first | (rw [List.drop_zero, List.take_of_length_le (by first | (simp; done) | (simp; omega))]; done) | rfl) (by first | (simp; done) | (simp; omega)) mem2 rfl ?_
    refine op_store (nxl rfl) sz24 rfl rfl rfl rfl rfl B4 (by simp) sel1 (fun N4 B4 => ?_)
    rw [setL_whole (by simp)] at B4
    refine At.opsNil ?_
    refine At.norm (hk_11 ?_)
    refine At.ret (?_)
    refine At.sub (L' := [N4, R]) (.cons_cons _ (.cons _ (.cons _ (.cons_cons _ (.slnil))))) ?_
    refine At.ret1 (L1 := []) rfl (.cell rfl (res_agg (ds := u64s (wl (x / 2 ^ s))) ag24 B4 (by first | (rw [List.drop_zero, List.take_of_length_le (by first | (simp; done) | (simp; omega))]; done) | rfl) (by first | (simp; done) | (simp; omega)) mem0) .nil) (.cons _ (.refl _)) (.refl _) ?_
    exact ⟨rfl, rfl⟩
end Go.Proofs.Ytefljbbpaideaaa
