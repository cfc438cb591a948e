/- Package word: shifts. No condition. -/
import Derived.Test.YtefljbbpaideaaaKWk
namespace Go.Proofs.Ytefljbbpaideaaa
set_option linter.unusedVariables false
set_option linter.unusedSimpArgs false
open Go Go.RowKit
def amt (n : Nat) : Nat := if n < 256 then n else 256
theorem amt_le (n : Nat) : amt n ≤ 256 := by unfold amt; split <;> omega
theorem amount_y {x : Nat} (hx : x < WW) (h : x < 2 ^ 64) : Fn Try.prog 134 #[wo x] [] [] (fun v L => v = .int .i64 (amt x : Int) ∧ L = []) := by
  refine Fn.enter (vs := [wo x]) Try.func134 rfl rfl rfl ?_
  intro E R hR
  change At _ _ E [R] _
  refine At.seq fun K1 hk_1 => ?_
  refine At.region ?_
  refine op_box (nxla rfl) rfl rfl rfl (fun N1 b1 B1 => ?_)
  change Blk N1 b1 _ (u64s (wl x)) at B1
  refine op_assign (nxlf rfl) rfl rfl ?_
  refine At.opsNil ?_
  refine At.norm (hk_1 ?_)
  refine At.seq fun K2 hk_2 => ?_
  refine At.seq fun K3 hk_3 => ?_
  refine At.region ?_
  refine op_loadAggB (ds := u64s (wl x)) (nxlf rfl) ag24 rfl B1 (by first | (rw [List.drop_zero, List.take_of_length_le (by first | (simp; done) | (simp; omega))]; done) | rfl) (by first | (simp; done) | (simp; omega)) mem0 rfl ?_
  refine op_callA (nxla rfl) (.cons rfl .nil) (WSmall_f hx h) Try.func50 rfl rfl (by simp) rfl ?_
  rintro v7 L7 ⟨rfl, rfl⟩
  change At _ _ _ [N1, R] _
  refine op_move (nxlf rfl) rfl rfl ?_
  refine op_extract (nxlf rfl) rfl rfl rfl ?_
  refine op_extract (nxlf rfl) rfl rfl rfl ?_
  refine op_assign (nxlf rfl) rfl rfl ?_
  refine op_assign (nxlf rfl) rfl rfl ?_
  refine At.opsNil ?_
  refine At.norm (hk_3 ?_)
  refine At.seq fun K4 hk_4 => ?_
  refine At.region ?_
  refine op_move (nxlf rfl) rfl rfl ?_
  refine op_move (nxlf rfl) rfl rfl ?_
  refine op_move (nxgf rfl rfl rfl rfl) rfl rfl ?_
  refine op_lss (nxgf rfl rfl rfl rfl) rfl rfl rfl ?_
  refine op_pickT (nxlf rfl) rfl rfl rfl ?_
  refine At.opsNil ?_
  refine At.norm (hk_4 ?_)
  refine At.condP rfl (fun c14 => ?_) (fun c14 => ?_)
  · refine At.seq fun K5 hk_5 => ?_
    refine At.region ?_
    refine op_move (nxlf rfl) rfl rfl ?_
    refine op_convI (nxlf rfl) (und_some Try.underlying22) Try.underlying3 rfl (by omega) (by omega) rfl ?_
    refine op_assign (nxlf rfl) rfl rfl ?_
    refine At.opsNil ?_
    refine At.norm (hk_5 ?_)
    refine At.ret (At.thenRet (?_))
    refine At.sub (L' := [R]) (.cons _ (.cons_cons _ (.slnil))) ?_
    refine At.ret1 (L1 := []) rfl (.tmp rfl .nil) (.refl _) (.refl _) ?_
    exact ⟨by rw [amt, if_pos (by omega)], rfl⟩
  · refine At.skip ?_
    refine At.norm (hk_2 ?_)
    refine At.seq fun K6 hk_6 => ?_
    refine At.region ?_
    refine op_assign (nxlf rfl) rfl rfl ?_
    refine At.opsNil ?_
    refine At.norm (hk_6 ?_)
    refine At.ret (?_)
    refine At.sub (L' := [R]) (.cons _ (.cons_cons _ (.slnil))) ?_
    refine At.ret1 (L1 := []) rfl (.tmp rfl .nil) (.refl _) (.refl _) ?_
    exact ⟨by rw [amt, if_neg (by omega)]; rfl, rfl⟩
theorem amount_no {x : Nat} (hx : x < WW) (h : ¬ x < 2 ^ 64) : Fn Try.prog 134 #[wo x] [] [] (fun v L => v = .int .i64 (amt x : Int) ∧ L = []) := by
  refine Fn.enter (vs := [wo x]) Try.func134 rfl rfl rfl ?_
  intro E R hR
  change At _ _ E [R] _
  refine At.seq fun K1 hk_1 => ?_
  refine At.region ?_
  refine op_box (nxla rfl) rfl rfl rfl (fun N1 b1 B1 => ?_)
  change Blk N1 b1 _ (u64s (wl x)) at B1
  refine op_assign (nxlf rfl) rfl rfl ?_
  refine At.opsNil ?_
  refine At.norm (hk_1 ?_)
  refine At.seq fun K2 hk_2 => ?_
  refine At.seq fun K3 hk_3 => ?_
  refine At.region ?_
  refine op_loadAggB (ds := u64s (wl x)) (nxlf rfl) ag24 rfl B1 (by first | (rw [List.drop_zero, List.take_of_length_le (by first | (simp; done) | (simp; omega))]; done) | rfl) (by first | (simp; done) | (simp; omega)) mem0 rfl ?_
  refine op_callA (nxla rfl) (.cons rfl .nil) (WSmall_no hx h) Try.func50 rfl rfl (by simp) rfl ?_
  rintro v7 L7 ⟨rfl, rfl⟩
  change At _ _ _ [N1, R] _
  refine op_move (nxlf rfl) rfl rfl ?_
  refine op_extract (nxlf rfl) rfl rfl rfl ?_
  refine op_extract (nxlf rfl) rfl rfl rfl ?_
  refine op_assign (nxlf rfl) rfl rfl ?_
  refine op_assign (nxlf rfl) rfl rfl ?_
  refine At.opsNil ?_
  refine At.norm (hk_3 ?_)
  refine At.seq fun K4 hk_4 => ?_
  refine At.region ?_
  refine op_move (nxlf rfl) rfl rfl ?_
  refine op_move (nxlf rfl) rfl rfl ?_
  refine op_skip rfl rfl rfl rfl rfl rfl rfl ?_
  refine op_skip rfl rfl rfl rfl rfl rfl rfl ?_
  refine op_pickF (nxlf rfl) rfl rfl rfl ?_
  refine At.opsNil ?_
  refine At.norm (hk_4 ?_)
  refine At.condF rfl ?_
  refine At.skip ?_
  refine At.norm (hk_2 ?_)
  refine At.seq fun K5 hk_5 => ?_
  refine At.region ?_
  refine op_assign (nxlf rfl) rfl rfl ?_
  refine At.opsNil ?_
  refine At.norm (hk_5 ?_)
  refine At.ret (?_)
  refine At.sub (L' := [R]) (.cons _ (.cons_cons _ (.slnil))) ?_
  refine At.ret1 (L1 := []) rfl (.tmp rfl .nil) (.refl _) (.refl _) ?_
  exact ⟨by rw [amt, if_neg (by omega)]; rfl, rfl⟩
theorem amount_f {x : Nat} (hx : x < WW) : Fn Try.prog 134 #[wo x] [] [] (fun v L => v = .int .i64 (amt x : Int) ∧ L = []) := by
  by_cases h : x < 2 ^ 64
  · exact amount_y hx h
  · exact amount_no hx h
theorem shl_limb {x s i : Nat} (hx : x < WW) (hq : s / 64 ≤ i) (hi : i < 4) :
    (wl (x * 2 ^ s)).getD i 0 = if s / 64 < i ∧ 0 < s % 64 then shl64 ((wl x).getD (i - s / 64) 0) (s % 64) ||| shr64 ((wl x).getD (i - s / 64 - 1) 0) (64 - s % 64) else shl64 ((wl x).getD (i - s / 64) 0) (s % 64) := by
  have e0 : (wl (x * 2 ^ s)).getD i 0 = UInt64.ofNat (x * 2 ^ s / 2 ^ (64 * i)) := getD_limbsN hi
  have e1 : x * 2 ^ s / 2 ^ (64 * i) = v64 (wl x) * 2 ^ (s % 64) / 2 ^ (64 * (i - s / 64)) := by
    rw [v64_wl_lt hx, show 2 ^ s = 2 ^ (s % 64) * 2 ^ (64 * (s / 64)) from by rw [← Nat.pow_add, Nat.mod_add_div], show 2 ^ (64 * i) = 2 ^ (64 * (i - s / 64)) * 2 ^ (64 * (s / 64)) from by rw [← Nat.pow_add, ← Nat.mul_add, Nat.sub_add_cancel hq], ← Nat.mul_assoc, Nat.mul_div_mul_right _ _ (Nat.pow_pos (by decide))]
  rw [e0, e1]
  have hr : s % 64 < 64 := Nat.mod_lt _ (by decide)
  obtain ⟨k, hk⟩ : ∃ k, k = i - s / 64 := ⟨_, rfl⟩
  rw [← hk]
  split
  · rename_i h
    exact shl_at (by omega) hr
  · rename_i h
    rcases Nat.eq_zero_or_pos k with h0 | h0
    · rw [h0]
      apply UInt64.toNat_inj.1
      rw [shl64, UInt64.toNat_ofNat', UInt64.toNat_ofNat', ← limb_at, Nat.mul_zero, Nat.pow_zero, Nat.div_one, Nat.div_one, Nat.mod_mul_mod]
    · have h1 : s % 64 = 0 := by omega
      rw [h1]
      apply UInt64.toNat_inj.1
      rw [shl64, UInt64.toNat_ofNat', UInt64.toNat_ofNat', ← limb_at, Nat.pow_zero, Nat.mul_one, Nat.mul_one, Nat.mod_mod]
/-- The first limbs are done, the others are 0. -/
def wSt (T i : Nat) : List UInt64 := (wl T).take i ++ List.replicate (4 - i) 0
theorem length_wSt {T i : Nat} (h : i ≤ 4) : (wSt T i).length = 4 := by
  rw [wSt, List.length_append, List.length_take, List.length_replicate, length_wl]; omega
theorem wSt_all (T : Nat) : wSt T 4 = wl T := by
  rw [wSt, List.take_of_length_le (by simp)]; simp
theorem wSt_succ {T i : Nat} {z : UInt64} (h : i < 4) (hz : (wl T).getD i 0 = z) : wSt T (i + 1) = (wSt T i).set i z := by
  subst hz
  have hl : ((wl T).take i).length = i := by rw [List.length_take, length_wl]; omega
  have hT : i < (wl T).length := by rw [length_wl]; exact h
  rw [wSt, wSt, show 4 - i = (4 - (i + 1)) + 1 by omega, List.replicate_succ, List.set_append_right _ _ (by omega), hl, Nat.sub_self, List.set_cons_zero, List.take_succ_eq_append_getElem hT, List.append_assoc, List.getD_eq_getElem?_getD, List.getElem?_eq_getElem hT]
  rfl
theorem wSt_low {x s : Nat} (hs : s ≤ 256) : wSt (x * 2 ^ s) (s / 64) = List.replicate 4 0 := by
  have hq : s / 64 ≤ 4 := by omega
  have hz : (wl (x * 2 ^ s)).take (s / 64) = List.replicate (s / 64) 0 := by
    apply List.ext_getElem
    · rw [List.length_take, List.length_replicate, length_wl]; omega
    · intro i h1 h2
      rw [List.length_replicate] at h2
      have hi : i < 4 := by omega
      rw [List.getElem_take, List.getElem_replicate]
      have e0 : (wl (x * 2 ^ s)).getD i 0 = UInt64.ofNat (x * 2 ^ s / 2 ^ (64 * i)) := getD_limbsN hi
      rw [List.getD_eq_getElem?_getD, List.getElem?_eq_getElem (by rw [length_wl]; exact hi), Option.getD_some] at e0
      rw [e0, show 2 ^ s = 2 ^ (s - 64 * (i + 1)) * (2 ^ 64 * 2 ^ (64 * i)) from by rw [← Nat.pow_add, ← Nat.pow_add]; congr 1; omega, ← Nat.mul_assoc, ← Nat.mul_assoc, Nat.mul_div_cancel _ (Nat.pow_pos (by decide))]
      apply UInt64.toNat_inj.1
      rw [UInt64.toNat_ofNat', Nat.mul_mod_left]; rfl
  rw [wSt, hz, List.replicate_append_replicate]
  congr 1
  omega
end Go.Proofs.Ytefljbbpaideaaa
