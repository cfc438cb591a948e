/- Package word: products, quotients, with signs and without. No condition. -/
import Derived.Test.YtefljbbpaideaaaKWf1
import Derived.Test.YtefljbbpaideaaaK4
import Derived.Test.YtefljbbpaideaaaKA4
namespace Go.Proofs.Ytefljbbpaideaaa
set_option linter.unusedVariables false
set_option linter.unusedSimpArgs false
open Go Go.RowKit
theorem wl_eq_zero {y : Nat} (hy : y < WW) : wl y = [0, 0, 0, 0] ↔ y = 0 := by
  rw [← wl_zero]
  exact ⟨fun h => wl_inj hy WW_pos h, fun h => by rw [h]⟩
/-- What is left; 0 by 0. -/
def modZ (x y : Nat) : Nat := if y = 0 then 0 else x % y
def HW : Nat := 2 ^ 255
theorem WW_HW : WW = 2 * HW := rfl
/-- Is the signed value below 0? -/
def negB (x : Nat) : Bool := decide (HW ≤ x)
/-- A word, or less it. -/
def sgn (m : Bool) (x : Nat) : Nat := if m then WW - x else x
def absW (x : Nat) : Nat := sgn (negB x) x
theorem absW_lt {x : Nat} (hx : x < WW) : absW x < WW := by
  unfold absW sgn negB
  have := WW_HW
  have h0 : 0 < HW := Nat.pow_pos (by decide)
  split
  · rename_i h; have := of_decide_eq_true h; omega
  · exact hx
theorem absW_zero {y : Nat} (hy : y < WW) : absW y = 0 ↔ y = 0 := by
  unfold absW sgn negB
  have := WW_HW
  have h0 : 0 < HW := Nat.pow_pos (by decide)
  split
  · rename_i h; have := of_decide_eq_true h; omega
  · exact Iff.rfl
theorem copy_limbs {Q o k : Nat} (ho : o = 0) (hk : k = min (limbsOf Q).length 4) : ([Value.int .u64 0, .int .u64 0, .int .u64 0, .int .u64 0] : List Value).take o ++ (u64s (limbsOf Q)).take k ++ ([Value.int .u64 0, .int .u64 0, .int .u64 0, .int .u64 0] : List Value).drop (o + k) = u64s (wl Q) := by
  subst ho
  have e0 : ([Value.int .u64 0, .int .u64 0, .int .u64 0, .int .u64 0] : List Value) = u64s (List.replicate 4 0) := rfl
  have hk2 : (limbsOf Q).take k = (limbsOf Q).take 4 := by
    rcases Nat.lt_or_ge (limbsOf Q).length 4 with h | h
    · rw [List.take_of_length_le (by omega), List.take_of_length_le (by omega)]
    · rw [show k = 4 by omega]
  have hk4 : k ≤ 4 := by omega
  rw [e0, List.take_zero, List.nil_append, Nat.zero_add, u64s_takeR, u64s_drop, hk2, List.drop_replicate]
  have e1 : u64s ((limbsOf Q).take 4) ++ u64s (List.replicate (4 - k) 0) = u64s ((limbsOf Q).take 4 ++ List.replicate (4 - k) 0) := by simp [u64s]
  rw [e1]
  congr 1
  refine wl_of (by rw [List.length_append, List.length_take, List.length_replicate]; omega) ?_
  rw [v64_pad]
  have h := v64_take_lt (limbsOf Q) 4
  rcases Nat.lt_or_ge (limbsOf Q).length 4 with h4 | h4
  · rw [List.take_of_length_le (by omega), v64_limbsOf]
    have hlt := v64_lt (limbsOf Q)
    rw [v64_limbsOf] at hlt
    exact (Nat.mod_eq_of_lt (Nat.lt_of_lt_of_le hlt (Nat.pow_le_pow_right (by decide) (by omega : 64 * (limbsOf Q).length ≤ 256)))).symm
  · have e := v64_take_drop (limbsOf Q) h4
    rw [v64_limbsOf] at e
    conv => rhs; rw [e]
    rw [← WW_eq, Nat.add_mul_mod_self_left, Nat.mod_eq_of_lt (by rw [WW_eq]; exact h)]
set_option maxRecDepth 100000 in
theorem WMul_f {x y : Nat} (hx : x < WW) (hy : y < WW) : Fn Try.prog 33 #[wo x, wo y] [] [] (fun v L => v = wo (x * y) ∧ L = []) := by
  refine Fn.enter (vs := [wo x, wo y]) Try.func33 rfl rfl rfl ?_
  intro E R hR
  change At _ _ E [R] _
  refine At.seq fun K1 hk_1 => ?_
  refine At.region ?_
  refine op_box (nxla rfl) rfl rfl rfl (fun N2 b2 B2 => ?_)
  change Blk N2 b2 _ (u64s (wl x)) at B2
  refine op_box (nxla rfl) rfl rfl rfl (fun N3 b3 B3 => ?_)
  change Blk N3 b3 _ (u64s (wl y)) at B3
  refine op_alloc (nxla rfl) ze24 rfl (fun N4 b4 B4 => ?_)
  change Blk N4 b4 _ [.int .u64 0, .int .u64 0, .int .u64 0, .int .u64 0] at B4
  refine At.opsNil ?_
  refine At.norm (hk_1 ?_)
  refine At.seq fun K2 hk_2 => ?_
  refine At.region ?_
  refine op_loadAggB (ds := u64s (wl x)) (nxlf rfl) ag24 rfl B2 (by first | (rw [List.drop_zero, List.take_of_length_le (by first | (simp; done) | (simp; omega))]; done) | rfl) (by first | (simp; done) | (simp; omega)) mem2 rfl ?_
  refine op_loadAggB (ds := u64s (wl y)) (nxlf rfl) ag24 rfl B3 (by first | (rw [List.drop_zero, List.take_of_length_le (by first | (simp; done) | (simp; omega))]; done) | rfl) (by first | (simp; done) | (simp; omega)) mem1 rfl ?_
  refine op_callA (nxla rfl) (.cons rfl (.cons rfl .nil)) (Wide_f hx hy) Try.func27 rfl rfl (by simp) rfl ?_
  rintro v10 L10 ⟨rfl, rfl⟩
  change At _ _ _ [N4, N3, N2, R] _
  refine op_move (nxlf rfl) rfl rfl ?_
  refine op_extract (nxlf rfl) rfl rfl rfl ?_
  refine op_extract (nxlf rfl) rfl rfl rfl ?_
  refine op_alloc (nxla rfl) ze24 rfl (fun N5 b5 B5 => ?_)
  change Blk N5 b5 _ [.int .u64 0, .int .u64 0, .int .u64 0, .int .u64 0] at B5
  refine op_alloc (nxla rfl) ze24 rfl (fun N6 b6 B6 => ?_)
  change Blk N6 b6 _ [.int .u64 0, .int .u64 0, .int .u64 0, .int .u64 0] at B6
  refine op_store (nxl rfl) sz24 rfl rfl rfl rfl rfl B5 (by simp) sel1 (fun N5 B5 => ?_)
  rw [setL_whole (by simp)] at B5
  refine op_store (nxl rfl) sz24 rfl rfl rfl rfl rfl B6 (by simp) sel1 (fun N6 B6 => ?_)
  rw [setL_whole (by simp)] at B6
  refine At.opsNil ?_
  refine At.norm (hk_2 ?_)
  refine At.seq fun K3 hk_3 => ?_
  refine At.region ?_
  refine op_loadAggB (ds := u64s (wl (x * y))) (nxlf rfl) ag24 rfl B6 (by first | (rw [List.drop_zero, List.take_of_length_le (by first | (simp; done) | (simp; omega))]; done) | rfl) (by first | (simp; done) | (simp; omega)) mem0 rfl ?_
  refine op_store (nxl rfl) sz24 rfl rfl rfl rfl rfl B4 (by simp) sel2 (fun N4 B4 => ?_)
  rw [setL_whole (by simp)] at B4
  refine At.opsNil ?_
  refine At.norm (hk_3 ?_)
  refine At.ret (?_)
  refine At.sub (L' := [N4, R]) (.cons_cons _ (.cons _ (.cons _ (.cons _ (.cons _ (.cons_cons _ (.slnil))))))) ?_
  refine At.ret1 (L1 := []) rfl (.cell rfl (res_agg (ds := u64s (wl (x * y))) ag24 B4 (by first | (rw [List.drop_zero, List.take_of_length_le (by first | (simp; done) | (simp; omega))]; done) | rfl) (by first | (simp; done) | (simp; omega)) mem0) .nil) (.cons _ (.refl _)) (.refl _) ?_
  exact ⟨rfl, rfl⟩
set_option maxRecDepth 100000 in
theorem divide_f {N M : Heaplet} {ao bo : Option Addr} {n m ca cb : Nat} {a b : List UInt64} (ha : RSl N 1 ao n ca (u64s a)) (hb : RSl M 1 bo m cb (u64s b)) (hn : n ≤ 1000) (hm : m ≤ 1000) (h0 : 0 < v64 b) :
    Fn Try.prog 131 #[.slice ao n ca, .slice bo m cb] [] [N, M] (fun v L => v = .tuple #[wo (v64 a / v64 b), wo (v64 a % v64 b)] ∧ L = []) := by
  refine Fn.enter (vs := [.slice ao n ca, .slice bo m cb]) Try.func131 rfl rfl rfl ?_
  intro E R hR
  have ha := ha.le (hR N (by simp))
  have hb := hb.le (hR M (by simp))
  change At _ _ E [R] _
  refine At.seq fun K1 hk_1 => ?_
  refine At.region ?_
  refine op_alloc (nxla rfl) ze24 rfl (fun N4 b4 B4 => ?_)
  change Blk N4 b4 _ [.int .u64 0, .int .u64 0, .int .u64 0, .int .u64 0] at B4
  refine op_alloc (nxla rfl) ze24 rfl (fun N5 b5 B5 => ?_)
  change Blk N5 b5 _ [.int .u64 0, .int .u64 0, .int .u64 0, .int .u64 0] at B5
  refine At.opsNil ?_
  refine At.norm (hk_1 ?_)
  refine At.seq fun K2 hk_2 => ?_
  refine At.region ?_
  refine op_move (nxlf rfl) rfl rfl ?_
  refine op_move (nxlf rfl) rfl rfl ?_
  refine op_callA (nxla rfl) (.cons rfl (.cons rfl .nil)) (DivMod_f ha hb (by omega) (by omega) h0) Try.func120 rfl rfl (by simp) rfl ?_
  rintro v11 L11 ⟨Mq, pq, cq, Mr, pr, cr, rfl, rfl, sq, sr⟩
  change At _ _ _ [Mq, Mr, N5, N4, R] _
  refine op_move (nxlf rfl) rfl rfl ?_
  refine op_extract (nxlf rfl) rfl rfl rfl ?_
  refine op_extract (nxlf rfl) rfl rfl rfl ?_
  refine op_assign (nxlf rfl) rfl rfl ?_
  refine op_assign (nxlf rfl) rfl rfl ?_
  refine At.opsNil ?_
  refine At.norm (hk_2 ?_)
  refine At.seq fun K3 hk_3 => ?_
  refine At.region ?_
  refine op_sliceA (nxlf rfl) ae24 rfl .none .none .none (by omega) (by omega) (by omega) (by simp) rfl ?_
  refine op_move (nxlf rfl) rfl rfl ?_
  refine op_copyB (nxl rfl) se95 rfl rfl B4 sq (by first | exact mem0 | exact mem1 | exact mem2 | exact mem3 | exact mem4 | exact mem5 | exact mem6 | exact mem7 | exact mem8 | exact mem9) (by first | exact one_u8s _ | exact one_u64s _ | exact one_u32s _ | (intro u hu; simp at hu; subst hu; rfl)) (by simp <;> omega) sel3 rfl (fun N4 B4 => ?_)
  rw [copy_limbs rfl (by simp)] at B4
  refine At.opsNil ?_
  refine At.norm (hk_3 ?_)
  refine At.seq fun K4 hk_4 => ?_
  refine At.region ?_
  refine op_sliceA (nxlf rfl) ae24 rfl .none .none .none (by omega) (by omega) (by omega) (by simp) rfl ?_
  refine op_move (nxlf rfl) rfl rfl ?_
  refine op_copyB (nxl rfl) se95 rfl rfl B5 sr (by first | exact mem0 | exact mem1 | exact mem2 | exact mem3 | exact mem4 | exact mem5 | exact mem6 | exact mem7 | exact mem8 | exact mem9) (by first | exact one_u8s _ | exact one_u64s _ | exact one_u32s _ | (intro u hu; simp at hu; subst hu; rfl)) (by simp <;> omega) sel3 rfl (fun N5 B5 => ?_)
  rw [copy_limbs rfl (by simp)] at B5
  refine At.opsNil ?_
  refine At.norm (hk_4 ?_)
  refine At.seq fun K5 hk_5 => ?_
  refine At.region ?_
  refine op_loadAggB (ds := u64s (wl (v64 a / v64 b))) (nxlf rfl) ag24 rfl B4 (by first | (rw [List.drop_zero, List.take_of_length_le (by first | (simp; done) | (simp; omega))]; done) | rfl) (by first | (simp; done) | (simp; omega)) mem1 rfl ?_
  refine op_loadAggB (ds := u64s (wl (v64 a % v64 b))) (nxlf rfl) ag24 rfl B5 (by first | (rw [List.drop_zero, List.take_of_length_le (by first | (simp; done) | (simp; omega))]; done) | rfl) (by first | (simp; done) | (simp; omega)) mem0 rfl ?_
  refine op_store (nxl rfl) sz24 rfl rfl rfl rfl rfl B4 (by simp) sel1 (fun N4 B4 => ?_)
  rw [setL_whole (by simp)] at B4
  refine op_store (nxl rfl) sz24 rfl rfl rfl rfl rfl B5 (by simp) sel1 (fun N5 B5 => ?_)
  rw [setL_whole (by simp)] at B5
  refine At.opsNil ?_
  refine At.norm (hk_5 ?_)
  refine At.ret (?_)
  refine At.sub (L' := [N5, N4, R]) (.cons_cons _ (.cons_cons _ (.cons _ (.cons _ (.cons_cons _ (.slnil)))))) ?_
  refine At.perm sel2 ?_
  refine At.perm sel1 ?_
  refine At.perm sel2 ?_
  refine At.retN (L1 := []) rfl (.cell rfl (res_agg (ds := u64s (wl (v64 a / v64 b))) ag24 B4 (by first | (rw [List.drop_zero, List.take_of_length_le (by first | (simp; done) | (simp; omega))]; done) | rfl) (by first | (simp; done) | (simp; omega)) mem0) (.cell rfl (res_agg (ds := u64s (wl (v64 a % v64 b))) ag24 B5 (by first | (rw [List.drop_zero, List.take_of_length_le (by first | (simp; done) | (simp; omega))]; done) | rfl) (by first | (simp; done) | (simp; omega)) mem1) .nil)) rfl (.cons _ (.cons _ (.refl _))) (.refl _) ?_
  exact ⟨rfl, rfl⟩
set_option maxRecDepth 100000 in
theorem divmod_0 {x : Nat} : Fn Try.prog 102 #[wo x, wo 0] [] [] (fun v L => v = .tuple #[wo 0, wo 0] ∧ L = []) := by
  have h0 : wl 0 = [0, 0, 0, 0] := wl_zero
  refine Fn.enter (vs := [wo x, wo 0]) Try.func102 rfl rfl rfl ?_
  intro E R hR
  change At _ _ E [R] _
  refine At.seq fun K1 hk_1 => ?_
  refine At.region ?_
  refine op_box (nxla rfl) rfl rfl rfl (fun N2 b2 B2 => ?_)
  refine op_box (nxla rfl) rfl rfl rfl (fun N3 b3 B3 => ?_)
  change Blk N3 b3 _ (u64s (wl 0)) at B3
  refine op_alloc (nxla rfl) ze24 rfl (fun N4 b4 B4 => ?_)
  change Blk N4 b4 _ [.int .u64 0, .int .u64 0, .int .u64 0, .int .u64 0] at B4
  refine op_alloc (nxla rfl) ze24 rfl (fun N5 b5 B5 => ?_)
  change Blk N5 b5 _ [.int .u64 0, .int .u64 0, .int .u64 0, .int .u64 0] at B5
  refine At.opsNil ?_
  refine At.norm (hk_1 ?_)
  refine At.seq fun K2 hk_2 => ?_
  refine At.seq fun K3 hk_3 => ?_
  refine At.region ?_
  refine op_loadAggB (ds := u64s (wl 0)) (nxlf rfl) ag24 rfl B3 (by first | (rw [List.drop_zero, List.take_of_length_le (by first | (simp; done) | (simp; omega))]; done) | rfl) (by first | (simp; done) | (simp; omega)) mem2 rfl ?_
  refine op_buildA (out := [.int .u64 0, .int .u64 0, .int .u64 0, .int .u64 0]) (nxlf rfl) ze24 ae24 .nil rfl rfl ?_
  refine op_eqW (a := wl 0) (b := [0, 0, 0, 0]) (nxlf rfl) ae24 Try.underlying22 (by kernel_rfl) rfl rfl rfl rfl rfl ?_
  refine At.opsNil ?_
  refine At.norm (hk_3 ?_)
  refine At.condP rfl (fun c8 => ?_) (fun c8 => ?_)
  · refine At.seq fun K4 hk_4 => ?_
    refine At.region ?_
    refine op_buildA (out := [.int .u64 0, .int .u64 0, .int .u64 0, .int .u64 0]) (nxlf rfl) ze24 ae24 .nil rfl rfl ?_
    refine op_buildA (out := [.int .u64 0, .int .u64 0, .int .u64 0, .int .u64 0]) (nxlf rfl) ze24 ae24 .nil rfl rfl ?_
    refine op_store (nxl rfl) sz24 rfl rfl rfl rfl rfl B4 (by simp) sel1 (fun N4 B4 => ?_)
    rw [setL_whole (by simp)] at B4
    refine op_store (nxl rfl) sz24 rfl rfl rfl rfl rfl B5 (by simp) sel1 (fun N5 B5 => ?_)
    rw [setL_whole (by simp)] at B5
    refine At.opsNil ?_
    refine At.norm (hk_4 ?_)
    refine At.ret (At.thenRet (?_))
    refine At.sub (L' := [N5, N4, R]) (.cons_cons _ (.cons_cons _ (.cons _ (.cons _ (.cons_cons _ (.slnil)))))) ?_
    refine At.perm sel2 ?_
    refine At.perm sel1 ?_
    refine At.perm sel2 ?_
    refine At.retN (L1 := []) rfl (.cell rfl (res_agg (ds := [_, _, _, _]) ag24 B4 rfl rfl mem0) (.cell rfl (res_agg (ds := [_, _, _, _]) ag24 B5 rfl rfl mem1) .nil)) rfl (.cons _ (.cons _ (.refl _))) (.refl _) ?_
    exact ⟨by rw [wo_zero], rfl⟩
  · exact absurd h0 c8
set_option maxRecDepth 100000 in
theorem divmod_f {x y : Nat} (hx : x < WW) (hy : y < WW) (hp : 0 < y) : Fn Try.prog 102 #[wo x, wo y] [] [] (fun v L => v = .tuple #[wo (x / y), wo (x % y)] ∧ L = []) := by
  have hvx := v64_wl_lt hx
  have hvy := v64_wl_lt hy
  have h0 := wl_eq_zero hy
  refine Fn.enter (vs := [wo x, wo y]) Try.func102 rfl rfl rfl ?_
  intro E R hR
  change At _ _ E [R] _
  refine At.seq fun K1 hk_1 => ?_
  refine At.region ?_
  refine op_box (nxla rfl) rfl rfl rfl (fun N2 b2 B2 => ?_)
  change Blk N2 b2 _ (u64s (wl x)) at B2
  refine op_box (nxla rfl) rfl rfl rfl (fun N3 b3 B3 => ?_)
  change Blk N3 b3 _ (u64s (wl y)) at B3
  refine op_alloc (nxla rfl) ze24 rfl (fun N4 b4 B4 => ?_)
  change Blk N4 b4 _ [.int .u64 0, .int .u64 0, .int .u64 0, .int .u64 0] at B4
  refine op_alloc (nxla rfl) ze24 rfl (fun N5 b5 B5 => ?_)
  change Blk N5 b5 _ [.int .u64 0, .int .u64 0, .int .u64 0, .int .u64 0] at B5
  refine At.opsNil ?_
  refine At.norm (hk_1 ?_)
  refine At.seq fun K2 hk_2 => ?_
  refine At.seq fun K3 hk_3 => ?_
  refine At.region ?_
  refine op_loadAggB (ds := u64s (wl y)) (nxlf rfl) ag24 rfl B3 (by first | (rw [List.drop_zero, List.take_of_length_le (by first | (simp; done) | (simp; omega))]; done) | rfl) (by first | (simp; done) | (simp; omega)) mem2 rfl ?_
  refine op_buildA (out := [.int .u64 0, .int .u64 0, .int .u64 0, .int .u64 0]) (nxlf rfl) ze24 ae24 .nil rfl rfl ?_
  refine op_eqW (a := wl y) (b := [0, 0, 0, 0]) (nxlf rfl) ae24 Try.underlying22 (by kernel_rfl) rfl rfl rfl rfl rfl ?_
  refine At.opsNil ?_
  refine At.norm (hk_3 ?_)
  refine At.condP rfl (fun c8 => ?_) (fun c8 => ?_)
  · exact absurd (h0.1 c8) (by omega)
  · refine At.skip ?_
    refine At.norm (hk_2 ?_)
    refine At.seq fun K4 hk_4 => ?_
    refine At.perm sel4 ?_
    refine At.perm sel3 ?_
    refine At.perm sel4 ?_
    refine At.perm sel4 ?_
    refine At.perm sel4 ?_
    refine At.drawnS [N2, N3, R] [2,5,6] [] [0,1,2,3,4,5,6] (by kernel_rfl) (by kernel_rfl) (.cons _ (.cons _ (.refl _))) ?_
    have s2 := arr_part B2 (lo := 0) (hi := 4) (c := 4) (by omega) (by simp) (by omega) (by omega)
    have s3 := arr_part B3 (lo := 0) (hi := 4) (c := 4) (by omega) (by simp) (by omega) (by omega)
    change RSl N2 1 _ (4 - 0) (4 - 0) (u64s (wl x)) at s2
    change RSl N3 1 _ (4 - 0) (4 - 0) (u64s (wl y)) at s3
    refine op_sliceA (nxsf rfl rfl rfl) ae24 rfl .none .none .none (by omega) (by omega) (by omega) (by simp) rfl ?_
    refine op_sliceA (nxsf rfl rfl rfl) ae24 rfl .none .none .none (by omega) (by omega) (by omega) (by simp) rfl ?_
    refine op_callA (Nx.agree (nxss rfl rfl rfl rfl)) (.cons rfl (.cons rfl .nil)) (divide_f s2 s3 (by omega) (by omega) (by rw [hvy]; exact hp)) Try.func131 rfl rfl (by simp) rfl ?_
    rintro v13 L13 ⟨rfl, rfl⟩
    change At _ _ _ [N5, N4, N2, N3, R] _
    rw [hvx, hvy]
    refine At.anyS (.refl _) ?_
    refine op_extract (nxsf rfl rfl rfl) rfl rfl rfl ?_
    refine op_extract (nxsf rfl rfl rfl) rfl rfl rfl ?_
    refine op_store (nxss rfl rfl rfl rfl) sz24 rfl rfl rfl rfl rfl B4 (by simp) sel1 (fun N4 B4 => ?_)
    rw [setL_whole (by simp)] at B4
    refine At.anyS (.refl _) ?_
    refine op_store (nxsl rfl rfl rfl rfl) sz24 rfl rfl rfl rfl rfl B5 (by simp) sel1 (fun N5 B5 => ?_)
    rw [setL_whole (by simp)] at B5
    refine At.sNil ?_
    refine At.norm (hk_4 ?_)
    refine At.ret (?_)
    refine At.sub (L' := [N5, N4, R]) (.cons_cons _ (.cons_cons _ (.cons _ (.cons _ (.cons_cons _ (.slnil)))))) ?_
    refine At.perm sel2 ?_
    refine At.perm sel1 ?_
    refine At.perm sel2 ?_
    refine At.retN (L1 := []) rfl (.cell rfl (res_agg (ds := u64s (wl (x / y))) ag24 B4 (by first | (rw [List.drop_zero, List.take_of_length_le (by first | (simp; done) | (simp; omega))]; done) | rfl) (by first | (simp; done) | (simp; omega)) mem0) (.cell rfl (res_agg (ds := u64s (wl (x % y))) ag24 B5 (by first | (rw [List.drop_zero, List.take_of_length_le (by first | (simp; done) | (simp; omega))]; done) | rfl) (by first | (simp; done) | (simp; omega)) mem1) .nil)) rfl (.cons _ (.cons _ (.refl _))) (.refl _) ?_
    exact ⟨rfl, rfl⟩
theorem divmod_any {x y : Nat} (hx : x < WW) (hy : y < WW) : Fn Try.prog 102 #[wo x, wo y] [] [] (fun v L => v = .tuple #[wo (x / y), wo (modZ x y)] ∧ L = []) := by
  rcases Nat.eq_zero_or_pos y with h | h
  · subst h
    rw [Nat.div_zero, modZ, if_pos rfl]
    exact divmod_0
  · rw [modZ, if_neg (by omega)]
    exact divmod_f hx hy h
set_option maxRecDepth 100000 in
theorem WDiv_f {x y : Nat} (hx : x < WW) (hy : y < WW) : Fn Try.prog 18 #[wo x, wo y] [] [] (fun v L => v = wo (x / y) ∧ L = []) := by
  refine Fn.enter (vs := [wo x, wo y]) Try.func18 rfl rfl rfl ?_
  intro E R hR
  change At _ _ E [R] _
  refine At.seq fun K1 hk_1 => ?_
  refine At.region ?_
  refine op_box (nxla rfl) rfl rfl rfl (fun N2 b2 B2 => ?_)
  change Blk N2 b2 _ (u64s (wl x)) at B2
  refine op_box (nxla rfl) rfl rfl rfl (fun N3 b3 B3 => ?_)
  change Blk N3 b3 _ (u64s (wl y)) at B3
  refine op_alloc (nxla rfl) ze24 rfl (fun N4 b4 B4 => ?_)
  change Blk N4 b4 _ [.int .u64 0, .int .u64 0, .int .u64 0, .int .u64 0] at B4
  refine At.opsNil ?_
  refine At.norm (hk_1 ?_)
  refine At.seq fun K2 hk_2 => ?_
  refine At.region ?_
  refine op_loadAggB (ds := u64s (wl x)) (nxlf rfl) ag24 rfl B2 (by first | (rw [List.drop_zero, List.take_of_length_le (by first | (simp; done) | (simp; omega))]; done) | rfl) (by first | (simp; done) | (simp; omega)) mem2 rfl ?_
  refine op_loadAggB (ds := u64s (wl y)) (nxlf rfl) ag24 rfl B3 (by first | (rw [List.drop_zero, List.take_of_length_le (by first | (simp; done) | (simp; omega))]; done) | rfl) (by first | (simp; done) | (simp; omega)) mem1 rfl ?_
  refine op_callA (nxla rfl) (.cons rfl (.cons rfl .nil)) (divmod_any hx hy) Try.func102 rfl rfl (by simp) rfl ?_
  rintro v10 L10 ⟨rfl, rfl⟩
  change At _ _ _ [N4, N3, N2, R] _
  refine op_move (nxlf rfl) rfl rfl ?_
  refine op_extract (nxlf rfl) rfl rfl rfl ?_
  refine op_extract (nxlf rfl) rfl rfl rfl ?_
  refine op_alloc (nxla rfl) ze24 rfl (fun N5 b5 B5 => ?_)
  change Blk N5 b5 _ [.int .u64 0, .int .u64 0, .int .u64 0, .int .u64 0] at B5
  refine op_alloc (nxla rfl) ze24 rfl (fun N6 b6 B6 => ?_)
  change Blk N6 b6 _ [.int .u64 0, .int .u64 0, .int .u64 0, .int .u64 0] at B6
  refine op_store (nxl rfl) sz24 rfl rfl rfl rfl rfl B5 (by simp) sel1 (fun N5 B5 => ?_)
  rw [setL_whole (by simp)] at B5
  refine op_store (nxl rfl) sz24 rfl rfl rfl rfl rfl B6 (by simp) sel1 (fun N6 B6 => ?_)
  rw [setL_whole (by simp)] at B6
  refine At.opsNil ?_
  refine At.norm (hk_2 ?_)
  refine At.seq fun K3 hk_3 => ?_
  refine At.region ?_
  refine op_loadAggB (ds := u64s (wl (x / y))) (nxlf rfl) ag24 rfl B5 (by first | (rw [List.drop_zero, List.take_of_length_le (by first | (simp; done) | (simp; omega))]; done) | rfl) (by first | (simp; done) | (simp; omega)) mem1 rfl ?_
  refine op_store (nxl rfl) sz24 rfl rfl rfl rfl rfl B4 (by simp) sel2 (fun N4 B4 => ?_)
  rw [setL_whole (by simp)] at B4
  refine At.opsNil ?_
  refine At.norm (hk_3 ?_)
  refine At.ret (?_)
  refine At.sub (L' := [N4, R]) (.cons_cons _ (.cons _ (.cons _ (.cons _ (.cons _ (.cons_cons _ (.slnil))))))) ?_
  refine At.ret1 (L1 := []) rfl (.cell rfl (res_agg (ds := u64s (wl (x / y))) ag24 B4 (by first | (rw [List.drop_zero, List.take_of_length_le (by first | (simp; done) | (simp; omega))]; done) | rfl) (by first | (simp; done) | (simp; omega)) mem0) .nil) (.cons _ (.refl _)) (.refl _) ?_
  exact ⟨rfl, rfl⟩
set_option maxRecDepth 100000 in
theorem WMod_f {x y : Nat} (hx : x < WW) (hy : y < WW) : Fn Try.prog 20 #[wo x, wo y] [] [] (fun v L => v = wo (modZ x y) ∧ L = []) := by
  refine Fn.enter (vs := [wo x, wo y]) Try.func20 rfl rfl rfl ?_
  intro E R hR
  change At _ _ E [R] _
  refine At.seq fun K1 hk_1 => ?_
  refine At.region ?_
  refine op_box (nxla rfl) rfl rfl rfl (fun N2 b2 B2 => ?_)
  change Blk N2 b2 _ (u64s (wl x)) at B2
  refine op_box (nxla rfl) rfl rfl rfl (fun N3 b3 B3 => ?_)
  change Blk N3 b3 _ (u64s (wl y)) at B3
  refine op_alloc (nxla rfl) ze24 rfl (fun N4 b4 B4 => ?_)
  change Blk N4 b4 _ [.int .u64 0, .int .u64 0, .int .u64 0, .int .u64 0] at B4
  refine At.opsNil ?_
  refine At.norm (hk_1 ?_)
  refine At.seq fun K2 hk_2 => ?_
  refine At.region ?_
  refine op_loadAggB (ds := u64s (wl x)) (nxlf rfl) ag24 rfl B2 (by first | (rw [List.drop_zero, List.take_of_length_le (by first | (simp; done) | (simp; omega))]; done) | rfl) (by first | (simp; done) | (simp; omega)) mem2 rfl ?_
  refine op_loadAggB (ds := u64s (wl y)) (nxlf rfl) ag24 rfl B3 (by first | (rw [List.drop_zero, List.take_of_length_le (by first | (simp; done) | (simp; omega))]; done) | rfl) (by first | (simp; done) | (simp; omega)) mem1 rfl ?_
  refine op_callA (nxla rfl) (.cons rfl (.cons rfl .nil)) (divmod_any hx hy) Try.func102 rfl rfl (by simp) rfl ?_
  rintro v10 L10 ⟨rfl, rfl⟩
  change At _ _ _ [N4, N3, N2, R] _
  refine op_move (nxlf rfl) rfl rfl ?_
  refine op_extract (nxlf rfl) rfl rfl rfl ?_
  refine op_extract (nxlf rfl) rfl rfl rfl ?_
  refine op_alloc (nxla rfl) ze24 rfl (fun N5 b5 B5 => ?_)
  change Blk N5 b5 _ [.int .u64 0, .int .u64 0, .int .u64 0, .int .u64 0] at B5
  refine op_alloc (nxla rfl) ze24 rfl (fun N6 b6 B6 => ?_)
  change Blk N6 b6 _ [.int .u64 0, .int .u64 0, .int .u64 0, .int .u64 0] at B6
  refine op_store (nxl rfl) sz24 rfl rfl rfl rfl rfl B5 (by simp) sel1 (fun N5 B5 => ?_)
  rw [setL_whole (by simp)] at B5
  refine op_store (nxl rfl) sz24 rfl rfl rfl rfl rfl B6 (by simp) sel1 (fun N6 B6 => ?_)
  rw [setL_whole (by simp)] at B6
  refine At.opsNil ?_
  refine At.norm (hk_2 ?_)
  refine At.seq fun K3 hk_3 => ?_
  refine At.region ?_
  refine op_loadAggB (ds := u64s (wl (modZ x y))) (nxlf rfl) ag24 rfl B6 (by first | (rw [List.drop_zero, List.take_of_length_le (by first | (simp; done) | (simp; omega))]; done) | rfl) (by first | (simp; done) | (simp; omega)) mem0 rfl ?_
  refine op_store (nxl rfl) sz24 rfl rfl rfl rfl rfl B4 (by simp) sel2 (fun N4 B4 => ?_)
  rw [setL_whole (by simp)] at B4
  refine At.opsNil ?_
  refine At.norm (hk_3 ?_)
  refine At.ret (?_)
  refine At.sub (L' := [N4, R]) (.cons_cons _ (.cons _ (.cons _ (.cons _ (.cons _ (.cons_cons _ (.slnil))))))) ?_
  refine At.ret1 (L1 := []) rfl (.cell rfl (res_agg (ds := u64s (wl (modZ x y))) ag24 B4 (by first | (rw [List.drop_zero, List.take_of_length_le (by first | (simp; done) | (simp; omega))]; done) | rfl) (by first | (simp; done) | (simp; omega)) mem0) .nil) (.cons _ (.refl _)) (.refl _) ?_
  exact ⟨rfl, rfl⟩
theorem top_limb {x : Nat} (hx : x < WW) : (shr64 ((wl x).getD 3 0) 63).toNat = x / HW := by
  have h := limb_at (wl x) 3
  rw [v64_wl_lt hx] at h
  rw [shr64_nat, ← h]
  have h2 : x / 2 ^ (64 * 3) < 2 ^ 64 := by
    rw [Nat.div_lt_iff_lt_mul (Nat.pow_pos (by decide)), ← Nat.pow_add]; exact hx
  rw [Nat.mod_eq_of_lt h2, Nat.div_div_eq_div_mul, ← Nat.pow_add]
  rfl
theorem neg_iff {x : Nat} (hx : x < WW) : decide (((shr64 ((wl x).getD 3 0) 63).toNat : Int) = 1) = negB x := by
  rw [top_limb hx, negB, decide_eq_decide]
  have h1 := WW_HW
  have h0 : 0 < HW := Nat.pow_pos (by decide)
  have h2 : x / HW < 2 := by rw [Nat.div_lt_iff_lt_mul h0]; omega
  have h3 : 1 ≤ x / HW ↔ HW ≤ x := by rw [Nat.le_div_iff_mul_le h0, Nat.one_mul]
  generalize x / HW = z at *
  omega
theorem below0_f {x : Nat} (hx : x < WW) : Fn Try.prog 109 #[wo x] [] [] (fun v L => v = .bool (negB x) ∧ L = []) := by
  have hl := length_wl x
  refine Fn.enter (vs := [wo x]) Try.func109 rfl rfl rfl ?_
  intro E R hR
  change At _ _ E [R] _
  refine At.seq fun K1 hk_1 => ?_
  refine At.region ?_
  refine op_box (nxla rfl) rfl rfl rfl (fun N1 b1 B1 => ?_)
  change Blk N1 b1 _ (u64s (wl x)) at B1
  refine op_assign (nxlf rfl) rfl rfl ?_
  refine At.opsNil ?_
  refine At.norm (hk_1 ?_)
  refine At.seq fun K2 hk_2 => ?_
  refine At.region ?_
  refine op_idxA (nxlf rfl) ae24 rfl rfl (show _ = ((3 : Nat) : Int) from rfl) (by omega) rfl ?_
  refine op_loadB (nxlf rfl) sc22 rfl B1 (by first | exact get64A (by omega) | rfl) mem0 rfl ?_
  refine op_shrU (nxlf rfl) rfl rfl (show _ = ((63 : Nat) : Int) from rfl) rfl ?_
  refine op_eql (nxlf rfl) rfl rfl rfl ?_
  rw [neg_iff hx]
  refine op_assign (nxlf rfl) rfl rfl ?_
  refine At.opsNil ?_
  refine At.norm (hk_2 ?_)
  refine At.ret (?_)
  refine At.sub (L' := [R]) (.cons _ (.cons_cons _ (.slnil))) ?_
  refine At.ret1 (L1 := []) rfl (.tmp rfl .nil) (.refl _) (.refl _) ?_
  exact ⟨rfl, rfl⟩
set_option maxRecDepth 100000 in
theorem signed_t {x : Nat} (hx : x < WW) : Fn Try.prog 107 #[wo x, .bool true] [] [] (fun v L => v = wo (WW - x) ∧ L = []) := by
  refine Fn.enter (vs := [wo x, .bool true]) Try.func107 rfl rfl rfl ?_
  intro E R hR
  change At _ _ E [R] _
  refine At.seq fun K1 hk_1 => ?_
  refine At.region ?_
  refine op_box (nxla rfl) rfl rfl rfl (fun N2 b2 B2 => ?_)
  change Blk N2 b2 _ (u64s (wl x)) at B2
  refine op_alloc (nxla rfl) ze24 rfl (fun N4 b4 B4 => ?_)
  change Blk N4 b4 _ [.int .u64 0, .int .u64 0, .int .u64 0, .int .u64 0] at B4
  refine At.opsNil ?_
  refine At.norm (hk_1 ?_)
  refine At.seq fun K2 hk_2 => ?_
  refine At.seq fun K3 hk_3 => ?_
  refine At.region ?_
  refine op_move (nxlf rfl) rfl rfl ?_
  refine At.opsNil ?_
  refine At.norm (hk_3 ?_)
  refine At.condT rfl ?_
  refine At.seq fun K4 hk_4 => ?_
  refine At.region ?_
  refine op_buildA (out := [.int .u64 0, .int .u64 0, .int .u64 0, .int .u64 0]) (nxlf rfl) ze24 ae24 .nil rfl rfl ?_
  rw [← wo_zero]
  refine op_loadAggB (ds := u64s (wl x)) (nxlf rfl) ag24 rfl B2 (by first | (rw [List.drop_zero, List.take_of_length_le (by first | (simp; done) | (simp; omega))]; done) | rfl) (by first | (simp; done) | (simp; omega)) mem1 rfl ?_
  refine op_callA (nxla rfl) (.cons rfl (.cons rfl .nil)) (WSub_f WW_pos hx) Try.func31 rfl rfl (by simp) rfl ?_
  rintro v8 L8 ⟨rfl, rfl⟩
  change At _ _ _ [N4, N2, R] _
  rw [Nat.zero_add]
  refine op_store (nxl rfl) sz24 rfl rfl rfl rfl rfl B4 (by simp) sel0 (fun N4 B4 => ?_)
  rw [setL_whole (by simp)] at B4
  refine At.opsNil ?_
  refine At.norm (hk_4 ?_)
  refine At.ret (At.thenRet (?_))
  refine At.sub (L' := [N4, R]) (.cons_cons _ (.cons _ (.cons_cons _ (.slnil)))) ?_
  refine At.ret1 (L1 := []) rfl (.cell rfl (res_agg (ds := u64s (wl (WW - x))) ag24 B4 (by first | (rw [List.drop_zero, List.take_of_length_le (by first | (simp; done) | (simp; omega))]; done) | rfl) (by first | (simp; done) | (simp; omega)) mem0) .nil) (.cons _ (.refl _)) (.refl _) ?_
  exact ⟨rfl, rfl⟩
set_option maxRecDepth 100000 in
theorem signed_n {x : Nat} : Fn Try.prog 107 #[wo x, .bool false] [] [] (fun v L => v = wo x ∧ L = []) := by
  refine Fn.enter (vs := [wo x, .bool false]) Try.func107 rfl rfl rfl ?_
  intro E R hR
  change At _ _ E [R] _
  refine At.seq fun K1 hk_1 => ?_
  refine At.region ?_
  refine op_box (nxla rfl) rfl rfl rfl (fun N2 b2 B2 => ?_)
  change Blk N2 b2 _ (u64s (wl x)) at B2
  refine op_alloc (nxla rfl) ze24 rfl (fun N4 b4 B4 => ?_)
  change Blk N4 b4 _ [.int .u64 0, .int .u64 0, .int .u64 0, .int .u64 0] at B4
  refine At.opsNil ?_
  refine At.norm (hk_1 ?_)
  refine At.seq fun K2 hk_2 => ?_
  refine At.seq fun K3 hk_3 => ?_
  refine At.region ?_
  refine op_move (nxlf rfl) rfl rfl ?_
  refine At.opsNil ?_
  refine At.norm (hk_3 ?_)
  refine At.condF rfl ?_
  refine At.skip ?_
  refine At.norm (hk_2 ?_)
  refine At.seq fun K4 hk_4 => ?_
  refine At.region ?_
  refine op_loadAggB (ds := u64s (wl x)) (nxlf rfl) ag24 rfl B2 (by first | (rw [List.drop_zero, List.take_of_length_le (by first | (simp; done) | (simp; omega))]; done) | rfl) (by first | (simp; done) | (simp; omega)) mem1 rfl ?_
  refine op_store (nxl rfl) sz24 rfl rfl rfl rfl rfl B4 (by simp) sel0 (fun N4 B4 => ?_)
  rw [setL_whole (by simp)] at B4
  refine At.opsNil ?_
  refine At.norm (hk_4 ?_)
  refine At.ret (?_)
  refine At.sub (L' := [N4, R]) (.cons_cons _ (.cons _ (.cons_cons _ (.slnil)))) ?_
  refine At.ret1 (L1 := []) rfl (.cell rfl (res_agg (ds := u64s (wl x)) ag24 B4 (by first | (rw [List.drop_zero, List.take_of_length_le (by first | (simp; done) | (simp; omega))]; done) | rfl) (by first | (simp; done) | (simp; omega)) mem0) .nil) (.cons _ (.refl _)) (.refl _) ?_
  exact ⟨rfl, rfl⟩
theorem signed_f {x : Nat} (m : Bool) (hx : x < WW) : Fn Try.prog 107 #[wo x, .bool m] [] [] (fun v L => v = wo (sgn m x) ∧ L = []) := by
  cases m with
  | true => exact signed_t hx
  | false => exact signed_n
set_option maxRecDepth 100000 in
theorem size0_f {x : Nat} (hx : x < WW) : Fn Try.prog 108 #[wo x] [] [] (fun v L => v = wo (absW x) ∧ L = []) := by
  refine Fn.enter (vs := [wo x]) Try.func108 rfl rfl rfl ?_
  intro E R hR
  change At _ _ E [R] _
  refine At.seq fun K1 hk_1 => ?_
  refine At.region ?_
  refine op_box (nxla rfl) rfl rfl rfl (fun N1 b1 B1 => ?_)
  change Blk N1 b1 _ (u64s (wl x)) at B1
  refine op_alloc (nxla rfl) ze24 rfl (fun N2 b2 B2 => ?_)
  change Blk N2 b2 _ [.int .u64 0, .int .u64 0, .int .u64 0, .int .u64 0] at B2
  refine At.opsNil ?_
  refine At.norm (hk_1 ?_)
  refine At.seq fun K2 hk_2 => ?_
  refine At.drawnS [N1, R] [3,4] [] [0,1,2,3,4] (by kernel_rfl) (by kernel_rfl) (.cons _ (.refl _)) ?_
  refine op_loadAggB (ds := u64s (wl x)) (nxsf rfl rfl rfl) ag24 rfl B1 (by first | (rw [List.drop_zero, List.take_of_length_le (by first | (simp; done) | (simp; omega))]; done) | rfl) (by first | (simp; done) | (simp; omega)) mem0 rfl ?_
  refine op_loadAggB (ds := u64s (wl x)) (nxsf rfl rfl rfl) ag24 rfl B1 (by first | (rw [List.drop_zero, List.take_of_length_le (by first | (simp; done) | (simp; omega))]; done) | rfl) (by first | (simp; done) | (simp; omega)) mem0 rfl ?_
  refine op_callA (Nx.agree (nxsm rfl rfl rfl)) (.cons rfl .nil) (below0_f hx) Try.func109 rfl rfl (by simp) rfl ?_
  rintro v5 L5 ⟨rfl, rfl⟩
  change At _ _ _ [N2, N1, R] _
  refine At.moreS (Lst := [N1, R]) (Lst' := [N1, R]) (.refl _) (.cons _ (.refl _)) ?_
  refine op_callA (Nx.agree (nxss rfl rfl rfl rfl)) (.cons rfl (.cons rfl .nil)) (signed_f (negB x) hx) Try.func107 rfl rfl (by simp) rfl ?_
  rintro v6 L6 ⟨rfl, rfl⟩
  change At _ _ _ [N2, N1, R] _
  refine At.anyS (.refl _) ?_
  refine op_store (nxsl rfl rfl rfl rfl) sz24 rfl rfl rfl rfl rfl B2 (by simp) sel0 (fun N2 B2 => ?_)
  rw [setL_whole (by simp)] at B2; change Blk N2 b2 _ (u64s (wl (absW x))) at B2
  refine At.sNil ?_
  refine At.norm (hk_2 ?_)
  refine At.ret (?_)
  refine At.sub (L' := [N2, R]) (.cons_cons _ (.cons _ (.cons_cons _ (.slnil)))) ?_
  refine At.ret1 (L1 := []) rfl (.cell rfl (res_agg (ds := u64s (wl (absW x))) ag24 B2 (by first | (rw [List.drop_zero, List.take_of_length_le (by first | (simp; done) | (simp; omega))]; done) | rfl) (by first | (simp; done) | (simp; omega)) mem0) .nil) (.cons _ (.refl _)) (.refl _) ?_
  exact ⟨rfl, rfl⟩
theorem div_lt {x y : Nat} (hx : x < WW) : x / y < WW := Nat.lt_of_le_of_lt (Nat.div_le_self _ _) hx
theorem modZ_lt {x y : Nat} (hx : x < WW) : modZ x y < WW := by
  unfold modZ
  split
  · exact WW_pos
  · exact Nat.lt_of_le_of_lt (Nat.mod_le _ _) hx
set_option maxRecDepth 100000 in
theorem WSdiv_f {x y : Nat} (hx : x < WW) (hy : y < WW) : Fn Try.prog 22 #[wo x, wo y] [] [] (fun v L => v = wo (sgn (negB x != negB y) (absW x / absW y)) ∧ L = []) := by
  refine Fn.enter (vs := [wo x, wo y]) Try.func22 rfl rfl rfl ?_
  intro E R hR
  change At _ _ E [R] _
  refine At.seq fun K1 hk_1 => ?_
  refine At.region ?_
  refine op_box (nxla rfl) rfl rfl rfl (fun N2 b2 B2 => ?_)
  change Blk N2 b2 _ (u64s (wl x)) at B2
  refine op_box (nxla rfl) rfl rfl rfl (fun N3 b3 B3 => ?_)
  change Blk N3 b3 _ (u64s (wl y)) at B3
  refine op_alloc (nxla rfl) ze24 rfl (fun N4 b4 B4 => ?_)
  change Blk N4 b4 _ [.int .u64 0, .int .u64 0, .int .u64 0, .int .u64 0] at B4
  refine At.opsNil ?_
  refine At.norm (hk_1 ?_)
  refine At.seq fun K2 hk_2 => ?_
  refine At.perm sel3 ?_
  refine At.perm sel2 ?_
  refine At.perm sel3 ?_
  refine At.perm sel3 ?_
  refine At.drawnS [N2, N3, R] [8,10,11] [] [0,2,5,7,1,3,4,6,8,9,10,11] (by kernel_rfl) (by kernel_rfl) (.cons _ (.refl _)) ?_
  refine op_loadAggB (ds := u64s (wl x)) (nxsf rfl rfl rfl) ag24 rfl B2 (by first | (rw [List.drop_zero, List.take_of_length_le (by first | (simp; done) | (simp; omega))]; done) | rfl) (by first | (simp; done) | (simp; omega)) mem0 rfl ?_
  refine op_loadAggB (ds := u64s (wl y)) (nxsf rfl rfl rfl) ag24 rfl B3 (by first | (rw [List.drop_zero, List.take_of_length_le (by first | (simp; done) | (simp; omega))]; done) | rfl) (by first | (simp; done) | (simp; omega)) mem1 rfl ?_
  refine op_loadAggB (ds := u64s (wl x)) (nxsf rfl rfl rfl) ag24 rfl B2 (by first | (rw [List.drop_zero, List.take_of_length_le (by first | (simp; done) | (simp; omega))]; done) | rfl) (by first | (simp; done) | (simp; omega)) mem0 rfl ?_
  refine op_loadAggB (ds := u64s (wl y)) (nxsf rfl rfl rfl) ag24 rfl B3 (by first | (rw [List.drop_zero, List.take_of_length_le (by first | (simp; done) | (simp; omega))]; done) | rfl) (by first | (simp; done) | (simp; omega)) mem1 rfl ?_
  refine op_callA (Nx.agree (nxsm rfl rfl rfl)) (.cons rfl .nil) (size0_f hx) Try.func108 rfl rfl (by simp) rfl ?_
  rintro v6 L6 ⟨rfl, rfl⟩
  change At _ _ _ [N4, N2, N3, R] _
  refine At.moreS (Lst := [N2, N3, R]) (Lst' := [N2, N3, R]) (.refl _) (.cons _ (.refl _)) ?_
  refine op_callA (Nx.agree (nxsm rfl rfl rfl)) (.cons rfl .nil) (size0_f hy) Try.func108 rfl rfl (by simp) rfl ?_
  rintro v8 L8 ⟨rfl, rfl⟩
  change At _ _ _ [N4, N2, N3, R] _
  refine At.moreS (Lst := [N2, N3, R]) (Lst' := [N2, N3, R]) (.refl _) (.cons _ (.refl _)) ?_
  refine op_callA (Nx.agree (nxsm rfl rfl rfl)) (.cons rfl (.cons rfl .nil)) (WDiv_f (absW_lt hx) (absW_lt hy)) Try.func18 rfl rfl (by simp) rfl ?_
  rintro v9 L9 ⟨rfl, rfl⟩
  change At _ _ _ [N4, N2, N3, R] _
  refine At.moreS (Lst := [N2, N3, R]) (Lst' := [N2, N3, R]) (.refl _) (.cons _ (.refl _)) ?_
  refine op_callA (Nx.agree (nxsm rfl rfl rfl)) (.cons rfl .nil) (below0_f hx) Try.func109 rfl rfl (by simp) rfl ?_
  rintro v11 L11 ⟨rfl, rfl⟩
  change At _ _ _ [N4, N2, N3, R] _
  refine At.moreS (Lst := [N2, N3, R]) (Lst' := [N2, N3, R]) (.refl _) (.cons _ (.refl _)) ?_
  refine op_callA (Nx.agree (nxss rfl rfl rfl rfl)) (.cons rfl .nil) (below0_f hy) Try.func109 rfl rfl (by simp) rfl ?_
  rintro v13 L13 ⟨rfl, rfl⟩
  change At _ _ _ [N4, N2, N3, R] _
  refine At.anyS (.refl _) ?_
  refine op_neB (nxsf rfl rfl rfl) Try.underlying4 rfl rfl rfl ?_
  refine op_callA (Nx.agree (nxss rfl rfl rfl rfl)) (.cons rfl (.cons rfl .nil)) (signed_f (negB x != negB y) (div_lt (absW_lt hx))) Try.func107 rfl rfl (by simp) rfl ?_
  rintro v15 L15 ⟨rfl, rfl⟩
  change At _ _ _ [N4, N2, N3, R] _
  refine At.anyS (.refl _) ?_
  refine op_store (nxsl rfl rfl rfl rfl) sz24 rfl rfl rfl rfl rfl B4 (by simp) sel0 (fun N4 B4 => ?_)
  rw [setL_whole (by simp)] at B4
  refine At.sNil ?_
  refine At.norm (hk_2 ?_)
  refine At.ret (?_)
  refine At.sub (L' := [N4, R]) (.cons_cons _ (.cons _ (.cons _ (.cons_cons _ (.slnil))))) ?_
  refine At.ret1 (L1 := []) rfl (.cell rfl (res_agg (ds := u64s (wl (sgn (negB x != negB y) (absW x / absW y)))) ag24 B4 (by first | (rw [List.drop_zero, List.take_of_length_le (by first | (simp; done) | (simp; omega))]; done) | rfl) (by first | (simp; done) | (simp; omega)) mem0) .nil) (.cons _ (.refl _)) (.refl _) ?_
  exact ⟨rfl, rfl⟩
set_option maxRecDepth 100000 in
theorem WSmod_f {x y : Nat} (hx : x < WW) (hy : y < WW) : Fn Try.prog 24 #[wo x, wo y] [] [] (fun v L => v = wo (sgn (negB x) (modZ (absW x) (absW y))) ∧ L = []) := by
  refine Fn.enter (vs := [wo x, wo y]) Try.func24 rfl rfl rfl ?_
  intro E R hR
  change At _ _ E [R] _
  refine At.seq fun K1 hk_1 => ?_
  refine At.region ?_
  refine op_box (nxla rfl) rfl rfl rfl (fun N2 b2 B2 => ?_)
  change Blk N2 b2 _ (u64s (wl x)) at B2
  refine op_box (nxla rfl) rfl rfl rfl (fun N3 b3 B3 => ?_)
  change Blk N3 b3 _ (u64s (wl y)) at B3
  refine op_alloc (nxla rfl) ze24 rfl (fun N4 b4 B4 => ?_)
  change Blk N4 b4 _ [.int .u64 0, .int .u64 0, .int .u64 0, .int .u64 0] at B4
  refine At.opsNil ?_
  refine At.norm (hk_1 ?_)
  refine At.seq fun K2 hk_2 => ?_
  refine At.perm sel3 ?_
  refine At.perm sel2 ?_
  refine At.perm sel3 ?_
  refine At.perm sel3 ?_
  refine At.drawnS [N2, N3, R] [6,7,8] [] [0,2,5,1,3,4,6,7,8] (by kernel_rfl) (by kernel_rfl) (.cons _ (.refl _)) ?_
  refine op_loadAggB (ds := u64s (wl x)) (nxsf rfl rfl rfl) ag24 rfl B2 (by first | (rw [List.drop_zero, List.take_of_length_le (by first | (simp; done) | (simp; omega))]; done) | rfl) (by first | (simp; done) | (simp; omega)) mem0 rfl ?_
  refine op_loadAggB (ds := u64s (wl y)) (nxsf rfl rfl rfl) ag24 rfl B3 (by first | (rw [List.drop_zero, List.take_of_length_le (by first | (simp; done) | (simp; omega))]; done) | rfl) (by first | (simp; done) | (simp; omega)) mem1 rfl ?_
  refine op_loadAggB (ds := u64s (wl x)) (nxsf rfl rfl rfl) ag24 rfl B2 (by first | (rw [List.drop_zero, List.take_of_length_le (by first | (simp; done) | (simp; omega))]; done) | rfl) (by first | (simp; done) | (simp; omega)) mem0 rfl ?_
  refine op_callA (Nx.agree (nxsm rfl rfl rfl)) (.cons rfl .nil) (size0_f hx) Try.func108 rfl rfl (by simp) rfl ?_
  rintro v6 L6 ⟨rfl, rfl⟩
  change At _ _ _ [N4, N2, N3, R] _
  refine At.moreS (Lst := [N2, N3, R]) (Lst' := [N2, N3, R]) (.refl _) (.cons _ (.refl _)) ?_
  refine op_callA (Nx.agree (nxsm rfl rfl rfl)) (.cons rfl .nil) (size0_f hy) Try.func108 rfl rfl (by simp) rfl ?_
  rintro v8 L8 ⟨rfl, rfl⟩
  change At _ _ _ [N4, N2, N3, R] _
  refine At.moreS (Lst := [N2, N3, R]) (Lst' := [N2, N3, R]) (.refl _) (.cons _ (.refl _)) ?_
  refine op_callA (Nx.agree (nxsm rfl rfl rfl)) (.cons rfl (.cons rfl .nil)) (WMod_f (absW_lt hx) (absW_lt hy)) Try.func20 rfl rfl (by simp) rfl ?_
  rintro v9 L9 ⟨rfl, rfl⟩
  change At _ _ _ [N4, N2, N3, R] _
  refine At.moreS (Lst := [N2, N3, R]) (Lst' := [N2, N3, R]) (.refl _) (.cons _ (.refl _)) ?_
  refine op_callA (Nx.agree (nxss rfl rfl rfl rfl)) (.cons rfl .nil) (below0_f hx) Try.func109 rfl rfl (by simp) rfl ?_
  rintro v11 L11 ⟨rfl, rfl⟩
  change At _ _ _ [N4, N2, N3, R] _
  refine At.anyS (.refl _) ?_
  refine op_callA (Nx.agree (nxss rfl rfl rfl rfl)) (.cons rfl (.cons rfl .nil)) (signed_f (negB x) (modZ_lt (absW_lt hx))) Try.func107 rfl rfl (by simp) rfl ?_
  rintro v12 L12 ⟨rfl, rfl⟩
  change At _ _ _ [N4, N2, N3, R] _
  refine At.anyS (.refl _) ?_
  refine op_store (nxsl rfl rfl rfl rfl) sz24 rfl rfl rfl rfl rfl B4 (by simp) sel0 (fun N4 B4 => ?_)
  rw [setL_whole (by simp)] at B4
  refine At.sNil ?_
  refine At.norm (hk_2 ?_)
  refine At.ret (?_)
  refine At.sub (L' := [N4, R]) (.cons_cons _ (.cons _ (.cons _ (.cons_cons _ (.slnil))))) ?_
  refine At.ret1 (L1 := []) rfl (.cell rfl (res_agg (ds := u64s (wl (sgn (negB x) (modZ (absW x) (absW y))))) ag24 B4 (by first | (rw [List.drop_zero, List.take_of_length_le (by first | (simp; done) | (simp; omega))]; done) | rfl) (by first | (simp; done) | (simp; omega)) mem0) .nil) (.cons _ (.refl _)) (.refl _) ?_
  exact ⟨rfl, rfl⟩
end Go.Proofs.Ytefljbbpaideaaa
