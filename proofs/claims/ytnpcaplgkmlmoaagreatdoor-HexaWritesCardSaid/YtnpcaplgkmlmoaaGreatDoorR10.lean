/- Several texts in one: see the remarks ahead of each part. No condition but those told there. -/
import Derived.Test.YtnpcaplgkmlmoaaGreatDoorR7
import Derived.Stop.BytesEq
import Derived.Test.YtnpcaplgkmlmoaaGreatDoorR9
import Derived.Test.YtnpcaplgkmlmoaaGreatDoorR8
/- The engine, words compared. For whatever program. No condition. -/
namespace Go.Proofs.YtnpcaplgkmlmoaaGreatDoor
set_option linter.unusedVariables false
set_option linter.unusedSimpArgs false
open Go Go.RowKit
theorem all_range64 : ∀ (xs ys : List UInt64), xs.length = ys.length → ((List.range xs.length).all fun i => xs.getD i 0 == ys.getD i 0) = (xs == ys)
  | [], [], _ => rfl
  | x :: xs, y :: ys, h => by
    have ih := all_range64 xs ys (by simpa using h)
    rw [List.length_cons, List.range_succ_eq_map, List.all_cons, List.all_map]
    simp only [List.getD_cons_zero, Function.comp_def, List.getD_cons_succ, ih]
    simp [List.cons_beq_cons]
  | [], _ :: _, h => by simp at h
  | _ :: _, [], h => by simp at h
section
variable {P : Program}
theorem run_equalIn_words (w : World) (d : Nat) (t e : TypeId) (n : Nat) (ht : P.underlying t = some (.array n e)) (he : P.underlying e = some (.int .u64)) (hsz : ∀ w, (sizeOf e).run P w = .ok 1 w)
    (xs ys : List UInt64) (hx : xs.length = n) (hy : ys.length = n) :
    (Op.equalIn (d + 2) t (.agg (u64s xs).toArray) (.agg (u64s ys).toArray)).run P w = .ok (xs == ys) w := by
  rw [← all_range64 xs ys (hx.trans hy.symm), hx, List.range_eq_range', Op.equalIn]
  simp only [Sem.run_bind, Go.run_underlying ht, Result.andThen_ok, hsz, Std.Legacy.Range.forIn_eq_forIn_range', Std.Legacy.Range.size, Nat.sub_zero, Nat.add_sub_cancel, Nat.div_one]
  have hl : ∀ i ∈ List.range' 0 n 1, i < n := fun i hi => by simpa using (List.mem_range'_1.1 hi).2
  generalize List.range' 0 n 1 = l at hl ⊢
  induction l with
  | nil => simp
  | cons i l ih =>
    have hi : i < n := hl i (by simp)
    have px : (part e (u64s xs).toArray (i * 1)).run P w = .ok (.int .u64 ((xs.getD i 0).toNat : Int)) w := by
      simp [part, isAgg, Go.run_underlying he, u64s, vl, List.getD, List.getElem?_eq_getElem (show i < xs.length by omega)]
    have py : (part e (u64s ys).toArray (i * 1)).run P w = .ok (.int .u64 ((ys.getD i 0).toNat : Int)) w := by
      simp [part, isAgg, Go.run_underlying he, u64s, vl, List.getD, List.getElem?_eq_getElem (show i < ys.length by omega)]
    have pe : (Op.equalIn (d + 1) e (.int .u64 ((xs.getD i 0).toNat : Int)) (.int .u64 ((ys.getD i 0).toNat : Int))).run P w = .ok (xs.getD i 0 == ys.getD i 0) w := by
      rw [run_equalIn_int w d e .u64 .u64 _ _ he]
      congr 1
      rw [Bool.eq_iff_iff]
      simp [← UInt64.toNat_inj]
      omega
    simp only [List.forIn_cons, Sem.run_bind, px, py, pe, Result.andThen_ok, List.all_cons]
    cases hb : (xs.getD i 0 == ys.getD i 0)
    · simp
    · simp only [Bool.not_true, Bool.false_eq_true, if_false, Sem.run_pure, Result.andThen_ok, Bool.true_and]
      exact ih fun j hj => hl j (by simp [hj])
theorem eqGuard_agg {op : BinOp} {t : TypeId} {x y : Operand} {a b : Array Value} (h : P.eqGuardType P.depth t = false) (w : World) : (eqGuard op t x y (.agg a) (.agg b)).run P w = .ok () w := by
  unfold eqGuard
  by_cases ho : (!(op matches .eql | .neq)) = true <;> simp [ho, h]
variable {n : Nat} {l : List (Nat × Value)} {E : World} {L Ls : List Heaplet} {X Y : Act → World → Prop} {d : Nat} {t t' ty e : TypeId} {x y : Operand}
theorem op_eqW {a b : List UInt64} {k : Nat} {pos : _} {aft : _} {g : _} (s : NxF P n l E L Ls ⟨some d, .binOp .eql t x y t', ty, pos, aft, g⟩ X Y) (ht : aelt P t = some (k, e, 1)) (he : P.underlying e = some (.int .u64)) (hg : P.eqGuardType P.depth t = false) (hx : ev l x = some (.agg (u64s a).toArray)) (hy : ev l y = some (.agg (u64s b).toArray)) (ha : a.length = k) (hb : b.length = k) (hn : Nat.ble (d + 1) n = true) (h : At n ((d, .bool (decide (a = b))) :: l) E L Y) : At n l E L X := by
  obtain ⟨hu, i, hi, hsz⟩ := aelt_spec ht
  exact op_bin s hx hy (fun w => eqGuard_agg hg w) (fun w => by
    rw [run_eql_struct, run_equalIn_words w 9998 t e k hu he (fun w => by rw [run_sizeOf hi, hsz]) a b ha hb]
    simp only [Result.andThen_ok, show (a == b) = decide (a = b) from by rw [Bool.eq_iff_iff]; simp]) hn h
end
end Go.Proofs.YtnpcaplgkmlmoaaGreatDoor
/- Package word: products, quotients, with signs and without. No condition. -/
namespace Go.Proofs.YtnpcaplgkmlmoaaGreatDoor
set_option linter.unusedVariables false
set_option linter.unusedSimpArgs false
open Go Go.RowKit
theorem wl_eq_zero {y : Nat} (hy : y < WW) : wl y = [0, 0, 0, 0] ↔ y = 0 := by
  rw [← wl_zero]
  exact ⟨fun h => wl_inj hy WW_pos h, fun h => by rw [h]⟩
/-- What is left; 0 by 0. -/
def modZ (x y : Nat) : Nat := if y = 0 then 0 else x % y
def HW : Nat := 2 ^ 255
theorem WW_HW : WW = 2 * HW := rfl
/-- Is the signed value below 0? -/
def negB (x : Nat) : Bool := decide (HW ≤ x)
/-- A word, or less it. -/
def sgn (m : Bool) (x : Nat) : Nat := if m then WW - x else x
def absW (x : Nat) : Nat := sgn (negB x) x
theorem absW_lt {x : Nat} (hx : x < WW) : absW x < WW := by
  unfold absW sgn negB
  have := WW_HW
  have h0 : 0 < HW := Nat.pow_pos (by decide)
  split
  · rename_i h; have := of_decide_eq_true h; omega
  · exact hx
theorem absW_zero {y : Nat} (hy : y < WW) : absW y = 0 ↔ y = 0 := by
  unfold absW sgn negB
  have := WW_HW
  have h0 : 0 < HW := Nat.pow_pos (by decide)
  split
  · rename_i h; have := of_decide_eq_true h; omega
  · exact Iff.rfl
theorem copy_limbs {Q o k : Nat} (ho : o = 0) (hk : k = min (limbsOf Q).length 4) : ([Value.int .u64 0, .int .u64 0, .int .u64 0, .int .u64 0] : List Value).take o ++ (u64s (limbsOf Q)).take k ++ ([Value.int .u64 0, .int .u64 0, .int .u64 0, .int .u64 0] : List Value).drop (o + k) = u64s (wl Q) := by
  subst ho
  have e0 : ([Value.int .u64 0, .int .u64 0, .int .u64 0, .int .u64 0] : List Value) = u64s (List.replicate 4 0) := rfl
  have hk2 : (limbsOf Q).take k = (limbsOf Q).take 4 := by
    rcases Nat.lt_or_ge (limbsOf Q).length 4 with h | h
    · rw [List.take_of_length_le (by omega), List.take_of_length_le (by omega)]
    · rw [show k = 4 by omega]
  have hk4 : k ≤ 4 := by omega
  rw [e0, List.take_zero, List.nil_append, Nat.zero_add, u64s_takeR, u64s_drop, hk2, List.drop_replicate]
  have e1 : u64s ((limbsOf Q).take 4) ++ u64s (List.replicate (4 - k) 0) = u64s ((limbsOf Q).take 4 ++ List.replicate (4 - k) 0) := by simp [u64s]
  rw [e1]
  congr 1
  refine wl_of (by rw [List.length_append, List.length_take, List.length_replicate]; omega) ?_
  rw [v64_pad]
  have h := v64_take_lt (limbsOf Q) 4
  rcases Nat.lt_or_ge (limbsOf Q).length 4 with h4 | h4
  · rw [List.take_of_length_le (by omega), v64_limbsOf]
    have hlt := v64_lt (limbsOf Q)
    rw [v64_limbsOf] at hlt
    exact (Nat.mod_eq_of_lt (Nat.lt_of_lt_of_le hlt (Nat.pow_le_pow_right (by decide) (by omega : 64 * (limbsOf Q).length ≤ 256)))).symm
  · have e := v64_take_drop (limbsOf Q) h4
    rw [v64_limbsOf] at e
    conv => rhs; rw [e]
    rw [← WW_eq, Nat.add_mul_mod_self_left, Nat.mod_eq_of_lt (by rw [WW_eq]; exact h)]
set_option maxRecDepth 100000 in
theorem divide_f {N M : Heaplet} {ao bo : Option Addr} {n m ca cb : Nat} {a b : List UInt64} (ha : RSl N 1 ao n ca (u64s a)) (hb : RSl M 1 bo m cb (u64s b)) (hn : n ≤ 1000) (hm : m ≤ 1000) (h0 : 0 < v64 b) :
    Fn Tryz.prog 69 #[.slice ao n ca, .slice bo m cb] [] [N, M] (fun v L => v = .tuple #[wo (v64 a / v64 b), wo (v64 a % v64 b)] ∧ L = []) := by
  refine Fn.enter (vs := [.slice ao n ca, .slice bo m cb]) Tryz.func69 rfl rfl rfl ?_
  intro E R hR
  have ha := ha.le (hR N (by simp))
  have hb := hb.le (hR M (by simp))
  change At _ _ E [R] _
  refine At.seq fun K1 hk_1 => ?_
  refine At.region ?_
  refine op_alloc (nxla rfl) ze25 rfl (fun N4 b4 B4 => ?_)
  change Blk N4 b4 _ [.int .u64 0, .int .u64 0, .int .u64 0, .int .u64 0] at B4
  refine op_alloc (nxla rfl) ze25 rfl (fun N5 b5 B5 => ?_)
  change Blk N5 b5 _ [.int .u64 0, .int .u64 0, .int .u64 0, .int .u64 0] at B5
  refine At.opsNil ?_
  refine At.norm (hk_1 ?_)
  refine At.seq fun K2 hk_2 => ?_
  refine At.region ?_
  refine op_move (nxlf rfl) rfl rfl ?_
  refine op_move (nxlf rfl) rfl rfl ?_
  refine op_callA (nxla rfl) (.cons rfl (.cons rfl .nil)) (DivMod_f ha hb (by omega) (by omega) h0) Tryz.func79 rfl rfl (by simp) rfl ?_
  rintro v11 L11 ⟨Mq, pq, cq, Mr, pr, cr, rfl, rfl, sq, sr⟩
  change At _ _ _ [Mq, Mr, N5, N4, R] _
  refine op_move (nxlf rfl) rfl rfl ?_
  refine op_extract (nxlf rfl) rfl rfl rfl ?_
  refine op_extract (nxlf rfl) rfl rfl rfl ?_
  refine op_assign (nxlf rfl) rfl rfl ?_
  refine op_assign (nxlf rfl) rfl rfl ?_
  refine At.opsNil ?_
  refine At.norm (hk_2 ?_)
  refine At.seq fun K3 hk_3 => ?_
  refine At.region ?_
  refine op_sliceA (nxlf rfl) ae25 rfl .none .none .none (by omega) (by omega) (by omega) (by simp) rfl ?_
  refine op_move (nxlf rfl) rfl rfl ?_
  refine op_copyB (nxl rfl) se111 rfl rfl B4 sq (by first | exact mem0 | exact mem1 | exact mem2 | exact mem3 | exact mem4 | exact mem5 | exact mem6 | exact mem7 | exact mem8 | exact mem9) (by first | exact one_u8s _ | exact one_u64s _ | exact one_u32s _ | (intro u hu; simp at hu; subst hu; rfl)) (by simp <;> omega) sel3 rfl (fun N4 B4 => ?_)
  rw [copy_limbs rfl (by simp)] at B4
  refine At.opsNil ?_
  refine At.norm (hk_3 ?_)
  refine At.seq fun K4 hk_4 => ?_
  refine At.region ?_
  refine op_sliceA (nxlf rfl) ae25 rfl .none .none .none (by omega) (by omega) (by omega) (by simp) rfl ?_
  refine op_move (nxlf rfl) rfl rfl ?_
  refine op_copyB (nxl rfl) se111 rfl rfl B5 sr (by first | exact mem0 | exact mem1 | exact mem2 | exact mem3 | exact mem4 | exact mem5 | exact mem6 | exact mem7 | exact mem8 | exact mem9) (by first | exact one_u8s _ | exact one_u64s _ | exact one_u32s _ | (intro u hu; simp at hu; subst hu; rfl)) (by simp <;> omega) sel3 rfl (fun N5 B5 => ?_)
  rw [copy_limbs rfl (by simp)] at B5
  refine At.opsNil ?_
  refine At.norm (hk_4 ?_)
  refine At.seq fun K5 hk_5 => ?_
  refine At.region ?_
  refine op_loadAggB (ds := u64s (wl (v64 a / v64 b))) (nxlf rfl) ag25 rfl B4 (by first | (rw [List.drop_zero, List.take_of_length_le (by first | (simp; done) | (simp; omega))]; done) | rfl) (by first | (simp; done) | (simp; omega)) mem1 rfl ?_
  refine op_loadAggB (ds := u64s (wl (v64 a % v64 b))) (nxlf rfl) ag25 rfl B5 (by first | (rw [List.drop_zero, List.take_of_length_le (by first | (simp; done) | (simp; omega))]; done) | rfl) (by first | (simp; done) | (simp; omega)) mem0 rfl ?_
  refine op_store (nxl rfl) sz25 rfl rfl rfl rfl rfl B4 (by simp) sel1 (fun N4 B4 => ?_)
  rw [setL_whole (by simp)] at B4
  refine op_store (nxl rfl) sz25 rfl rfl rfl rfl rfl B5 (by simp) sel1 (fun N5 B5 => ?_)
  rw [setL_whole (by simp)] at B5
  refine At.opsNil ?_
  refine At.norm (hk_5 ?_)
  refine At.ret (?_)
  refine At.sub (L' := [N5, N4, R]) (.cons_cons _ (.cons_cons _ (.cons _ (.cons _ (.cons_cons _ (.slnil)))))) ?_
  refine At.perm sel2 ?_
  refine At.perm sel1 ?_
  refine At.perm sel2 ?_
  refine At.retN (L1 := []) rfl (.cell rfl (res_agg (ds := u64s (wl (v64 a / v64 b))) ag25 B4 (by first | (rw [List.drop_zero, List.take_of_length_le (by first | (simp; done) | (simp; omega))]; done) | rfl) (by first | (simp; done) | (simp; omega)) mem0) (.cell rfl (res_agg (ds := u64s (wl (v64 a % v64 b))) ag25 B5 (by first | (rw [List.drop_zero, List.take_of_length_le (by first | (simp; done) | (simp; omega))]; done) | rfl) (by first | (simp; done) | (simp; omega)) mem1) .nil)) rfl (.cons _ (.cons _ (.refl _))) (.refl _) ?_
  exact ⟨rfl, rfl⟩
set_option maxRecDepth 100000 in
theorem divmod_0 {x : Nat} : Fn Tryz.prog 43 #[wo x, wo 0] [] [] (fun v L => v = .tuple #[wo 0, wo 0] ∧ L = []) := by
  have h0 : wl 0 = [0, 0, 0, 0] := wl_zero
  refine Fn.enter (vs := [wo x, wo 0]) Tryz.func43 rfl rfl rfl ?_
  intro E R hR
  change At _ _ E [R] _
  refine At.seq fun K1 hk_1 => ?_
  refine At.region ?_
  refine op_box (nxla rfl) rfl rfl rfl (fun N2 b2 B2 => ?_)
  refine op_box (nxla rfl) rfl rfl rfl (fun N3 b3 B3 => ?_)
  change Blk N3 b3 _ (u64s (wl 0)) at B3
  refine op_alloc (nxla rfl) ze25 rfl (fun N4 b4 B4 => ?_)
  change Blk N4 b4 _ [.int .u64 0, .int .u64 0, .int .u64 0, .int .u64 0] at B4
  refine op_alloc (nxla rfl) ze25 rfl (fun N5 b5 B5 => ?_)
  change Blk N5 b5 _ [.int .u64 0, .int .u64 0, .int .u64 0, .int .u64 0] at B5
  refine At.opsNil ?_
  refine At.norm (hk_1 ?_)
  refine At.seq fun K2 hk_2 => ?_
  refine At.seq fun K3 hk_3 => ?_
  refine At.region ?_
  refine op_loadAggB (ds := u64s (wl 0)) (nxlf rfl) ag25 rfl B3 (by first | (rw [List.drop_zero, List.take_of_length_le (by first | (simp; done) | (simp; omega))]; done) | rfl) (by first | (simp; done) | (simp; omega)) mem2 rfl ?_
  refine op_buildA (out := [.int .u64 0, .int .u64 0, .int .u64 0, .int .u64 0]) (nxlf rfl) ze25 ae25 .nil rfl rfl ?_
  refine op_eqW (a := wl 0) (b := [0, 0, 0, 0]) (nxlf rfl) ae25 Tryz.underlying23 (by kernel_rfl) rfl rfl rfl rfl rfl ?_
  refine At.opsNil ?_
  refine At.norm (hk_3 ?_)
  refine At.condP rfl (fun c8 => ?_) (fun c8 => ?_)
  · refine At.seq fun K4 hk_4 => ?_
    refine At.region ?_
    refine op_buildA (out := [.int .u64 0, .int .u64 0, .int .u64 0, .int .u64 0]) (nxlf rfl) ze25 ae25 .nil rfl rfl ?_
    refine op_buildA (out := [.int .u64 0, .int .u64 0, .int .u64 0, .int .u64 0]) (nxlf rfl) ze25 ae25 .nil rfl rfl ?_
    refine op_store (nxl rfl) sz25 rfl rfl rfl rfl rfl B4 (by simp) sel1 (fun N4 B4 => ?_)
    rw [setL_whole (by simp)] at B4
    refine op_store (nxl rfl) sz25 rfl rfl rfl rfl rfl B5 (by simp) sel1 (fun N5 B5 => ?_)
    rw [setL_whole (by simp)] at B5
    refine At.opsNil ?_
    refine At.norm (hk_4 ?_)
    refine At.ret (At.thenRet (?_))
    refine At.sub (L' := [N5, N4, R]) (.cons_cons _ (.cons_cons _ (.cons _ (.cons _ (.cons_cons _ (.slnil)))))) ?_
    refine At.perm sel2 ?_
    refine At.perm sel1 ?_
    refine At.perm sel2 ?_
    refine At.retN (L1 := []) rfl (.cell rfl (res_agg (ds := [_, _, _, _]) ag25 B4 rfl rfl mem0) (.cell rfl (res_agg (ds := [_, _, _, _]) ag25 B5 rfl rfl mem1) .nil)) rfl (.cons _ (.cons _ (.refl _))) (.refl _) ?_
    exact ⟨by rw [wo_zero], rfl⟩
  · exact absurd h0 c8
set_option maxRecDepth 100000 in
theorem divmod_f {x y : Nat} (hx : x < WW) (hy : y < WW) (hp : 0 < y) : Fn Tryz.prog 43 #[wo x, wo y] [] [] (fun v L => v = .tuple #[wo (x / y), wo (x % y)] ∧ L = []) := by
  have hvx := v64_wl_lt hx
  have hvy := v64_wl_lt hy
  have h0 := wl_eq_zero hy
  refine Fn.enter (vs := [wo x, wo y]) Tryz.func43 rfl rfl rfl ?_
  intro E R hR
  change At _ _ E [R] _
  refine At.seq fun K1 hk_1 => ?_
  refine At.region ?_
  refine op_box (nxla rfl) rfl rfl rfl (fun N2 b2 B2 => ?_)
  change Blk N2 b2 _ (u64s (wl x)) at B2
  refine op_box (nxla rfl) rfl rfl rfl (fun N3 b3 B3 => ?_)
  change Blk N3 b3 _ (u64s (wl y)) at B3
  refine op_alloc (nxla rfl) ze25 rfl (fun N4 b4 B4 => ?_)
  change Blk N4 b4 _ [.int .u64 0, .int .u64 0, .int .u64 0, .int .u64 0] at B4
  refine op_alloc (nxla rfl) ze25 rfl (fun N5 b5 B5 => ?_)
  change Blk N5 b5 _ [.int .u64 0, .int .u64 0, .int .u64 0, .int .u64 0] at B5
  refine At.opsNil ?_
  refine At.norm (hk_1 ?_)
  refine At.seq fun K2 hk_2 => ?_
  refine At.seq fun K3 hk_3 => ?_
  refine At.region ?_
  refine op_loadAggB (ds := u64s (wl y)) (nxlf rfl) ag25 rfl B3 (by first | (rw [List.drop_zero, List.take_of_length_le (by first | (simp; done) | (simp; omega))]; done) | rfl) (by first | (simp; done) | (simp; omega)) mem2 rfl ?_
  refine op_buildA (out := [.int .u64 0, .int .u64 0, .int .u64 0, .int .u64 0]) (nxlf rfl) ze25 ae25 .nil rfl rfl ?_
  refine op_eqW (a := wl y) (b := [0, 0, 0, 0]) (nxlf rfl) ae25 Tryz.underlying23 (by kernel_rfl) rfl rfl rfl rfl rfl ?_
  refine At.opsNil ?_
  refine At.norm (hk_3 ?_)
  refine At.condP rfl (fun c8 => ?_) (fun c8 => ?_)
  · exact absurd (h0.1 c8) (by omega)
  · refine At.skip ?_
    refine At.norm (hk_2 ?_)
    refine At.seq fun K4 hk_4 => ?_
    refine At.perm sel4 ?_
    refine At.perm sel3 ?_
    refine At.perm sel4 ?_
    refine At.perm sel4 ?_
    refine At.perm sel4 ?_
    refine At.drawnS [N2, N3, R] [2,5,6] [] [0,1,2,3,4,5,6] (by kernel_rfl) (by kernel_rfl) (.cons _ (.cons _ (.refl _))) ?_
    have s2 := arr_part B2 (lo := 0) (hi := 4) (c := 4) (by omega) (by simp) (by omega) (by omega)
    have s3 := arr_part B3 (lo := 0) (hi := 4) (c := 4) (by omega) (by simp) (by omega) (by omega)
    change RSl N2 1 _ (4 - 0) (4 - 0) (u64s (wl x)) at s2
    change RSl N3 1 _ (4 - 0) (4 - 0) (u64s (wl y)) at s3
    refine op_sliceA (nxsf rfl rfl rfl) ae25 rfl .none .none .none (by omega) (by omega) (by omega) (by simp) rfl ?_
    refine op_sliceA (nxsf rfl rfl rfl) ae25 rfl .none .none .none (by omega) (by omega) (by omega) (by simp) rfl ?_
    refine op_callA (Nx.agree (nxss rfl rfl rfl rfl)) (.cons rfl (.cons rfl .nil)) (divide_f s2 s3 (by omega) (by omega) (by rw [hvy]; exact hp)) Tryz.func69 rfl rfl (by simp) rfl ?_
    rintro v13 L13 ⟨rfl, rfl⟩
    change At _ _ _ [N5, N4, N2, N3, R] _
    rw [hvx, hvy]
    refine At.anyS (.refl _) ?_
    refine op_extract (nxsf rfl rfl rfl) rfl rfl rfl ?_
    refine op_extract (nxsf rfl rfl rfl) rfl rfl rfl ?_
    refine op_store (nxss rfl rfl rfl rfl) sz25 rfl rfl rfl rfl rfl B4 (by simp) sel1 (fun N4 B4 => ?_)
    rw [setL_whole (by simp)] at B4
    refine At.anyS (.refl _) ?_
    refine op_store (nxsl rfl rfl rfl rfl) sz25 rfl rfl rfl rfl rfl B5 (by simp) sel1 (fun N5 B5 => ?_)
    rw [setL_whole (by simp)] at B5
    refine At.sNil ?_
    refine At.norm (hk_4 ?_)
    refine At.ret (?_)
    refine At.sub (L' := [N5, N4, R]) (.cons_cons _ (.cons_cons _ (.cons _ (.cons _ (.cons_cons _ (.slnil)))))) ?_
    refine At.perm sel2 ?_
    refine At.perm sel1 ?_
    refine At.perm sel2 ?_
    refine At.retN (L1 := []) rfl (.cell rfl (res_agg (ds := u64s (wl (x / y))) ag25 B4 (by first | (rw [List.drop_zero, List.take_of_length_le (by first | (simp; done) | (simp; omega))]; done) | rfl) (by first | (simp; done) | (simp; omega)) mem0) (.cell rfl (res_agg (ds := u64s (wl (x % y))) ag25 B5 (by first | (rw [List.drop_zero, List.take_of_length_le (by first | (simp; done) | (simp; omega))]; done) | rfl) (by first | (simp; done) | (simp; omega)) mem1) .nil)) rfl (.cons _ (.cons _ (.refl _))) (.refl _) ?_
    exact ⟨rfl, rfl⟩
theorem divmod_any {x y : Nat} (hx : x < WW) (hy : y < WW) : Fn Tryz.prog 43 #[wo x, wo y] [] [] (fun v L => v = .tuple #[wo (x / y), wo (modZ x y)] ∧ L = []) := by
  rcases Nat.eq_zero_or_pos y with h | h
  · subst h
    rw [Nat.div_zero, modZ, if_pos rfl]
    exact divmod_0
  · rw [modZ, if_neg (by omega)]
    exact divmod_f hx hy h
set_option maxRecDepth 100000 in
theorem WDiv_f {x y : Nat} (hx : x < WW) (hy : y < WW) : Fn Tryz.prog 25 #[wo x, wo y] [] [] (fun v L => v = wo (x / y) ∧ L = []) := by
  refine Fn.enter (vs := [wo x, wo y]) Tryz.func25 rfl rfl rfl ?_
  intro E R hR
  change At _ _ E [R] _
  refine At.seq fun K1 hk_1 => ?_
  refine At.region ?_
  refine op_box (nxla rfl) rfl rfl rfl (fun N2 b2 B2 => ?_)
  change Blk N2 b2 _ (u64s (wl x)) at B2
  refine op_box (nxla rfl) rfl rfl rfl (fun N3 b3 B3 => ?_)
  change Blk N3 b3 _ (u64s (wl y)) at B3
  refine op_alloc (nxla rfl) ze25 rfl (fun N4 b4 B4 => ?_)
  change Blk N4 b4 _ [.int .u64 0, .int .u64 0, .int .u64 0, .int .u64 0] at B4
  refine At.opsNil ?_
  refine At.norm (hk_1 ?_)
  refine At.seq fun K2 hk_2 => ?_
  refine At.region ?_
  refine op_loadAggB (ds := u64s (wl x)) (nxlf rfl) ag25 rfl B2 (by first | (rw [List.drop_zero, List.take_of_length_le (by first | (simp; done) | (simp; omega))]; done) | rfl) (by first | (simp; done) | (simp; omega)) mem2 rfl ?_
  refine op_loadAggB (ds := u64s (wl y)) (nxlf rfl) ag25 rfl B3 (by first | (rw [List.drop_zero, List.take_of_length_le (by first | (simp; done) | (simp; omega))]; done) | rfl) (by first | (simp; done) | (simp; omega)) mem1 rfl ?_
  refine op_callA (nxla rfl) (.cons rfl (.cons rfl .nil)) (divmod_any hx hy) Tryz.func43 rfl rfl (by simp) rfl ?_
  rintro v10 L10 ⟨rfl, rfl⟩
  change At _ _ _ [N4, N3, N2, R] _
  refine op_move (nxlf rfl) rfl rfl ?_
  refine op_extract (nxlf rfl) rfl rfl rfl ?_
  refine op_extract (nxlf rfl) rfl rfl rfl ?_
  refine op_alloc (nxla rfl) ze25 rfl (fun N5 b5 B5 => ?_)
  change Blk N5 b5 _ [.int .u64 0, .int .u64 0, .int .u64 0, .int .u64 0] at B5
  refine op_alloc (nxla rfl) ze25 rfl (fun N6 b6 B6 => ?_)
  change Blk N6 b6 _ [.int .u64 0, .int .u64 0, .int .u64 0, .int .u64 0] at B6
  refine op_store (nxl rfl) sz25 rfl rfl rfl rfl rfl B5 (by simp) sel1 (fun N5 B5 => ?_)
  rw [setL_whole (by simp)] at B5
  refine op_store (nxl rfl) sz25 rfl rfl rfl rfl rfl B6 (by simp) sel1 (fun N6 B6 => ?_)
  rw [setL_whole (by simp)] at B6
  refine At.opsNil ?_
  refine At.norm (hk_2 ?_)
  refine At.seq fun K3 hk_3 => ?_
  refine At.region ?_
  refine op_loadAggB (ds := u64s (wl (x / y))) (nxlf rfl) ag25 rfl B5 (by first | (rw [List.drop_zero, List.take_of_length_le (by first | (simp; done) | (simp; omega))]; done) | rfl) (by first | (simp; done) | (simp; omega)) mem1 rfl ?_
  refine op_store (nxl rfl) sz25 rfl rfl rfl rfl rfl B4 (by simp) sel2 (fun N4 B4 => ?_)
  rw [setL_whole (by simp)] at B4
  refine At.opsNil ?_
  refine At.norm (hk_3 ?_)
  refine At.ret (?_)
  refine At.sub (L' := [N4, R]) (.cons_cons _ (.cons _ (.cons _ (.cons _ (.cons _ (.cons_cons _ (.slnil))))))) ?_
  refine At.ret1 (L1 := []) rfl (.cell rfl (res_agg (ds := u64s (wl (x / y))) ag25 B4 (by first | (rw [List.drop_zero, List.take_of_length_le (by first | (simp; done) | (simp; omega))]; done) | rfl) (by first | (simp; done) | (simp; omega)) mem0) .nil) (.cons _ (.refl _)) (.refl _) ?_
  exact ⟨rfl, rfl⟩
set_option maxRecDepth 100000 in
theorem WMod_f {x y : Nat} (hx : x < WW) (hy : y < WW) : Fn Tryz.prog 24 #[wo x, wo y] [] [] (fun v L => v = wo (modZ x y) ∧ L = []) := by
  refine Fn.enter (vs := [wo x, wo y]) Tryz.func24 rfl rfl rfl ?_
  intro E R hR
  change At _ _ E [R] _
  refine At.seq fun K1 hk_1 => ?_
  refine At.region ?_
  refine op_box (nxla rfl) rfl rfl rfl (fun N2 b2 B2 => ?_)
  change Blk N2 b2 _ (u64s (wl x)) at B2
  refine op_box (nxla rfl) rfl rfl rfl (fun N3 b3 B3 => ?_)
  change Blk N3 b3 _ (u64s (wl y)) at B3
  refine op_alloc (nxla rfl) ze25 rfl (fun N4 b4 B4 => ?_)
  change Blk N4 b4 _ [.int .u64 0, .int .u64 0, .int .u64 0, .int .u64 0] at B4
  refine At.opsNil ?_
  refine At.norm (hk_1 ?_)
  refine At.seq fun K2 hk_2 => ?_
  refine At.region ?_
  refine op_loadAggB (ds := u64s (wl x)) (nxlf rfl) ag25 rfl B2 (by first | (rw [List.drop_zero, List.take_of_length_le (by first | (simp; done) | (simp; omega))]; done) | rfl) (by first | (simp; done) | (simp; omega)) mem2 rfl ?_
  refine op_loadAggB (ds := u64s (wl y)) (nxlf rfl) ag25 rfl B3 (by first | (rw [List.drop_zero, List.take_of_length_le (by first | (simp; done) | (simp; omega))]; done) | rfl) (by first | (simp; done) | (simp; omega)) mem1 rfl ?_
  refine op_callA (nxla rfl) (.cons rfl (.cons rfl .nil)) (divmod_any hx hy) Tryz.func43 rfl rfl (by simp) rfl ?_
  rintro v10 L10 ⟨rfl, rfl⟩
  change At _ _ _ [N4, N3, N2, R] _
  refine op_move (nxlf rfl) rfl rfl ?_
  refine op_extract (nxlf rfl) rfl rfl rfl ?_
  refine op_extract (nxlf rfl) rfl rfl rfl ?_
  refine op_alloc (nxla rfl) ze25 rfl (fun N5 b5 B5 => ?_)
  change Blk N5 b5 _ [.int .u64 0, .int .u64 0, .int .u64 0, .int .u64 0] at B5
  refine op_alloc (nxla rfl) ze25 rfl (fun N6 b6 B6 => ?_)
  change Blk N6 b6 _ [.int .u64 0, .int .u64 0, .int .u64 0, .int .u64 0] at B6
  refine op_store (nxl rfl) sz25 rfl rfl rfl rfl rfl B5 (by simp) sel1 (fun N5 B5 => ?_)
  rw [setL_whole (by simp)] at B5
  refine op_store (nxl rfl) sz25 rfl rfl rfl rfl rfl B6 (by simp) sel1 (fun N6 B6 => ?_)
  rw [setL_whole (by simp)] at B6
  refine At.opsNil ?_
  refine At.norm (hk_2 ?_)
  refine At.seq fun K3 hk_3 => ?_
  refine At.region ?_
  refine op_loadAggB (ds := u64s (wl (modZ x y))) (nxlf rfl) ag25 rfl B6 (by first | (rw [List.drop_zero, List.take_of_length_le (by first | (simp; done) | (simp; omega))]; done) | rfl) (by first | (simp; done) | (simp; omega)) mem0 rfl ?_
  refine op_store (nxl rfl) sz25 rfl rfl rfl rfl rfl B4 (by simp) sel2 (fun N4 B4 => ?_)
  rw [setL_whole (by simp)] at B4
  refine At.opsNil ?_
  refine At.norm (hk_3 ?_)
  refine At.ret (?_)
  refine At.sub (L' := [N4, R]) (.cons_cons _ (.cons _ (.cons _ (.cons _ (.cons _ (.cons_cons _ (.slnil))))))) ?_
  refine At.ret1 (L1 := []) rfl (.cell rfl (res_agg (ds := u64s (wl (modZ x y))) ag25 B4 (by first | (rw [List.drop_zero, List.take_of_length_le (by first | (simp; done) | (simp; omega))]; done) | rfl) (by first | (simp; done) | (simp; omega)) mem0) .nil) (.cons _ (.refl _)) (.refl _) ?_
  exact ⟨rfl, rfl⟩
theorem top_limb {x : Nat} (hx : x < WW) : (shr64 ((wl x).getD 3 0) 63).toNat = x / HW := by
  have h := limb_at (wl x) 3
  rw [v64_wl_lt hx] at h
  rw [shr64_nat, ← h]
  have h2 : x / 2 ^ (64 * 3) < 2 ^ 64 := by
    rw [Nat.div_lt_iff_lt_mul (Nat.pow_pos (by decide)), ← Nat.pow_add]; exact hx
  rw [Nat.mod_eq_of_lt h2, Nat.div_div_eq_div_mul, ← Nat.pow_add]
  rfl
theorem neg_iff {x : Nat} (hx : x < WW) : decide (((shr64 ((wl x).getD 3 0) 63).toNat : Int) = 1) = negB x := by
  rw [top_limb hx, negB, decide_eq_decide]
  have h1 := WW_HW
  have h0 : 0 < HW := Nat.pow_pos (by decide)
  have h2 : x / HW < 2 := by rw [Nat.div_lt_iff_lt_mul h0]; omega
  have h3 : 1 ≤ x / HW ↔ HW ≤ x := by rw [Nat.le_div_iff_mul_le h0, Nat.one_mul]
  generalize x / HW = z at *
  omega
theorem div_lt {x y : Nat} (hx : x < WW) : x / y < WW := Nat.lt_of_le_of_lt (Nat.div_le_self _ _) hx
theorem modZ_lt {x y : Nat} (hx : x < WW) : modZ x y < WW := by
  unfold modZ
  split
  · exact WW_pos
  · exact Nat.lt_of_le_of_lt (Nat.mod_le _ _) hx
end Go.Proofs.YtnpcaplgkmlmoaaGreatDoor
/- Package nat: forms, orders, bits, sums, differences, products, quotients. Condition: numbers of at most 2^38 bytes. -/
namespace Go.Proofs.YtnpcaplgkmlmoaaGreatDoor
set_option linter.unusedVariables false
set_option linter.unusedSimpArgs false
open Go Go.RowKit
/-- A number's bytes in new memory. -/
def BytesP (V : Nat) (v : Value) (L : List Heaplet) : Prop :=
  ∃ M a c, v = .slice a (bytesOf V).length c ∧ L = [M] ∧ Row M 5 1 a (bytesOf V).length c (u8s (bytesOf V))
theorem limbs_be_len (l : List UInt8) : (limbsOf (be l)).length ≤ l.length := by
  rw [length_limbsOf]
  have h := be_lt l
  have h2 : bitLen (be l) ≤ 8 * l.length := bitLen_le.2 (by rw [Nat.pow_mul]; exact h)
  omega
theorem limbs_zero {V : Nat} : (limbsOf V).length = 0 ↔ V = 0 := by
  rw [length_limbsOf]
  constructor
  · intro h
    rcases Nat.eq_zero_or_pos V with h0 | h0
    · exact h0
    · have := bitLen_pos h0; omega
  · rintro rfl; rfl
theorem limbs_le_of {V n : Nat} (h : V < 2 ^ (64 * n)) : (limbsOf V).length ≤ n := by rw [length_limbsOf]; exact limbLen_le.2 h
section
variable {N M : Heaplet} {ao bo : Option Addr} {n m ca cb : Nat} {a b : List UInt8}
def SubP (A B : Nat) (v : Value) (L : List Heaplet) : Prop :=
  ∃ M p c, v = .tuple #[.slice p (bytesOf (A - B)).length c, .bool (decide (B ≤ A))] ∧ L = [M] ∧ Row M 5 1 p (bytesOf (A - B)).length c (u8s (bytesOf (A - B)))
theorem cmpN_neg {x y : Nat} : cmpN x y < 0 ↔ x < y := by
  unfold cmpN
  split
  · omega
  · split <;> omega
def DivModP (A B : Nat) (v : Value) (L : List Heaplet) : Prop :=
  ∃ M1 p1 c1 M2 p2 c2, v = .tuple #[.slice p1 (bytesOf (A / B)).length c1, .slice p2 (bytesOf (A % B)).length c2, .bool true] ∧ L = [M1, M2] ∧ Row M1 5 1 p1 (bytesOf (A / B)).length c1 (u8s (bytesOf (A / B))) ∧ Row M2 5 1 p2 (bytesOf (A % B)).length c2 (u8s (bytesOf (A % B)))
end
end Go.Proofs.YtnpcaplgkmlmoaaGreatDoor
/- nat.ModExp: powers modulo a number. Condition: numbers of at most 2^34 bytes. -/
namespace Go.Proofs.YtnpcaplgkmlmoaaGreatDoor
set_option linter.unusedVariables false
set_option linter.unusedSimpArgs false
open Go Go.RowKit
theorem Blk.one {N : Heaplet} {b : Nat} {e : TypeId} {v : Value} (h : Blk N b e [v]) : RSl N 1 (some ⟨b, 0, none⟩) 1 1 [v] :=
  ⟨rfl, Nat.le_refl _, by decide, fun _ => ⟨b, 0, rfl, h.rng⟩⟩
section
variable {N M Nb Nm : Heaplet} {ao bo mo : Option Addr} {n m nm ca cb cm bb : Nat} {e : TypeId} {a b l : List UInt64}
end
/-- One bit more of the exponent. -/
theorem pow_bit {b E m j : Nat} (hj : 0 < j) : b ^ (E / 2 ^ (j - 1)) % m = (b ^ (E / 2 ^ j) % m * (b ^ (E / 2 ^ j) % m) % m) * (if E / 2 ^ (j - 1) % 2 = 1 then b % m else 1) % m := by
  have e : E / 2 ^ j = E / 2 ^ (j - 1) / 2 := by rw [Nat.div_div_eq_div_mul, ← Nat.pow_succ, show (j - 1).succ = j by omega]
  rw [e]
  generalize E / 2 ^ (j - 1) = q
  have h := Nat.div_add_mod q 2
  have h2 : q % 2 < 2 := Nat.mod_lt _ (by decide)
  split
  · rename_i h1
    conv => lhs; rw [← h, h1, Nat.pow_add, Nat.pow_mul, Nat.pow_one]
    rw [Nat.mul_mod_mod, Nat.mod_mul_mod, Nat.pow_right_comm, Nat.pow_two, Nat.mul_mod (b ^ (q / 2) * b ^ (q / 2)) b, Nat.mul_mod (b ^ (q / 2)) (b ^ (q / 2)), ← Nat.mul_mod _ b]
  · rename_i h1
    conv => lhs; rw [← h, show q % 2 = 0 by omega, Nat.add_zero, Nat.pow_mul, Nat.pow_right_comm, Nat.pow_two]
    rw [Nat.mul_one, Nat.mod_mod, ← Nat.mul_mod]
section
variable {N M Nm : Heaplet} {ao bo mo : Option Addr} {n m nm ca cb cm : Nat} {a b l : List UInt8}
end
end Go.Proofs.YtnpcaplgkmlmoaaGreatDoor
/- Package word: powers. No condition. -/
namespace Go.Proofs.YtnpcaplgkmlmoaaGreatDoor
set_option linter.unusedVariables false
set_option linter.unusedSimpArgs false
open Go Go.RowKit
theorem WBits_w {x : Nat} (hx : x < WW) : Fn Tryz.prog 41 #[wo x] [] [] (fun v L => v = .int .i64 (bitLen x : Nat) ∧ L = []) := by
  obtain ⟨a, b, c, d, h⟩ := four (length_wl x)
  have hv := v64_wl_lt hx
  rw [h] at hv
  have := WBits_f a b c d
  rw [hv] at this
  have e : wo x = .agg #[.int .u64 (a.toNat : Int), .int .u64 (b.toNat : Int), .int .u64 (c.toNat : Int), .int .u64 (d.toNat : Int)] := by rw [wo, h]; rfl
  rw [e]
  exact this
end Go.Proofs.YtnpcaplgkmlmoaaGreatDoor
/- Package word: all bits turned, order. No condition. -/
namespace Go.Proofs.YtnpcaplgkmlmoaaGreatDoor
set_option linter.unusedVariables false
set_option linter.unusedSimpArgs false
open Go Go.RowKit
theorem not_round {w a : List UInt64} {k : Nat} (hw : w.length = k) (hv : v64 w + v64 (a.take k) + 1 = 2 ^ (64 * k)) :
    v64 (w ++ [~~~(a.getD k 0)]) + v64 (a.take (k + 1)) + 1 = 2 ^ (64 * (k + 1)) := by
  have h : (~~~(a.getD k 0)).toNat + (a.getD k 0).toNat + 1 = 18446744073709551616 := by
    have h1 := UInt64.toNat_not (a.getD k 0)
    have h2 := (a.getD k 0).toNat_lt
    have h3 : UInt64.size = 18446744073709551616 := rfl
    omega
  rw [v64_snoc, hw, v64_take_succD, pow64]
  have h2 := congrArg (2 ^ (64 * k) * ·) h
  simp only [Nat.mul_add, Nat.mul_one] at h2
  generalize (~~~(a.getD k 0)).toNat = s at *
  generalize (a.getD k 0).toNat = t at *
  omega
end Go.Proofs.YtnpcaplgkmlmoaaGreatDoor
/- Plain laws on numbers in digits of 32 bits (out of those on limbs, by a program). No condition. -/
namespace Go.Proofs.YtnpcaplgkmlmoaaGreatDoor
set_option linter.unusedVariables false
set_option linter.unusedSimpArgs false
theorem shr32_nat (x : UInt32) (s : Nat) : (shr32 x s).toNat = x.toNat / 2 ^ s := by
  rw [shr32, UInt32.toNat_ofNat', Nat.mod_eq_of_lt (Nat.lt_of_le_of_lt (Nat.div_le_self _ _) x.toNat_lt)]
theorem or_set32 {a : List UInt32} {q s w x : Nat} (hq : q < a.length) (hs : v32 a < 2 ^ (32 * q + s)) (hx : x < 2 ^ w) (hw : s + w ≤ 32) :
    v32 (a.set q (a.getD q 0 ||| UInt32.ofNat (x * 2 ^ s))) = v32 a + x * 2 ^ (32 * q + s) := by
  have hset := v32_set (a := a) (i := q) (y := a.getD q 0 ||| UInt32.ofNat (x * 2 ^ s)) hq
  have hdig := dig_v32 hq
  have hL : a[q].toNat < 2 ^ s := by
    rw [← hdig]
    refine Nat.lt_of_le_of_lt (Nat.mod_le _ _) ?_
    rw [Nat.div_lt_iff_lt_mul (Nat.pow_pos (by decide)), ← Nat.pow_add]
    rwa [Nat.add_comm s]
  have hc : x * 2 ^ s < 2 ^ 32 := by
    refine Nat.lt_of_lt_of_le (Nat.mul_lt_mul_of_pos_right hx (Nat.pow_pos (by decide))) ?_
    rw [← Nat.pow_add]
    exact Nat.pow_le_pow_right (by decide) (by omega)
  have hor : (a.getD q 0 ||| UInt32.ofNat (x * 2 ^ s)).toNat = a[q].toNat + x * 2 ^ s := by
    rw [List.getD_eq_getElem?_getD, List.getElem?_eq_getElem hq, Option.getD_some, UInt32.toNat_or, UInt32.toNat_ofNat', Nat.mod_eq_of_lt hc, Nat.or_comm, nat_join s _ _ (Nat.mul_mod_left _ _) hL, Nat.add_comm]
  rw [hor, Nat.add_mul, Nat.mul_assoc, ← Nat.pow_add, Nat.add_comm s] at hset
  omega
theorem v32_snoc (w : List UInt32) (x : UInt32) : v32 (w ++ [x]) = v32 w + 2 ^ (32 * w.length) * x.toNat := by
  rw [v32_append]
  simp only [v32, n32, val, List.map_cons, List.map_nil, Nat.mul_zero, Nat.add_zero]
theorem v32_take_all {l : List UInt32} {k : Nat} (h : l.length ≤ k) : v32 (l.take k) = v32 l := by rw [List.take_of_length_le h]
theorem v32_take_succD (l : List UInt32) (k : Nat) : v32 (l.take (k + 1)) = v32 (l.take k) + 2 ^ (32 * k) * (l.getD k 0).toNat := by
  rcases Nat.lt_or_ge k l.length with h | h
  · rw [v32_take_succ h, Nat.mul_comm]
  · rw [v32_take_all h, v32_take_all (by omega), List.getD_eq_getElem?_getD, List.getElem?_eq_none h]
    simp
theorem pow32 (k : Nat) : (2 : Nat) ^ (32 * (k + 1)) = 2 ^ (32 * k) * 4294967296 := by rw [show 32 * (k + 1) = 32 * k + 32 by omega, Nat.pow_add]
theorem v32_setD {p : List UInt32} {j : Nat} {y : UInt32} (h : j < p.length) : v32 (p.set j y) + (p.getD j 0).toNat * 2 ^ (32 * j) = v32 p + y.toNat * 2 ^ (32 * j) := by
  have := v32_set (y := y) h
  rwa [List.getD_eq_getElem?_getD, List.getElem?_eq_getElem h]
theorem digs_mono {A B : Nat} (h : A ≤ B) : (digsOf A).length ≤ (digsOf B).length := by
  rw [length_digsOf, length_digsOf]
  have := bitLen_mono h
  omega
theorem v32_split {l : List UInt32} {j : Nat} (h : j < l.length) : v32 l = v32 (l.take j) + 2 ^ (32 * j) * ((l.getD j 0).toNat + 4294967296 * v32 (l.drop (j + 1))) := by
  have e : l = l.take (j + 1) ++ l.drop (j + 1) := (List.take_append_drop _ _).symm
  conv => lhs; rw [e]
  rw [v32_append, List.length_take, Nat.min_eq_left (by omega), v32_take_succD, pow32, Nat.mul_add, Nat.mul_assoc, Nat.add_assoc]
theorem digit_at (l : List UInt32) (i : Nat) : v32 l / 2 ^ (32 * i) % 2 ^ 32 = (l.getD i 0).toNat := by
  rcases Nat.lt_or_ge i l.length with h | h
  · rw [dig_v32 h, List.getD_eq_getElem?_getD, List.getElem?_eq_getElem h]; rfl
  · rw [getD_big h, Nat.div_eq_of_lt (Nat.lt_of_lt_of_le (v32_lt l) (Nat.pow_le_pow_right (by decide) (by omega)))]; rfl
theorem bit_at32 (l : List UInt32) (i : Nat) : (shr32 (l.getD (i / 32) 0) (i % 32) &&& 1).toNat = v32 l / 2 ^ i % 2 := by
  rw [UInt32.toNat_and, shr32_nat, ← digit_at]
  have e : (2 : Nat) ^ i = 2 ^ (32 * (i / 32)) * 2 ^ (i % 32) := by rw [← Nat.pow_add]; congr 1; omega
  rw [e, ← Nat.div_div_eq_div_mul]
  generalize v32 l / 2 ^ (32 * (i / 32)) = W
  have hr : i % 32 < 32 := Nat.mod_lt _ (by decide)
  generalize i % 32 = r at *
  rw [show ((1 : UInt32).toNat) = 2 ^ 1 - 1 from rfl, Nat.and_two_pow_sub_one_eq_mod]
  rw [show (2 : Nat) ^ 32 = 2 ^ r * 2 ^ (32 - r) from by rw [← Nat.pow_add]; congr 1; omega, Nat.mod_mul_right_div_self]
  exact Nat.mod_mod_of_dvd _ (Nat.pow_dvd_pow 2 (by omega))
theorem bit_big32 {l : List UInt32} {i : Nat} (h : l.length ≤ i / 32) : v32 l / 2 ^ i % 2 = 0 := by
  rw [Nat.div_eq_of_lt (Nat.lt_of_lt_of_le (v32_lt l) (Nat.pow_le_pow_right (by decide) (by omega)))]
theorem v32_pad (a : List UInt32) (m : Nat) : v32 (a ++ List.replicate m 0) = v32 a := by rw [v32_append, v32_replicate]; simp
theorem v32_cons (x : UInt32) (l : List UInt32) : v32 (x :: l) = x.toNat + 4294967296 * v32 l := by simp [v32, n32, val]
theorem v32_top2 {u : List UInt32} {n : Nat} (hu : u.length = n + 1) (hn : 1 ≤ n) : v32 u = v32 (u.take (n - 1)) + 2 ^ (32 * (n - 1)) * ((u.getD n 0).toNat * 4294967296 + (u.getD (n - 1) 0).toNat) := by
  have h := v32_split (l := u) (j := n - 1) (by omega)
  rw [show n - 1 + 1 = n by omega] at h
  have e : v32 (u.drop n) = (u.getD n 0).toNat := by
    rw [List.drop_eq_getElem_cons (by omega), List.drop_of_length_le (by omega), List.getD_eq_getElem?_getD, List.getElem?_eq_getElem (by omega)]
    simp [v32, n32, val]
  rw [h, e]
  congr 2
  omega
theorem v32_top1 {v : List UInt32} {n : Nat} (hv : v.length = n) (hn : 1 ≤ n) : v32 v = v32 (v.take (n - 1)) + 2 ^ (32 * (n - 1)) * (v.getD (n - 1) 0).toNat := by
  have h := v32_take_succD v (n - 1)
  rw [show n - 1 + 1 = n by omega, v32_take_all (by omega)] at h
  exact h
theorem qhat_ge32 {u v : List UInt32} {n Q : Nat} (hu : u.length = n + 1) (hv : v.length = n) (hn : 1 ≤ n) (hQ : Q * v32 v ≤ v32 u) (h0 : 0 < (v.getD (n - 1) 0).toNat) :
    Q ≤ ((u.getD n 0).toNat * 4294967296 + (u.getD (n - 1) 0).toNat) / (v.getD (n - 1) 0).toNat := by
  rw [Nat.le_div_iff_mul_le h0]
  have h1 := v32_top2 hu hn
  have h2 := v32_top1 hv hn
  have h3 : v32 (u.take (n - 1)) < 2 ^ (32 * (n - 1)) := v32_take_lt _ _
  generalize (u.getD n 0).toNat * 4294967296 + (u.getD (n - 1) 0).toNat = T at *
  generalize (v.getD (n - 1) 0).toNat = y at *
  generalize 2 ^ (32 * (n - 1)) = P at *
  have h4 : P * (Q * y) ≤ Q * v32 v := by
    rw [h2, Nat.mul_add, Nat.mul_left_comm Q]; omega
  have h5 : P * (Q * y) < P * (T + 1) := by rw [Nat.mul_add P T, Nat.mul_one]; omega
  have h6 := Nat.lt_of_mul_lt_mul_left h5
  omega
theorem v32_drop_zero {G : List UInt32} {k n : Nat} (h : v32 (G.drop k) < 2 ^ (32 * n)) : v32 (G.drop (k + n)) = 0 := by
  have e : G.drop k = (G.drop k).take n ++ G.drop (k + n) := by
    conv => lhs; rw [← List.take_append_drop n (G.drop k)]
    rw [List.drop_drop]
  rcases Nat.lt_or_ge (G.drop k).length n with h1 | h1
  · rw [List.drop_of_length_le (by rw [List.length_drop] at h1; omega)]; rfl
  · rw [e, v32_append, List.length_take, Nat.min_eq_left h1] at h
    rcases Nat.eq_zero_or_pos (v32 (G.drop (k + n))) with h2 | h2
    · exact h2
    · have := Nat.mul_le_mul_left (2 ^ (32 * n)) h2
      omega
theorem v32_take_drop (G : List UInt32) {k : Nat} (h : k ≤ G.length) : v32 G = v32 (G.take k) + 2 ^ (32 * k) * v32 (G.drop k) := by
  conv => lhs; rw [← List.take_append_drop k G]
  rw [v32_append, List.length_take, Nat.min_eq_left h]
theorem win_lt32 {G : List UInt32} {j n V : Nat} (hj : j < G.length) (hV : v32 (G.drop (j + 1)) < V) (hVn : V ≤ 2 ^ (32 * n)) :
    v32 ((G.drop j).take (n + 1)) < V * 4294967296 ∧ v32 (G.drop (j + (n + 1))) = 0 ∧ v32 ((G.drop j).take (n + 1)) = v32 (G.drop j) := by
  have hz : v32 (G.drop (j + (n + 1))) = 0 := by
    rw [show j + (n + 1) = (j + 1) + n by omega]
    exact v32_drop_zero (Nat.lt_of_lt_of_le hV hVn)
  have e1 : v32 ((G.drop j).take (n + 1)) = v32 (G.drop j) := by
    have h := congrArg v32 (List.take_append_drop (n + 1) (G.drop j))
    rw [v32_append, List.drop_drop, hz, Nat.mul_zero, Nat.add_zero] at h
    exact h
  refine ⟨?_, hz, e1⟩
  have e2 : v32 (G.drop j) = (G.getD j 0).toNat + 4294967296 * v32 (G.drop (j + 1)) := by
    rw [List.drop_eq_getElem_cons hj, v32_cons, List.getD_eq_getElem?_getD, List.getElem?_eq_getElem hj]
    rfl
  have h1 := (G.getD j 0).toNat_lt
  rw [e1, e2]
  omega
theorem div_round32 {G u' qs h : List UInt32} {j n V U : Nat} {q : UInt32} (hj : j + (n + 1) ≤ G.length) (hqs : qs = List.replicate (j + 1) 0 ++ h) (hv : v32 G + v32 qs * V = U) (hw : v32 ((G.drop j).take (n + 1)) = v32 (G.drop j)) (hz : v32 (G.drop (j + (n + 1))) = 0)
    (hu : u'.length = n + 1) (hq : q.toNat = v32 ((G.drop j).take (n + 1)) / V) (hr : v32 u' = v32 ((G.drop j).take (n + 1)) % V) (hV : 0 < V) :
    v32 (G.take j ++ u' ++ G.drop (j + (n + 1))) + v32 (qs.set j q) * V = U ∧ v32 ((G.take j ++ u' ++ G.drop (j + (n + 1))).drop j) < V ∧ qs.set j q = List.replicate j 0 ++ (q :: h) := by
  have e0 : qs.set j q = List.replicate j 0 ++ (q :: h) := by
    rw [hqs, List.replicate_succ', List.append_assoc, List.cons_append, List.nil_append, set_mid (by simp)]
    simp
  have e1 : v32 (qs.set j q) = v32 qs + 2 ^ (32 * j) * q.toNat := by
    rw [e0, hqs, v32_append, v32_append, v32_replicate, v32_replicate, List.length_replicate, List.length_replicate, pow32]
    have : v32 (q :: h) = q.toNat + 4294967296 * v32 h := by simp [v32, n32, val]
    rw [this, Nat.mul_add, Nat.mul_assoc]
    omega
  have e2 : v32 (G.take j ++ u' ++ G.drop (j + (n + 1))) = v32 (G.take j) + 2 ^ (32 * j) * v32 u' := by
    rw [v32_append, hz, v32_append, List.length_take, Nat.min_eq_left (by omega)]; simp
  have e3 := v32_take_drop G (k := j) (by omega)
  rw [← hw] at e3
  have e4 := Nat.div_add_mod (v32 ((G.drop j).take (n + 1))) V
  rw [← hr, ← hq] at e4
  refine ⟨?_, ?_, e0⟩
  · rw [e2, e1, Nat.add_mul, ← hv, e3, ← e4, Nat.mul_add (2 ^ (32 * j)), Nat.mul_comm V, Nat.mul_assoc]
    omega
  · rw [List.append_assoc, List.drop_append_of_le_length (by rw [List.length_take]; omega), List.drop_of_length_le (by rw [List.length_take]; omega), List.nil_append, v32_append, hz, hr]
    simp only [Nat.mul_zero, Nat.add_zero]
    exact Nat.mod_lt _ hV
theorem digs_top {V : Nat} (h : 0 < V) : 1 ≤ (digsOf V).length ∧ 0 < ((digsOf V).getD ((digsOf V).length - 1) 0).toNat := by
  have hl := length_digsOf V
  have hb := bitLen_pos h
  have h1 : 1 ≤ (digsOf V).length := by omega
  refine ⟨h1, ?_⟩
  rcases Nat.eq_zero_or_pos ((digsOf V).getD ((digsOf V).length - 1) 0).toNat with h0 | h0
  · exfalso
    have e := v32_top1 (v := digsOf V) rfl h1
    rw [h0, Nat.mul_zero, Nat.add_zero, v32_digsOf] at e
    have hlt := v32_take_lt (digsOf V) ((digsOf V).length - 1)
    rw [← e] at hlt
    have := digLen_le.2 hlt
    omega
  · exact h0
end Go.Proofs.YtnpcaplgkmlmoaaGreatDoor
/- Plain laws on numbers in digits of 32 bits that are reckoned in words of 64 bits. No condition. -/
namespace Go.Proofs.YtnpcaplgkmlmoaaGreatDoor
set_option linter.unusedVariables false
set_option linter.unusedSimpArgs false
open Go Go.RowKit
theorem getD_right {α : Type} {p r : List α} {i k : Nat} {z : α} (h : p.length = i) : (p ++ r).getD (i + k) z = r.getD k z := by
  subst h
  rw [List.getD_eq_getElem?_getD, List.getD_eq_getElem?_getD, List.getElem?_append_right (by omega), Nat.add_sub_cancel_left]
/-- The lower half of a limb. -/
def lo32 (s : UInt64) : UInt32 := UInt32.ofNat s.toNat
theorem lo32_nat (s : UInt64) : (lo32 s).toNat = s.toNat % 4294967296 := by rw [lo32, UInt32.toNat_ofNat']
theorem lo_hi (s : UInt64) : (lo32 s).toNat + (shr64 s 32).toNat * 4294967296 = s.toNat := by
  rw [lo32_nat, shr64_nat]
  have := Nat.mod_add_div s.toNat 4294967296
  rw [show (2 : Nat) ^ 32 = 4294967296 from rfl, Nat.mul_comm]
  exact this
theorem of32 (x : UInt32) : (UInt64.ofNat x.toNat).toNat = x.toNat := by
  rw [UInt64.toNat_ofNat']
  exact Nat.mod_eq_of_lt (Nat.lt_trans x.toNat_lt (by decide))
theorem add64n {a b : UInt64} (h : a.toNat + b.toNat < 18446744073709551616) : (a + b).toNat = a.toNat + b.toNat := by rw [UInt64.toNat_add]; exact Nat.mod_eq_of_lt h
theorem sub64n {a b : UInt64} (h : b.toNat ≤ a.toNat) : (a - b).toNat = a.toNat - b.toNat := UInt64.toNat_sub_of_le _ _ (by rw [UInt64.le_iff_toNat_le]; exact h)
theorem mul64n {a b : UInt64} (ha : a.toNat ≤ 4294967295) (hb : b.toNat ≤ 4294967295) : (a * b).toNat = a.toNat * b.toNat ∧ a.toNat * b.toNat ≤ 18446744065119617025 := by
  have h := Nat.mul_le_mul ha hb
  exact ⟨by rw [UInt64.toNat_mul]; exact Nat.mod_eq_of_lt (Nat.lt_of_le_of_lt h (by decide)), h⟩
theorem dlt (l : List UInt32) (k : Nat) : (l.getD k 0).toNat ≤ 4294967295 := by have := (l.getD k 0).toNat_lt; omega
theorem add_round32 {w a b : List UInt32} {k : Nat} {c s : UInt64} (hw : w.length = k) (hv : v32 w + c.toNat * 2 ^ (32 * k) = v32 (a.take k) + v32 (b.take k)) (hs : s.toNat = c.toNat + (a.getD k 0).toNat + (b.getD k 0).toNat) :
    v32 (w ++ [lo32 s]) + (shr64 s 32).toNat * 2 ^ (32 * (k + 1)) = v32 (a.take (k + 1)) + v32 (b.take (k + 1)) := by
  have h := lo_hi s
  rw [hs] at h
  rw [v32_snoc, hw, v32_take_succD, v32_take_succD, pow32]
  have h2 := congrArg (2 ^ (32 * k) * ·) h
  simp only [Nat.mul_add] at h2
  have e : (shr64 s 32).toNat * (2 ^ (32 * k) * 4294967296) = 2 ^ (32 * k) * ((shr64 s 32).toNat * 4294967296) := by rw [Nat.mul_left_comm]
  rw [e]
  rw [Nat.mul_comm c.toNat] at hv
  omega
theorem sub_round32 {w a b : List UInt32} {k c c' y : Nat} {d : UInt32} (hw : w.length = k) (hv : v32 w + v32 (b.take k) = v32 (a.take k) + c * 2 ^ (32 * k)) (hd : d.toNat + y + c = (a.getD k 0).toNat + c' * 4294967296) (hy : y = (b.getD k 0).toNat) :
    v32 (w ++ [d]) + v32 (b.take (k + 1)) = v32 (a.take (k + 1)) + c' * 2 ^ (32 * (k + 1)) := by
  subst hy
  rw [v32_snoc, hw, v32_take_succD, v32_take_succD, pow32]
  have h2 := congrArg (2 ^ (32 * k) * ·) hd
  simp only [Nat.mul_add] at h2
  have e : c' * (2 ^ (32 * k) * 4294967296) = 2 ^ (32 * k) * (c' * 4294967296) := by rw [Nat.mul_left_comm]
  rw [e]
  rw [Nat.mul_comm c] at hv
  omega
theorem mul_round32 {p b : List UInt32} {i k V x : Nat} {c s : UInt64} (hj : i + k < p.length) (hv : v32 p + c.toNat * 2 ^ (32 * (i + k)) = V + 2 ^ (32 * i) * (x * v32 (b.take k))) (hs : s.toNat = x * (b.getD k 0).toNat + (p.getD (i + k) 0).toNat + c.toNat) :
    v32 (p.set (i + k) (lo32 s)) + (shr64 s 32).toNat * 2 ^ (32 * (i + (k + 1))) = V + 2 ^ (32 * i) * (x * v32 (b.take (k + 1))) := by
  have h := lo_hi s
  rw [hs] at h
  have h1 := v32_setD (y := lo32 s) hj
  have eE : 2 ^ (32 * i) * 2 ^ (32 * k) = 2 ^ (32 * (i + k)) := by rw [← Nat.pow_add, Nat.mul_add]
  rw [v32_take_succD, ← Nat.add_assoc, pow32]
  have e1 : 2 ^ (32 * i) * (x * (v32 (b.take k) + 2 ^ (32 * k) * (b.getD k 0).toNat)) = 2 ^ (32 * i) * (x * v32 (b.take k)) + 2 ^ (32 * (i + k)) * (x * (b.getD k 0).toNat) := by
    rw [← eE, Nat.mul_add, Nat.mul_add, Nat.mul_left_comm x, ← Nat.mul_assoc _ (2 ^ (32 * k))]
  rw [e1]
  generalize 2 ^ (32 * (i + k)) = T at *
  have h2 := congrArg (T * ·) h
  simp only [Nat.mul_add] at h2
  have e2 : (shr64 s 32).toNat * (T * 4294967296) = T * ((shr64 s 32).toNat * 4294967296) := by rw [Nat.mul_left_comm]
  rw [e2]
  rw [Nat.mul_comm c.toNat] at hv
  rw [Nat.mul_comm (p.getD (i + k) 0).toNat, Nat.mul_comm (lo32 s).toNat] at h1
  omega
theorem mul_outer32 {p a b : List UInt32} {i : Nat} {c : UInt64} (hp : p.length = i + b.length) (hc : c.toNat < 4294967296) (hv : v32 p + c.toNat * 2 ^ (32 * (i + b.length)) = v32 (a.take i) * v32 b + 2 ^ (32 * i) * ((a.getD i 0).toNat * v32 (b.take b.length))) :
    v32 (p ++ [lo32 c]) = v32 (a.take (i + 1)) * v32 b := by
  rw [v32_snoc, hp, v32_take_succD, Nat.add_mul, Nat.mul_assoc, Nat.mul_comm _ (lo32 c).toNat, lo32_nat, Nat.mod_eq_of_lt hc, hv, List.take_length]
theorem carry_lt {s : UInt64} : (shr64 s 32).toNat < 4294967296 := by
  rw [shr64_nat]; have := s.toNat_lt; omega
/-- Two digits side by side, shifted to the right. -/
theorem shr_digit {l : List UInt32} {j r : Nat} (hr : r < 32) {w : UInt64} (hw : w.toNat = (l.getD j 0).toNat + (l.getD (j + 1) 0).toNat * 4294967296) : UInt32.ofNat (v32 l / 2 ^ (32 * j + r)) = lo32 (shr64 w r) := by
  apply UInt32.toNat_inj.1
  rw [UInt32.toNat_ofNat', lo32_nat, shr64_nat, hw, ← digit_at, ← digit_at, Nat.pow_add, ← Nat.div_div_eq_div_mul]
  have e : v32 l / 2 ^ (32 * (j + 1)) = v32 l / 2 ^ (32 * j) / 4294967296 := by rw [pow32, Nat.div_div_eq_div_mul]
  rw [e]
  generalize v32 l / 2 ^ (32 * j) = W
  have e2 : W % 2 ^ 32 + W / 4294967296 % 2 ^ 32 * 4294967296 = W % 18446744073709551616 := by
    have := Nat.mod_mul (x := W) (a := 4294967296) (b := 4294967296)
    rw [Nat.mul_comm _ (W / 4294967296 % 4294967296)] at this
    exact this.symm
  rw [e2, show (18446744073709551616 : Nat) = 2 ^ r * 2 ^ (64 - r) from by rw [← Nat.pow_add, show r + (64 - r) = 64 by omega], Nat.mod_mul_right_div_self, show (4294967296 : Nat) = 2 ^ 32 from rfl, Nat.mod_mod_of_dvd _ (Nat.pow_dvd_pow 2 (by omega))]
theorem digsN_succ (k N : Nat) : digsN (k + 1) N = digsN k N ++ [UInt32.ofNat (N / 2 ^ (32 * k))] := by
  simp [digsN, List.range_succ]
theorem trim32d {N : Heaplet} {ao : Option Addr} {n cap : Nat} {l : List UInt32} (h : RSl N 1 ao n cap (u32s l)) (ht : l.take (digsOf (v32 l)).length = digsOf (v32 l)) (hle : (digsOf (v32 l)).length ≤ n) :
    RSl N 1 ao (digsOf (v32 l)).length cap (u32s (digsOf (v32 l))) := by
  have := h.take (hi := (digsOf (v32 l)).length) (m := cap) (Nat.le_trans hle h.2.1) (Nat.le_refl _) hle
  rwa [Nat.mul_one, u32s_take, ht] at this
/-- Digits in new memory: a number without zeros at its upper end. -/
def DigsP (V : Nat) (v : Value) (L : List Heaplet) : Prop :=
  ∃ M a c, v = .slice a (digsOf V).length c ∧ L = [M] ∧ RSl M 1 a (digsOf V).length c (u32s (digsOf V))
theorem split_mod {x P Q B : Nat} (h : B = P * Q) : x * Q % B = x % P * Q := by subst h; exact Nat.mul_mod_mul_right ..
theorem split_div {x P Q B : Nat} (h : B = P * Q) (hQ : 0 < Q) : x * Q / B = x / P := by subst h; exact Nat.mul_div_mul_right _ _ hQ
theorem shl_step {c : List UInt32} {j r x : Nat} (hj : j + 1 < c.length) (hr : r < 32) (hx : x < 4294967296) (hc : v32 c < 2 ^ (32 * j + r)) {w : UInt64} (hw : w.toNat = x * 2 ^ r) :
    v32 ((c.set j (c.getD j 0 ||| lo32 w)).set (j + 1) ((c.set j (c.getD j 0 ||| lo32 w)).getD (j + 1) 0 ||| lo32 (shr64 w 32))) = v32 c + x * 2 ^ (32 * j + r) := by
  have e32 : (4294967296 : Nat) = 2 ^ (32 - r) * 2 ^ r := by rw [← Nat.pow_add, show 32 - r + r = 32 by omega]
  have hp : 0 < 2 ^ (32 - r) := Nat.pow_pos (by decide)
  have hlt : x % 2 ^ (32 - r) * 2 ^ r < 2 ^ 32 := by
    have h := Nat.mul_lt_mul_of_pos_right (Nat.mod_lt x hp) (show 0 < 2 ^ r from Nat.pow_pos (by decide))
    rwa [← e32] at h
  have hlo : lo32 w = UInt32.ofNat (x % 2 ^ (32 - r) * 2 ^ r) := by
    apply UInt32.toNat_inj.1
    rw [lo32_nat, hw, UInt32.toNat_ofNat', Nat.mod_eq_of_lt hlt]
    exact split_mod e32
  have hhi : lo32 (shr64 w 32) = UInt32.ofNat (x / 2 ^ (32 - r) * 2 ^ 0) := by
    have e : w.toNat / 4294967296 = x / 2 ^ (32 - r) := by
      rw [hw]
      exact split_div e32 (Nat.pow_pos (by decide))
    rw [lo32, shr64_nat, show (2 : Nat) ^ 32 = 4294967296 from rfl, e, Nat.pow_zero, Nat.mul_one]
  have h1 := or_set32 (a := c) (q := j) (s := r) (w := 32 - r) (x := x % 2 ^ (32 - r)) (by omega) hc (Nat.mod_lt _ hp) (by omega)
  rw [← hlo] at h1
  have hsum : v32 c + x % 2 ^ (32 - r) * 2 ^ (32 * j + r) < 2 ^ (32 * (j + 1) + 0) := by
    have h2 : x % 2 ^ (32 - r) + 1 ≤ 2 ^ (32 - r) := Nat.mod_lt _ hp
    have h3 := Nat.mul_le_mul_right (2 ^ (32 * j + r)) h2
    rw [Nat.add_mul, Nat.one_mul, ← Nat.pow_add, show 32 - r + (32 * j + r) = 32 * (j + 1) + 0 by omega] at h3
    omega
  have hx2 : x / 2 ^ (32 - r) < 2 ^ r := by
    rw [Nat.div_lt_iff_lt_mul hp, Nat.mul_comm, ← e32]; exact hx
  have h4 := or_set32 (a := c.set j (c.getD j 0 ||| lo32 w)) (q := j + 1) (s := 0) (w := r) (x := x / 2 ^ (32 - r)) (by rw [List.length_set]; omega) (by rw [h1]; exact hsum) hx2 (by omega)
  rw [← hhi] at h4
  have e5 : (2 : Nat) ^ (32 * (j + 1) + 0) = 2 ^ (32 - r) * 2 ^ (32 * j + r) := by rw [← Nat.pow_add, show 32 * (j + 1) + 0 = 32 - r + (32 * j + r) by omega]
  have e6 : x % 2 ^ (32 - r) * 2 ^ (32 * j + r) + x / 2 ^ (32 - r) * 2 ^ (32 * (j + 1) + 0) = x * 2 ^ (32 * j + r) := by
    rw [e5, ← Nat.mul_assoc, ← Nat.add_mul, Nat.mul_comm (x / 2 ^ (32 - r)), Nat.mod_add_div]
  rw [h4, h1, Nat.add_assoc, e6]
end Go.Proofs.YtnpcaplgkmlmoaaGreatDoor
/- The reference's Add, Sub, Mul: numbers in digits of 32 bits. Condition: numbers of at most 2^40 digits; for Sub: the second is no greater. -/
namespace Go.Proofs.YtnpcaplgkmlmoaaGreatDoor
set_option linter.unusedVariables false
set_option linter.unusedSimpArgs false
open Go Go.RowKit
end Go.Proofs.YtnpcaplgkmlmoaaGreatDoor
/- The reference's Shl, Shr, Bit, Len, Fill. Condition: numbers of at most 2^40 digits, shifts of at most 2^40 places. -/
namespace Go.Proofs.YtnpcaplgkmlmoaaGreatDoor
set_option linter.unusedVariables false
set_option linter.unusedSimpArgs false
open Go Go.RowKit
theorem or_hi32 {x y : UInt32} : (UInt64.ofNat x.toNat ||| shl64 (UInt64.ofNat y.toNat) 32).toNat = x.toNat + y.toNat * 4294967296 := by
  have hx := x.toNat_lt
  have hy := y.toNat_lt
  rw [UInt64.toNat_or, of32, shl64_nat, of32, Nat.mod_eq_of_lt (show y.toNat * 2 ^ 32 < 2 ^ 64 by omega), Nat.or_comm, Nat.mul_comm, ← Nat.two_pow_add_eq_or_of_lt hx, Nat.add_comm, Nat.mul_comm]
set_option maxRecDepth 100000 in
theorem rShl_f {N : Heaplet} {ao : Option Addr} {n ca : Nat} {a : List UInt32} (ha : RSl N 1 ao n ca (u32s a)) (s : Nat) (hn : n ≤ 1099511627776) (hs : s ≤ 1099511627776) :
    Fn Tryz.prog 47 #[.slice ao n ca, .int .i64 (s : Int)] [] [N] (DigsP (v32 a * 2 ^ s)) := by
  have hca := ha.cap63
  have hal := ha.len32
  refine Fn.enter (vs := [.slice ao n ca, .int .i64 (s : Int)]) Tryz.func47 rfl rfl rfl ?_
  intro E R hR
  have ha := ha.le (hR N (by simp))
  change At _ _ E [R] _
  refine At.seq fun K1 hk_1 => ?_
  refine At.region ?_
  refine op_assign (nxlf rfl) rfl rfl ?_
  refine At.opsNil ?_
  refine At.norm (hk_1 ?_)
  refine At.seq fun K2 hk_2 => ?_
  refine At.region ?_
  refine op_move (nxlf rfl) rfl rfl ?_
  refine op_lenS (nxlf rfl) se51 rfl rfl ?_
  refine op_move (nxlf rfl) rfl rfl ?_
  refine op_quoI (nxlf rfl) rfl rfl (by omega) (by omega) (by omega) rfl ?_
  refine op_addI (nxlf rfl) rfl rfl (by omega) (by omega) rfl ?_
  refine op_addI (nxlf rfl) rfl rfl (by omega) (by omega) rfl ?_
  refine op_make (nxla rfl) Tryz.underlying51 te56 rfl rfl (show _ = (((n + s / 32 + 1 : Nat)) : Int) from by omega) (show _ = (((n + s / 32 + 1 : Nat)) : Int) from by omega) (by omega) (by unfold maxLen; omega) rfl (fun N14 a14 r14 => ?_)
  rw [made_one _ _ rfl, zero_u32s] at r14
  have s14 := r14.rsl
  refine op_assign (nxlf rfl) rfl rfl ?_
  refine At.opsNil ?_
  refine At.norm (hk_2 ?_)
  refine At.seq fun K3 hk_3 => ?_
  refine At.seq fun K4 hk_4 => ?_
  refine At.region ?_
  refine op_assign (nxlf rfl) rfl rfl ?_
  refine At.opsNil ?_
  refine At.norm (hk_4 ?_)
  refine At.block ?_
  refine At.loop (fun fr_ hp_ ms_ => ∃ (k : Nat) (c : List UInt32) (N14 : Heaplet), fr_ = [(0, .slice ao n ca), (1, .int .i64 (s : Int)), (5, .slice a14 (n + s / 32 + 1) (n + s / 32 + 1)), (6, .int .i64 (k : Int))] ∧ hp_ = [N14, R] ∧ n - k = ms_ ∧ (k ≤ n) ∧ (c.length = n + s / 32 + 1) ∧ (v32 c = v32 (a.take k) * 2 ^ s) ∧ (Row N14 56 1 a14 (n + s / 32 + 1) (n + s / 32 + 1) (u32s c))) ?_ (.refl _) ⟨0, List.replicate (n + s / 32 + 1) 0, N14, rfl, rfl, rfl, by omega, by simp, by rw [v32_replicate]; simp [v32, n32, val], r14⟩ ?_
  · exact .cons (by first | exact lkI rfl (by omega) | rfl) (.cons (by first | exact lkI rfl (by omega) | rfl) (.cons (by first | exact lkI rfl (by omega) | rfl) (.cons (by first | exact lkI rfl (by omega) | rfl) .nil)))
  rintro _ _ _ ⟨k, c, N14, rfl, rfl, rfl, hk, hcl, hv, r14⟩
  have s14 := r14.rsl
  refine At.seq fun K5 hk_5 => ?_
  refine At.seq fun K6 hk_6 => ?_
  refine At.region ?_
  refine op_move (nxlf rfl) rfl rfl ?_
  refine op_move (nxlf rfl) rfl rfl ?_
  refine op_lenS (nxlf rfl) se51 rfl rfl ?_
  refine op_lss (nxlf rfl) rfl rfl rfl ?_
  refine At.opsNil ?_
  refine At.norm (hk_6 ?_)
  refine At.condP rfl (fun c18 => ?_) (fun c18 => ?_)
  · refine At.skip ?_
    refine At.norm (hk_5 ?_)
    refine At.seq fun K7 hk_7 => ?_
    refine At.block ?_
    refine At.seq fun K8 hk_8 => ?_
    refine At.region ?_
    refine op_move (nxlf rfl) rfl rfl ?_
    refine op_move (nxlf rfl) rfl rfl ?_
    refine op_idx1 (nxlf rfl) se51 rfl rfl ha (show _ = (((k : Nat)) : Int) from by omega) (by omega) rfl ?_
    refine op_loadE (nxlf rfl) sc56 rfl ha (by first | exact get8 (by omega) | exact get64 (by omega) | exact get32 (by omega)) (by first | exact mem0 | exact mem1 | exact mem2 | exact mem3 | exact mem4 | exact mem5 | exact mem6 | exact mem7 | exact mem8 | exact mem9) rfl ?_
    refine op_conv64 (nxlf rfl) (und_some Tryz.underlying56) Tryz.underlying23 rfl (by first | rfl | exact (Int.toNat_of_nonneg (by omega)).symm) rfl ?_
    refine op_move (nxlf rfl) rfl rfl ?_
    refine op_rem (nxlf rfl) rfl rfl (by omega) (by omega) rfl ?_
    refine op_shlU (nxlf rfl) rfl rfl (show _ = (((s % 32 : Nat)) : Int) from by omega) rfl ?_
    have hak := dlt a k
    have hw : (shl64 (UInt64.ofNat (a.getD k 0).toNat) (s % 32)).toNat = (a.getD k 0).toNat * 2 ^ (s % 32) := by
      rw [shl64_nat, of32]
      refine Nat.mod_eq_of_lt ?_
      have h1 : (2 : Nat) ^ (s % 32) ≤ 2 ^ 31 := Nat.pow_le_pow_right (by decide) (by omega)
      have h2 := Nat.mul_le_mul hak h1
      exact Nat.lt_of_le_of_lt h2 (by decide)
    generalize shl64 (UInt64.ofNat (a.getD k 0).toNat) (s % 32) = w at *
    have hlim : v32 c < 2 ^ (32 * (k + s / 32) + s % 32) := by
      rw [hv, show 32 * (k + s / 32) + s % 32 = 32 * k + s by omega, Nat.pow_add]
      exact Nat.mul_lt_mul_of_pos_right (v32_take_lt a k) (Nat.pow_pos (by decide))
    have hst := shl_step (c := c) (j := k + s / 32) (r := s % 32) (x := (a.getD k 0).toNat) (by omega) (by omega) (by omega) hlim hw
    have hv' : v32 ((c.set (k + s / 32) (c.getD (k + s / 32) 0 ||| lo32 w)).set (k + s / 32 + 1) ((c.set (k + s / 32) (c.getD (k + s / 32) 0 ||| lo32 w)).getD (k + s / 32 + 1) 0 ||| lo32 (shr64 w 32))) = v32 (a.take (k + 1)) * 2 ^ s := by
      rw [hst, hv, v32_take_succD, Nat.add_mul, show 32 * (k + s / 32) + s % 32 = 32 * k + s by omega, Nat.pow_add, Nat.mul_comm (2 ^ (32 * k)) (a.getD k 0).toNat, Nat.mul_assoc]
    refine op_assign (nxlf rfl) rfl rfl ?_
    refine At.opsNil ?_
    refine At.norm (hk_8 ?_)
    refine At.seq fun K9 hk_9 => ?_
    refine At.region ?_
    refine op_move (nxlf rfl) rfl rfl ?_
    refine op_move (nxlf rfl) rfl rfl ?_
    refine op_move (nxlf rfl) rfl rfl ?_
    refine op_quoI (nxlf rfl) rfl rfl (by omega) (by omega) (by omega) rfl ?_
    refine op_addI (nxlf rfl) rfl rfl (by omega) (by omega) rfl ?_
    refine op_move (nxlf rfl) rfl rfl ?_
    refine op_move (nxlf rfl) rfl rfl ?_
    refine op_move (nxlf rfl) rfl rfl ?_
    refine op_quoI (nxlf rfl) rfl rfl (by omega) (by omega) (by omega) rfl ?_
    refine op_addI (nxlf rfl) rfl rfl (by omega) (by omega) rfl ?_
    refine op_idx1 (nxlf rfl) se51 rfl rfl s14 (show _ = (((k + s / 32 : Nat)) : Int) from by omega) (by omega) rfl ?_
    refine op_loadE (nxlf rfl) sc56 rfl s14 (by first | exact get8 (by omega) | exact get64 (by omega) | exact get32 (by omega)) (by first | exact mem0 | exact mem1 | exact mem2 | exact mem3 | exact mem4 | exact mem5 | exact mem6 | exact mem7 | exact mem8 | exact mem9) rfl ?_
    refine op_move (nxlf rfl) rfl rfl ?_
    refine op_conv32 (nxlf rfl) (und_some Tryz.underlying23) Tryz.underlying56 rfl (by first | rfl | exact (Int.toNat_of_nonneg (by omega)).symm) rfl ?_
    refine op_orU32 (nxlf rfl) rfl rfl rfl ?_
    refine op_idx1 (nxlf rfl) se51 rfl rfl s14 (show _ = (((k + s / 32 : Nat)) : Int) from by omega) (by omega) rfl ?_
    refine op_storeE (nxl rfl) sz56 rfl rfl rfl rfl rfl r14 (by simp <;> omega) (by simp) sel0 (fun N14 r14 => ?_)
    simp only [setL] at r14
    rw [set_u32s] at r14
    change Row N14 _ 1 a14 _ _ (u32s (c.set (k + s / 32) (c.getD (k + s / 32) 0 ||| lo32 w))) at r14
    have hcl1 : (c.set (k + s / 32) (c.getD (k + s / 32) 0 ||| lo32 w)).length = n + s / 32 + 1 := by rw [List.length_set]; exact hcl
    have s14 := r14.rsl
    refine At.opsNil ?_
    refine At.norm (hk_9 ?_)
    refine At.region ?_
    refine op_move (nxlf rfl) rfl rfl ?_
    refine op_move (nxlf rfl) rfl rfl ?_
    refine op_move (nxlf rfl) rfl rfl ?_
    refine op_quoI (nxlf rfl) rfl rfl (by omega) (by omega) (by omega) rfl ?_
    refine op_addI (nxlf rfl) rfl rfl (by omega) (by omega) rfl ?_
    refine op_addI (nxlf rfl) rfl rfl (by omega) (by omega) rfl ?_
    refine op_move (nxlf rfl) rfl rfl ?_
    refine op_move (nxlf rfl) rfl rfl ?_
    refine op_move (nxlf rfl) rfl rfl ?_
    refine op_quoI (nxlf rfl) rfl rfl (by omega) (by omega) (by omega) rfl ?_
    refine op_addI (nxlf rfl) rfl rfl (by omega) (by omega) rfl ?_
    refine op_addI (nxlf rfl) rfl rfl (by omega) (by omega) rfl ?_
    refine op_idx1 (nxlf rfl) se51 rfl rfl s14 (show _ = (((k + s / 32 + 1 : Nat)) : Int) from by omega) (by omega) rfl ?_
    refine op_loadE (nxlf rfl) sc56 rfl s14 (by first | exact get8 (by omega) | exact get64 (by omega) | exact get32 (by omega)) (by first | exact mem0 | exact mem1 | exact mem2 | exact mem3 | exact mem4 | exact mem5 | exact mem6 | exact mem7 | exact mem8 | exact mem9) rfl ?_
    refine op_move (nxlf rfl) rfl rfl ?_
    refine op_shrU (nxlf rfl) rfl rfl (show _ = ((32 : Nat) : Int) from rfl) rfl ?_
    refine op_conv32 (nxlf rfl) (und_some Tryz.underlying23) Tryz.underlying56 rfl (by first | rfl | exact (Int.toNat_of_nonneg (by omega)).symm) rfl ?_
    refine op_orU32 (nxlf rfl) rfl rfl rfl ?_
    refine op_idx1 (nxlf rfl) se51 rfl rfl s14 (show _ = (((k + s / 32 + 1 : Nat)) : Int) from by omega) (by omega) rfl ?_
    refine op_storeE (nxl rfl) sz56 rfl rfl rfl rfl rfl r14 (by simp <;> omega) (by simp) sel0 (fun N14 r14 => ?_)
    simp only [setL] at r14
    rw [set_u32s] at r14
    change Row N14 _ 1 a14 _ _ (u32s ((c.set (k + s / 32) (c.getD (k + s / 32) 0 ||| lo32 w)).set (k + s / 32 + 1) ((c.set (k + s / 32) (c.getD (k + s / 32) 0 ||| lo32 w)).getD (k + s / 32 + 1) 0 ||| lo32 (shr64 w 32)))) at r14
    have s14 := r14.rsl
    refine At.opsNil ?_
    refine At.inNorm ?_
    refine At.norm (hk_7 ?_)
    refine At.region ?_
    refine op_move (nxlf rfl) rfl rfl ?_
    refine op_addI (nxlf rfl) rfl rfl (by omega) (by omega) rfl ?_
    refine op_assign (nxlf rfl) rfl rfl ?_
    refine At.opsNil ?_
    refine At.norm ?_
    refine At.back ?_ (.refl _) ⟨k + 1, (c.set (k + s / 32) (c.getD (k + s / 32) 0 ||| lo32 w)).set (k + s / 32 + 1) ((c.set (k + s / 32) (c.getD (k + s / 32) 0 ||| lo32 w)).getD (k + s / 32 + 1) 0 ||| lo32 (shr64 w 32)), N14, rfl, rfl, rfl, by omega, by simp; omega, hv', r14⟩ ?_
    · exact .cons (by first | exact lkI rfl (by omega) | rfl) (.cons (by first | exact lkI rfl (by omega) | rfl) (.cons (by first | exact lkI rfl (by omega) | rfl) (.cons (by first | exact lkI rfl (by omega) | rfl) .nil)))
    · omega
  · refine At.exit (At.thenExit (At.thenExit (At.inHit ?_)))
    refine At.norm (hk_3 ?_)
    refine At.seq fun K10 hk_10 => ?_
    refine At.region ?_
    refine op_move (nxlf rfl) rfl rfl ?_
    have hkn : k = n := by omega
    rw [hkn, v32_take_all (by omega)] at hv
    refine op_callA (nxla rfl) (.cons rfl .nil) (trim32_f s14) Tryz.func50 rfl rfl (by simp) rfl ?_
    rintro v65 L65 ⟨rfl, rfl, t65, l65⟩
    change At _ _ _ [N14, R] _
    refine op_assign (nxlf rfl) rfl rfl ?_
    refine At.opsNil ?_
    refine At.norm (hk_10 ?_)
    refine At.ret (?_)
    refine At.ret1 (L1 := [N14]) rfl (.tmp rfl .nil) (.refl _) (.refl _) ?_
    have h := trim32d s14 t65 l65
    rw [hv] at h ⊢
    exact ⟨N14, a14, _, rfl, rfl, h⟩
set_option maxRecDepth 100000 in
theorem rShr_f {N : Heaplet} {ao : Option Addr} {n ca : Nat} {a : List UInt32} (ha : RSl N 1 ao n ca (u32s a)) (s : Nat) (hn : n ≤ 1099511627776) (hs : s ≤ 1099511627776) :
    Fn Tryz.prog 51 #[.slice ao n ca, .int .i64 (s : Int)] [] [N] (DigsP (v32 a / 2 ^ s)) := by
  have hca := ha.cap63
  have hal := ha.len32
  refine Fn.enter (vs := [.slice ao n ca, .int .i64 (s : Int)]) Tryz.func51 rfl rfl rfl ?_
  intro E R hR
  have ha := ha.le (hR N (by simp))
  change At _ _ E [R] _
  refine At.seq fun K1 hk_1 => ?_
  refine At.region ?_
  refine op_assign (nxlf rfl) rfl rfl ?_
  refine At.opsNil ?_
  refine At.norm (hk_1 ?_)
  refine At.seq fun K2 hk_2 => ?_
  refine At.seq fun K3 hk_3 => ?_
  refine At.region ?_
  refine op_move (nxlf rfl) rfl rfl ?_
  refine op_quoI (nxlf rfl) rfl rfl (by omega) (by omega) (by omega) rfl ?_
  refine op_move (nxlf rfl) rfl rfl ?_
  refine op_lenS (nxlf rfl) se51 rfl rfl ?_
  refine op_geq (nxlf rfl) rfl rfl rfl ?_
  refine At.opsNil ?_
  refine At.norm (hk_3 ?_)
  refine At.condP rfl (fun c12 => ?_) (fun c12 => ?_)
  · refine At.seq fun K4 hk_4 => ?_
    refine At.region ?_
    refine op_assign (nxlf rfl) rfl rfl ?_
    refine At.opsNil ?_
    refine At.norm (hk_4 ?_)
    refine At.ret (At.thenRet (?_))
    refine At.empty ?_
    refine At.ret1 (L1 := [nilH]) rfl (.tmp rfl .nil) (.refl _) (.refl _) ?_
    have hz : v32 a / 2 ^ s = 0 := Nat.div_eq_of_lt (Nat.lt_of_lt_of_le (v32_lt a) (Nat.pow_le_pow_right (by decide) (by omega)))
    rw [hz]
    exact ⟨nilH, none, 0, rfl, rfl, RSl.nil _ _⟩
  · refine At.skip ?_
    refine At.norm (hk_2 ?_)
    refine At.seq fun K5 hk_5 => ?_
    refine At.region ?_
    refine op_move (nxlf rfl) rfl rfl ?_
    refine op_lenS (nxlf rfl) se51 rfl rfl ?_
    refine op_move (nxlf rfl) rfl rfl ?_
    refine op_quoI (nxlf rfl) rfl rfl (by omega) (by omega) (by omega) rfl ?_
    refine op_subI (nxlf rfl) rfl rfl (by omega) (by omega) rfl ?_
    refine op_make (nxla rfl) Tryz.underlying51 te56 rfl rfl (show _ = (((n - s / 32 : Nat)) : Int) from by omega) (show _ = (((n - s / 32 : Nat)) : Int) from by omega) (by omega) (by unfold maxLen; omega) rfl (fun N18 a18 r18 => ?_)
    rw [made_one _ _ rfl, zero_u32s] at r18
    have s18 := r18.rsl
    refine op_assign (nxlf rfl) rfl rfl ?_
    refine At.opsNil ?_
    refine At.norm (hk_5 ?_)
    refine At.seq fun K6 hk_6 => ?_
    refine At.seq fun K7 hk_7 => ?_
    refine At.region ?_
    refine op_assign (nxlf rfl) rfl rfl ?_
    refine At.opsNil ?_
    refine At.norm (hk_7 ?_)
    refine At.block ?_
    refine At.loop (fun fr_ hp_ ms_ => ∃ (k : Nat) (N18 : Heaplet), fr_ = [(0, .slice ao n ca), (1, .int .i64 (s : Int)), (5, .slice a18 (n - s / 32) (n - s / 32)), (6, .int .i64 (k : Int))] ∧ hp_ = [N18, R] ∧ n - s / 32 - k = ms_ ∧ (k ≤ n - s / 32) ∧ (Row N18 56 1 a18 (n - s / 32) (n - s / 32) (u32s (digsN k (v32 a / 2 ^ s) ++ List.replicate (n - s / 32 - k) 0)))) ?_ (.refl _) ⟨0, N18, rfl, rfl, rfl, by omega, by simpa [digsN] using r18⟩ ?_
    · exact .cons (by first | exact lkI rfl (by omega) | rfl) (.cons (by first | exact lkI rfl (by omega) | rfl) (.cons (by first | exact lkI rfl (by omega) | rfl) (.cons (by first | exact lkI rfl (by omega) | rfl) .nil)))
    rintro _ _ _ ⟨k, N18, rfl, rfl, rfl, hk, r18⟩
    have s18 := r18.rsl
    have hlk : (digsN k (v32 a / 2 ^ s)).length = k := by simp [digsN]
    refine At.seq fun K8 hk_8 => ?_
    refine At.seq fun K9 hk_9 => ?_
    refine At.region ?_
    refine op_move (nxlf rfl) rfl rfl ?_
    refine op_move (nxlf rfl) rfl rfl ?_
    refine op_lenS (nxlf rfl) se51 rfl rfl ?_
    refine op_lss (nxlf rfl) rfl rfl rfl ?_
    refine At.opsNil ?_
    refine At.norm (hk_9 ?_)
    refine At.condP rfl (fun c22 => ?_) (fun c22 => ?_)
    · refine At.skip ?_
      refine At.norm (hk_8 ?_)
      refine At.seq fun K10 hk_10 => ?_
      refine At.block ?_
      refine At.seq fun K11 hk_11 => ?_
      refine At.region ?_
      refine op_move (nxlf rfl) rfl rfl ?_
      refine op_move (nxlf rfl) rfl rfl ?_
      refine op_move (nxlf rfl) rfl rfl ?_
      refine op_quoI (nxlf rfl) rfl rfl (by omega) (by omega) (by omega) rfl ?_
      refine op_addI (nxlf rfl) rfl rfl (by omega) (by omega) rfl ?_
      refine op_idx1 (nxlf rfl) se51 rfl rfl ha (show _ = (((k + s / 32 : Nat)) : Int) from by omega) (by omega) rfl ?_
      refine op_loadE (nxlf rfl) sc56 rfl ha (by first | exact get8 (by omega) | exact get64 (by omega) | exact get32 (by omega)) (by first | exact mem0 | exact mem1 | exact mem2 | exact mem3 | exact mem4 | exact mem5 | exact mem6 | exact mem7 | exact mem8 | exact mem9) rfl ?_
      refine op_conv64 (nxlf rfl) (und_some Tryz.underlying56) Tryz.underlying23 rfl (by first | rfl | exact (Int.toNat_of_nonneg (by omega)).symm) rfl ?_
      refine op_assign (nxlf rfl) rfl rfl ?_
      refine At.opsNil ?_
      refine At.norm (hk_11 ?_)
      refine At.seq fun K12 hk_12 => ?_
      refine At.meet (fun fr_ hp_ => ∃ (w : UInt64), fr_ = [(0, .slice ao n ca), (1, .int .i64 (s : Int)), (5, .slice a18 (n - s / 32) (n - s / 32)), (6, .int .i64 (k : Int)), (7, .int .u64 (w.toNat : Int))] ∧ hp_ = [N18, R] ∧ (w.toNat = (a.getD (k + s / 32) 0).toNat + (a.getD (k + s / 32 + 1) 0).toNat * 4294967296)) ?_ (fun K12_ jk_12 => ?_)
      rotate_left
      · skip
        refine At.seq fun K13 hk_13 => ?_
        refine At.region ?_
        refine op_move (nxlf rfl) rfl rfl ?_
        refine op_move (nxlf rfl) rfl rfl ?_
        refine op_quoI (nxlf rfl) rfl rfl (by omega) (by omega) (by omega) rfl ?_
        refine op_addI (nxlf rfl) rfl rfl (by omega) (by omega) rfl ?_
        refine op_addI (nxlf rfl) rfl rfl (by omega) (by omega) rfl ?_
        refine op_move (nxlf rfl) rfl rfl ?_
        refine op_lenS (nxlf rfl) se51 rfl rfl ?_
        refine op_lss (nxlf rfl) rfl rfl rfl ?_
        refine At.opsNil ?_
        refine At.norm (hk_13 ?_)
        refine At.condP rfl (fun c40 => ?_) (fun c40 => ?_)
        · refine At.region ?_
          refine op_move (nxlf rfl) rfl rfl ?_
          refine op_move (nxlf rfl) rfl rfl ?_
          refine op_move (nxlf rfl) rfl rfl ?_
          refine op_move (nxlf rfl) rfl rfl ?_
          refine op_quoI (nxlf rfl) rfl rfl (by omega) (by omega) (by omega) rfl ?_
          refine op_addI (nxlf rfl) rfl rfl (by omega) (by omega) rfl ?_
          refine op_addI (nxlf rfl) rfl rfl (by omega) (by omega) rfl ?_
          refine op_idx1 (nxlf rfl) se51 rfl rfl ha (show _ = (((k + s / 32 + 1 : Nat)) : Int) from by omega) (by omega) rfl ?_
          refine op_loadE (nxlf rfl) sc56 rfl ha (by first | exact get8 (by omega) | exact get64 (by omega) | exact get32 (by omega)) (by first | exact mem0 | exact mem1 | exact mem2 | exact mem3 | exact mem4 | exact mem5 | exact mem6 | exact mem7 | exact mem8 | exact mem9) rfl ?_
          refine op_conv64 (nxlf rfl) (und_some Tryz.underlying56) Tryz.underlying23 rfl (by first | rfl | exact (Int.toNat_of_nonneg (by omega)).symm) rfl ?_
          refine op_shlU (nxlf rfl) rfl rfl (show _ = ((32 : Nat) : Int) from rfl) rfl ?_
          refine op_orU (nxlf rfl) rfl rfl rfl ?_
          refine op_assign (nxlf rfl) rfl rfl ?_
          refine At.opsNil ?_
          refine At.norm (jk_12 ?_ (.refl _) ⟨UInt64.ofNat (a.getD (k + s / 32) 0).toNat ||| shl64 (UInt64.ofNat (a.getD (k + s / 32 + 1) 0).toNat) 32, rfl, rfl, or_hi32⟩)
          exact .cons (by first | exact lkI rfl (by omega) | rfl) (.cons (by first | exact lkI rfl (by omega) | rfl) (.cons (by first | exact lkI rfl (by omega) | rfl) (.cons (by first | exact lkI rfl (by omega) | rfl) (.cons (by first | exact lkI rfl (by omega) | rfl) .nil))))
        · have hz : (a.getD (k + s / 32 + 1) 0).toNat = 0 := by rw [getD_big (by omega)]; rfl
          refine At.skip ?_
          refine At.norm (jk_12 ?_ (.refl _) ⟨UInt64.ofNat (a.getD (k + s / 32) 0).toNat, rfl, rfl, by rw [hz, of32]; omega⟩)
          exact .cons (by first | exact lkI rfl (by omega) | rfl) (.cons (by first | exact lkI rfl (by omega) | rfl) (.cons (by first | exact lkI rfl (by omega) | rfl) (.cons (by first | exact lkI rfl (by omega) | rfl) (.cons (by first | exact lkI rfl (by omega) | rfl) .nil))))
      rintro _ _ ⟨w, rfl, rfl, hw⟩
      refine hk_12 ?_
      refine At.region ?_
      refine op_move (nxlf rfl) rfl rfl ?_
      refine op_move (nxlf rfl) rfl rfl ?_
      refine op_move (nxlf rfl) rfl rfl ?_
      refine op_move (nxlf rfl) rfl rfl ?_
      refine op_rem (nxlf rfl) rfl rfl (by omega) (by omega) rfl ?_
      refine op_shrU (nxlf rfl) rfl rfl (show _ = (((s % 32 : Nat)) : Int) from by omega) rfl ?_
      refine op_conv32 (nxlf rfl) (und_some Tryz.underlying23) Tryz.underlying56 rfl (by first | rfl | exact (Int.toNat_of_nonneg (by omega)).symm) rfl ?_
      refine op_idx1 (nxlf rfl) se51 rfl rfl s18 (show _ = (((k : Nat)) : Int) from by omega) (by omega) rfl ?_
      refine op_storeE (nxl rfl) sz56 rfl rfl rfl rfl rfl r18 (by simp <;> omega) (by simp) sel0 (fun N18 r18 => ?_)
      have hd := shr_digit (l := a) (j := k + s / 32) (r := s % 32) (by omega) hw
      simp only [setL] at r18
      rw [set_u32s, set_fill hlk (by omega)] at r18
      change Row N18 _ 1 a18 _ _ (u32s (digsN k (v32 a / 2 ^ s) ++ [lo32 (shr64 w (s % 32))] ++ List.replicate (n - s / 32 - (k + 1)) 0)) at r18
      rw [← hd, show 32 * (k + s / 32) + s % 32 = s + 32 * k by omega, Nat.pow_add, ← Nat.div_div_eq_div_mul, ← digsN_succ] at r18
      have s18 := r18.rsl
      refine At.opsNil ?_
      refine At.inNorm ?_
      refine At.norm (hk_10 ?_)
      refine At.region ?_
      refine op_move (nxlf rfl) rfl rfl ?_
      refine op_addI (nxlf rfl) rfl rfl (by omega) (by omega) rfl ?_
      refine op_assign (nxlf rfl) rfl rfl ?_
      refine At.opsNil ?_
      refine At.norm ?_
      refine At.back ?_ (.refl _) ⟨k + 1, N18, rfl, rfl, rfl, by omega, r18⟩ ?_
      · exact .cons (by first | exact lkI rfl (by omega) | rfl) (.cons (by first | exact lkI rfl (by omega) | rfl) (.cons (by first | exact lkI rfl (by omega) | rfl) (.cons (by first | exact lkI rfl (by omega) | rfl) .nil)))
      · omega
    · refine At.exit (At.thenExit (At.thenExit (At.inHit ?_)))
      refine At.norm (hk_6 ?_)
      refine At.seq fun K14 hk_14 => ?_
      refine At.region ?_
      refine op_move (nxlf rfl) rfl rfl ?_
      have hkn : k = n - s / 32 := by omega
      rw [hkn, Nat.sub_self, List.replicate_zero, List.append_nil] at s18
      have hfin : v32 (digsN (n - s / 32) (v32 a / 2 ^ s)) = v32 a / 2 ^ s := by
        rw [v32_digsN]
        refine Nat.mod_eq_of_lt ?_
        rw [Nat.div_lt_iff_lt_mul (Nat.pow_pos (by decide)), ← Nat.pow_add]
        exact Nat.lt_of_lt_of_le (v32_lt a) (Nat.pow_le_pow_right (by decide) (by omega))
      refine op_callA (nxla rfl) (.cons rfl .nil) (trim32_f s18) Tryz.func50 rfl rfl (by simp) rfl ?_
      rintro v62 L62 ⟨rfl, rfl, t62, l62⟩
      change At _ _ _ [N18, R] _
      refine op_assign (nxlf rfl) rfl rfl ?_
      refine At.opsNil ?_
      refine At.norm (hk_14 ?_)
      refine At.ret (?_)
      refine At.ret1 (L1 := [N18]) rfl (.tmp rfl .nil) (.refl _) (.refl _) ?_
      have h := trim32d s18 t62 l62
      rw [hfin] at h ⊢
      exact ⟨N18, a18, _, rfl, rfl, h⟩
theorem rBit_f {N : Heaplet} {ao : Option Addr} {n cap : Nat} {l : List UInt32} (h : RSl N 1 ao n cap (u32s l)) (i : Nat) (hi : i ≤ 9223372036854775807) : Fn Tryz.prog 70 #[.slice ao n cap, .int .i64 (i : Int)] [] [N] (fun v L => v = .int .u32 ((v32 l / 2 ^ i % 2 : Nat) : Int) ∧ L = []) := by
  have hlen := h.len32
  have hcap := h.cap63
  refine Fn.enter (vs := [.slice ao n cap, .int .i64 (i : Int)]) Tryz.func70 rfl rfl rfl ?_
  intro E R hR
  have h := h.le (hR N (by simp))
  change At _ _ E [R] _
  refine At.seq fun K1 hk_1 => ?_
  refine At.region ?_
  refine op_assign (nxlf rfl) rfl rfl ?_
  refine At.opsNil ?_
  refine At.norm (hk_1 ?_)
  refine At.seq fun K2 hk_2 => ?_
  refine At.seq fun K3 hk_3 => ?_
  refine At.region ?_
  refine op_move (nxlf rfl) rfl rfl ?_
  refine op_quoI (nxlf rfl) rfl rfl (by omega) (by omega) (by omega) rfl ?_
  refine op_move (nxlf rfl) rfl rfl ?_
  refine op_lenS (nxlf rfl) se51 rfl rfl ?_
  refine op_geq (nxlf rfl) rfl rfl rfl ?_
  refine At.opsNil ?_
  refine At.norm (hk_3 ?_)
  refine At.condP rfl (fun c9 => ?_) (fun c9 => ?_)
  · refine At.seq fun K4 hk_4 => ?_
    refine At.region ?_
    refine op_assign (nxlf rfl) rfl rfl ?_
    refine At.opsNil ?_
    refine At.norm (hk_4 ?_)
    refine At.ret (At.thenRet (?_))
    refine At.ret1 (L1 := []) rfl (.tmp rfl .nil) (.refl _) (.refl _) ?_
    exact ⟨by rw [bit_big32 (by omega)]; rfl, rfl⟩
  · refine At.skip ?_
    refine At.norm (hk_2 ?_)
    refine At.seq fun K5 hk_5 => ?_
    refine At.region ?_
    refine op_move (nxlf rfl) rfl rfl ?_
    refine op_move (nxlf rfl) rfl rfl ?_
    refine op_quoI (nxlf rfl) rfl rfl (by omega) (by omega) (by omega) rfl ?_
    refine op_idx1 (nxlf rfl) se51 rfl rfl (by assumption) (show _ = (((i / 32 : Nat)) : Int) from by omega) (by omega) rfl ?_
    refine op_loadE (nxlf rfl) sc56 rfl (by assumption) (by first | exact get8 (by omega) | exact get64 (by omega) | exact get32 (by omega)) (by first | exact mem0 | exact mem1 | exact mem2 | exact mem3 | exact mem4 | exact mem5 | exact mem6 | exact mem7 | exact mem8 | exact mem9) rfl ?_
    refine op_move (nxlf rfl) rfl rfl ?_
    refine op_rem (nxlf rfl) rfl rfl (by omega) (by omega) rfl ?_
    refine op_shrU32 (nxlf rfl) rfl rfl (show _ = (((i % 32 : Nat)) : Int) from by omega) rfl ?_
    refine op_andU32 (b := 1) (nxlf rfl) rfl rfl rfl ?_
    refine op_assign (nxlf rfl) rfl rfl ?_
    refine At.opsNil ?_
    refine At.norm (hk_5 ?_)
    refine At.ret (?_)
    refine At.ret1 (L1 := []) rfl (.tmp rfl .nil) (.refl _) (.refl _) ?_
    exact ⟨by rw [← bit_at32], rfl⟩
theorem rLen_f {N : Heaplet} {ao : Option Addr} {n cap : Nat} {l : List UInt32} (h : RSl N 1 ao n cap (u32s l)) (hn : n ≤ 1099511627776) : Fn Tryz.prog 46 #[.slice ao n cap] [] [N] (fun v L => v = .int .i64 ((bitLen (v32 l) : Nat) : Int) ∧ L = []) := by
  have hlen := h.len32
  have hcap := h.cap63
  refine Fn.enter (vs := [.slice ao n cap]) Tryz.func46 rfl rfl rfl ?_
  intro E R hR
  have h := h.le (hR N (by simp))
  change At _ _ E [R] _
  refine At.seq fun K1 hk_1 => ?_
  refine At.region ?_
  refine op_assign (nxlf rfl) rfl rfl ?_
  refine At.opsNil ?_
  refine At.norm (hk_1 ?_)
  refine At.seq fun K2 hk_2 => ?_
  refine At.region ?_
  refine op_move (nxlf rfl) rfl rfl ?_
  refine op_lenS (nxlf rfl) se51 rfl rfl ?_
  refine op_mulI (nxlf rfl) rfl rfl (by omega) (by omega) rfl ?_
  refine op_assign (nxlf rfl) rfl rfl ?_
  refine At.opsNil ?_
  refine At.norm (hk_2 ?_)
  refine At.seq fun K3 hk_3 => ?_
  refine At.block ?_
  refine At.loop (fun fr_ hp_ ms_ => ∃ (j : Nat), fr_ = [(0, .slice ao n cap), (3, .int .i64 (j : Int))] ∧ hp_ = [R] ∧ j = ms_ ∧ (j ≤ 32 * n) ∧ (v32 l < 2 ^ j)) ?_ (.refl _) ⟨32 * n, rfl, rfl, rfl, by omega, by rw [← hlen]; exact v32_lt l⟩ ?_
  · exact .cons (by first | exact lkI rfl (by omega) | rfl) (.cons (by first | exact lkI rfl (by omega) | rfl) .nil)
  rintro _ _ _ ⟨j, rfl, rfl, rfl, hj, hv⟩
  refine At.seq fun K4 hk_4 => ?_
  refine At.seq fun K5 hk_5 => ?_
  refine At.region ?_
  refine op_move (nxlf rfl) rfl rfl ?_
  refine op_gtr (nxlf rfl) rfl rfl rfl ?_
  refine op_move (nxlf rfl) rfl rfl ?_
  refine At.partP (d := 9) rfl (fun g9 => ?_) (fun g9 => ?_)
  · refine op_move (nxgf rfl rfl rfl rfl) rfl rfl ?_
    refine op_move (nxgf rfl rfl rfl rfl) rfl rfl ?_
    refine op_subI (nxgf rfl rfl rfl rfl) rfl rfl (by omega) (by omega) rfl ?_
    rw [show (j : Int) - 1 = ((j - 1 : Nat) : Int) by omega]
    refine op_callA (nxga rfl rfl rfl rfl) (.cons rfl (.cons rfl .nil)) (rBit_f h (j - 1) (by omega)) Tryz.func70 rfl rfl (by simp) rfl ?_
    rintro v13 L13 ⟨rfl, rfl⟩
    change At _ _ _ [R] _
    refine op_eql (nxgf rfl rfl rfl rfl) rfl rfl rfl ?_
    refine op_pickT (nxlf rfl) rfl rfl rfl ?_
    refine At.opsNil ?_
    refine At.norm (hk_5 ?_)
    refine At.condP rfl (fun c15 => ?_) (fun c15 => ?_)
    · have hv' : v32 l < 2 ^ (j - 1) := by
        have e : v32 l / 2 ^ (j - 1) < 2 := by
          rw [Nat.div_lt_iff_lt_mul (Nat.pow_pos (by decide)), ← Nat.pow_succ', show (j - 1).succ = j by omega]; exact hv
        have e2 : v32 l / 2 ^ (j - 1) = 0 := by
          generalize v32 l / 2 ^ (j - 1) = X at *
          omega
        exact (Nat.div_eq_zero_iff_lt (Nat.pow_pos (by decide))).1 e2
      refine At.skip ?_
      refine At.norm (hk_4 ?_)
      refine At.block ?_
      refine At.region ?_
      refine op_move (nxlf rfl) rfl rfl ?_
      refine op_subI (nxlf rfl) rfl rfl (by omega) (by omega) rfl ?_
      refine op_assign (nxlf rfl) rfl rfl ?_
      refine At.opsNil ?_
      refine At.inNorm ?_
      refine At.norm ?_
      refine At.back ?_ (.refl _) ⟨j - 1, rfl, rfl, rfl, by omega, hv'⟩ ?_
      · exact .cons (by first | exact lkI rfl (by omega) | rfl) (.cons (by first | exact lkI rfl (by omega) | rfl) .nil)
      · omega
    · refine At.exit (At.thenExit (At.thenExit (At.inHit ?_)))
      refine At.norm (hk_3 ?_)
      refine At.seq fun K6 hk_6 => ?_
      refine At.region ?_
      refine op_move (nxlf rfl) rfl rfl ?_
      refine op_assign (nxlf rfl) rfl rfl ?_
      refine At.opsNil ?_
      refine At.norm (hk_6 ?_)
      refine At.ret (?_)
      refine At.ret1 (L1 := []) rfl (.tmp rfl .nil) (.refl _) (.refl _) ?_
      refine ⟨?_, rfl⟩
      congr 2
      symm
      refine bitLen_eq hv (.inr ?_)
      rcases Nat.lt_or_ge (v32 l) (2 ^ (j - 1)) with h1 | h1
      · rw [Nat.div_eq_of_lt h1] at c15; exact absurd rfl c15
      · exact h1
  · refine op_skip rfl rfl rfl rfl rfl rfl rfl ?_
    refine op_skip rfl rfl rfl rfl rfl rfl rfl ?_
    refine op_skip rfl rfl rfl rfl rfl rfl rfl ?_
    refine op_skip rfl rfl rfl rfl rfl rfl rfl ?_
    refine op_skip rfl rfl rfl rfl rfl rfl rfl ?_
    refine op_pickF (nxlf rfl) rfl rfl rfl ?_
    refine At.opsNil ?_
    refine At.norm (hk_5 ?_)
    refine At.condF rfl ?_
    refine At.exit (At.thenExit (At.thenExit (At.inHit ?_)))
    refine At.norm (hk_3 ?_)
    refine At.seq fun K7 hk_7 => ?_
    refine At.region ?_
    refine op_move (nxlf rfl) rfl rfl ?_
    refine op_assign (nxlf rfl) rfl rfl ?_
    refine At.opsNil ?_
    refine At.norm (hk_7 ?_)
    refine At.ret (?_)
    refine At.ret1 (L1 := []) rfl (.tmp rfl .nil) (.refl _) (.refl _) ?_
    refine ⟨?_, rfl⟩
    congr 2
    symm
    exact bitLen_eq hv (.inl (by omega))
end Go.Proofs.YtnpcaplgkmlmoaaGreatDoor
/- The reference's less and back: the parts of a division. Condition: numbers of at most 2^40 digits. -/
namespace Go.Proofs.YtnpcaplgkmlmoaaGreatDoor
set_option linter.unusedVariables false
set_option linter.unusedSimpArgs false
open Go Go.RowKit
theorem less_round {w u v : List UInt32} {k q cy cy' bw bw' m : Nat} {d : UInt32} (hw : w.length = k) (hv : v32 w + q * v32 (v.take k) = v32 (u.take k) + (cy + bw) * 2 ^ (32 * k)) (hm : m = cy + q * (v.getD k 0).toNat) (hcy : cy' = m / 4294967296)
    (hd : d.toNat + (m % 4294967296 + bw) = (u.getD k 0).toNat + bw' * 4294967296) : v32 (w ++ [d]) + q * v32 (v.take (k + 1)) = v32 (u.take (k + 1)) + (cy' + bw') * 2 ^ (32 * (k + 1)) := by
  have h1 : cy + q * (v.getD k 0).toNat = m % 4294967296 + cy' * 4294967296 := by rw [hcy, Nat.mul_comm (m / 4294967296), Nat.mod_add_div, hm]
  clear hm hcy
  generalize m % 4294967296 = ml at *
  have h4 := congrArg (2 ^ (32 * k) * ·) h1
  have h5 := congrArg (2 ^ (32 * k) * ·) hd
  simp only [Nat.mul_add] at h4 h5
  rw [v32_snoc, hw, v32_take_succD, v32_take_succD, pow32, Nat.mul_add, Nat.add_mul]
  have e1 : q * (2 ^ (32 * k) * (v.getD k 0).toNat) = 2 ^ (32 * k) * (q * (v.getD k 0).toNat) := Nat.mul_left_comm ..
  have e2 : cy' * (2 ^ (32 * k) * 4294967296) = 2 ^ (32 * k) * (cy' * 4294967296) := by rw [Nat.mul_left_comm]
  have e3 : bw' * (2 ^ (32 * k) * 4294967296) = 2 ^ (32 * k) * (bw' * 4294967296) := by rw [Nat.mul_left_comm]
  rw [e1, e2, e3]
  rw [Nat.add_mul, Nat.mul_comm cy, Nat.mul_comm bw] at hv
  omega
theorem and32' (z : UInt64) : (z &&& 4294967295).toNat = z.toNat % 4294967296 := and32 z
def LessP (co : Option Addr) (nc cc : Nat) (pre u v post : List UInt32) (q : Nat) (r : Value) (L : List Heaplet) : Prop :=
  ∃ M x, ∃ bw : Nat, r = .bool (decide (bw = 1)) ∧ L = [M] ∧ Row M 56 1 co nc cc (u32s (pre ++ x ++ post)) ∧ x.length = u.length ∧ bw ≤ 1 ∧ v32 x + q * v32 v = v32 u + bw * 2 ^ (32 * u.length)
set_option maxRecDepth 100000 in
theorem less_f {Nc Nv : Heaplet} {co vo : Option Addr} {nc cc i n cv : Nat} {pre u post v : List UInt32} {q : UInt64} (rc : Row Nc 56 1 co nc cc (u32s (pre ++ u ++ post))) (hv : RSl Nv 1 vo n cv (u32s v)) (hp : pre.length = i) (hul : u.length = n + 1)
    (hn : n ≤ 1099511627776) (hi : i ≤ 1099511627776) (hq : q.toNat ≤ 4294967295) :
    Fn Tryz.prog 48 #[.slice co nc cc, .slice vo n cv, .int .i64 (i : Int), .int .u64 (q.toNat : Int)] [Nc] [Nv] (LessP co nc cc pre u v post q.toNat) := by
  have hcv := hv.cap63
  have hvl := hv.len32
  have hcl := rc.rsl.len32
  have hcn := rc.rsl.cap63
  rw [List.length_append, List.length_append, hp, hul] at hcl
  refine Fn.enter (vs := [.slice co nc cc, .slice vo n cv, .int .i64 (i : Int), .int .u64 (q.toNat : Int)]) Tryz.func48 rfl rfl rfl ?_
  intro E R hR
  have hv := hv.le (hR Nv (by simp))
  change At _ _ E [Nc, R] _
  refine At.seq fun K1 hk_1 => ?_
  refine At.region ?_
  refine op_assign (nxlf rfl) rfl rfl ?_
  refine At.opsNil ?_
  refine At.norm (hk_1 ?_)
  refine At.seq fun K2 hk_2 => ?_
  refine At.region ?_
  refine op_assign (nxlf rfl) rfl rfl ?_
  refine At.opsNil ?_
  refine At.norm (hk_2 ?_)
  refine At.seq fun K3 hk_3 => ?_
  refine At.region ?_
  refine op_assign (nxlf rfl) rfl rfl ?_
  refine At.opsNil ?_
  refine At.norm (hk_3 ?_)
  refine At.seq fun K4 hk_4 => ?_
  refine At.seq fun K5 hk_5 => ?_
  refine At.region ?_
  refine op_assign (nxlf rfl) rfl rfl ?_
  refine At.opsNil ?_
  refine At.norm (hk_5 ?_)
  refine At.block ?_
  refine At.loop (fun fr_ hp_ ms_ => ∃ (k : Nat) (w : List UInt32) (cy bw : UInt64) (Nc : Heaplet), fr_ = [(0, .slice co nc cc), (1, .slice vo n cv), (2, .int .i64 (i : Int)), (3, .int .u64 (q.toNat : Int)), (9, .int .u64 (cy.toNat : Int)), (10, .int .u64 (bw.toNat : Int)), (11, .int .i64 (k : Int))] ∧ hp_ = [Nc, R] ∧ n + 1 - k = ms_ ∧ (k ≤ n + 1) ∧ (w.length = k) ∧ (cy.toNat < 4294967296) ∧ (bw.toNat ≤ 1) ∧ (k = n + 1 → cy.toNat = 0) ∧ (v32 w + q.toNat * v32 (v.take k) = v32 (u.take k) + (cy.toNat + bw.toNat) * 2 ^ (32 * k)) ∧ (Row Nc 56 1 co nc cc (u32s (pre ++ (w ++ u.drop k) ++ post)))) ?_ (.refl _) ⟨0, [], 0, 0, Nc, rfl, rfl, rfl, by omega, rfl, by decide, by decide, by intro h; rfl, by simp [v32, n32, val], by simpa using rc⟩ ?_
  · exact .cons (by first | exact lkI rfl (by omega) | rfl) (.cons (by first | exact lkI rfl (by omega) | rfl) (.cons (by first | exact lkI rfl (by omega) | rfl) (.cons (by first | exact lkI rfl (by omega) | rfl) (.cons (by first | exact lkI rfl (by omega) | rfl) (.cons (by first | exact lkI rfl (by omega) | rfl) (.cons (by first | exact lkI rfl (by omega) | rfl) .nil))))))
  rintro _ _ _ ⟨k, w, cy, bw, Nc, rfl, rfl, rfl, hk, hw, hcy, hbw, hz0, hv2, rc⟩
  have hwl : (w ++ u.drop k).length = n + 1 := by rw [List.length_append, List.length_drop]; omega
  have hal : (pre ++ (w ++ u.drop k) ++ post).length = nc := by rw [List.length_append, List.length_append, hp, hwl]; exact hcl
  have sc := rc.rsl
  refine At.seq fun K6 hk_6 => ?_
  refine At.seq fun K7 hk_7 => ?_
  refine At.region ?_
  refine op_move (nxlf rfl) rfl rfl ?_
  refine op_move (nxlf rfl) rfl rfl ?_
  refine op_lenS (nxlf rfl) se51 rfl rfl ?_
  refine op_leq (nxlf rfl) rfl rfl rfl ?_
  refine At.opsNil ?_
  refine At.norm (hk_7 ?_)
  refine At.condP rfl (fun c18 => ?_) (fun c18 => ?_)
  · refine At.skip ?_
    refine At.norm (hk_6 ?_)
    refine At.seq fun K8 hk_8 => ?_
    refine At.block ?_
    refine At.seq fun K9 hk_9 => ?_
    refine At.region ?_
    refine op_move (nxlf rfl) rfl rfl ?_
    refine op_assign (nxlf rfl) rfl rfl ?_
    refine At.opsNil ?_
    refine At.norm (hk_9 ?_)
    refine At.seq fun K10 hk_10 => ?_
    refine At.meet (fun fr_ hp_ => ∃ (m : UInt64), fr_ = [(0, .slice co nc cc), (1, .slice vo n cv), (2, .int .i64 (i : Int)), (3, .int .u64 (q.toNat : Int)), (10, .int .u64 (bw.toNat : Int)), (11, .int .i64 (k : Int)), (12, .int .u64 (m.toNat : Int))] ∧ hp_ = [Nc, R] ∧ (m.toNat = cy.toNat + q.toNat * (v.getD k 0).toNat)) ?_ (fun K10_ jk_10 => ?_)
    rotate_left
    · skip
      refine At.seq fun K11 hk_11 => ?_
      refine At.region ?_
      refine op_move (nxlf rfl) rfl rfl ?_
      refine op_move (nxlf rfl) rfl rfl ?_
      refine op_lenS (nxlf rfl) se51 rfl rfl ?_
      refine op_lss (nxlf rfl) rfl rfl rfl ?_
      refine At.opsNil ?_
      refine At.norm (hk_11 ?_)
      refine At.condP rfl (fun c25 => ?_) (fun c25 => ?_)
      · refine At.region ?_
        refine op_move (nxlf rfl) rfl rfl ?_
        refine op_move (nxlf rfl) rfl rfl ?_
        refine op_move (nxlf rfl) rfl rfl ?_
        refine op_move (nxlf rfl) rfl rfl ?_
        refine op_idx1 (nxlf rfl) se51 rfl rfl hv (show _ = (((k : Nat)) : Int) from by omega) (by omega) rfl ?_
        refine op_loadE (nxlf rfl) sc56 rfl hv (by first | exact get8 (by omega) | exact get64 (by omega) | exact get32 (by omega)) (by first | exact mem0 | exact mem1 | exact mem2 | exact mem3 | exact mem4 | exact mem5 | exact mem6 | exact mem7 | exact mem8 | exact mem9) rfl ?_
        refine op_conv64 (nxlf rfl) (und_some Tryz.underlying56) Tryz.underlying23 rfl (by first | rfl | exact (Int.toNat_of_nonneg (by omega)).symm) rfl ?_
        refine op_mulU (nxlf rfl) rfl rfl rfl ?_
        refine op_addU (nxlf rfl) rfl rfl rfl ?_
        have hbk := dlt v k
        obtain ⟨p1, p2⟩ := mul64n (a := q) (b := UInt64.ofNat (v.getD k 0).toNat) hq (by rw [of32]; exact hbk)
        rw [of32] at p1 p2
        refine op_assign (nxlf rfl) rfl rfl ?_
        refine At.opsNil ?_
        refine At.norm (jk_10 ?_ (.refl _) ⟨cy + q * UInt64.ofNat (v.getD k 0).toNat, rfl, rfl, by rw [add64n (by rw [p1]; omega), p1]⟩)
        exact .cons (by first | exact lkI rfl (by omega) | rfl) (.cons (by first | exact lkI rfl (by omega) | rfl) (.cons (by first | exact lkI rfl (by omega) | rfl) (.cons (by first | exact lkI rfl (by omega) | rfl) (.cons (by first | exact lkI rfl (by omega) | rfl) (.cons (by first | exact lkI rfl (by omega) | rfl) (.cons (by first | exact lkI rfl (by omega) | rfl) .nil))))))
      · have hz : (v.getD k 0).toNat = 0 := by rw [getD_big (by omega)]; rfl
        refine At.skip ?_
        refine At.norm (jk_10 ?_ (.refl _) ⟨cy, rfl, rfl, by rw [hz]; omega⟩)
        exact .cons (by first | exact lkI rfl (by omega) | rfl) (.cons (by first | exact lkI rfl (by omega) | rfl) (.cons (by first | exact lkI rfl (by omega) | rfl) (.cons (by first | exact lkI rfl (by omega) | rfl) (.cons (by first | exact lkI rfl (by omega) | rfl) (.cons (by first | exact lkI rfl (by omega) | rfl) (.cons (by first | exact lkI rfl (by omega) | rfl) .nil))))))
    rintro _ _ ⟨m, rfl, rfl, hm⟩
    refine hk_10 ?_
    refine At.seq fun K12 hk_12 => ?_
    refine At.region ?_
    refine op_move (nxlf rfl) rfl rfl ?_
    refine op_shrU (nxlf rfl) rfl rfl (show _ = ((32 : Nat) : Int) from rfl) rfl ?_
    refine op_assign (nxlf rfl) rfl rfl ?_
    refine At.opsNil ?_
    refine At.norm (hk_12 ?_)
    refine At.seq fun K13 hk_13 => ?_
    refine At.region ?_
    refine op_move (nxlf rfl) rfl rfl ?_
    refine op_andU (b := 4294967295) (nxlf rfl) rfl rfl rfl ?_
    refine op_move (nxlf rfl) rfl rfl ?_
    refine op_addU (nxlf rfl) rfl rfl rfl ?_
    have hsh : (shr64 m 32).toNat = m.toNat / 4294967296 := shr32n m
    have hz' : k + 1 = n + 1 → (shr64 m 32).toNat = 0 := fun h => by
      rw [hsh, hm, getD_big (show v.length ≤ k by omega)]
      show (cy.toNat + q.toNat * 0) / 4294967296 = 0
      rw [Nat.mul_zero]; omega
    have hs : ((m &&& 4294967295) + bw).toNat = m.toNat % 4294967296 + bw.toNat := by rw [add64n (by rw [and32]; omega), and32]
    generalize (m &&& 4294967295) + bw = s at *
    refine op_assign (nxlf rfl) rfl rfl ?_
    refine At.opsNil ?_
    refine At.norm (hk_13 ?_)
    refine At.seq fun K14 hk_14 => ?_
    refine At.region ?_
    refine op_move (nxlf rfl) rfl rfl ?_
    refine op_move (nxlf rfl) rfl rfl ?_
    refine op_move (nxlf rfl) rfl rfl ?_
    refine op_addI (nxlf rfl) rfl rfl (by omega) (by omega) rfl ?_
    refine op_idx1 (nxlf rfl) se51 rfl rfl sc (show _ = (((i + k : Nat)) : Int) from by omega) (by omega) rfl ?_
    refine op_loadE (nxlf rfl) sc56 rfl sc (by first | exact get8 (by omega) | exact get64 (by omega) | exact get32 (by omega)) (by first | exact mem0 | exact mem1 | exact mem2 | exact mem3 | exact mem4 | exact mem5 | exact mem6 | exact mem7 | exact mem8 | exact mem9) rfl ?_
    rw [show (pre ++ (w ++ u.drop k) ++ post).getD (i + k) 0 = u.getD k 0 by rw [List.append_assoc, getD_right hp, getD_app (show k < (w ++ u.drop k).length by omega), getD_drop hw (by omega)]]
    refine op_conv64 (nxlf rfl) (und_some Tryz.underlying56) Tryz.underlying23 rfl (by first | rfl | exact (Int.toNat_of_nonneg (by omega)).symm) rfl ?_
    have hx0 := of32 (u.getD k 0)
    have huk := dlt u k
    generalize UInt64.ofNat (u.getD k 0).toNat = x0 at *
    refine op_assign (nxlf rfl) rfl rfl ?_
    refine At.opsNil ?_
    refine At.norm (hk_14 ?_)
    refine At.seq fun K15 hk_15 => ?_
    refine At.region ?_
    refine op_assign (nxlf rfl) rfl rfl ?_
    refine At.opsNil ?_
    refine At.norm (hk_15 ?_)
    refine At.seq fun K16 hk_16 => ?_
    refine At.meet (fun fr_ hp_ => ∃ (x bw' : UInt64), fr_ = [(0, .slice co nc cc), (1, .slice vo n cv), (2, .int .i64 (i : Int)), (3, .int .u64 (q.toNat : Int)), (9, .int .u64 ((shr64 m 32).toNat : Int)), (10, .int .u64 (bw'.toNat : Int)), (11, .int .i64 (k : Int)), (13, .int .u64 (s.toNat : Int)), (14, .int .u64 (x.toNat : Int))] ∧ hp_ = [Nc, R] ∧ (x.toNat = (u.getD k 0).toNat + bw'.toNat * 4294967296) ∧ (s.toNat ≤ x.toNat ∧ x.toNat - s.toNat < 4294967296) ∧ (bw'.toNat ≤ 1)) ?_ (fun K16_ jk_16 => ?_)
    rotate_left
    · skip
      refine At.seq fun K17 hk_17 => ?_
      refine At.region ?_
      refine op_move (nxlf rfl) rfl rfl ?_
      refine op_move (nxlf rfl) rfl rfl ?_
      refine op_lss (nxlf rfl) rfl rfl rfl ?_
      refine At.opsNil ?_
      refine At.norm (hk_17 ?_)
      refine At.condP rfl (fun c50 => ?_) (fun c50 => ?_)
      · refine At.seq fun K18 hk_18 => ?_
        refine At.region ?_
        refine op_move (nxlf rfl) rfl rfl ?_
        refine op_addU (b := 4294967296) (nxlf rfl) rfl rfl rfl ?_
        refine op_assign (nxlf rfl) rfl rfl ?_
        refine At.opsNil ?_
        refine At.norm (hk_18 ?_)
        refine At.region ?_
        refine op_assign (nxlf rfl) rfl rfl ?_
        refine At.opsNil ?_
        refine At.norm (jk_16 ?_ (.refl _) ⟨x0 + 4294967296, 1, rfl, rfl, by rw [add64n (by show x0.toNat + 4294967296 < _; omega)]; show x0.toNat + 4294967296 = _ + 1 * 4294967296; omega, by rw [add64n (by show x0.toNat + 4294967296 < _; omega)]; show s.toNat ≤ x0.toNat + 4294967296 ∧ x0.toNat + 4294967296 - s.toNat < 4294967296; omega, by decide⟩)
        exact .cons (by first | exact lkI rfl (by omega) | rfl) (.cons (by first | exact lkI rfl (by omega) | rfl) (.cons (by first | exact lkI rfl (by omega) | rfl) (.cons (by first | exact lkI rfl (by omega) | rfl) (.cons (by first | exact lkI rfl (by omega) | rfl) (.cons (by first | exact lkI rfl (by omega) | rfl) (.cons (by first | exact lkI rfl (by omega) | rfl) (.cons (by first | exact lkI rfl (by omega) | rfl) (.cons (by first | exact lkI rfl (by omega) | rfl) .nil))))))))
      · refine At.skip ?_
        refine At.norm (jk_16 ?_ (.refl _) ⟨x0, 0, rfl, rfl, by show _ = _ + 0 * 4294967296; omega, by omega, by decide⟩)
        exact .cons (by first | exact lkI rfl (by omega) | rfl) (.cons (by first | exact lkI rfl (by omega) | rfl) (.cons (by first | exact lkI rfl (by omega) | rfl) (.cons (by first | exact lkI rfl (by omega) | rfl) (.cons (by first | exact lkI rfl (by omega) | rfl) (.cons (by first | exact lkI rfl (by omega) | rfl) (.cons (by first | exact lkI rfl (by omega) | rfl) (.cons (by first | exact lkI rfl (by omega) | rfl) (.cons (by first | exact lkI rfl (by omega) | rfl) .nil))))))))
    rintro _ _ ⟨x, bw', rfl, rfl, hx, hxs, hbw'⟩
    refine hk_16 ?_
    refine At.region ?_
    refine op_move (nxlf rfl) rfl rfl ?_
    refine op_move (nxlf rfl) rfl rfl ?_
    refine op_move (nxlf rfl) rfl rfl ?_
    refine op_addI (nxlf rfl) rfl rfl (by omega) (by omega) rfl ?_
    refine op_move (nxlf rfl) rfl rfl ?_
    refine op_move (nxlf rfl) rfl rfl ?_
    refine op_subU (nxlf rfl) rfl rfl rfl ?_
    refine op_conv32 (nxlf rfl) (und_some Tryz.underlying23) Tryz.underlying56 rfl (by first | rfl | exact (Int.toNat_of_nonneg (by omega)).symm) rfl ?_
    refine op_idx1 (nxlf rfl) se51 rfl rfl sc (show _ = (((i + k : Nat)) : Int) from by omega) (by omega) rfl ?_
    refine op_storeE (nxl rfl) sz56 rfl rfl rfl rfl rfl rc (by simp [u32s]; omega) (by simp) sel0 (fun Nc rc => ?_)
    simp only [setL] at rc
    rw [set_u32s, win_set hp (show k < (w ++ u.drop k).length by omega), set_drop hw (show k < u.length by omega)] at rc
    change Row Nc _ 1 co nc cc (u32s (pre ++ (w ++ [lo32 (x - s)] ++ u.drop (k + 1)) ++ post)) at rc
    have sc := rc.rsl
    refine At.opsNil ?_
    refine At.inNorm ?_
    refine At.norm (hk_8 ?_)
    refine At.region ?_
    refine op_move (nxlf rfl) rfl rfl ?_
    refine op_addI (nxlf rfl) rfl rfl (by omega) (by omega) rfl ?_
    refine op_assign (nxlf rfl) rfl rfl ?_
    refine At.opsNil ?_
    refine At.norm ?_
    refine At.back ?_ (.refl _) ⟨k + 1, w ++ [lo32 (x - s)], shr64 m 32, bw', Nc, rfl, rfl, rfl, by omega, by simp; omega, carry_lt, hbw', hz', less_round hw hv2 hm hsh (by rw [lo32_nat, sub64n (by omega)]; omega), rc⟩ ?_
    · exact .cons (by first | exact lkI rfl (by omega) | rfl) (.cons (by first | exact lkI rfl (by omega) | rfl) (.cons (by first | exact lkI rfl (by omega) | rfl) (.cons (by first | exact lkI rfl (by omega) | rfl) (.cons (by first | exact lkI rfl (by omega) | rfl) (.cons (by first | exact lkI rfl (by omega) | rfl) (.cons (by first | exact lkI rfl (by omega) | rfl) .nil))))))
    · omega
  · refine At.exit (At.thenExit (At.thenExit (At.inHit ?_)))
    refine At.norm (hk_4 ?_)
    refine At.seq fun K19 hk_19 => ?_
    refine At.region ?_
    refine op_move (nxlf rfl) rfl rfl ?_
    refine op_eql (nxlf rfl) rfl rfl rfl ?_
    refine op_assign (nxlf rfl) rfl rfl ?_
    refine At.opsNil ?_
    refine At.norm (hk_19 ?_)
    refine At.ret (?_)
    refine At.ret1 (L1 := [Nc]) rfl (.tmp rfl .nil) (.refl _) (.refl _) ?_
    have hkn : k = n + 1 := by omega
    rw [hkn, v32_take_all (by omega), v32_take_all (by omega), hz0 hkn, Nat.zero_add] at hv2
    rw [hkn, List.drop_of_length_le (by omega), List.append_nil] at rc
    exact ⟨Nc, w, bw.toNat, by congr 1; rw [decide_eq_decide]; show ((bw.toNat : Int) = 1) ↔ _; omega, rfl, rc, by omega, hbw, by rw [hul]; exact hv2⟩
def BackP (co : Option Addr) (nc cc : Nat) (pre u v post : List UInt32) (r : Value) (L : List Heaplet) : Prop :=
  ∃ M x, ∃ c : Nat, r = .tuple #[] ∧ L = [M] ∧ Row M 56 1 co nc cc (u32s (pre ++ x ++ post)) ∧ x.length = u.length ∧ c ≤ 1 ∧ v32 x + c * 2 ^ (32 * u.length) = v32 u + v32 v ∧ ((u.getD v.length 0).toNat ≤ (x.getD v.length 0).toNat ↔ c = 0)
set_option maxRecDepth 100000 in
theorem back_f {Nc Nv : Heaplet} {co vo : Option Addr} {nc cc i n cv : Nat} {pre u post v : List UInt32} (rc : Row Nc 56 1 co nc cc (u32s (pre ++ u ++ post))) (hv : RSl Nv 1 vo n cv (u32s v)) (hp : pre.length = i) (hul : u.length = n + 1)
    (hn : n ≤ 1099511627776) (hi : i ≤ 1099511627776) :
    Fn Tryz.prog 49 #[.slice co nc cc, .slice vo n cv, .int .i64 (i : Int)] [Nc] [Nv] (BackP co nc cc pre u v post) := by
  have hcv := hv.cap63
  have hvl := hv.len32
  have hcl := rc.rsl.len32
  have hcn := rc.rsl.cap63
  rw [List.length_append, List.length_append, hp, hul] at hcl
  refine Fn.enter (vs := [.slice co nc cc, .slice vo n cv, .int .i64 (i : Int)]) Tryz.func49 rfl rfl rfl ?_
  intro E R hR
  have hv := hv.le (hR Nv (by simp))
  change At _ _ E [Nc, R] _
  refine At.seq fun K1 hk_1 => ?_
  refine At.region ?_
  refine op_assign (nxlf rfl) rfl rfl ?_
  refine At.opsNil ?_
  refine At.norm (hk_1 ?_)
  refine At.seq fun K2 hk_2 => ?_
  refine At.region ?_
  refine op_assign (nxlf rfl) rfl rfl ?_
  refine At.opsNil ?_
  refine At.norm (hk_2 ?_)
  refine At.block ?_
  refine At.loop (fun fr_ hp_ ms_ => ∃ (k : Nat) (w : List UInt32) (cy : UInt64) (Nc : Heaplet), fr_ = [(0, .slice co nc cc), (1, .slice vo n cv), (2, .int .i64 (i : Int)), (6, .int .u64 (cy.toNat : Int)), (7, .int .i64 (k : Int))] ∧ hp_ = [Nc, R] ∧ n + 1 - k = ms_ ∧ (k ≤ n + 1) ∧ (w.length = k) ∧ (cy.toNat ≤ 1) ∧ (k = n + 1 → ((u.getD n 0).toNat ≤ (w.getD n 0).toNat ↔ cy.toNat = 0)) ∧ (v32 w + cy.toNat * 2 ^ (32 * k) = v32 (u.take k) + v32 (v.take k)) ∧ (Row Nc 56 1 co nc cc (u32s (pre ++ (w ++ u.drop k) ++ post)))) ?_ (.refl _) ⟨0, [], 0, Nc, rfl, rfl, rfl, by omega, rfl, by decide, by intro h; omega, by simp [v32, n32, val], by simpa using rc⟩ ?_
  · exact .cons (by first | exact lkI rfl (by omega) | rfl) (.cons (by first | exact lkI rfl (by omega) | rfl) (.cons (by first | exact lkI rfl (by omega) | rfl) (.cons (by first | exact lkI rfl (by omega) | rfl) (.cons (by first | exact lkI rfl (by omega) | rfl) .nil))))
  rintro _ _ _ ⟨k, w, cy, Nc, rfl, rfl, rfl, hk, hw, hcy, htop, hv2, rc⟩
  have hwl : (w ++ u.drop k).length = n + 1 := by rw [List.length_append, List.length_drop]; omega
  have hal : (pre ++ (w ++ u.drop k) ++ post).length = nc := by rw [List.length_append, List.length_append, hp, hwl]; exact hcl
  have sc := rc.rsl
  have huk := dlt u k
  have hbk := dlt v k
  refine At.seq fun K3 hk_3 => ?_
  refine At.seq fun K4 hk_4 => ?_
  refine At.region ?_
  refine op_move (nxlf rfl) rfl rfl ?_
  refine op_move (nxlf rfl) rfl rfl ?_
  refine op_lenS (nxlf rfl) se51 rfl rfl ?_
  refine op_leq (nxlf rfl) rfl rfl rfl ?_
  refine At.opsNil ?_
  refine At.norm (hk_4 ?_)
  refine At.condP rfl (fun c12 => ?_) (fun c12 => ?_)
  · refine At.skip ?_
    refine At.norm (hk_3 ?_)
    refine At.seq fun K5 hk_5 => ?_
    refine At.block ?_
    refine At.seq fun K6 hk_6 => ?_
    refine At.region ?_
    refine op_move (nxlf rfl) rfl rfl ?_
    refine op_move (nxlf rfl) rfl rfl ?_
    refine op_move (nxlf rfl) rfl rfl ?_
    refine op_addI (nxlf rfl) rfl rfl (by omega) (by omega) rfl ?_
    refine op_idx1 (nxlf rfl) se51 rfl rfl sc (show _ = (((i + k : Nat)) : Int) from by omega) (by omega) rfl ?_
    refine op_loadE (nxlf rfl) sc56 rfl sc (by first | exact get8 (by omega) | exact get64 (by omega) | exact get32 (by omega)) (by first | exact mem0 | exact mem1 | exact mem2 | exact mem3 | exact mem4 | exact mem5 | exact mem6 | exact mem7 | exact mem8 | exact mem9) rfl ?_
    rw [show (pre ++ (w ++ u.drop k) ++ post).getD (i + k) 0 = u.getD k 0 by rw [List.append_assoc, getD_right hp, getD_app (show k < (w ++ u.drop k).length by omega), getD_drop hw (by omega)]]
    refine op_conv64 (nxlf rfl) (und_some Tryz.underlying56) Tryz.underlying23 rfl (by first | rfl | exact (Int.toNat_of_nonneg (by omega)).symm) rfl ?_
    refine op_move (nxlf rfl) rfl rfl ?_
    refine op_addU (nxlf rfl) rfl rfl rfl ?_
    have hs1 : (UInt64.ofNat (u.getD k 0).toNat + cy).toNat = (u.getD k 0).toNat + cy.toNat := by rw [add64n (by rw [of32]; omega), of32]
    generalize UInt64.ofNat (u.getD k 0).toNat + cy = s1 at *
    refine op_assign (nxlf rfl) rfl rfl ?_
    refine At.opsNil ?_
    refine At.norm (hk_6 ?_)
    refine At.seq fun K7 hk_7 => ?_
    refine At.meet (fun fr_ hp_ => ∃ (s2 : UInt64), fr_ = [(0, .slice co nc cc), (1, .slice vo n cv), (2, .int .i64 (i : Int)), (7, .int .i64 (k : Int)), (8, .int .u64 (s2.toNat : Int))] ∧ hp_ = [Nc, R] ∧ (s2.toNat = s1.toNat + (v.getD k 0).toNat)) ?_ (fun K7_ jk_7 => ?_)
    rotate_left
    · skip
      refine At.seq fun K8 hk_8 => ?_
      refine At.region ?_
      refine op_move (nxlf rfl) rfl rfl ?_
      refine op_move (nxlf rfl) rfl rfl ?_
      refine op_lenS (nxlf rfl) se51 rfl rfl ?_
      refine op_lss (nxlf rfl) rfl rfl rfl ?_
      refine At.opsNil ?_
      refine At.norm (hk_8 ?_)
      refine At.condP rfl (fun c27 => ?_) (fun c27 => ?_)
      · refine At.region ?_
        refine op_move (nxlf rfl) rfl rfl ?_
        refine op_move (nxlf rfl) rfl rfl ?_
        refine op_move (nxlf rfl) rfl rfl ?_
        refine op_idx1 (nxlf rfl) se51 rfl rfl hv (show _ = (((k : Nat)) : Int) from by omega) (by omega) rfl ?_
        refine op_loadE (nxlf rfl) sc56 rfl hv (by first | exact get8 (by omega) | exact get64 (by omega) | exact get32 (by omega)) (by first | exact mem0 | exact mem1 | exact mem2 | exact mem3 | exact mem4 | exact mem5 | exact mem6 | exact mem7 | exact mem8 | exact mem9) rfl ?_
        refine op_conv64 (nxlf rfl) (und_some Tryz.underlying56) Tryz.underlying23 rfl (by first | rfl | exact (Int.toNat_of_nonneg (by omega)).symm) rfl ?_
        refine op_addU (nxlf rfl) rfl rfl rfl ?_
        refine op_assign (nxlf rfl) rfl rfl ?_
        refine At.opsNil ?_
        refine At.norm (jk_7 ?_ (.refl _) ⟨s1 + UInt64.ofNat (v.getD k 0).toNat, rfl, rfl, by rw [add64n (by rw [of32]; omega), of32]⟩)
        exact .cons (by first | exact lkI rfl (by omega) | rfl) (.cons (by first | exact lkI rfl (by omega) | rfl) (.cons (by first | exact lkI rfl (by omega) | rfl) (.cons (by first | exact lkI rfl (by omega) | rfl) (.cons (by first | exact lkI rfl (by omega) | rfl) .nil))))
      · have hz : (v.getD k 0).toNat = 0 := by rw [getD_big (by omega)]; rfl
        refine At.skip ?_
        refine At.norm (jk_7 ?_ (.refl _) ⟨s1, rfl, rfl, by omega⟩)
        exact .cons (by first | exact lkI rfl (by omega) | rfl) (.cons (by first | exact lkI rfl (by omega) | rfl) (.cons (by first | exact lkI rfl (by omega) | rfl) (.cons (by first | exact lkI rfl (by omega) | rfl) (.cons (by first | exact lkI rfl (by omega) | rfl) .nil))))
    rintro _ _ ⟨s2, rfl, rfl, hs2⟩
    refine hk_7 ?_
    refine At.seq fun K9 hk_9 => ?_
    refine At.region ?_
    refine op_move (nxlf rfl) rfl rfl ?_
    refine op_move (nxlf rfl) rfl rfl ?_
    refine op_move (nxlf rfl) rfl rfl ?_
    refine op_addI (nxlf rfl) rfl rfl (by omega) (by omega) rfl ?_
    refine op_move (nxlf rfl) rfl rfl ?_
    refine op_conv32 (nxlf rfl) (und_some Tryz.underlying23) Tryz.underlying56 rfl (by first | rfl | exact (Int.toNat_of_nonneg (by omega)).symm) rfl ?_
    refine op_idx1 (nxlf rfl) se51 rfl rfl sc (show _ = (((i + k : Nat)) : Int) from by omega) (by omega) rfl ?_
    refine op_storeE (nxl rfl) sz56 rfl rfl rfl rfl rfl rc (by simp [u32s]; omega) (by simp) sel0 (fun Nc rc => ?_)
    simp only [setL] at rc
    rw [set_u32s, win_set hp (show k < (w ++ u.drop k).length by omega), set_drop hw (show k < u.length by omega)] at rc
    change Row Nc _ 1 co nc cc (u32s (pre ++ (w ++ [lo32 s2] ++ u.drop (k + 1)) ++ post)) at rc
    have sc := rc.rsl
    refine At.opsNil ?_
    refine At.norm (hk_9 ?_)
    refine At.region ?_
    refine op_move (nxlf rfl) rfl rfl ?_
    refine op_shrU (nxlf rfl) rfl rfl (show _ = ((32 : Nat) : Int) from rfl) rfl ?_
    have htop' : k + 1 = n + 1 → ((u.getD n 0).toNat ≤ ((w ++ [lo32 s2]).getD n 0).toNat ↔ (shr64 s2 32).toNat = 0) := fun h => by
      have hkn : k = n := by omega
      subst hkn
      rw [getD_mid hw, lo32_nat, shr32n, hs2, hs1, getD_big (show v.length ≤ k by omega)]
      show (u.getD k 0).toNat ≤ ((u.getD k 0).toNat + cy.toNat + 0) % 4294967296 ↔ ((u.getD k 0).toNat + cy.toNat + 0) / 4294967296 = 0
      omega
    refine op_assign (nxlf rfl) rfl rfl ?_
    refine At.opsNil ?_
    refine At.inNorm ?_
    refine At.norm (hk_5 ?_)
    refine At.region ?_
    refine op_move (nxlf rfl) rfl rfl ?_
    refine op_addI (nxlf rfl) rfl rfl (by omega) (by omega) rfl ?_
    refine op_assign (nxlf rfl) rfl rfl ?_
    refine At.opsNil ?_
    refine At.norm ?_
    refine At.back ?_ (.refl _) ⟨k + 1, w ++ [lo32 s2], shr64 s2 32, Nc, rfl, rfl, rfl, by omega, by simp; omega, by rw [shr32n]; omega, htop', add_round32 hw hv2 (by omega), rc⟩ ?_
    · exact .cons (by first | exact lkI rfl (by omega) | rfl) (.cons (by first | exact lkI rfl (by omega) | rfl) (.cons (by first | exact lkI rfl (by omega) | rfl) (.cons (by first | exact lkI rfl (by omega) | rfl) (.cons (by first | exact lkI rfl (by omega) | rfl) .nil))))
    · omega
  · refine At.exit (At.thenExit (At.thenExit (At.inHit ?_)))
    refine At.retNE (L1 := [Nc]) rfl .nil rfl (.refl _) (.refl _) ?_
    have hkn : k = n + 1 := by omega
    have ht := htop hkn
    rw [hkn, v32_take_all (by omega), v32_take_all (by omega)] at hv2
    rw [hkn, List.drop_of_length_le (by omega), List.append_nil] at rc
    exact ⟨Nc, w, cy.toNat, rfl, rfl, rc, by omega, hcy, by rw [hul]; exact hv2, by rw [hvl]; exact ht⟩
end Go.Proofs.YtnpcaplgkmlmoaaGreatDoor
