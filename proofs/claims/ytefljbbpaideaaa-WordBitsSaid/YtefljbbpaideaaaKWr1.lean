/- The reference's words: sums, products, quotients, with signs and without. No condition. -/
import Derived.Test.YtefljbbpaideaaaKWf2
import Derived.Test.YtefljbbpaideaaaKRf5
import Derived.Test.YtefljbbpaideaaaKT7
namespace Go.Proofs.Ytefljbbpaideaaa
set_option linter.unusedVariables false
set_option linter.unusedSimpArgs false
open Go Go.RowKit
theorem rN_w {x : Nat} (hx : x < WW) : Fn Try.prog 104 #[wo x] [] [] (DigsP x) := by
  obtain ⟨a, b, c, d, h⟩ := four (length_wl x)
  have hv := v64_wl_lt hx
  rw [h] at hv
  have := rN_f a b c d
  rw [hv] at this
  have e : wo x = .agg #[.int .u64 (a.toNat : Int), .int .u64 (b.toNat : Int), .int .u64 (c.toNat : Int), .int .u64 (d.toNat : Int)] := by rw [wo, h]; rfl
  rw [e]
  exact this
theorem rW_w {N : Heaplet} {p : Option Addr} {n c X : Nat} (h : RSl N 1 p n c (u32s (digsOf X))) : Fn Try.prog 105 #[.slice p n c] [] [N] (fun v L => v = wo X ∧ L = []) := by
  refine (rW_f h).mono ?_
  rintro v L ⟨rfl, a, b, c, d, rfl, hv⟩
  rw [v32_digsOf] at hv
  refine ⟨?_, rfl⟩
  rw [wo, ← wl_of (w := [a, b, c, d]) rfl hv]; rfl
theorem or_W {Q N : Heaplet} {p : Option Addr} {n c X : Nat} (h : RSl Q 1 p n c (u32s (digsOf X)) ∨ RSl N 1 p n c (u32s (digsOf X))) : Fn Try.prog 105 #[.slice p n c] [] [Q, N] (fun v L => v = wo X ∧ L = []) := by
  rcases h with h | h
  · exact (rW_w h).more (by simp)
  · exact (rW_w h).more (by simp)
theorem or_sub {N Q R : Heaplet} {ax xo : Option Addr} {na ca nx cx A X : Nat} (ha : RSl N 1 ax na ca (u32s (digsOf A))) (hx : RSl Q 1 xo nx cx (u32s (digsOf X)) ∨ RSl R 1 xo nx cx (u32s (digsOf X))) (hn : na ≤ 1099511627776) (hm : (digsOf X).length ≤ (digsOf A).length) (hge : X ≤ A) :
    Fn Try.prog 95 #[.slice ax na ca, .slice xo nx cx] [] [N, Q, R] (DigsP (A - X)) := by
  have hal := ha.len32
  rcases hx with h | h
  · have hxl := h.len32
    have := rSub_f ha h hn (by omega) (by rw [v32_digsOf, v32_digsOf]; exact hge)
    rw [v32_digsOf, v32_digsOf] at this
    exact this.more (by simp)
  · have hxl := h.len32
    have := rSub_f ha h hn (by omega) (by rw [v32_digsOf, v32_digsOf]; exact hge)
    rw [v32_digsOf, v32_digsOf] at this
    exact this.more (by simp)
theorem top_f : Fn Try.prog 115 #[] [] [] (DigsP WW) := by
  refine Fn.enter (vs := []) Try.func115 rfl rfl rfl ?_
  intro E R hR
  change At _ _ E [R] _
  refine At.seq fun K1 hk_1 => ?_
  refine At.region ?_
  refine op_assign (nxlf rfl) rfl rfl ?_
  refine At.opsNil ?_
  refine At.norm (hk_1 ?_)
  refine At.seq fun K2 hk_2 => ?_
  refine At.region ?_
  refine op_lit (nxla rfl) Try.underlying38 ze65 sz65 (.cons rfl .nil) rfl rfl (by simp [Value.cells]) rfl rfl rfl (fun N1 a1 r1 => ?_)
  simp only [flatV, List.flatMap_cons, List.flatMap_nil, Value.cells, List.append_nil, List.cons_append, List.nil_append] at r1
  have s1 := r1.rsl
  change Row N1 _ 1 a1 1 1 (u32s [1]) at r1
  have s1 := r1.rsl
  refine op_callA (nxla rfl) (.cons rfl (.cons rfl .nil)) (rShl_f s1 256 (by omega) (by omega)) Try.func122 rfl rfl (by simp) rfl ?_
  rintro v2 L2 ⟨M2, p2, c2, rfl, rfl, s2⟩
  change At _ _ _ [M2, N1, R] _
  rw [show v32 [1] * 2 ^ 256 = WW from by rw [show v32 [1] = 1 from rfl, Nat.one_mul]; rfl] at s2 ⊢
  refine op_assign (nxlf rfl) rfl rfl ?_
  refine At.opsNil ?_
  refine At.norm (hk_2 ?_)
  refine At.ret (?_)
  refine At.sub (L' := [M2, R]) (.cons_cons _ (.cons _ (.cons_cons _ (.slnil)))) ?_
  refine At.ret1 (L1 := [M2]) rfl (.tmp rfl .nil) (.refl _) (.refl _) ?_
  exact ⟨M2, p2, c2, rfl, rfl, s2⟩
theorem dig_w {x : Nat} (hx : x < WW) : (digsOf x).length ≤ 8 := by rw [length_digsOf]; exact digLen_le.2 hx
theorem two_pow_lt (m k : Nat) (h : m + 1 < k) : 2 * 2 ^ m < 2 ^ k := by
  rw [← Nat.pow_succ']
  exact Nat.pow_lt_pow_right (by decide) h
theorem WW_lt (k : Nat) (hk : 9 ≤ k) : 2 * WW < 2 ^ (32 * k) := two_pow_lt 256 (32 * k) (by omega)
theorem dig_2top {X : Nat} (h : X ≤ 2 * WW) : (digsOf X).length ≤ 9 := by
  obtain ⟨k, hk⟩ : ∃ k : Nat, k = 9 := ⟨_, rfl⟩
  rw [← hk, length_digsOf]
  exact digLen_le.2 (Nat.lt_of_le_of_lt h (WW_lt k (by omega)))
theorem dig_top : (digsOf WW).length ≤ 9 := dig_2top (by omega)
theorem Minus_f {x : Nat} (hx : x < WW) : Fn Try.prog 111 #[wo x] [] [] (fun v L => v = .bool (negB x) ∧ L = []) := by
  have hl := length_wl x
  refine Fn.enter (vs := [wo x]) Try.func111 rfl rfl rfl ?_
  intro E R hR
  change At _ _ E [R] _
  refine At.seq fun K1 hk_1 => ?_
  refine At.region ?_
  refine op_box (nxla rfl) rfl rfl rfl (fun N1 b1 B1 => ?_)
  change Blk N1 b1 _ (u64s (wl x)) at B1
  refine op_assign (nxlf rfl) rfl rfl ?_
  refine At.opsNil ?_
  refine At.norm (hk_1 ?_)
  refine At.seq fun K2 hk_2 => ?_
  refine At.region ?_
  refine op_idxA (nxlf rfl) ae24 rfl rfl (show _ = ((3 : Nat) : Int) from rfl) (by omega) rfl ?_
  refine op_loadB (nxlf rfl) sc22 rfl B1 (by first | exact get64A (by omega) | rfl) mem0 rfl ?_
  refine op_shrU (nxlf rfl) rfl rfl (show _ = ((63 : Nat) : Int) from rfl) rfl ?_
  refine op_eql (nxlf rfl) rfl rfl rfl ?_
  rw [neg_iff hx]
  refine op_assign (nxlf rfl) rfl rfl ?_
  refine At.opsNil ?_
  refine At.norm (hk_2 ?_)
  refine At.ret (?_)
  refine At.sub (L' := [R]) (.cons _ (.cons_cons _ (.slnil))) ?_
  refine At.ret1 (L1 := []) rfl (.tmp rfl .nil) (.refl _) (.refl _) ?_
  exact ⟨rfl, rfl⟩
theorem zero_f {x : Nat} (hx : x < WW) : Fn Try.prog 103 #[wo x] [] [] (fun v L => v = .bool (decide (x = 0)) ∧ L = []) := by
  have h0 := wl_eq_zero hx
  refine Fn.enter (vs := [wo x]) Try.func103 rfl rfl rfl ?_
  intro E R hR
  change At _ _ E [R] _
  refine At.seq fun K1 hk_1 => ?_
  refine At.region ?_
  refine op_box (nxla rfl) rfl rfl rfl (fun N1 b1 B1 => ?_)
  change Blk N1 b1 _ (u64s (wl x)) at B1
  refine op_assign (nxlf rfl) rfl rfl ?_
  refine At.opsNil ?_
  refine At.norm (hk_1 ?_)
  refine At.seq fun K2 hk_2 => ?_
  refine At.region ?_
  refine op_loadAggB (ds := u64s (wl x)) (nxlf rfl) ag24 rfl B1 (by first | (rw [List.drop_zero, List.take_of_length_le (by first | (simp; done) | (simp; omega))]; done) | rfl) (by first | (simp; done) | (simp; omega)) mem0 rfl ?_
  refine op_buildA (out := [.int .u64 0, .int .u64 0, .int .u64 0, .int .u64 0]) (nxlf rfl) ze24 ae24 .nil rfl rfl ?_
  refine op_eqW (a := wl x) (b := [0, 0, 0, 0]) (nxlf rfl) ae24 Try.underlying22 (by kernel_rfl) rfl rfl rfl rfl rfl ?_
  rw [decide_eq_decide.2 h0]
  refine op_assign (nxlf rfl) rfl rfl ?_
  refine At.opsNil ?_
  refine At.norm (hk_2 ?_)
  refine At.ret (?_)
  refine At.sub (L' := [R]) (.cons _ (.cons_cons _ (.slnil))) ?_
  refine At.ret1 (L1 := []) rfl (.tmp rfl .nil) (.refl _) (.refl _) ?_
  exact ⟨rfl, rfl⟩
set_option maxRecDepth 100000 in
theorem abs_t {x : Nat} (hx : x < WW) (h : negB x = true) : Fn Try.prog 110 #[wo x] [] [] (DigsP (absW x)) := by
  have hd := dig_w hx
  have ht := dig_top
  have hm := digs_mono (Nat.le_of_lt hx)
  refine Fn.enter (vs := [wo x]) Try.func110 rfl rfl rfl ?_
  intro E R hR
  change At _ _ E [R] _
  refine At.seq fun K1 hk_1 => ?_
  refine At.region ?_
  refine op_box (nxla rfl) rfl rfl rfl (fun N1 b1 B1 => ?_)
  change Blk N1 b1 _ (u64s (wl x)) at B1
  refine op_assign (nxlf rfl) rfl rfl ?_
  refine At.opsNil ?_
  refine At.norm (hk_1 ?_)
  refine At.seq fun K2 hk_2 => ?_
  refine At.seq fun K3 hk_3 => ?_
  refine At.region ?_
  refine op_loadAggB (ds := u64s (wl x)) (nxlf rfl) ag24 rfl B1 (by first | (rw [List.drop_zero, List.take_of_length_le (by first | (simp; done) | (simp; omega))]; done) | rfl) (by first | (simp; done) | (simp; omega)) mem0 rfl ?_
  refine op_callA (nxla rfl) (.cons rfl .nil) (Minus_f hx) Try.func111 rfl rfl (by simp) rfl ?_
  rintro v4 L4 ⟨rfl, rfl⟩
  change At _ _ _ [N1, R] _
  rw [h]
  refine At.opsNil ?_
  refine At.norm (hk_3 ?_)
  refine At.condT rfl ?_
  refine At.seq fun K4 hk_4 => ?_
  refine At.drawnS [N1, R] [2,3] [] [1,0,2,3,4] (by kernel_rfl) (by kernel_rfl) (.refl _) ?_
  refine op_loadAggB (ds := u64s (wl x)) (nxsf rfl rfl rfl) ag24 rfl B1 (by first | (rw [List.drop_zero, List.take_of_length_le (by first | (simp; done) | (simp; omega))]; done) | rfl) (by first | (simp; done) | (simp; omega)) mem0 rfl ?_
  refine op_callA (Nx.agree (nxsm rfl rfl rfl)) .nil (top_f) Try.func115 rfl rfl (by simp) rfl ?_
  rintro v5 L5 ⟨M5, p5, c5, rfl, rfl, s5⟩
  change At _ _ _ [M5, N1, R] _
  refine At.moreS (Lst := [N1, R]) (Lst' := [M5, N1, R]) (.cons _ (.refl _)) (.refl _) ?_
  refine op_callA (Nx.agree (nxss rfl rfl rfl rfl)) (.cons rfl .nil) (rN_w hx) Try.func104 rfl rfl (by simp) rfl ?_
  rintro v7 L7 ⟨M7, p7, c7, rfl, rfl, s7⟩
  change At _ _ _ [M7, M5, N1, R] _
  refine At.anyS (.refl _) ?_
  refine op_callA (Nx.agree (nxss rfl rfl rfl rfl)) (.cons rfl (.cons rfl .nil)) (rSub_f s5 s7 (by omega) hm (by rw [v32_digsOf, v32_digsOf]; exact Nat.le_of_lt hx)) Try.func95 rfl rfl (by simp) rfl ?_
  rintro v8 L8 ⟨M8, p8, c8, rfl, rfl, s8⟩
  change At _ _ _ [M8, M7, M5, N1, R] _
  rw [v32_digsOf, v32_digsOf] at s8 ⊢
  refine At.anyS (.refl _) ?_
  refine op_assign (nxsf rfl rfl rfl) rfl rfl ?_
  refine At.sNil ?_
  refine At.norm (hk_4 ?_)
  refine At.ret (At.thenRet (?_))
  refine At.sub (L' := [M8, R]) (.cons_cons _ (.cons _ (.cons _ (.cons _ (.cons_cons _ (.slnil)))))) ?_
  refine At.ret1 (L1 := [M8]) rfl (.tmp rfl .nil) (.refl _) (.refl _) ?_
  have e : absW x = WW - x := by rw [absW, h]; rfl
  rw [e]
  exact ⟨M8, p8, c8, rfl, rfl, s8⟩
set_option maxRecDepth 100000 in
theorem abs_n {x : Nat} (hx : x < WW) (h : negB x = false) : Fn Try.prog 110 #[wo x] [] [] (DigsP (absW x)) := by
  refine Fn.enter (vs := [wo x]) Try.func110 rfl rfl rfl ?_
  intro E R hR
  change At _ _ E [R] _
  refine At.seq fun K1 hk_1 => ?_
  refine At.region ?_
  refine op_box (nxla rfl) rfl rfl rfl (fun N1 b1 B1 => ?_)
  change Blk N1 b1 _ (u64s (wl x)) at B1
  refine op_assign (nxlf rfl) rfl rfl ?_
  refine At.opsNil ?_
  refine At.norm (hk_1 ?_)
  refine At.seq fun K2 hk_2 => ?_
  refine At.seq fun K3 hk_3 => ?_
  refine At.region ?_
  refine op_loadAggB (ds := u64s (wl x)) (nxlf rfl) ag24 rfl B1 (by first | (rw [List.drop_zero, List.take_of_length_le (by first | (simp; done) | (simp; omega))]; done) | rfl) (by first | (simp; done) | (simp; omega)) mem0 rfl ?_
  refine op_callA (nxla rfl) (.cons rfl .nil) (Minus_f hx) Try.func111 rfl rfl (by simp) rfl ?_
  rintro v4 L4 ⟨rfl, rfl⟩
  change At _ _ _ [N1, R] _
  rw [h]
  refine At.opsNil ?_
  refine At.norm (hk_3 ?_)
  refine At.condF rfl ?_
  refine At.skip ?_
  refine At.norm (hk_2 ?_)
  refine At.seq fun K4 hk_4 => ?_
  refine At.region ?_
  refine op_loadAggB (ds := u64s (wl x)) (nxlf rfl) ag24 rfl B1 (by first | (rw [List.drop_zero, List.take_of_length_le (by first | (simp; done) | (simp; omega))]; done) | rfl) (by first | (simp; done) | (simp; omega)) mem0 rfl ?_
  refine op_callA (nxla rfl) (.cons rfl .nil) (rN_w hx) Try.func104 rfl rfl (by simp) rfl ?_
  rintro v10 L10 ⟨M10, p10, c10, rfl, rfl, s10⟩
  change At _ _ _ [M10, N1, R] _
  refine op_assign (nxlf rfl) rfl rfl ?_
  refine At.opsNil ?_
  refine At.norm (hk_4 ?_)
  refine At.ret (?_)
  refine At.sub (L' := [M10, R]) (.cons_cons _ (.cons _ (.cons_cons _ (.slnil)))) ?_
  refine At.ret1 (L1 := [M10]) rfl (.tmp rfl .nil) (.refl _) (.refl _) ?_
  have e : absW x = x := by rw [absW, h]; rfl
  rw [e]
  exact ⟨M10, p10, c10, rfl, rfl, s10⟩
theorem abs_f {x : Nat} (hx : x < WW) : Fn Try.prog 110 #[wo x] [] [] (DigsP (absW x)) := by
  cases h : negB x with
  | true => exact abs_t hx h
  | false => exact abs_n hx h
set_option maxRecDepth 100000 in
theorem rneg_f {N : Heaplet} {p : Option Addr} {n c X : Nat} (h : RSl N 1 p n c (u32s (digsOf X))) (hX : X < WW) : Fn Try.prog 112 #[.slice p n c] [] [N] (fun v L => v = wo (WW - X) ∧ L = []) := by
  have hn := h.len32
  have hd := dig_w hX
  have ht := dig_top
  have hm := digs_mono (Nat.le_of_lt hX)
  have hmod : X % WW = X := Nat.mod_eq_of_lt hX
  refine Fn.enter (vs := [.slice p n c]) Try.func112 rfl rfl rfl ?_
  intro E R hR
  have h := h.le (hR N (by simp))
  change At _ _ E [R] _
  refine At.seq fun K1 hk_1 => ?_
  refine At.region ?_
  refine op_alloc (nxla rfl) ze24 rfl (fun N2 b2 B2 => ?_)
  change Blk N2 b2 _ [.int .u64 0, .int .u64 0, .int .u64 0, .int .u64 0] at B2
  refine At.opsNil ?_
  refine At.norm (hk_1 ?_)
  refine At.seq fun K2 hk_2 => ?_
  refine At.region ?_
  refine op_callA (nxla rfl) .nil (top_f) Try.func115 rfl rfl (by simp) rfl ?_
  rintro v3 L3 ⟨M3, p3, c3, rfl, rfl, s3⟩
  change At _ _ _ [M3, N2, R] _
  refine op_move (nxlf rfl) rfl rfl ?_
  refine op_callA (nxla rfl) .nil (top_f) Try.func115 rfl rfl (by simp) rfl ?_
  rintro v5 L5 ⟨M5, p5, c5, rfl, rfl, s5⟩
  change At _ _ _ [M5, M3, N2, R] _
  refine op_callA (nxla rfl) (.cons rfl (.cons rfl .nil)) (rMod_f h s5 (by omega) (by omega) WW_pos) Try.func106 rfl rfl (by simp) rfl ?_
  rintro v6 L6 ⟨M6, p6, c6, rfl, rfl, h6⟩
  change At _ _ _ [M6, M5, M3, N2, R] _
  rw [hmod] at h6 ⊢
  refine op_callA (nxla rfl) (.cons rfl (.cons rfl .nil)) (or_sub s3 h6 (by omega) hm (Nat.le_of_lt hX)) Try.func95 rfl rfl (by simp) rfl ?_
  rintro v7 L7 ⟨M7, p7, c7, rfl, rfl, s7⟩
  change At _ _ _ [M7, M6, M5, M3, N2, R] _
  refine op_callA (nxla rfl) (.cons rfl .nil) (rW_w s7) Try.func105 rfl rfl (by simp) rfl ?_
  rintro v8 L8 ⟨rfl, rfl⟩
  change At _ _ _ [M7, M6, M5, M3, N2, R] _
  refine op_store (nxl rfl) sz24 rfl rfl rfl rfl rfl B2 (by simp) sel4 (fun N2 B2 => ?_)
  rw [setL_whole (by simp)] at B2
  refine At.opsNil ?_
  refine At.norm (hk_2 ?_)
  refine At.ret (?_)
  refine At.sub (L' := [N2, R]) (.cons_cons _ (.cons _ (.cons _ (.cons _ (.cons _ (.cons_cons _ (.slnil))))))) ?_
  refine At.ret1 (L1 := []) rfl (.cell rfl (res_agg (ds := u64s (wl (WW - X))) ag24 B2 (by first | (rw [List.drop_zero, List.take_of_length_le (by first | (simp; done) | (simp; omega))]; done) | rfl) (by first | (simp; done) | (simp; omega)) mem0) .nil) (.cons _ (.refl _)) (.refl _) ?_
  exact ⟨rfl, rfl⟩
set_option maxRecDepth 100000 in
theorem rAdd_w {x y : Nat} (hx : x < WW) (hy : y < WW) : Fn Try.prog 30 #[wo x, wo y] [] [] (fun v L => v = wo (x + y) ∧ L = []) := by
  have hdx := dig_w hx
  have hdy := dig_w hy
  refine Fn.enter (vs := [wo x, wo y]) Try.func30 rfl rfl rfl ?_
  intro E R hR
  change At _ _ E [R] _
  refine At.seq fun K1 hk_1 => ?_
  refine At.region ?_
  refine op_box (nxla rfl) rfl rfl rfl (fun N2 b2 B2 => ?_)
  change Blk N2 b2 _ (u64s (wl x)) at B2
  refine op_box (nxla rfl) rfl rfl rfl (fun N3 b3 B3 => ?_)
  change Blk N3 b3 _ (u64s (wl y)) at B3
  refine op_alloc (nxla rfl) ze24 rfl (fun N4 b4 B4 => ?_)
  change Blk N4 b4 _ [.int .u64 0, .int .u64 0, .int .u64 0, .int .u64 0] at B4
  refine At.opsNil ?_
  refine At.norm (hk_1 ?_)
  refine At.seq fun K2 hk_2 => ?_
  refine At.perm sel3 ?_
  refine At.perm sel2 ?_
  refine At.perm sel3 ?_
  refine At.perm sel3 ?_
  refine At.drawnS [N2, N3, R] [3,4,5,6] [] [0,2,1,3,4,5,6] (by kernel_rfl) (by kernel_rfl) (.cons _ (.refl _)) ?_
  refine op_loadAggB (ds := u64s (wl x)) (nxsf rfl rfl rfl) ag24 rfl B2 (by first | (rw [List.drop_zero, List.take_of_length_le (by first | (simp; done) | (simp; omega))]; done) | rfl) (by first | (simp; done) | (simp; omega)) mem0 rfl ?_
  refine op_loadAggB (ds := u64s (wl y)) (nxsf rfl rfl rfl) ag24 rfl B3 (by first | (rw [List.drop_zero, List.take_of_length_le (by first | (simp; done) | (simp; omega))]; done) | rfl) (by first | (simp; done) | (simp; omega)) mem1 rfl ?_
  refine op_callA (Nx.agree (nxsm rfl rfl rfl)) (.cons rfl .nil) (rN_w hx) Try.func104 rfl rfl (by simp) rfl ?_
  rintro v6 L6 ⟨M6, p6, c6, rfl, rfl, s6⟩
  change At _ _ _ [M6, N4, N2, N3, R] _
  refine At.perm sel4 ?_
  refine At.perm sel4 ?_
  refine At.perm sel4 ?_
  refine At.perm sel3 ?_
  refine At.perm sel4 ?_
  refine At.moreS (Lst := [N2, N3, R]) (Lst' := [M6, N2, N3, R]) (.cons _ (.refl _)) (.cons _ (.refl _)) ?_
  refine op_callA (Nx.agree (nxss rfl rfl rfl rfl)) (.cons rfl .nil) (rN_w hy) Try.func104 rfl rfl (by simp) rfl ?_
  rintro v8 L8 ⟨M8, p8, c8, rfl, rfl, s8⟩
  change At _ _ _ [M8, N4, M6, N2, N3, R] _
  refine At.anyS (.refl _) ?_
  refine op_callA (Nx.agree (nxss rfl rfl rfl rfl)) (.cons rfl (.cons rfl .nil)) (rAdd_f s6 s8 (by omega) (by omega)) Try.func96 rfl rfl (by simp) rfl ?_
  rintro v9 L9 ⟨M9, p9, c9, rfl, rfl, s9⟩
  change At _ _ _ [M9, M8, N4, M6, N2, N3, R] _
  rw [v32_digsOf, v32_digsOf] at s9 ⊢
  refine At.anyS (.refl _) ?_
  refine op_callA (Nx.agree (nxss rfl rfl rfl rfl)) (.cons rfl .nil) (rW_w s9) Try.func105 rfl rfl (by simp) rfl ?_
  rintro v10 L10 ⟨rfl, rfl⟩
  change At _ _ _ [M9, M8, N4, M6, N2, N3, R] _
  refine At.anyS (.refl _) ?_
  refine op_store (nxsl rfl rfl rfl rfl) sz24 rfl rfl rfl rfl rfl B4 (by simp) sel2 (fun N4 B4 => ?_)
  rw [setL_whole (by simp)] at B4
  refine At.sNil ?_
  refine At.norm (hk_2 ?_)
  refine At.ret (?_)
  refine At.sub (L' := [N4, R]) (.cons_cons _ (.cons _ (.cons _ (.cons _ (.cons _ (.cons _ (.cons_cons _ (.slnil)))))))) ?_
  refine At.ret1 (L1 := []) rfl (.cell rfl (res_agg (ds := u64s (wl (x + y))) ag24 B4 (by first | (rw [List.drop_zero, List.take_of_length_le (by first | (simp; done) | (simp; omega))]; done) | rfl) (by first | (simp; done) | (simp; omega)) mem0) .nil) (.cons _ (.refl _)) (.refl _) ?_
  exact ⟨rfl, rfl⟩
set_option maxRecDepth 100000 in
theorem rMul_w {x y : Nat} (hx : x < WW) (hy : y < WW) : Fn Try.prog 34 #[wo x, wo y] [] [] (fun v L => v = wo (x * y) ∧ L = []) := by
  have hdx := dig_w hx
  have hdy := dig_w hy
  refine Fn.enter (vs := [wo x, wo y]) Try.func34 rfl rfl rfl ?_
  intro E R hR
  change At _ _ E [R] _
  refine At.seq fun K1 hk_1 => ?_
  refine At.region ?_
  refine op_box (nxla rfl) rfl rfl rfl (fun N2 b2 B2 => ?_)
  change Blk N2 b2 _ (u64s (wl x)) at B2
  refine op_box (nxla rfl) rfl rfl rfl (fun N3 b3 B3 => ?_)
  change Blk N3 b3 _ (u64s (wl y)) at B3
  refine op_alloc (nxla rfl) ze24 rfl (fun N4 b4 B4 => ?_)
  change Blk N4 b4 _ [.int .u64 0, .int .u64 0, .int .u64 0, .int .u64 0] at B4
  refine At.opsNil ?_
  refine At.norm (hk_1 ?_)
  refine At.seq fun K2 hk_2 => ?_
  refine At.perm sel3 ?_
  refine At.perm sel2 ?_
  refine At.perm sel3 ?_
  refine At.perm sel3 ?_
  refine At.drawnS [N2, N3, R] [3,4,5,6] [] [0,2,1,3,4,5,6] (by kernel_rfl) (by kernel_rfl) (.cons _ (.refl _)) ?_
  refine op_loadAggB (ds := u64s (wl x)) (nxsf rfl rfl rfl) ag24 rfl B2 (by first | (rw [List.drop_zero, List.take_of_length_le (by first | (simp; done) | (simp; omega))]; done) | rfl) (by first | (simp; done) | (simp; omega)) mem0 rfl ?_
  refine op_loadAggB (ds := u64s (wl y)) (nxsf rfl rfl rfl) ag24 rfl B3 (by first | (rw [List.drop_zero, List.take_of_length_le (by first | (simp; done) | (simp; omega))]; done) | rfl) (by first | (simp; done) | (simp; omega)) mem1 rfl ?_
  refine op_callA (Nx.agree (nxsm rfl rfl rfl)) (.cons rfl .nil) (rN_w hx) Try.func104 rfl rfl (by simp) rfl ?_
  rintro v6 L6 ⟨M6, p6, c6, rfl, rfl, s6⟩
  change At _ _ _ [M6, N4, N2, N3, R] _
  refine At.perm sel4 ?_
  refine At.perm sel4 ?_
  refine At.perm sel4 ?_
  refine At.perm sel3 ?_
  refine At.perm sel4 ?_
  refine At.moreS (Lst := [N2, N3, R]) (Lst' := [M6, N2, N3, R]) (.cons _ (.refl _)) (.cons _ (.refl _)) ?_
  refine op_callA (Nx.agree (nxss rfl rfl rfl rfl)) (.cons rfl .nil) (rN_w hy) Try.func104 rfl rfl (by simp) rfl ?_
  rintro v8 L8 ⟨M8, p8, c8, rfl, rfl, s8⟩
  change At _ _ _ [M8, N4, M6, N2, N3, R] _
  refine At.anyS (.refl _) ?_
  refine op_callA (Nx.agree (nxss rfl rfl rfl rfl)) (.cons rfl (.cons rfl .nil)) (rMul_f s6 s8 (by omega) (by omega)) Try.func97 rfl rfl (by simp) rfl ?_
  rintro v9 L9 ⟨M9, p9, c9, rfl, rfl, s9⟩
  change At _ _ _ [M9, M8, N4, M6, N2, N3, R] _
  rw [v32_digsOf, v32_digsOf] at s9 ⊢
  refine At.anyS (.refl _) ?_
  refine op_callA (Nx.agree (nxss rfl rfl rfl rfl)) (.cons rfl .nil) (rW_w s9) Try.func105 rfl rfl (by simp) rfl ?_
  rintro v10 L10 ⟨rfl, rfl⟩
  change At _ _ _ [M9, M8, N4, M6, N2, N3, R] _
  refine At.anyS (.refl _) ?_
  refine op_store (nxsl rfl rfl rfl rfl) sz24 rfl rfl rfl rfl rfl B4 (by simp) sel2 (fun N4 B4 => ?_)
  rw [setL_whole (by simp)] at B4
  refine At.sNil ?_
  refine At.norm (hk_2 ?_)
  refine At.ret (?_)
  refine At.sub (L' := [N4, R]) (.cons_cons _ (.cons _ (.cons _ (.cons _ (.cons _ (.cons _ (.cons_cons _ (.slnil)))))))) ?_
  refine At.ret1 (L1 := []) rfl (.cell rfl (res_agg (ds := u64s (wl (x * y))) ag24 B4 (by first | (rw [List.drop_zero, List.take_of_length_le (by first | (simp; done) | (simp; omega))]; done) | rfl) (by first | (simp; done) | (simp; omega)) mem0) .nil) (.cons _ (.refl _)) (.refl _) ?_
  exact ⟨rfl, rfl⟩
set_option maxRecDepth 100000 in
theorem rSub_w {x y : Nat} (hx : x < WW) (hy : y < WW) : Fn Try.prog 32 #[wo x, wo y] [] [] (fun v L => v = wo (x + WW - y) ∧ L = []) := by
  have hdx := dig_w hx
  have hdy := dig_w hy
  have ht := dig_top
  have hle : y ≤ WW + x := by omega
  have hm := digs_mono hle
  have hsum : (digsOf (WW + x)).length ≤ 9 := dig_2top (by omega)
  refine Fn.enter (vs := [wo x, wo y]) Try.func32 rfl rfl rfl ?_
  intro E R hR
  change At _ _ E [R] _
  refine At.seq fun K1 hk_1 => ?_
  refine At.region ?_
  refine op_box (nxla rfl) rfl rfl rfl (fun N2 b2 B2 => ?_)
  change Blk N2 b2 _ (u64s (wl x)) at B2
  refine op_box (nxla rfl) rfl rfl rfl (fun N3 b3 B3 => ?_)
  change Blk N3 b3 _ (u64s (wl y)) at B3
  refine op_alloc (nxla rfl) ze24 rfl (fun N4 b4 B4 => ?_)
  change Blk N4 b4 _ [.int .u64 0, .int .u64 0, .int .u64 0, .int .u64 0] at B4
  refine At.opsNil ?_
  refine At.norm (hk_1 ?_)
  refine At.seq fun K2 hk_2 => ?_
  refine At.perm sel3 ?_
  refine At.perm sel2 ?_
  refine At.perm sel3 ?_
  refine At.perm sel3 ?_
  refine At.drawnS [N2, N3, R] [5,6,7,8] [] [1,4,0,2,3,5,6,7,8] (by kernel_rfl) (by kernel_rfl) (.cons _ (.refl _)) ?_
  refine op_loadAggB (ds := u64s (wl x)) (nxsf rfl rfl rfl) ag24 rfl B2 (by first | (rw [List.drop_zero, List.take_of_length_le (by first | (simp; done) | (simp; omega))]; done) | rfl) (by first | (simp; done) | (simp; omega)) mem0 rfl ?_
  refine op_loadAggB (ds := u64s (wl y)) (nxsf rfl rfl rfl) ag24 rfl B3 (by first | (rw [List.drop_zero, List.take_of_length_le (by first | (simp; done) | (simp; omega))]; done) | rfl) (by first | (simp; done) | (simp; omega)) mem1 rfl ?_
  refine op_callA (Nx.agree (nxsm rfl rfl rfl)) .nil (top_f) Try.func115 rfl rfl (by simp) rfl ?_
  rintro v5 L5 ⟨M5, p5, c5, rfl, rfl, s5⟩
  change At _ _ _ [M5, N4, N2, N3, R] _
  refine At.perm sel4 ?_
  refine At.perm sel4 ?_
  refine At.perm sel4 ?_
  refine At.perm sel3 ?_
  refine At.perm sel4 ?_
  refine At.moreS (Lst := [N2, N3, R]) (Lst' := [M5, N2, N3, R]) (.cons _ (.refl _)) (.cons _ (.refl _)) ?_
  refine op_callA (Nx.agree (nxsm rfl rfl rfl)) (.cons rfl .nil) (rN_w hx) Try.func104 rfl rfl (by simp) rfl ?_
  rintro v7 L7 ⟨M7, p7, c7, rfl, rfl, s7⟩
  change At _ _ _ [M7, N4, M5, N2, N3, R] _
  refine At.perm sel5 ?_
  refine At.perm sel5 ?_
  refine At.perm sel5 ?_
  refine At.perm sel5 ?_
  refine At.perm sel4 ?_
  refine At.perm sel5 ?_
  refine At.moreS (Lst := [M5, N2, N3, R]) (Lst' := [M7, M5, N2, N3, R]) (.cons _ (.refl _)) (.cons _ (.refl _)) ?_
  refine op_callA (Nx.agree (nxsm rfl rfl rfl)) (.cons rfl (.cons rfl .nil)) (rAdd_f s5 s7 (by omega) (by omega)) Try.func96 rfl rfl (by simp) rfl ?_
  rintro v8 L8 ⟨M8, p8, c8, rfl, rfl, s8⟩
  change At _ _ _ [M8, N4, M7, M5, N2, N3, R] _
  rw [v32_digsOf, v32_digsOf] at s8 ⊢
  refine At.perm sel6 ?_
  refine At.perm sel6 ?_
  refine At.perm sel6 ?_
  refine At.perm sel6 ?_
  refine At.perm sel6 ?_
  refine At.perm sel5 ?_
  refine At.perm sel6 ?_
  refine At.moreS (Lst := [M7, M5, N2, N3, R]) (Lst' := [M8, M7, M5, N2, N3, R]) (.cons _ (.refl _)) (.cons _ (.refl _)) ?_
  refine op_callA (Nx.agree (nxss rfl rfl rfl rfl)) (.cons rfl .nil) (rN_w hy) Try.func104 rfl rfl (by simp) rfl ?_
  rintro v10 L10 ⟨M10, p10, c10, rfl, rfl, s10⟩
  change At _ _ _ [M10, N4, M8, M7, M5, N2, N3, R] _
  refine At.anyS (.refl _) ?_
  refine op_callA (Nx.agree (nxss rfl rfl rfl rfl)) (.cons rfl (.cons rfl .nil)) (rSub_f s8 s10 (by omega) hm (by rw [v32_digsOf, v32_digsOf]; exact hle)) Try.func95 rfl rfl (by simp) rfl ?_
  rintro v11 L11 ⟨M11, p11, c11, rfl, rfl, s11⟩
  change At _ _ _ [M11, M10, N4, M8, M7, M5, N2, N3, R] _
  rw [v32_digsOf, v32_digsOf, Nat.add_comm WW x] at s11 ⊢
  refine At.anyS (.refl _) ?_
  refine op_callA (Nx.agree (nxss rfl rfl rfl rfl)) (.cons rfl .nil) (rW_w s11) Try.func105 rfl rfl (by simp) rfl ?_
  rintro v12 L12 ⟨rfl, rfl⟩
  change At _ _ _ [M11, M10, N4, M8, M7, M5, N2, N3, R] _
  refine At.anyS (.refl _) ?_
  refine op_store (nxsl rfl rfl rfl rfl) sz24 rfl rfl rfl rfl rfl B4 (by simp) sel2 (fun N4 B4 => ?_)
  rw [setL_whole (by simp)] at B4
  refine At.sNil ?_
  refine At.norm (hk_2 ?_)
  refine At.ret (?_)
  refine At.sub (L' := [N4, R]) (.cons_cons _ (.cons _ (.cons _ (.cons _ (.cons _ (.cons _ (.cons _ (.cons _ (.cons_cons _ (.slnil)))))))))) ?_
  refine At.ret1 (L1 := []) rfl (.cell rfl (res_agg (ds := u64s (wl (x + WW - y))) ag24 B4 (by first | (rw [List.drop_zero, List.take_of_length_le (by first | (simp; done) | (simp; omega))]; done) | rfl) (by first | (simp; done) | (simp; omega)) mem0) .nil) (.cons _ (.refl _)) (.refl _) ?_
  exact ⟨rfl, rfl⟩
set_option maxRecDepth 100000 in
theorem rWide_w {x y : Nat} (hx : x < WW) (hy : y < WW) : Fn Try.prog 28 #[wo x, wo y] [] [] (fun v L => v = .tuple #[wo (x * y / WW), wo (x * y)] ∧ L = []) := by
  have hdx := dig_w hx
  have hdy := dig_w hy
  have ht := dig_top
  have hmm := digs_mul hdx hdy
  refine Fn.enter (vs := [wo x, wo y]) Try.func28 rfl rfl rfl ?_
  intro E R hR
  change At _ _ E [R] _
  refine At.seq fun K1 hk_1 => ?_
  refine At.region ?_
  refine op_box (nxla rfl) rfl rfl rfl (fun N2 b2 B2 => ?_)
  change Blk N2 b2 _ (u64s (wl x)) at B2
  refine op_box (nxla rfl) rfl rfl rfl (fun N3 b3 B3 => ?_)
  change Blk N3 b3 _ (u64s (wl y)) at B3
  refine op_alloc (nxla rfl) ze24 rfl (fun N4 b4 B4 => ?_)
  change Blk N4 b4 _ [.int .u64 0, .int .u64 0, .int .u64 0, .int .u64 0] at B4
  refine op_alloc (nxla rfl) ze24 rfl (fun N5 b5 B5 => ?_)
  change Blk N5 b5 _ [.int .u64 0, .int .u64 0, .int .u64 0, .int .u64 0] at B5
  refine At.opsNil ?_
  refine At.norm (hk_1 ?_)
  refine At.seq fun K2 hk_2 => ?_
  refine At.perm sel4 ?_
  refine At.perm sel3 ?_
  refine At.perm sel4 ?_
  refine At.perm sel4 ?_
  refine At.perm sel4 ?_
  refine At.drawnS [N2, N3, R] [3,4,5,6] [] [0,2,1,3,4,5,6,7,8,9,10,11] (by kernel_rfl) (by kernel_rfl) (.cons _ (.cons _ (.refl _))) ?_
  refine op_loadAggB (ds := u64s (wl x)) (nxsf rfl rfl rfl) ag24 rfl B2 (by first | (rw [List.drop_zero, List.take_of_length_le (by first | (simp; done) | (simp; omega))]; done) | rfl) (by first | (simp; done) | (simp; omega)) mem0 rfl ?_
  refine op_loadAggB (ds := u64s (wl y)) (nxsf rfl rfl rfl) ag24 rfl B3 (by first | (rw [List.drop_zero, List.take_of_length_le (by first | (simp; done) | (simp; omega))]; done) | rfl) (by first | (simp; done) | (simp; omega)) mem1 rfl ?_
  refine op_callA (Nx.agree (nxsm rfl rfl rfl)) (.cons rfl .nil) (rN_w hx) Try.func104 rfl rfl (by simp) rfl ?_
  rintro v10 L10 ⟨M10, p10, c10, rfl, rfl, s10⟩
  change At _ _ _ [M10, N5, N4, N2, N3, R] _
  refine At.perm sel5 ?_
  refine At.perm sel5 ?_
  refine At.perm sel5 ?_
  refine At.perm sel3 ?_
  refine At.perm sel5 ?_
  refine At.perm sel5 ?_
  refine At.moreS (Lst := [N2, N3, R]) (Lst' := [M10, N2, N3, R]) (.cons _ (.refl _)) (.cons _ (.cons _ (.refl _))) ?_
  refine op_callA (Nx.agree (nxss rfl rfl rfl rfl)) (.cons rfl .nil) (rN_w hy) Try.func104 rfl rfl (by simp) rfl ?_
  rintro v12 L12 ⟨M12, p12, c12, rfl, rfl, s12⟩
  change At _ _ _ [M12, N5, N4, M10, N2, N3, R] _
  refine At.anyS (.refl _) ?_
  refine op_callA (Nx.agree (nxss rfl rfl rfl rfl)) (.cons rfl (.cons rfl .nil)) (rMul_f s10 s12 (by omega) (by omega)) Try.func97 rfl rfl (by simp) rfl ?_
  rintro v13 L13 ⟨M13, p13, c13, rfl, rfl, s13⟩
  change At _ _ _ [M13, M12, N5, N4, M10, N2, N3, R] _
  rw [v32_digsOf, v32_digsOf] at s13 ⊢
  refine At.anyS (.refl _) ?_
  refine op_callA (Nx.agree (nxss rfl rfl rfl rfl)) .nil (top_f) Try.func115 rfl rfl (by simp) rfl ?_
  rintro v14 L14 ⟨M14, p14, c14, rfl, rfl, s14⟩
  change At _ _ _ [M14, M13, M12, N5, N4, M10, N2, N3, R] _
  refine At.anyS (.refl _) ?_
  refine op_callA (Nx.agree (nxss rfl rfl rfl rfl)) (.cons rfl (.cons rfl .nil)) (rDivMod_f s13 s14 (by omega) (by omega) WW_pos) Try.func41 rfl rfl (by simp) rfl ?_
  rintro v15 L15 ⟨Mq, pq, cq, Mr, pr, cr, rfl, rfl, sq, sr⟩
  change At _ _ _ [Mq, Mr, M14, M13, M12, N5, N4, M10, N2, N3, R] _
  refine At.anyS (.refl _) ?_
  refine op_move (nxsf rfl rfl rfl) rfl rfl ?_
  refine op_extract (nxsf rfl rfl rfl) rfl rfl rfl ?_
  refine op_extract (nxsf rfl rfl rfl) rfl rfl rfl ?_
  refine op_assign (nxsf rfl rfl rfl) rfl rfl ?_
  refine op_assign (nxsf rfl rfl rfl) rfl rfl ?_
  refine At.sNil ?_
  refine At.norm (hk_2 ?_)
  refine At.seq fun K3 hk_3 => ?_
  refine At.region ?_
  refine op_move (nxlf rfl) rfl rfl ?_
  refine op_callA (nxla rfl) (.cons rfl .nil) (rW_w sq) Try.func105 rfl rfl (by simp) rfl ?_
  rintro v19 L19 ⟨rfl, rfl⟩
  change At _ _ _ [Mq, Mr, M14, M13, M12, N5, N4, M10, N2, N3, R] _
  refine op_move (nxlf rfl) rfl rfl ?_
  refine op_callA (nxla rfl) (.cons rfl .nil) (or_W sr) Try.func105 rfl rfl (by simp) rfl ?_
  rintro v21 L21 ⟨rfl, rfl⟩
  change At _ _ _ [Mq, Mr, M14, M13, M12, N5, N4, M10, N2, N3, R] _
  rw [wo_mod]
  refine op_store (nxl rfl) sz24 rfl rfl rfl rfl rfl B4 (by simp) sel6 (fun N4 B4 => ?_)
  rw [setL_whole (by simp)] at B4
  refine op_store (nxl rfl) sz24 rfl rfl rfl rfl rfl B5 (by simp) sel6 (fun N5 B5 => ?_)
  rw [setL_whole (by simp)] at B5
  refine At.opsNil ?_
  refine At.norm (hk_3 ?_)
  refine At.ret (?_)
  refine At.sub (L' := [N5, N4, R]) (.cons_cons _ (.cons_cons _ (.cons _ (.cons _ (.cons _ (.cons _ (.cons _ (.cons _ (.cons _ (.cons _ (.cons_cons _ (.slnil)))))))))))) ?_
  refine At.perm sel2 ?_
  refine At.perm sel1 ?_
  refine At.perm sel2 ?_
  refine At.retN (L1 := []) rfl (.cell rfl (res_agg (ds := u64s (wl (x * y / WW))) ag24 B4 (by first | (rw [List.drop_zero, List.take_of_length_le (by first | (simp; done) | (simp; omega))]; done) | rfl) (by first | (simp; done) | (simp; omega)) mem0) (.cell rfl (res_agg (ds := u64s (wl (x * y))) ag24 B5 (by first | (rw [List.drop_zero, List.take_of_length_le (by first | (simp; done) | (simp; omega))]; done) | rfl) (by first | (simp; done) | (simp; omega)) mem1) .nil)) rfl (.cons _ (.cons _ (.refl _))) (.refl _) ?_
  exact ⟨rfl, rfl⟩
end Go.Proofs.Ytefljbbpaideaaa
