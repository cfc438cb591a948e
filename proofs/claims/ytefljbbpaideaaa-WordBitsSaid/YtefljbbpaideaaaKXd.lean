/- Signs spread, single bytes: package word and the reference. No condition. -/
import Derived.Test.YtefljbbpaideaaaKXc
namespace Go.Proofs.Ytefljbbpaideaaa
set_option linter.unusedVariables false
set_option linter.unusedSimpArgs false
open Go Go.RowKit
def sextV (k x : Nat) : Nat := if k < 31 then sextN (8 * (k + 1)) x else x
theorem or_bit {N Q : Heaplet} {xo : Option Addr} {nx cx X : Nat} (hx : RSl Q 1 xo nx cx (u32s (digsOf X)) ∨ RSl N 1 xo nx cx (u32s (digsOf X))) (i : Nat) (hi : i ≤ 9223372036854775807) :
    Fn Try.prog 71 #[.slice xo nx cx, .int .i64 (i : Int)] [] [Q, N] (fun v L => v = .int .u32 ((X / 2 ^ i % 2 : Nat) : Int) ∧ L = []) := by
  rcases hx with h | h
  · have := rBit_f h i hi
    rw [v32_digsOf] at this
    exact this.more (by simp)
  · have := rBit_f h i hi
    rw [v32_digsOf] at this
    exact this.more (by simp)
theorem or_add {N Q R : Heaplet} {ax xo : Option Addr} {na ca nx cx A X : Nat} (ha : RSl N 1 ax na ca (u32s (digsOf A))) (hx : RSl Q 1 xo nx cx (u32s (digsOf X)) ∨ RSl R 1 xo nx cx (u32s (digsOf X))) (hn : na ≤ 1099511627776) (hm : nx ≤ 1099511627776) :
    Fn Try.prog 96 #[.slice ax na ca, .slice xo nx cx] [] [N, Q, R] (DigsP (A + X)) := by
  rcases hx with h | h
  · have := rAdd_f ha h hn hm
    rw [v32_digsOf, v32_digsOf] at this
    exact this.more (by simp)
  · have := rAdd_f ha h hn hm
    rw [v32_digsOf, v32_digsOf] at this
    exact this.more (by simp)
set_option maxRecDepth 100000 in
theorem WSext_far {k x : Nat} (hk : k < WW) (hx : x < WW) (h : ¬ k < 2 ^ 64) : Fn Try.prog 87 #[wo k, wo x] [] [] (fun v L => v = wo x ∧ L = []) := by
  refine Fn.enter (vs := [wo k, wo x]) Try.func87 rfl rfl rfl ?_
  intro E R hR
  change At _ _ E [R] _
  refine At.seq fun K1 hk_1 => ?_
  refine At.region ?_
  refine op_box (nxla rfl) rfl rfl rfl (fun N2 b2 B2 => ?_)
  change Blk N2 b2 _ (u64s (wl k)) at B2
  refine op_box (nxla rfl) rfl rfl rfl (fun N3 b3 B3 => ?_)
  change Blk N3 b3 _ (u64s (wl x)) at B3
  refine op_alloc (nxla rfl) ze24 rfl (fun N4 b4 B4 => ?_)
  change Blk N4 b4 _ [.int .u64 0, .int .u64 0, .int .u64 0, .int .u64 0] at B4
  refine At.opsNil ?_
  refine At.norm (hk_1 ?_)
  refine At.seq fun K2 hk_2 => ?_
  refine At.region ?_
  refine op_loadAggB (ds := u64s (wl k)) (nxlf rfl) ag24 rfl B2 (by first | (rw [List.drop_zero, List.take_of_length_le (by first | (simp; done) | (simp; omega))]; done) | rfl) (by first | (simp; done) | (simp; omega)) mem2 rfl ?_
  refine op_callA (nxla rfl) (.cons rfl .nil) (WSmall_no hk h) Try.func50 rfl rfl (by simp) rfl ?_
  rintro v10 L10 ⟨rfl, rfl⟩
  change At _ _ _ [N4, N3, N2, R] _
  refine op_move (nxlf rfl) rfl rfl ?_
  refine op_extract (nxlf rfl) rfl rfl rfl ?_
  refine op_extract (nxlf rfl) rfl rfl rfl ?_
  refine op_assign (nxlf rfl) rfl rfl ?_
  refine op_assign (nxlf rfl) rfl rfl ?_
  refine At.opsNil ?_
  refine At.norm (hk_2 ?_)
  refine At.seq fun K3 hk_3 => ?_
  refine At.seq fun K4 hk_4 => ?_
  refine At.region ?_
  refine op_move (nxlf rfl) rfl rfl ?_
  refine op_not (nxlf rfl) rfl rfl ?_
  refine op_move (nxlf rfl) rfl rfl ?_
  refine op_skip rfl rfl rfl rfl rfl rfl rfl ?_
  refine op_skip rfl rfl rfl rfl rfl rfl rfl ?_
  refine op_pickT (nxlf rfl) rfl rfl rfl ?_
  refine At.opsNil ?_
  refine At.norm (hk_4 ?_)
  refine At.condT rfl ?_
  refine At.seq fun K5 hk_5 => ?_
  refine At.region ?_
  refine op_loadAggB (ds := u64s (wl x)) (nxlf rfl) ag24 rfl B3 (by first | (rw [List.drop_zero, List.take_of_length_le (by first | (simp; done) | (simp; omega))]; done) | rfl) (by first | (simp; done) | (simp; omega)) mem1 rfl ?_
  refine op_store (nxl rfl) sz24 rfl rfl rfl rfl rfl B4 (by simp) sel0 (fun N4 B4 => ?_)
  rw [setL_whole (by simp)] at B4
  refine At.opsNil ?_
  refine At.norm (hk_5 ?_)
  refine At.ret (At.thenRet (?_))
  refine At.sub (L' := [N4, R]) (.cons_cons _ (.cons _ (.cons _ (.cons_cons _ (.slnil))))) ?_
  refine At.ret1 (L1 := []) rfl (.cell rfl (res_agg (ds := u64s (wl x)) ag24 B4 (by first | (rw [List.drop_zero, List.take_of_length_le (by first | (simp; done) | (simp; omega))]; done) | rfl) (by first | (simp; done) | (simp; omega)) mem0) .nil) (.cons _ (.refl _)) (.refl _) ?_
  exact ⟨rfl, rfl⟩
set_option maxRecDepth 100000 in
theorem WSext_near {k : UInt64} {x : Nat} (hk : k.toNat < WW) (hx : x < WW) : Fn Try.prog 87 #[wo k.toNat, wo x] [] [] (fun v L => v = wo (sextV k.toNat x) ∧ L = []) := by
  have h64 : k.toNat < 2 ^ 64 := k.toNat_lt
  have hlt : ∀ V : Nat, V % WW < WW := fun V => Nat.mod_lt V WW_pos
  obtain ⟨s, hs⟩ : ∃ s, s = 248 - 8 * k.toNat := ⟨_, rfl⟩
  have hup : k.toNat < 31 → (255 - (8 * k + 7)).toNat = s := fun h => by
    have e8 : (8 * k).toNat = 8 * k.toNat := by rw [UInt64.toNat_mul]; exact Nat.mod_eq_of_lt (show 8 * k.toNat < 2 ^ 64 by omega)
    have e7 : (8 * k + 7).toNat = 8 * k.toNat + 7 := by rw [add64n (by rw [e8]; show 8 * k.toNat + 7 < _; omega), e8]; rfl
    rw [sub64n (by rw [e7]; show _ ≤ 255; omega), e7, hs]
    show 255 - _ = _
    omega
  have h300 : 300 < WW := Nat.lt_trans (by decide) (Nat.pow_lt_pow_right (by decide) (by decide) : 2 ^ 65 < WW)
  have hsW : s < WW := by omega
  have ha : amt s = s := by rw [amt, if_pos (by omega)]
  refine Fn.enter (vs := [wo k.toNat, wo x]) Try.func87 rfl rfl rfl ?_
  intro E R hR
  change At _ _ E [R] _
  refine At.seq fun K1 hk_1 => ?_
  refine At.region ?_
  refine op_box (nxla rfl) rfl rfl rfl (fun N2 b2 B2 => ?_)
  change Blk N2 b2 _ (u64s (wl k.toNat)) at B2
  refine op_box (nxla rfl) rfl rfl rfl (fun N3 b3 B3 => ?_)
  change Blk N3 b3 _ (u64s (wl x)) at B3
  refine op_alloc (nxla rfl) ze24 rfl (fun N4 b4 B4 => ?_)
  change Blk N4 b4 _ [.int .u64 0, .int .u64 0, .int .u64 0, .int .u64 0] at B4
  refine At.opsNil ?_
  refine At.norm (hk_1 ?_)
  refine At.seq fun K2 hk_2 => ?_
  refine At.region ?_
  refine op_loadAggB (ds := u64s (wl k.toNat)) (nxlf rfl) ag24 rfl B2 (by first | (rw [List.drop_zero, List.take_of_length_le (by first | (simp; done) | (simp; omega))]; done) | rfl) (by first | (simp; done) | (simp; omega)) mem2 rfl ?_
  refine op_callA (nxla rfl) (.cons rfl .nil) (WSmall_f hk h64) Try.func50 rfl rfl (by simp) rfl ?_
  rintro v10 L10 ⟨rfl, rfl⟩
  change At _ _ _ [N4, N3, N2, R] _
  refine op_move (nxlf rfl) rfl rfl ?_
  refine op_extract (nxlf rfl) rfl rfl rfl ?_
  refine op_extract (nxlf rfl) rfl rfl rfl ?_
  refine op_assign (nxlf rfl) rfl rfl ?_
  refine op_assign (nxlf rfl) rfl rfl ?_
  refine At.opsNil ?_
  refine At.norm (hk_2 ?_)
  refine At.seq fun K3 hk_3 => ?_
  refine At.seq fun K4 hk_4 => ?_
  refine At.region ?_
  refine op_move (nxlf rfl) rfl rfl ?_
  refine op_not (nxlf rfl) rfl rfl ?_
  refine op_move (nxlf rfl) rfl rfl ?_
  refine op_move (nxgf rfl rfl rfl rfl) rfl rfl ?_
  refine op_geq (nxgf rfl rfl rfl rfl) rfl rfl rfl ?_
  refine op_pickF (nxlf rfl) rfl rfl rfl ?_
  refine At.opsNil ?_
  refine At.norm (hk_4 ?_)
  refine At.condP rfl (fun c18 => ?_) (fun c18 => ?_)
  · refine At.seq fun K5 hk_5 => ?_
    refine At.region ?_
    refine op_loadAggB (ds := u64s (wl x)) (nxlf rfl) ag24 rfl B3 (by first | (rw [List.drop_zero, List.take_of_length_le (by first | (simp; done) | (simp; omega))]; done) | rfl) (by first | (simp; done) | (simp; omega)) mem1 rfl ?_
    refine op_store (nxl rfl) sz24 rfl rfl rfl rfl rfl B4 (by simp) sel0 (fun N4 B4 => ?_)
    rw [setL_whole (by simp)] at B4
    refine At.opsNil ?_
    refine At.norm (hk_5 ?_)
    refine At.ret (At.thenRet (?_))
    have e0 : wl x = wl (sextV k.toNat x) := by rw [sextV, if_neg (by omega)]
    rw [e0] at B4
    refine At.sub (L' := [N4, R]) (.cons_cons _ (.cons _ (.cons _ (.cons_cons _ (.slnil))))) ?_
    refine At.ret1 (L1 := []) rfl (.cell rfl (res_agg (ds := u64s (wl (sextV k.toNat x))) ag24 B4 (by first | (rw [List.drop_zero, List.take_of_length_le (by first | (simp; done) | (simp; omega))]; done) | rfl) (by first | (simp; done) | (simp; omega)) mem0) .nil) (.cons _ (.refl _)) (.refl _) ?_
    exact ⟨rfl, rfl⟩
  · refine At.skip ?_
    refine At.norm (hk_3 ?_)
    refine At.seq fun K6 hk_6 => ?_
    refine At.region ?_
    refine op_move (nxlf rfl) rfl rfl ?_
    refine op_mulU (a := 8) (nxlf rfl) rfl rfl rfl ?_
    refine op_addU (b := 7) (nxlf rfl) rfl rfl rfl ?_
    refine op_subU (a := 255) (nxlf rfl) rfl rfl rfl ?_
    refine op_callA (nxla rfl) (.cons rfl .nil) (WOf_f (255 - (8 * k + 7))) Try.func36 rfl rfl (by simp) rfl ?_
    rintro v24 L24 ⟨rfl, rfl⟩
    change At _ _ _ [N4, N3, N2, R] _
    rw [hup (by omega)]
    refine op_alloc (nxla rfl) ze24 rfl (fun N7 b7 B7 => ?_)
    change Blk N7 b7 _ [.int .u64 0, .int .u64 0, .int .u64 0, .int .u64 0] at B7
    refine op_store (nxl rfl) sz24 rfl rfl rfl rfl rfl B7 (by simp) sel0 (fun N7 B7 => ?_)
    rw [setL_whole (by simp)] at B7
    refine At.opsNil ?_
    refine At.norm (hk_6 ?_)
    refine At.seq fun K7 hk_7 => ?_
    refine At.perm sel4 ?_
    refine At.perm sel1 ?_
    refine At.perm sel3 ?_
    refine At.perm sel4 ?_
    refine At.perm sel4 ?_
    refine At.drawnS [N3, N7, R] [4,5] [] [0,1,2,3,4,5] (by kernel_rfl) (by kernel_rfl) (.cons _ (.cons _ (.refl _))) ?_
    refine op_loadAggB (ds := u64s (wl s)) (nxsf rfl rfl rfl) ag24 rfl B7 (by first | (rw [List.drop_zero, List.take_of_length_le (by first | (simp; done) | (simp; omega))]; done) | rfl) (by first | (simp; done) | (simp; omega)) mem1 rfl ?_
    refine op_loadAggB (ds := u64s (wl s)) (nxsf rfl rfl rfl) ag24 rfl B7 (by first | (rw [List.drop_zero, List.take_of_length_le (by first | (simp; done) | (simp; omega))]; done) | rfl) (by first | (simp; done) | (simp; omega)) mem1 rfl ?_
    refine op_loadAggB (ds := u64s (wl x)) (nxsf rfl rfl rfl) ag24 rfl B3 (by first | (rw [List.drop_zero, List.take_of_length_le (by first | (simp; done) | (simp; omega))]; done) | rfl) (by first | (simp; done) | (simp; omega)) mem0 rfl ?_
    refine op_callA (Nx.agree (nxsm rfl rfl rfl)) (.cons rfl (.cons rfl .nil)) (WShl_f hsW hx) Try.func79 rfl rfl (by simp) rfl ?_
    rintro v28 L28 ⟨rfl, rfl⟩
    change At _ _ _ [N4, N2, N3, N7, R] _
    rw [ha, ← wo_mod (x * 2 ^ s)]
    refine At.moreS (Lst := [N3, N7, R]) (Lst' := [N3, N7, R]) (.refl _) (.cons _ (.cons _ (.refl _))) ?_
    refine op_callA (Nx.agree (nxss rfl rfl rfl rfl)) (.cons rfl (.cons rfl .nil)) (WSar_w hsW (hlt _)) Try.func92 rfl rfl (by simp) rfl ?_
    rintro v29 L29 ⟨rfl, rfl⟩
    change At _ _ _ [N4, N2, N3, N7, R] _
    rw [ha, sext_sar (b := 8 * (k.toNat + 1)) (by omega) (by omega)]
    refine At.anyS (.refl _) ?_
    refine op_store (nxsl rfl rfl rfl rfl) sz24 rfl rfl rfl rfl rfl B4 (by simp) sel0 (fun N4 B4 => ?_)
    rw [setL_whole (by simp)] at B4
    refine At.sNil ?_
    refine At.norm (hk_7 ?_)
    refine At.ret (?_)
    have e0 : sextN (8 * (k.toNat + 1)) x = sextV k.toNat x := by rw [sextV, if_pos (by omega)]
    rw [e0] at B4
    refine At.sub (L' := [N4, R]) (.cons_cons _ (.cons _ (.cons _ (.cons _ (.cons_cons _ (.slnil)))))) ?_
    refine At.ret1 (L1 := []) rfl (.cell rfl (res_agg (ds := u64s (wl (sextV k.toNat x))) ag24 B4 (by first | (rw [List.drop_zero, List.take_of_length_le (by first | (simp; done) | (simp; omega))]; done) | rfl) (by first | (simp; done) | (simp; omega)) mem0) .nil) (.cons _ (.refl _)) (.refl _) ?_
    exact ⟨rfl, rfl⟩
theorem WSext_w {k x : Nat} (hk : k < WW) (hx : x < WW) : Fn Try.prog 87 #[wo k, wo x] [] [] (fun v L => v = wo (sextV k x) ∧ L = []) := by
  by_cases h : k < 2 ^ 64
  · have e : (UInt64.ofNat k).toNat = k := by rw [UInt64.toNat_ofNat', Nat.mod_eq_of_lt h]
    have := WSext_near (k := UInt64.ofNat k) (x := x) (by rw [e]; exact hk) hx
    rwa [e] at this
  · rw [sextV, if_neg (by omega)]
    exact WSext_far hk hx h
set_option maxRecDepth 100000 in
theorem rSext_far {k x : Nat} (hk : k < WW) (hx : x < WW) (h : ¬ k < 2 ^ 64) : Fn Try.prog 88 #[wo k, wo x] [] [] (fun v L => v = wo x ∧ L = []) := by
  refine Fn.enter (vs := [wo k, wo x]) Try.func88 rfl rfl rfl ?_
  intro E R hR
  change At _ _ E [R] _
  refine At.seq fun K1 hk_1 => ?_
  refine At.region ?_
  refine op_box (nxla rfl) rfl rfl rfl (fun N2 b2 B2 => ?_)
  change Blk N2 b2 _ (u64s (wl k)) at B2
  refine op_box (nxla rfl) rfl rfl rfl (fun N3 b3 B3 => ?_)
  change Blk N3 b3 _ (u64s (wl x)) at B3
  refine op_alloc (nxla rfl) ze24 rfl (fun N4 b4 B4 => ?_)
  change Blk N4 b4 _ [.int .u64 0, .int .u64 0, .int .u64 0, .int .u64 0] at B4
  refine At.opsNil ?_
  refine At.norm (hk_1 ?_)
  refine At.seq fun K2 hk_2 => ?_
  refine At.region ?_
  refine op_loadAggB (ds := u64s (wl k)) (nxlf rfl) ag24 rfl B2 (by first | (rw [List.drop_zero, List.take_of_length_le (by first | (simp; done) | (simp; omega))]; done) | rfl) (by first | (simp; done) | (simp; omega)) mem2 rfl ?_
  refine op_callA (nxla rfl) (.cons rfl .nil) (rSmall_no hk h) Try.func51 rfl rfl (by simp) rfl ?_
  rintro v11 L11 ⟨rfl, rfl⟩
  change At _ _ _ [N4, N3, N2, R] _
  refine op_move (nxlf rfl) rfl rfl ?_
  refine op_extract (nxlf rfl) rfl rfl rfl ?_
  refine op_extract (nxlf rfl) rfl rfl rfl ?_
  refine op_assign (nxlf rfl) rfl rfl ?_
  refine op_assign (nxlf rfl) rfl rfl ?_
  refine At.opsNil ?_
  refine At.norm (hk_2 ?_)
  refine At.seq fun K3 hk_3 => ?_
  refine At.seq fun K4 hk_4 => ?_
  refine At.region ?_
  refine op_move (nxlf rfl) rfl rfl ?_
  refine op_not (nxlf rfl) rfl rfl ?_
  refine op_move (nxlf rfl) rfl rfl ?_
  refine op_skip rfl rfl rfl rfl rfl rfl rfl ?_
  refine op_skip rfl rfl rfl rfl rfl rfl rfl ?_
  refine op_pickT (nxlf rfl) rfl rfl rfl ?_
  refine At.opsNil ?_
  refine At.norm (hk_4 ?_)
  refine At.condT rfl ?_
  refine At.seq fun K5 hk_5 => ?_
  refine At.region ?_
  refine op_loadAggB (ds := u64s (wl x)) (nxlf rfl) ag24 rfl B3 (by first | (rw [List.drop_zero, List.take_of_length_le (by first | (simp; done) | (simp; omega))]; done) | rfl) (by first | (simp; done) | (simp; omega)) mem1 rfl ?_
  refine op_store (nxl rfl) sz24 rfl rfl rfl rfl rfl B4 (by simp) sel0 (fun N4 B4 => ?_)
  rw [setL_whole (by simp)] at B4
  refine At.opsNil ?_
  refine At.norm (hk_5 ?_)
  refine At.ret (At.thenRet (?_))
  refine At.sub (L' := [N4, R]) (.cons_cons _ (.cons _ (.cons _ (.cons_cons _ (.slnil))))) ?_
  refine At.ret1 (L1 := []) rfl (.cell rfl (res_agg (ds := u64s (wl x)) ag24 B4 (by first | (rw [List.drop_zero, List.take_of_length_le (by first | (simp; done) | (simp; omega))]; done) | rfl) (by first | (simp; done) | (simp; omega)) mem0) .nil) (.cons _ (.refl _)) (.refl _) ?_
  exact ⟨rfl, rfl⟩
set_option maxRecDepth 100000 in
theorem rSext_near {k : UInt64} {x : Nat} (hk : k.toNat < WW) (hx : x < WW) : Fn Try.prog 88 #[wo k.toNat, wo x] [] [] (fun v L => v = wo (sextV k.toNat x) ∧ L = []) := by
  have h64 : k.toNat < 2 ^ 64 := k.toNat_lt
  have hdx := dig_w hx
  have hdt := dig_top
  obtain ⟨b, hb⟩ : ∃ b, b = 8 * (k.toNat + 1) := ⟨_, rfl⟩
  have hup : k.toNat < 31 → (8 * (k + 1)).toNat = b := fun h => by
    have e1 : (k + 1).toNat = k.toNat + 1 := by rw [add64n (by show k.toNat + 1 < _; omega)]; rfl
    have e8 : (8 * (k + 1)).toNat = 8 * (k + 1).toNat := by rw [UInt64.toNat_mul]; exact Nat.mod_eq_of_lt (by rw [e1]; show 8 * (k.toNat + 1) < 2 ^ 64; omega)
    rw [e8, e1, hb]
  have hv : v32 [1] * 2 ^ b = 2 ^ b := by rw [show v32 [1] = 1 from rfl, Nat.one_mul]
  have hbW : b ≤ 256 → 2 ^ b ≤ WW := fun h => Nat.pow_le_pow_right (by decide) h
  have hbd : b ≤ 256 → (digsOf (2 ^ b)).length ≤ 9 := fun h => Nat.le_trans (digs_mono (hbW h)) hdt
  have hlow : x % 2 ^ b < WW := Nat.lt_of_le_of_lt (Nat.mod_le _ _) hx
  have hdl := dig_w hlow
  have hpos : 0 < 2 ^ b := Nat.pow_pos (by decide)
  refine Fn.enter (vs := [wo k.toNat, wo x]) Try.func88 rfl rfl rfl ?_
  intro E R hR
  change At _ _ E [R] _
  refine At.seq fun K1 hk_1 => ?_
  refine At.region ?_
  refine op_box (nxla rfl) rfl rfl rfl (fun N2 b2 B2 => ?_)
  change Blk N2 b2 _ (u64s (wl k.toNat)) at B2
  refine op_box (nxla rfl) rfl rfl rfl (fun N3 b3 B3 => ?_)
  change Blk N3 b3 _ (u64s (wl x)) at B3
  refine op_alloc (nxla rfl) ze24 rfl (fun N4 b4 B4 => ?_)
  change Blk N4 b4 _ [.int .u64 0, .int .u64 0, .int .u64 0, .int .u64 0] at B4
  refine At.opsNil ?_
  refine At.norm (hk_1 ?_)
  refine At.seq fun K2 hk_2 => ?_
  refine At.region ?_
  refine op_loadAggB (ds := u64s (wl k.toNat)) (nxlf rfl) ag24 rfl B2 (by first | (rw [List.drop_zero, List.take_of_length_le (by first | (simp; done) | (simp; omega))]; done) | rfl) (by first | (simp; done) | (simp; omega)) mem2 rfl ?_
  refine op_callA (nxla rfl) (.cons rfl .nil) (rSmall_y hk h64) Try.func51 rfl rfl (by simp) rfl ?_
  rintro v11 L11 ⟨rfl, rfl⟩
  change At _ _ _ [N4, N3, N2, R] _
  refine op_move (nxlf rfl) rfl rfl ?_
  refine op_extract (nxlf rfl) rfl rfl rfl ?_
  refine op_extract (nxlf rfl) rfl rfl rfl ?_
  refine op_assign (nxlf rfl) rfl rfl ?_
  refine op_assign (nxlf rfl) rfl rfl ?_
  refine At.opsNil ?_
  refine At.norm (hk_2 ?_)
  refine At.seq fun K3 hk_3 => ?_
  refine At.seq fun K4 hk_4 => ?_
  refine At.region ?_
  refine op_move (nxlf rfl) rfl rfl ?_
  refine op_not (nxlf rfl) rfl rfl ?_
  refine op_move (nxlf rfl) rfl rfl ?_
  refine op_move (nxgf rfl rfl rfl rfl) rfl rfl ?_
  refine op_geq (nxgf rfl rfl rfl rfl) rfl rfl rfl ?_
  refine op_pickF (nxlf rfl) rfl rfl rfl ?_
  refine At.opsNil ?_
  refine At.norm (hk_4 ?_)
  refine At.condP rfl (fun c19 => ?_) (fun c19 => ?_)
  · refine At.seq fun K5 hk_5 => ?_
    refine At.region ?_
    refine op_loadAggB (ds := u64s (wl x)) (nxlf rfl) ag24 rfl B3 (by first | (rw [List.drop_zero, List.take_of_length_le (by first | (simp; done) | (simp; omega))]; done) | rfl) (by first | (simp; done) | (simp; omega)) mem1 rfl ?_
    refine op_store (nxl rfl) sz24 rfl rfl rfl rfl rfl B4 (by simp) sel0 (fun N4 B4 => ?_)
    rw [setL_whole (by simp)] at B4
    refine At.opsNil ?_
    refine At.norm (hk_5 ?_)
    refine At.ret (At.thenRet (?_))
    have e0 : wl x = wl (sextV k.toNat x) := by rw [sextV, if_neg (by omega)]
    rw [e0] at B4
    refine At.sub (L' := [N4, R]) (.cons_cons _ (.cons _ (.cons _ (.cons_cons _ (.slnil))))) ?_
    refine At.ret1 (L1 := []) rfl (.cell rfl (res_agg (ds := u64s (wl (sextV k.toNat x))) ag24 B4 (by first | (rw [List.drop_zero, List.take_of_length_le (by first | (simp; done) | (simp; omega))]; done) | rfl) (by first | (simp; done) | (simp; omega)) mem0) .nil) (.cons _ (.refl _)) (.refl _) ?_
    exact ⟨rfl, rfl⟩
  · refine At.skip ?_
    refine At.norm (hk_3 ?_)
    refine At.seq fun K6 hk_6 => ?_
    refine At.region ?_
    refine op_move (nxlf rfl) rfl rfl ?_
    refine op_addU (b := 1) (nxlf rfl) rfl rfl rfl ?_
    refine op_mulU (a := 8) (nxlf rfl) rfl rfl rfl ?_
    rw [hup (by omega)]
    refine op_convI (nxlf rfl) (und_some Try.underlying22) Try.underlying3 rfl (by omega) (by omega) rfl ?_
    refine op_assign (nxlf rfl) rfl rfl ?_
    refine At.opsNil ?_
    refine At.norm (hk_6 ?_)
    refine At.seq fun K7 hk_7 => ?_
    refine At.region ?_
    refine op_loadAggB (ds := u64s (wl x)) (nxlf rfl) ag24 rfl B3 (by first | (rw [List.drop_zero, List.take_of_length_le (by first | (simp; done) | (simp; omega))]; done) | rfl) (by first | (simp; done) | (simp; omega)) mem1 rfl ?_
    refine op_callA (nxla rfl) (.cons rfl .nil) (rN_w hx) Try.func104 rfl rfl (by simp) rfl ?_
    rintro v26 L26 ⟨M26, p26, c26, rfl, rfl, s26⟩
    change At _ _ _ [M26, N4, N3, N2, R] _
    refine op_lit (nxla rfl) Try.underlying38 ze65 sz65 (.cons rfl .nil) rfl rfl (by simp [Value.cells]) rfl rfl rfl (fun N27 a27 r27 => ?_)
    simp only [flatV, List.flatMap_cons, List.flatMap_nil, Value.cells, List.append_nil, List.cons_append, List.nil_append] at r27
    have s27 := r27.rsl
    change Row N27 _ 1 a27 1 1 (u32s [1]) at r27
    have s27 := r27.rsl
    refine op_move (nxlf rfl) rfl rfl ?_
    refine op_callA (nxla rfl) (.cons rfl (.cons rfl .nil)) (rShl_f s27 b (by omega) (by omega)) Try.func122 rfl rfl (by simp) rfl ?_
    rintro v29 L29 ⟨M29, p29, c29, rfl, rfl, s29⟩
    change At _ _ _ [M29, N27, M26, N4, N3, N2, R] _
    rw [hv] at s29 ⊢
    refine op_callA (nxla rfl) (.cons rfl (.cons rfl .nil)) (rMod_f s26 s29 (by omega) (by have := hbd (by omega); omega) hpos) Try.func106 rfl rfl (by simp) rfl ?_
    rintro v30 L30 ⟨M30, p30, c30, rfl, rfl, h30⟩
    change At _ _ _ [M30, M29, N27, M26, N4, N3, N2, R] _
    refine op_assign (nxlf rfl) rfl rfl ?_
    refine At.opsNil ?_
    refine At.norm (hk_7 ?_)
    refine At.seq fun K8 hk_8 => ?_
    refine At.seq fun K9 hk_9 => ?_
    refine At.region ?_
    refine op_move (nxlf rfl) rfl rfl ?_
    refine op_move (nxlf rfl) rfl rfl ?_
    refine op_subI (nxlf rfl) rfl rfl (by omega) (by omega) rfl ?_
    rw [show (b : Int) - 1 = ((b - 1 : Nat) : Int) by omega]
    refine op_callA (nxla rfl) (.cons rfl (.cons rfl .nil)) (or_bit h30 (b - 1) (by omega)) Try.func71 rfl rfl (by simp) rfl ?_
    rintro v34 L34 ⟨rfl, rfl⟩
    change At _ _ _ [M30, M29, N27, M26, N4, N3, N2, R] _
    refine op_eql (nxlf rfl) rfl rfl rfl ?_
    refine At.opsNil ?_
    refine At.norm (hk_9 ?_)
    refine At.condP rfl (fun c35 => ?_) (fun c35 => ?_)
    · refine At.seq fun K10 hk_10 => ?_
      refine At.region ?_
      refine op_move (nxlf rfl) rfl rfl ?_
      refine op_callA (nxla rfl) (.cons rfl .nil) (or_W h30) Try.func105 rfl rfl (by simp) rfl ?_
      rintro v37 L37 ⟨rfl, rfl⟩
      change At _ _ _ [M30, M29, N27, M26, N4, N3, N2, R] _
      refine op_store (nxl rfl) sz24 rfl rfl rfl rfl rfl B4 (by simp) sel4 (fun N4 B4 => ?_)
      rw [setL_whole (by simp)] at B4
      refine At.opsNil ?_
      refine At.norm (hk_10 ?_)
      refine At.ret (At.thenRet (?_))
      have e0 : x % 2 ^ b = sextV k.toNat x := by rw [sextV, if_pos (by omega), sextN, ← hb, if_pos (by omega)]
      rw [e0] at B4
      refine At.sub (L' := [N4, R]) (.cons_cons _ (.cons _ (.cons _ (.cons _ (.cons _ (.cons _ (.cons _ (.cons_cons _ (.slnil))))))))) ?_
      refine At.ret1 (L1 := []) rfl (.cell rfl (res_agg (ds := u64s (wl (sextV k.toNat x))) ag24 B4 (by first | (rw [List.drop_zero, List.take_of_length_le (by first | (simp; done) | (simp; omega))]; done) | rfl) (by first | (simp; done) | (simp; omega)) mem0) .nil) (.cons _ (.refl _)) (.refl _) ?_
      exact ⟨rfl, rfl⟩
    · refine At.skip ?_
      refine At.norm (hk_8 ?_)
      refine At.seq fun K11 hk_11 => ?_
      refine At.region ?_
      refine op_callA (nxla rfl) .nil (top_f) Try.func115 rfl rfl (by simp) rfl ?_
      rintro v38 L38 ⟨M38, p38, c38, rfl, rfl, s38⟩
      change At _ _ _ [M38, M30, M29, N27, M26, N4, N3, N2, R] _
      refine op_lit (nxla rfl) Try.underlying38 ze65 sz65 (.cons rfl .nil) rfl rfl (by simp [Value.cells]) rfl rfl rfl (fun N39 a39 r39 => ?_)
      simp only [flatV, List.flatMap_cons, List.flatMap_nil, Value.cells, List.append_nil, List.cons_append, List.nil_append] at r39
      have s39 := r39.rsl
      change Row N39 _ 1 a39 1 1 (u32s [1]) at r39
      have s39 := r39.rsl
      refine op_move (nxlf rfl) rfl rfl ?_
      refine op_callA (nxla rfl) (.cons rfl (.cons rfl .nil)) (rShl_f s39 b (by omega) (by omega)) Try.func122 rfl rfl (by simp) rfl ?_
      rintro v41 L41 ⟨M41, p41, c41, rfl, rfl, s41⟩
      change At _ _ _ [M41, N39, M38, M30, M29, N27, M26, N4, N3, N2, R] _
      rw [hv] at s41 ⊢
      refine op_callA (nxla rfl) (.cons rfl (.cons rfl .nil)) (rSub_f s38 s41 (by omega) (digs_mono (hbW (by omega))) (by rw [v32_digsOf, v32_digsOf]; exact hbW (by omega))) Try.func95 rfl rfl (by simp) rfl ?_
      rintro v42 L42 ⟨M42, p42, c42, rfl, rfl, s42⟩
      change At _ _ _ [M42, M41, N39, M38, M30, M29, N27, M26, N4, N3, N2, R] _
      rw [v32_digsOf, v32_digsOf] at s42 ⊢
      refine op_move (nxlf rfl) rfl rfl ?_
      refine op_callA (nxla rfl) (.cons rfl (.cons rfl .nil)) (or_add s42 h30 (Nat.le_trans (digs_mono (Nat.sub_le _ _)) (by omega)) (by omega)) Try.func96 rfl rfl (by simp) rfl ?_
      rintro v44 L44 ⟨M44, p44, c44, rfl, rfl, s44⟩
      change At _ _ _ [M44, M42, M41, N39, M38, M30, M29, N27, M26, N4, N3, N2, R] _
      refine op_callA (nxla rfl) (.cons rfl .nil) (rW_w s44) Try.func105 rfl rfl (by simp) rfl ?_
      rintro v45 L45 ⟨rfl, rfl⟩
      change At _ _ _ [M44, M42, M41, N39, M38, M30, M29, N27, M26, N4, N3, N2, R] _
      refine op_store (nxl rfl) sz24 rfl rfl rfl rfl rfl B4 (by simp) sel9 (fun N4 B4 => ?_)
      rw [setL_whole (by simp)] at B4
      refine At.opsNil ?_
      refine At.norm (hk_11 ?_)
      refine At.ret (?_)
      have e0 : WW - 2 ^ b + x % 2 ^ b = sextV k.toNat x := by rw [sextV, if_pos (by omega), sextN, ← hb, if_neg (by omega)]
      rw [e0] at B4
      refine At.sub (L' := [N4, R]) (.cons_cons _ (.cons _ (.cons _ (.cons _ (.cons _ (.cons _ (.cons _ (.cons _ (.cons _ (.cons _ (.cons _ (.cons _ (.cons_cons _ (.slnil)))))))))))))) ?_
      refine At.ret1 (L1 := []) rfl (.cell rfl (res_agg (ds := u64s (wl (sextV k.toNat x))) ag24 B4 (by first | (rw [List.drop_zero, List.take_of_length_le (by first | (simp; done) | (simp; omega))]; done) | rfl) (by first | (simp; done) | (simp; omega)) mem0) .nil) (.cons _ (.refl _)) (.refl _) ?_
      exact ⟨rfl, rfl⟩
theorem rSext_w {k x : Nat} (hk : k < WW) (hx : x < WW) : Fn Try.prog 88 #[wo k, wo x] [] [] (fun v L => v = wo (sextV k x) ∧ L = []) := by
  by_cases h : k < 2 ^ 64
  · have e : (UInt64.ofNat k).toNat = k := by rw [UInt64.toNat_ofNat', Nat.mod_eq_of_lt h]
    have := rSext_near (k := UInt64.ofNat k) (x := x) (by rw [e]; exact hk) hx
    rwa [e] at this
  · rw [sextV, if_neg (by omega)]
    exact rSext_far hk hx h
end Go.Proofs.Ytefljbbpaideaaa
