/- The reference's words: in and out, orders. No condition. -/
import Derived.Test.YtefljbbpaideaaaKWg
import Derived.Test.YtefljbbpaideaaaKWr2
import Derived.Test.YtefljbbpaideaaaK5
namespace Go.Proofs.Ytefljbbpaideaaa
set_option linter.unusedVariables false
set_option linter.unusedSimpArgs false
open Go Go.RowKit
theorem wo_four {x : Nat} (hx : x < WW) : ∃ a b c d : UInt64, wo x = .agg #[.int .u64 (a.toNat : Int), .int .u64 (b.toNat : Int), .int .u64 (c.toNat : Int), .int .u64 (d.toNat : Int)] ∧ v64 [a, b, c, d] = x := by
  obtain ⟨a, b, c, d, h⟩ := four (length_wl x)
  have hv := v64_wl_lt hx
  rw [h] at hv
  exact ⟨a, b, c, d, by rw [wo, h]; rfl, hv⟩
theorem WBytes_w {x : Nat} (hx : x < WW) : Fn Try.prog 52 #[wo x] [] [] (fun v L => v = .agg (u8s (bytesN 32 x)).toArray ∧ L = []) := by
  obtain ⟨a, b, c, d, e, hv⟩ := wo_four hx
  have := WBytes_f a b c d
  rw [hv, ← e] at this
  exact this
theorem WShort_w {x : Nat} (hx : x < WW) : Fn Try.prog 54 #[wo x] [] [] (fun v L => ∃ M p k, v = .slice p (bytesOf x).length k ∧ L = [M] ∧ Row M 5 1 p (bytesOf x).length k (u8s (bytesOf x))) := by
  obtain ⟨a, b, c, d, e, hv⟩ := wo_four hx
  have := WShort_f a b c d
  rw [hv, ← e] at this
  exact this
theorem rShort_w {x : Nat} (hx : x < WW) : Fn Try.prog 55 #[wo x] [] [] (fun v L => ∃ M p k, v = .slice p (bytesOf x).length k ∧ L = [M] ∧ Row M 5 1 p (bytesOf x).length k (u8s (bytesOf x))) := by
  obtain ⟨a, b, c, d, e, hv⟩ := wo_four hx
  have := rShort_f a b c d
  rw [hv, ← e] at this
  exact this
theorem WFrom_w {N : Heaplet} {ao : Option Addr} {n cap : Nat} {l : List UInt8} (h : RSl N 1 ao n cap (u8s l)) : Fn Try.prog 48 #[.slice ao n cap] [] [N] (fun v L => v = .tuple #[wo (if n ≤ 32 then be l else 0), .bool (decide (n ≤ 32))] ∧ L = []) := by
  rcases Nat.lt_or_ge 32 n with hn | hn
  · rw [if_neg (by omega), decide_eq_false (by omega), wo_zero]
    exact WFrom_long h hn
  · rw [if_pos hn, decide_eq_true hn]
    refine (WFrom_f h hn).mono ?_
    rintro v L ⟨a, b, c, d, rfl, rfl, hv⟩
    refine ⟨?_, rfl⟩
    have e := wo_list (w := [a, b, c, d]) rfl
    rw [hv] at e
    rw [← e]; rfl
theorem rOf_w (n : UInt64) : Fn Try.prog 58 #[.int .u64 (n.toNat : Int)] [] [] (fun v L => v = wo n.toNat ∧ L = []) := by
  have e := wl_small n
  refine Fn.enter (vs := [.int .u64 (n.toNat : Int)]) Try.func58 rfl rfl rfl ?_
  intro E R hR
  change At _ _ E [R] _
  refine At.seq fun K1 hk_1 => ?_
  refine At.region ?_
  refine op_alloc (nxla rfl) ze24 rfl (fun N2 b2 B2 => ?_)
  change Blk N2 b2 _ [.int .u64 0, .int .u64 0, .int .u64 0, .int .u64 0] at B2
  refine At.opsNil ?_
  refine At.norm (hk_1 ?_)
  refine At.seq fun K2 hk_2 => ?_
  refine At.region ?_
  refine op_move (nxlf rfl) rfl rfl ?_
  refine op_buildA (out := [_, .int .u64 0, .int .u64 0, .int .u64 0]) (nxlf rfl) ze24 ae24 (.cons rfl .nil) rfl rfl ?_
  refine op_store (nxl rfl) sz24 rfl rfl rfl rfl rfl B2 (by simp) sel0 (fun N2 B2 => ?_)
  rw [setL_whole (by simp)] at B2
  refine At.opsNil ?_
  refine At.norm (hk_2 ?_)
  refine At.ret (?_)
  refine At.ret1 (L1 := []) rfl (.cell rfl (res_agg (ds := [_, _, _, _]) ag24 B2 rfl rfl mem0) .nil) (.cons _ (.refl _)) (.refl _) ?_
  exact ⟨by rw [wo_small], rfl⟩
theorem rBits_w {x : Nat} (hx : x < WW) : Fn Try.prog 57 #[wo x] [] [] (fun v L => v = .int .i64 (bitLen x : Nat) ∧ L = []) := by
  have hdx := dig_w hx
  refine Fn.enter (vs := [wo x]) Try.func57 rfl rfl rfl ?_
  intro E R hR
  change At _ _ E [R] _
  refine At.seq fun K1 hk_1 => ?_
  refine At.region ?_
  refine op_box (nxla rfl) rfl rfl rfl (fun N1 b1 B1 => ?_)
  change Blk N1 b1 _ (u64s (wl x)) at B1
  refine op_assign (nxlf rfl) rfl rfl ?_
  refine At.opsNil ?_
  refine At.norm (hk_1 ?_)
  refine At.seq fun K2 hk_2 => ?_
  refine At.region ?_
  refine op_loadAggB (ds := u64s (wl x)) (nxlf rfl) ag24 rfl B1 (by first | (rw [List.drop_zero, List.take_of_length_le (by first | (simp; done) | (simp; omega))]; done) | rfl) (by first | (simp; done) | (simp; omega)) mem0 rfl ?_
  refine op_callA (nxla rfl) (.cons rfl .nil) (rN_w hx) Try.func104 rfl rfl (by simp) rfl ?_
  rintro v4 L4 ⟨M4, p4, c4, rfl, rfl, s4⟩
  change At _ _ _ [M4, N1, R] _
  refine op_callA (nxla rfl) (.cons rfl .nil) (rLen_f s4 (by omega)) Try.func73 rfl rfl (by simp) rfl ?_
  rintro v5 L5 ⟨rfl, rfl⟩
  change At _ _ _ [M4, N1, R] _
  rw [v32_digsOf]
  refine op_assign (nxlf rfl) rfl rfl ?_
  refine At.opsNil ?_
  refine At.norm (hk_2 ?_)
  refine At.ret (?_)
  refine At.sub (L' := [R]) (.cons _ (.cons _ (.cons_cons _ (.slnil)))) ?_
  refine At.ret1 (L1 := []) rfl (.tmp rfl .nil) (.refl _) (.refl _) ?_
  exact ⟨rfl, rfl⟩
set_option maxRecDepth 100000 in
theorem rCmp_w {x y : Nat} (hx : x < WW) (hy : y < WW) : Fn Try.prog 59 #[wo x, wo y] [] [] (fun v L => v = .int .i64 (cmpI x y) ∧ L = []) := by
  refine Fn.enter (vs := [wo x, wo y]) Try.func59 rfl rfl rfl ?_
  intro E R hR
  change At _ _ E [R] _
  refine At.seq fun K1 hk_1 => ?_
  refine At.region ?_
  refine op_box (nxla rfl) rfl rfl rfl (fun N2 b2 B2 => ?_)
  change Blk N2 b2 _ (u64s (wl x)) at B2
  refine op_box (nxla rfl) rfl rfl rfl (fun N3 b3 B3 => ?_)
  change Blk N3 b3 _ (u64s (wl y)) at B3
  refine op_assign (nxlf rfl) rfl rfl ?_
  refine At.opsNil ?_
  refine At.norm (hk_1 ?_)
  refine At.seq fun K2 hk_2 => ?_
  refine At.perm sel2 ?_
  refine At.perm sel1 ?_
  refine At.perm sel2 ?_
  refine At.drawnS [N2, N3, R] [3,4] [] [0,2,1,3,4,5] (by kernel_rfl) (by kernel_rfl) (.refl _) ?_
  refine op_loadAggB (ds := u64s (wl x)) (nxsf rfl rfl rfl) ag24 rfl B2 (by first | (rw [List.drop_zero, List.take_of_length_le (by first | (simp; done) | (simp; omega))]; done) | rfl) (by first | (simp; done) | (simp; omega)) mem0 rfl ?_
  refine op_loadAggB (ds := u64s (wl y)) (nxsf rfl rfl rfl) ag24 rfl B3 (by first | (rw [List.drop_zero, List.take_of_length_le (by first | (simp; done) | (simp; omega))]; done) | rfl) (by first | (simp; done) | (simp; omega)) mem1 rfl ?_
  refine op_callA (Nx.agree (nxsm rfl rfl rfl)) (.cons rfl .nil) (rN_w hx) Try.func104 rfl rfl (by simp) rfl ?_
  rintro v6 L6 ⟨M6, p6, c6, rfl, rfl, s6⟩
  change At _ _ _ [M6, N2, N3, R] _
  refine At.moreS (Lst := [N2, N3, R]) (Lst' := [M6, N2, N3, R]) (.cons _ (.refl _)) (.refl _) ?_
  refine op_callA (Nx.agree (nxss rfl rfl rfl rfl)) (.cons rfl .nil) (rN_w hy) Try.func104 rfl rfl (by simp) rfl ?_
  rintro v8 L8 ⟨M8, p8, c8, rfl, rfl, s8⟩
  change At _ _ _ [M8, M6, N2, N3, R] _
  refine At.anyS (.refl _) ?_
  refine op_callA (Nx.agree (nxss rfl rfl rfl rfl)) (.cons rfl (.cons rfl .nil)) (Cmp32_f s6 s8) Try.func76 rfl rfl (by simp) rfl ?_
  rintro v9 L9 ⟨rfl, rfl⟩
  change At _ _ _ [M8, M6, N2, N3, R] _
  refine At.anyS (.refl _) ?_
  refine op_assign (nxsf rfl rfl rfl) rfl rfl ?_
  refine At.sNil ?_
  refine At.norm (hk_2 ?_)
  refine At.ret (?_)
  refine At.sub (L' := [R]) (.cons _ (.cons _ (.cons _ (.cons _ (.cons_cons _ (.slnil)))))) ?_
  refine At.ret1 (L1 := []) rfl (.tmp rfl .nil) (.refl _) (.refl _) ?_
  exact ⟨rfl, rfl⟩
theorem cmpI_eq (x y : Nat) : cmpI x y = cmpN x y := rfl
theorem small3 {x : Nat} (hx : x < WW) : (((wl x).getD 1 0).toNat = 0 ∧ ((wl x).getD 2 0).toNat = 0 ∧ ((wl x).getD 3 0).toNat = 0) ↔ x < 2 ^ 64 := by
  rw [← small_iff hx, ← UInt64.toNat_inj, UInt64.toNat_or, UInt64.toNat_or]
  show _ ↔ _ = 0
  rw [Nat.or_eq_zero_iff, Nat.or_eq_zero_iff, and_assoc]
theorem rSmall_no {x : Nat} (hx : x < WW) (h : ¬ x < 2 ^ 64) : Fn Try.prog 51 #[wo x] [] [] (fun v L => v = .tuple #[.int .u64 0, .bool false] ∧ L = []) := by
  have hl := length_wl x
  have hs := small3 hx
  refine Fn.enter (vs := [wo x]) Try.func51 rfl rfl rfl ?_
  intro E R hR
  change At _ _ E [R] _
  refine At.seq fun K1 hk_1 => ?_
  refine At.region ?_
  refine op_box (nxla rfl) rfl rfl rfl (fun N1 b1 B1 => ?_)
  change Blk N1 b1 _ (u64s (wl x)) at B1
  refine op_assign (nxlf rfl) rfl rfl ?_
  refine op_assign (nxlf rfl) rfl rfl ?_
  refine At.opsNil ?_
  refine At.norm (hk_1 ?_)
  refine At.seq fun K2 hk_2 => ?_
  refine At.seq fun K3 hk_3 => ?_
  refine At.region ?_
  refine op_idxA (nxlf rfl) ae24 rfl rfl (show _ = ((1 : Nat) : Int) from rfl) (by omega) rfl ?_
  refine op_loadB (nxlf rfl) sc22 rfl B1 (by first | exact get64A (by omega) | rfl) mem0 rfl ?_
  refine op_neq (nxlf rfl) rfl rfl rfl ?_
  refine op_move (nxlf rfl) rfl rfl ?_
  refine At.partP (d := 7) rfl (fun g7 => ?_) (fun g7 => ?_)
  · refine op_skip rfl rfl rfl rfl rfl rfl rfl ?_
    refine op_skip rfl rfl rfl rfl rfl rfl rfl ?_
    refine op_skip rfl rfl rfl rfl rfl rfl rfl ?_
    refine op_pickT (nxlf rfl) rfl rfl rfl ?_
    refine op_move (nxlf rfl) rfl rfl ?_
    refine op_skip rfl rfl rfl rfl rfl rfl rfl ?_
    refine op_skip rfl rfl rfl rfl rfl rfl rfl ?_
    refine op_skip rfl rfl rfl rfl rfl rfl rfl ?_
    refine op_pickT (nxlf rfl) rfl rfl rfl ?_
    refine At.opsNil ?_
    refine At.norm (hk_3 ?_)
    refine At.condT rfl ?_
    refine At.seq fun K4 hk_4 => ?_
    refine At.region ?_
    refine op_assign (nxlf rfl) rfl rfl ?_
    refine op_assign (nxlf rfl) rfl rfl ?_
    refine At.opsNil ?_
    refine At.norm (hk_4 ?_)
    refine At.ret (At.thenRet (?_))
    refine At.sub (L' := [R]) (.cons _ (.cons_cons _ (.slnil))) ?_
    refine At.retN (L1 := []) rfl (.tmp rfl (.tmp rfl .nil)) rfl (.refl _) (.refl _) ?_
    exact ⟨rfl, rfl⟩
  · refine op_idxA (nxgf rfl rfl rfl rfl) ae24 rfl rfl (show _ = ((2 : Nat) : Int) from rfl) (by omega) rfl ?_
    refine op_loadB (nxgf rfl rfl rfl rfl) sc22 rfl B1 (by first | exact get64A (by omega) | rfl) mem0 rfl ?_
    refine op_neq (nxgf rfl rfl rfl rfl) rfl rfl rfl ?_
    refine op_pickF (nxlf rfl) rfl rfl rfl ?_
    refine op_move (nxlf rfl) rfl rfl ?_
    refine At.partP (d := 12) rfl (fun g12 => ?_) (fun g12 => ?_)
    · refine op_skip rfl rfl rfl rfl rfl rfl rfl ?_
      refine op_skip rfl rfl rfl rfl rfl rfl rfl ?_
      refine op_skip rfl rfl rfl rfl rfl rfl rfl ?_
      refine op_pickT (nxlf rfl) rfl rfl rfl ?_
      refine At.opsNil ?_
      refine At.norm (hk_3 ?_)
      refine At.condT rfl ?_
      refine At.seq fun K5 hk_5 => ?_
      refine At.region ?_
      refine op_assign (nxlf rfl) rfl rfl ?_
      refine op_assign (nxlf rfl) rfl rfl ?_
      refine At.opsNil ?_
      refine At.norm (hk_5 ?_)
      refine At.ret (At.thenRet (?_))
      refine At.sub (L' := [R]) (.cons _ (.cons_cons _ (.slnil))) ?_
      refine At.retN (L1 := []) rfl (.tmp rfl (.tmp rfl .nil)) rfl (.refl _) (.refl _) ?_
      exact ⟨rfl, rfl⟩
    · refine op_idxA (nxgf rfl rfl rfl rfl) ae24 rfl rfl (show _ = ((3 : Nat) : Int) from rfl) (by omega) rfl ?_
      refine op_loadB (nxgf rfl rfl rfl rfl) sc22 rfl B1 (by first | exact get64A (by omega) | rfl) mem0 rfl ?_
      refine op_neq (nxgf rfl rfl rfl rfl) rfl rfl rfl ?_
      refine op_pickF (nxlf rfl) rfl rfl rfl ?_
      refine At.opsNil ?_
      refine At.norm (hk_3 ?_)
      refine At.condP rfl (fun c16 => ?_) (fun c16 => ?_)
      · refine At.seq fun K6 hk_6 => ?_
        refine At.region ?_
        refine op_assign (nxlf rfl) rfl rfl ?_
        refine op_assign (nxlf rfl) rfl rfl ?_
        refine At.opsNil ?_
        refine At.norm (hk_6 ?_)
        refine At.ret (At.thenRet (?_))
        refine At.sub (L' := [R]) (.cons _ (.cons_cons _ (.slnil))) ?_
        refine At.retN (L1 := []) rfl (.tmp rfl (.tmp rfl .nil)) rfl (.refl _) (.refl _) ?_
        exact ⟨rfl, rfl⟩
      · exact absurd (hs.1 ⟨by omega, by omega, by omega⟩) h
theorem rSmall_y {x : Nat} (hx : x < WW) (h : x < 2 ^ 64) : Fn Try.prog 51 #[wo x] [] [] (fun v L => v = .tuple #[.int .u64 (x : Int), .bool true] ∧ L = []) := by
  have hl := length_wl x
  obtain ⟨h1, h2, h3⟩ := (small3 hx).2 h
  have hv := small_val h
  refine Fn.enter (vs := [wo x]) Try.func51 rfl rfl rfl ?_
  intro E R hR
  change At _ _ E [R] _
  refine At.seq fun K1 hk_1 => ?_
  refine At.region ?_
  refine op_box (nxla rfl) rfl rfl rfl (fun N1 b1 B1 => ?_)
  change Blk N1 b1 _ (u64s (wl x)) at B1
  refine op_assign (nxlf rfl) rfl rfl ?_
  refine op_assign (nxlf rfl) rfl rfl ?_
  refine At.opsNil ?_
  refine At.norm (hk_1 ?_)
  refine At.seq fun K2 hk_2 => ?_
  refine At.seq fun K3 hk_3 => ?_
  refine At.region ?_
  refine op_idxA (nxlf rfl) ae24 rfl rfl (show _ = ((1 : Nat) : Int) from rfl) (by omega) rfl ?_
  refine op_loadB (nxlf rfl) sc22 rfl B1 (by first | exact get64A (by omega) | rfl) mem0 rfl ?_
  refine op_neq (nxlf rfl) rfl rfl rfl ?_
  refine op_move (nxlf rfl) rfl rfl ?_
  refine At.partP (d := 7) rfl (fun g7 => ?_) (fun g7 => ?_)
  · exfalso; omega
  · refine op_idxA (nxgf rfl rfl rfl rfl) ae24 rfl rfl (show _ = ((2 : Nat) : Int) from rfl) (by omega) rfl ?_
    refine op_loadB (nxgf rfl rfl rfl rfl) sc22 rfl B1 (by first | exact get64A (by omega) | rfl) mem0 rfl ?_
    refine op_neq (nxgf rfl rfl rfl rfl) rfl rfl rfl ?_
    refine op_pickF (nxlf rfl) rfl rfl rfl ?_
    refine op_move (nxlf rfl) rfl rfl ?_
    refine At.partP (d := 12) rfl (fun g12 => ?_) (fun g12 => ?_)
    · exfalso; omega
    · refine op_idxA (nxgf rfl rfl rfl rfl) ae24 rfl rfl (show _ = ((3 : Nat) : Int) from rfl) (by omega) rfl ?_
      refine op_loadB (nxgf rfl rfl rfl rfl) sc22 rfl B1 (by first | exact get64A (by omega) | rfl) mem0 rfl ?_
      refine op_neq (nxgf rfl rfl rfl rfl) rfl rfl rfl ?_
      refine op_pickF (nxlf rfl) rfl rfl rfl ?_
      refine At.opsNil ?_
      refine At.norm (hk_3 ?_)
      refine At.condP rfl (fun c16 => ?_) (fun c16 => ?_)
      · exfalso; omega
      · refine At.skip ?_
        refine At.norm (hk_2 ?_)
        refine At.seq fun K4 hk_4 => ?_
        refine At.region ?_
        refine op_idxA (nxlf rfl) ae24 rfl rfl (show _ = ((0 : Nat) : Int) from rfl) (by omega) rfl ?_
        refine op_loadB (nxlf rfl) sc22 rfl B1 (by first | exact get64A (by omega) | rfl) mem0 rfl ?_
        rw [hv]
        refine op_assign (nxlf rfl) rfl rfl ?_
        refine op_assign (nxlf rfl) rfl rfl ?_
        refine At.opsNil ?_
        refine At.norm (hk_4 ?_)
        refine At.ret (?_)
        refine At.sub (L' := [R]) (.cons _ (.cons_cons _ (.slnil))) ?_
        refine At.retN (L1 := []) rfl (.tmp rfl (.tmp rfl .nil)) rfl (.refl _) (.refl _) ?_
        exact ⟨rfl, rfl⟩
set_option maxRecDepth 100000 in
theorem rFrom_w {N : Heaplet} {ao : Option Addr} {n cap : Nat} {l : List UInt8} (h : RSl N 1 ao n cap (u8s l)) : Fn Try.prog 49 #[.slice ao n cap] [] [N] (fun v L => v = .tuple #[wo (if n ≤ 32 then be l else 0), .bool (decide (n ≤ 32))] ∧ L = []) := by
  have hcap := h.cap63
  refine Fn.enter (vs := [.slice ao n cap]) Try.func49 rfl rfl rfl ?_
  intro E R hR
  have h := h.le (hR N (by simp))
  change At _ _ E [R] _
  refine At.seq fun K1 hk_1 => ?_
  refine At.region ?_
  refine op_alloc (nxla rfl) ze24 rfl (fun N2 b2 B2 => ?_)
  change Blk N2 b2 _ [.int .u64 0, .int .u64 0, .int .u64 0, .int .u64 0] at B2
  refine op_assign (nxlf rfl) rfl rfl ?_
  refine At.opsNil ?_
  refine At.norm (hk_1 ?_)
  refine At.seq fun K2 hk_2 => ?_
  refine At.seq fun K3 hk_3 => ?_
  refine At.region ?_
  refine op_move (nxlf rfl) rfl rfl ?_
  refine op_lenS (nxlf rfl) se34 rfl rfl ?_
  refine op_gtr (nxlf rfl) rfl rfl rfl ?_
  refine At.opsNil ?_
  refine At.norm (hk_3 ?_)
  refine At.condP rfl (fun c6 => ?_) (fun c6 => ?_)
  · refine At.seq fun K4 hk_4 => ?_
    refine At.region ?_
    refine op_buildA (out := [.int .u64 0, .int .u64 0, .int .u64 0, .int .u64 0]) (nxlf rfl) ze24 ae24 .nil rfl rfl ?_
    refine op_store (nxl rfl) sz24 rfl rfl rfl rfl rfl B2 (by simp) sel0 (fun N2 B2 => ?_)
    rw [setL_whole (by simp)] at B2
    refine op_assign (nxlf rfl) rfl rfl ?_
    refine At.opsNil ?_
    refine At.norm (hk_4 ?_)
    refine At.ret (At.thenRet (?_))
    refine At.retN (L1 := []) rfl (.cell rfl (res_agg (ds := [_, _, _, _]) ag24 B2 rfl rfl mem0) (.tmp rfl .nil)) rfl (.cons _ (.refl _)) (.refl _) ?_
    exact ⟨by rw [if_neg (by omega), decide_eq_false (by omega), wo_zero], rfl⟩
  · refine At.skip ?_
    refine At.norm (hk_2 ?_)
    refine At.seq fun K5 hk_5 => ?_
    refine At.region ?_
    refine op_move (nxlf rfl) rfl rfl ?_
    refine op_callA (nxla rfl) (.cons rfl .nil) (rFrom_f h (by omega)) Try.func37 rfl rfl (by simp) rfl ?_
    rintro v9 L9 ⟨M9, p9, c9, rfl, rfl, s9⟩
    change At _ _ _ [M9, N2, R] _
    refine op_callA (nxla rfl) (.cons rfl .nil) (rW_w s9) Try.func105 rfl rfl (by simp) rfl ?_
    rintro v10 L10 ⟨rfl, rfl⟩
    change At _ _ _ [M9, N2, R] _
    refine op_store (nxl rfl) sz24 rfl rfl rfl rfl rfl B2 (by simp) sel1 (fun N2 B2 => ?_)
    rw [setL_whole (by simp)] at B2
    refine op_assign (nxlf rfl) rfl rfl ?_
    refine At.opsNil ?_
    refine At.norm (hk_5 ?_)
    refine At.ret (?_)
    refine At.sub (L' := [N2, R]) (.cons_cons _ (.cons _ (.cons_cons _ (.slnil)))) ?_
    refine At.retN (L1 := []) rfl (.cell rfl (res_agg (ds := [_, _, _, _]) ag24 B2 rfl rfl mem0) (.tmp rfl .nil)) rfl (.cons _ (.refl _)) (.refl _) ?_
    exact ⟨by rw [if_pos (by omega), decide_eq_true (by omega)]; rfl, rfl⟩
theorem getD_bytesN {n N k : Nat} (h : k < n) : (bytesN n N).getD k 0 = UInt8.ofNat (N / 256 ^ (n - 1 - k)) := by
  rw [List.getD_eq_getElem?_getD, List.getElem?_eq_getElem (by rw [length_bytesN]; exact h), Option.getD_some]
  simp [bytesN]
set_option maxRecDepth 100000 in
theorem rBytes_w {x : Nat} (hx : x < WW) : Fn Try.prog 53 #[wo x] [] [] (fun v L => v = .agg (u8s (bytesN 32 x)).toArray ∧ L = []) := by
  have hdx := dig_w hx
  have hxp : x < 256 ^ 32 := hx
  have hbl : (bytesN 32 x).length = 32 := length_bytesN 32 x
  refine Fn.enter (vs := [wo x]) Try.func53 rfl rfl rfl ?_
  intro E R hR
  change At _ _ E [R] _
  refine At.seq fun K1 hk_1 => ?_
  refine At.region ?_
  refine op_box (nxla rfl) rfl rfl rfl (fun N1 b1 B1 => ?_)
  change Blk N1 b1 _ (u64s (wl x)) at B1
  refine op_alloc (nxla rfl) ze56 rfl (fun N2 b2 B2 => ?_)
  change Blk N2 b2 _ [.int .u8 0, .int .u8 0, .int .u8 0, .int .u8 0, .int .u8 0, .int .u8 0, .int .u8 0, .int .u8 0, .int .u8 0, .int .u8 0, .int .u8 0, .int .u8 0, .int .u8 0, .int .u8 0, .int .u8 0, .int .u8 0, .int .u8 0, .int .u8 0, .int .u8 0, .int .u8 0, .int .u8 0, .int .u8 0, .int .u8 0, .int .u8 0, .int .u8 0, .int .u8 0, .int .u8 0, .int .u8 0, .int .u8 0, .int .u8 0, .int .u8 0, .int .u8 0] at B2
  refine At.opsNil ?_
  refine At.norm (hk_1 ?_)
  refine At.seq fun K2 hk_2 => ?_
  refine At.region ?_
  refine op_alloc (nxla rfl) ze56 rfl (fun N3 b3 B3 => ?_)
  change Blk N3 b3 _ [.int .u8 0, .int .u8 0, .int .u8 0, .int .u8 0, .int .u8 0, .int .u8 0, .int .u8 0, .int .u8 0, .int .u8 0, .int .u8 0, .int .u8 0, .int .u8 0, .int .u8 0, .int .u8 0, .int .u8 0, .int .u8 0, .int .u8 0, .int .u8 0, .int .u8 0, .int .u8 0, .int .u8 0, .int .u8 0, .int .u8 0, .int .u8 0, .int .u8 0, .int .u8 0, .int .u8 0, .int .u8 0, .int .u8 0, .int .u8 0, .int .u8 0, .int .u8 0] at B3
  change Blk N3 b3 _ (u8s (List.replicate 32 0)) at B3
  rw [← bytesSt_zero 32 x] at B3
  refine At.opsNil ?_
  refine At.norm (hk_2 ?_)
  refine At.seq fun K3 hk_3 => ?_
  refine At.region ?_
  refine op_loadAggB (ds := u64s (wl x)) (nxlf rfl) ag24 rfl B1 (by first | (rw [List.drop_zero, List.take_of_length_le (by first | (simp; done) | (simp; omega))]; done) | rfl) (by first | (simp; done) | (simp; omega)) mem2 rfl ?_
  refine op_callA (nxla rfl) (.cons rfl .nil) (rN_w hx) Try.func104 rfl rfl (by simp) rfl ?_
  rintro v7 L7 ⟨M7, p7, c7, rfl, rfl, s7⟩
  change At _ _ _ [M7, N3, N2, N1, R] _
  refine op_callA (nxla rfl) (.cons rfl (.cons rfl .nil)) (rFill_f s7 (by omega) 32 (by omega) (by rw [v32_digsOf]; exact hxp)) Try.func74 rfl rfl (by simp) rfl ?_
  rintro v8 L8 ⟨M8, p8, c8, rfl, rfl, r8⟩
  change At _ _ _ [M8, M7, N3, N2, N1, R] _
  rw [v32_digsOf] at r8
  have s8 := r8.rsl
  refine op_assign (nxlf rfl) rfl rfl ?_
  refine At.opsNil ?_
  refine At.norm (hk_3 ?_)
  refine At.seq fun K4 hk_4 => ?_
  refine At.seq fun K5 hk_5 => ?_
  refine At.region ?_
  refine op_assign (nxlf rfl) rfl rfl ?_
  refine At.opsNil ?_
  refine At.norm (hk_5 ?_)
  refine At.block ?_
  refine At.sub (L' := [M8, N3, N2, R]) (.cons_cons _ (.cons _ (.cons_cons _ (.cons_cons _ (.cons _ (.cons_cons _ (.slnil))))))) ?_
  refine At.perm sel3 ?_
  refine At.perm sel1 ?_
  refine At.perm sel2 ?_
  refine At.perm sel3 ?_
  refine At.loop (fun fr_ hp_ ms_ => ∃ (k : Nat) (N3 : Heaplet), fr_ = [(2, .pointer (some ⟨b2, 0, none⟩)), (3, .pointer (some ⟨b3, 0, none⟩)), (4, .slice p8 32 c8), (5, .int .i64 (k : Int))] ∧ hp_ = [N2, N3, M8, R] ∧ 32 - k = ms_ ∧ (k ≤ 32) ∧ (Blk N3 b3 56 (u8s (bytesSt 32 x k)))) ?_ (.refl _) ⟨0, N3, rfl, rfl, rfl, by omega, B3⟩ ?_
  · exact .cons (by first | exact lkI rfl (by omega) | rfl) (.cons (by first | exact lkI rfl (by omega) | rfl) (.cons (by first | exact lkI rfl (by omega) | rfl) (.cons (by first | exact lkI rfl (by omega) | rfl) .nil)))
  rintro _ _ _ ⟨k, N3, rfl, rfl, rfl, hk, B3⟩
  have hbt := length_bytesSt (m := 32) (N := x) hk
  refine At.seq fun K6 hk_6 => ?_
  refine At.seq fun K7 hk_7 => ?_
  refine At.region ?_
  refine op_move (nxlf rfl) rfl rfl ?_
  refine op_lss (nxlf rfl) rfl rfl rfl ?_
  refine At.opsNil ?_
  refine At.norm (hk_7 ?_)
  refine At.condP rfl (fun c10 => ?_) (fun c10 => ?_)
  · refine At.skip ?_
    refine At.norm (hk_6 ?_)
    refine At.seq fun K8 hk_8 => ?_
    refine At.block ?_
    refine At.region ?_
    refine op_move (nxlf rfl) rfl rfl ?_
    refine op_move (nxlf rfl) rfl rfl ?_
    refine op_move (nxlf rfl) rfl rfl ?_
    refine op_idx1 (nxlf rfl) se34 rfl rfl (by assumption) (show _ = (((k : Nat)) : Int) from by omega) (by omega) rfl ?_
    refine op_loadE (nxlf rfl) sc5 rfl (by assumption) (by first | exact get8 (by omega) | exact get64 (by omega) | exact get32 (by omega)) (by first | exact mem0 | exact mem1 | exact mem2 | exact mem3 | exact mem4 | exact mem5 | exact mem6 | exact mem7 | exact mem8 | exact mem9) rfl ?_
    refine op_idxA (nxlf rfl) ae56 rfl rfl (show _ = (((k : Nat)) : Int) from by omega) (by omega) rfl ?_
    refine op_store (nxl rfl) sz5 rfl rfl rfl rfl rfl B3 (by simp <;> omega) sel1 (fun N3 B3 => ?_)
    rw [set8A] at B3
    refine At.opsNil ?_
    refine At.inNorm ?_
    refine At.norm (hk_8 ?_)
    refine At.region ?_
    refine op_move (nxlf rfl) rfl rfl ?_
    refine op_addI (nxlf rfl) rfl rfl (by omega) (by omega) rfl ?_
    refine op_assign (nxlf rfl) rfl rfl ?_
    refine At.opsNil ?_
    refine At.norm ?_
    refine At.perm sel3 ?_
    refine At.perm sel3 ?_
    refine At.perm sel2 ?_
    refine At.perm sel3 ?_
    refine At.back ?_ (.refl _) ⟨k + 1, N3, rfl, rfl, rfl, by omega, by rw [bytesSt_succ (by omega), ← getD_bytesN (by omega)]; exact B3⟩ ?_
    · exact .cons (by first | exact lkI rfl (by omega) | rfl) (.cons (by first | exact lkI rfl (by omega) | rfl) (.cons (by first | exact lkI rfl (by omega) | rfl) (.cons (by first | exact lkI rfl (by omega) | rfl) .nil)))
    · omega
  · refine At.exit (At.thenExit (At.thenExit (At.inHit ?_)))
    refine At.norm (hk_4 ?_)
    refine At.seq fun K9 hk_9 => ?_
    refine At.region ?_
    have hk32 : k = 32 := by omega
    rw [hk32, bytesSt_all] at B3
    refine op_loadAggB (ds := u8s (bytesN 32 x)) (nxlf rfl) ag56 rfl B3 (by first | (rw [List.drop_zero, List.take_of_length_le (by first | (simp; done) | (simp; omega))]; done) | rfl) (by first | (simp; done) | (simp; omega)) mem1 rfl ?_
    refine op_store (nxl rfl) sz56 rfl rfl rfl rfl rfl B2 (by simp) sel0 (fun N2 B2 => ?_)
    rw [setL_whole (by simp)] at B2
    refine At.opsNil ?_
    refine At.norm (hk_9 ?_)
    refine At.ret (?_)
    refine At.sub (L' := [N2, R]) (.cons_cons _ (.cons _ (.cons _ (.cons_cons _ (.slnil))))) ?_
    refine At.ret1 (L1 := []) rfl (.cell rfl (res_agg (ds := u8s (bytesN 32 x)) ag56 B2 (by first | (rw [List.drop_zero, List.take_of_length_le (by first | (simp; done) | (simp; omega))]; done) | rfl) (by first | (simp; done) | (simp; omega)) mem0) .nil) (.cons _ (.refl _)) (.refl _) ?_
    exact ⟨rfl, rfl⟩
end Go.Proofs.Ytefljbbpaideaaa
