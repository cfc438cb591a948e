/- The reference's words: quotients, with signs and without. No condition. -/
import Derived.Test.YtefljbbpaideaaaKWr1
namespace Go.Proofs.Ytefljbbpaideaaa
set_option linter.unusedVariables false
set_option linter.unusedSimpArgs false
open Go Go.RowKit
theorem zero_t : Fn Try.prog 103 #[wo 0] [] [] (fun v L => v = .bool true ∧ L = []) := zero_f WW_pos
theorem zero_n {y : Nat} (hy : y < WW) (h : 0 < y) : Fn Try.prog 103 #[wo y] [] [] (fun v L => v = .bool false ∧ L = []) := by
  have := zero_f hy
  rw [decide_eq_false (by omega)] at this
  exact this
set_option maxRecDepth 100000 in
theorem rDiv_0 {x : Nat} : Fn Try.prog 19 #[wo x, wo 0] [] [] (fun v L => v = wo 0 ∧ L = []) := by
  refine Fn.enter (vs := [wo x, wo 0]) Try.func19 rfl rfl rfl ?_
  intro E R hR
  change At _ _ E [R] _
  refine At.seq fun K1 hk_1 => ?_
  refine At.region ?_
  refine op_box (nxla rfl) rfl rfl rfl (fun N2 b2 B2 => ?_)
  refine op_box (nxla rfl) rfl rfl rfl (fun N3 b3 B3 => ?_)
  change Blk N3 b3 _ (u64s (wl 0)) at B3
  refine op_alloc (nxla rfl) ze24 rfl (fun N4 b4 B4 => ?_)
  change Blk N4 b4 _ [.int .u64 0, .int .u64 0, .int .u64 0, .int .u64 0] at B4
  refine At.opsNil ?_
  refine At.norm (hk_1 ?_)
  refine At.seq fun K2 hk_2 => ?_
  refine At.seq fun K3 hk_3 => ?_
  refine At.region ?_
  refine op_loadAggB (ds := u64s (wl 0)) (nxlf rfl) ag24 rfl B3 (by first | (rw [List.drop_zero, List.take_of_length_le (by first | (simp; done) | (simp; omega))]; done) | rfl) (by first | (simp; done) | (simp; omega)) mem1 rfl ?_
  refine op_callA (nxla rfl) (.cons rfl .nil) (zero_t) Try.func103 rfl rfl (by simp) rfl ?_
  rintro v8 L8 ⟨rfl, rfl⟩
  change At _ _ _ [N4, N3, N2, R] _
  refine At.opsNil ?_
  refine At.norm (hk_3 ?_)
  refine At.condT rfl ?_
  refine At.seq fun K4 hk_4 => ?_
  refine At.region ?_
  refine op_loadAggB (ds := u64s (wl 0)) (nxlf rfl) ag24 rfl B3 (by first | (rw [List.drop_zero, List.take_of_length_le (by first | (simp; done) | (simp; omega))]; done) | rfl) (by first | (simp; done) | (simp; omega)) mem1 rfl ?_
  refine op_store (nxl rfl) sz24 rfl rfl rfl rfl rfl B4 (by simp) sel0 (fun N4 B4 => ?_)
  rw [setL_whole (by simp)] at B4
  refine At.opsNil ?_
  refine At.norm (hk_4 ?_)
  refine At.ret (At.thenRet (?_))
  refine At.sub (L' := [N4, R]) (.cons_cons _ (.cons _ (.cons _ (.cons_cons _ (.slnil))))) ?_
  refine At.ret1 (L1 := []) rfl (.cell rfl (res_agg (ds := u64s (wl 0)) ag24 B4 (by first | (rw [List.drop_zero, List.take_of_length_le (by first | (simp; done) | (simp; omega))]; done) | rfl) (by first | (simp; done) | (simp; omega)) mem0) .nil) (.cons _ (.refl _)) (.refl _) ?_
  exact ⟨rfl, rfl⟩
set_option maxRecDepth 100000 in
theorem rDiv_p {x y : Nat} (hx : x < WW) (hy : y < WW) (hp : 0 < y) : Fn Try.prog 19 #[wo x, wo y] [] [] (fun v L => v = wo (x / y) ∧ L = []) := by
  have hdx := dig_w hx
  have hdy := dig_w hy
  refine Fn.enter (vs := [wo x, wo y]) Try.func19 rfl rfl rfl ?_
  intro E R hR
  change At _ _ E [R] _
  refine At.seq fun K1 hk_1 => ?_
  refine At.region ?_
  refine op_box (nxla rfl) rfl rfl rfl (fun N2 b2 B2 => ?_)
  change Blk N2 b2 _ (u64s (wl x)) at B2
  refine op_box (nxla rfl) rfl rfl rfl (fun N3 b3 B3 => ?_)
  change Blk N3 b3 _ (u64s (wl y)) at B3
  refine op_alloc (nxla rfl) ze24 rfl (fun N4 b4 B4 => ?_)
  change Blk N4 b4 _ [.int .u64 0, .int .u64 0, .int .u64 0, .int .u64 0] at B4
  refine At.opsNil ?_
  refine At.norm (hk_1 ?_)
  refine At.seq fun K2 hk_2 => ?_
  refine At.seq fun K3 hk_3 => ?_
  refine At.region ?_
  refine op_loadAggB (ds := u64s (wl y)) (nxlf rfl) ag24 rfl B3 (by first | (rw [List.drop_zero, List.take_of_length_le (by first | (simp; done) | (simp; omega))]; done) | rfl) (by first | (simp; done) | (simp; omega)) mem1 rfl ?_
  refine op_callA (nxla rfl) (.cons rfl .nil) (zero_n hy hp) Try.func103 rfl rfl (by simp) rfl ?_
  rintro v8 L8 ⟨rfl, rfl⟩
  change At _ _ _ [N4, N3, N2, R] _
  refine At.opsNil ?_
  refine At.norm (hk_3 ?_)
  refine At.condF rfl ?_
  refine At.skip ?_
  refine At.norm (hk_2 ?_)
  refine At.seq fun K4 hk_4 => ?_
  refine At.perm sel3 ?_
  refine At.perm sel2 ?_
  refine At.perm sel3 ?_
  refine At.perm sel3 ?_
  refine At.drawnS [N2, N3, R] [3,4] [] [0,2,1,3,4,5,6,7,8,9] (by kernel_rfl) (by kernel_rfl) (.cons _ (.refl _)) ?_
  refine op_loadAggB (ds := u64s (wl x)) (nxsf rfl rfl rfl) ag24 rfl B2 (by first | (rw [List.drop_zero, List.take_of_length_le (by first | (simp; done) | (simp; omega))]; done) | rfl) (by first | (simp; done) | (simp; omega)) mem0 rfl ?_
  refine op_loadAggB (ds := u64s (wl y)) (nxsf rfl rfl rfl) ag24 rfl B3 (by first | (rw [List.drop_zero, List.take_of_length_le (by first | (simp; done) | (simp; omega))]; done) | rfl) (by first | (simp; done) | (simp; omega)) mem1 rfl ?_
  refine op_callA (Nx.agree (nxsm rfl rfl rfl)) (.cons rfl .nil) (rN_w hx) Try.func104 rfl rfl (by simp) rfl ?_
  rintro v12 L12 ⟨M12, p12, c12, rfl, rfl, s12⟩
  change At _ _ _ [M12, N4, N2, N3, R] _
  refine At.perm sel4 ?_
  refine At.perm sel4 ?_
  refine At.perm sel4 ?_
  refine At.perm sel3 ?_
  refine At.perm sel4 ?_
  refine At.moreS (Lst := [N2, N3, R]) (Lst' := [M12, N2, N3, R]) (.cons _ (.refl _)) (.cons _ (.refl _)) ?_
  refine op_callA (Nx.agree (nxss rfl rfl rfl rfl)) (.cons rfl .nil) (rN_w hy) Try.func104 rfl rfl (by simp) rfl ?_
  rintro v14 L14 ⟨M14, p14, c14, rfl, rfl, s14⟩
  change At _ _ _ [M14, N4, M12, N2, N3, R] _
  refine At.anyS (.refl _) ?_
  refine op_callA (Nx.agree (nxss rfl rfl rfl rfl)) (.cons rfl (.cons rfl .nil)) (rDivMod_f s12 s14 (by omega) (by omega) hp) Try.func41 rfl rfl (by simp) rfl ?_
  rintro v15 L15 ⟨Mq, pq, cq, Mr, pr, cr, rfl, rfl, sq, sr⟩
  change At _ _ _ [Mq, Mr, M14, N4, M12, N2, N3, R] _
  refine At.anyS (.refl _) ?_
  refine op_move (nxsf rfl rfl rfl) rfl rfl ?_
  refine op_extract (nxsf rfl rfl rfl) rfl rfl rfl ?_
  refine op_extract (nxsf rfl rfl rfl) rfl rfl rfl ?_
  refine op_assign (nxsf rfl rfl rfl) rfl rfl ?_
  refine op_assign (nxsf rfl rfl rfl) rfl rfl ?_
  refine At.sNil ?_
  refine At.norm (hk_4 ?_)
  refine At.seq fun K5 hk_5 => ?_
  refine At.region ?_
  refine op_move (nxlf rfl) rfl rfl ?_
  refine op_callA (nxla rfl) (.cons rfl .nil) (rW_w sq) Try.func105 rfl rfl (by simp) rfl ?_
  rintro v19 L19 ⟨rfl, rfl⟩
  change At _ _ _ [Mq, Mr, M14, N4, M12, N2, N3, R] _
  refine op_store (nxl rfl) sz24 rfl rfl rfl rfl rfl B4 (by simp) sel3 (fun N4 B4 => ?_)
  rw [setL_whole (by simp)] at B4
  refine At.opsNil ?_
  refine At.norm (hk_5 ?_)
  refine At.ret (?_)
  refine At.sub (L' := [N4, R]) (.cons_cons _ (.cons _ (.cons _ (.cons _ (.cons _ (.cons _ (.cons _ (.cons_cons _ (.slnil))))))))) ?_
  refine At.ret1 (L1 := []) rfl (.cell rfl (res_agg (ds := u64s (wl (x / y))) ag24 B4 (by first | (rw [List.drop_zero, List.take_of_length_le (by first | (simp; done) | (simp; omega))]; done) | rfl) (by first | (simp; done) | (simp; omega)) mem0) .nil) (.cons _ (.refl _)) (.refl _) ?_
  exact ⟨rfl, rfl⟩
theorem rDiv_w {x y : Nat} (hx : x < WW) (hy : y < WW) : Fn Try.prog 19 #[wo x, wo y] [] [] (fun v L => v = wo (x / y) ∧ L = []) := by
  rcases Nat.eq_zero_or_pos y with h | h
  · subst h
    rw [Nat.div_zero]
    exact rDiv_0
  · exact rDiv_p hx hy h
set_option maxRecDepth 100000 in
theorem rMod_0 {x : Nat} : Fn Try.prog 21 #[wo x, wo 0] [] [] (fun v L => v = wo 0 ∧ L = []) := by
  refine Fn.enter (vs := [wo x, wo 0]) Try.func21 rfl rfl rfl ?_
  intro E R hR
  change At _ _ E [R] _
  refine At.seq fun K1 hk_1 => ?_
  refine At.region ?_
  refine op_box (nxla rfl) rfl rfl rfl (fun N2 b2 B2 => ?_)
  refine op_box (nxla rfl) rfl rfl rfl (fun N3 b3 B3 => ?_)
  change Blk N3 b3 _ (u64s (wl 0)) at B3
  refine op_alloc (nxla rfl) ze24 rfl (fun N4 b4 B4 => ?_)
  change Blk N4 b4 _ [.int .u64 0, .int .u64 0, .int .u64 0, .int .u64 0] at B4
  refine At.opsNil ?_
  refine At.norm (hk_1 ?_)
  refine At.seq fun K2 hk_2 => ?_
  refine At.seq fun K3 hk_3 => ?_
  refine At.region ?_
  refine op_loadAggB (ds := u64s (wl 0)) (nxlf rfl) ag24 rfl B3 (by first | (rw [List.drop_zero, List.take_of_length_le (by first | (simp; done) | (simp; omega))]; done) | rfl) (by first | (simp; done) | (simp; omega)) mem1 rfl ?_
  refine op_callA (nxla rfl) (.cons rfl .nil) (zero_t) Try.func103 rfl rfl (by simp) rfl ?_
  rintro v6 L6 ⟨rfl, rfl⟩
  change At _ _ _ [N4, N3, N2, R] _
  refine At.opsNil ?_
  refine At.norm (hk_3 ?_)
  refine At.condT rfl ?_
  refine At.seq fun K4 hk_4 => ?_
  refine At.region ?_
  refine op_loadAggB (ds := u64s (wl 0)) (nxlf rfl) ag24 rfl B3 (by first | (rw [List.drop_zero, List.take_of_length_le (by first | (simp; done) | (simp; omega))]; done) | rfl) (by first | (simp; done) | (simp; omega)) mem1 rfl ?_
  refine op_store (nxl rfl) sz24 rfl rfl rfl rfl rfl B4 (by simp) sel0 (fun N4 B4 => ?_)
  rw [setL_whole (by simp)] at B4
  refine At.opsNil ?_
  refine At.norm (hk_4 ?_)
  refine At.ret (At.thenRet (?_))
  refine At.sub (L' := [N4, R]) (.cons_cons _ (.cons _ (.cons _ (.cons_cons _ (.slnil))))) ?_
  refine At.ret1 (L1 := []) rfl (.cell rfl (res_agg (ds := u64s (wl 0)) ag24 B4 (by first | (rw [List.drop_zero, List.take_of_length_le (by first | (simp; done) | (simp; omega))]; done) | rfl) (by first | (simp; done) | (simp; omega)) mem0) .nil) (.cons _ (.refl _)) (.refl _) ?_
  exact ⟨rfl, rfl⟩
set_option maxRecDepth 100000 in
theorem rMod_p {x y : Nat} (hx : x < WW) (hy : y < WW) (hp : 0 < y) : Fn Try.prog 21 #[wo x, wo y] [] [] (fun v L => v = wo (x % y) ∧ L = []) := by
  have hdx := dig_w hx
  have hdy := dig_w hy
  refine Fn.enter (vs := [wo x, wo y]) Try.func21 rfl rfl rfl ?_
  intro E R hR
  change At _ _ E [R] _
  refine At.seq fun K1 hk_1 => ?_
  refine At.region ?_
  refine op_box (nxla rfl) rfl rfl rfl (fun N2 b2 B2 => ?_)
  change Blk N2 b2 _ (u64s (wl x)) at B2
  refine op_box (nxla rfl) rfl rfl rfl (fun N3 b3 B3 => ?_)
  change Blk N3 b3 _ (u64s (wl y)) at B3
  refine op_alloc (nxla rfl) ze24 rfl (fun N4 b4 B4 => ?_)
  change Blk N4 b4 _ [.int .u64 0, .int .u64 0, .int .u64 0, .int .u64 0] at B4
  refine At.opsNil ?_
  refine At.norm (hk_1 ?_)
  refine At.seq fun K2 hk_2 => ?_
  refine At.seq fun K3 hk_3 => ?_
  refine At.region ?_
  refine op_loadAggB (ds := u64s (wl y)) (nxlf rfl) ag24 rfl B3 (by first | (rw [List.drop_zero, List.take_of_length_le (by first | (simp; done) | (simp; omega))]; done) | rfl) (by first | (simp; done) | (simp; omega)) mem1 rfl ?_
  refine op_callA (nxla rfl) (.cons rfl .nil) (zero_n hy hp) Try.func103 rfl rfl (by simp) rfl ?_
  rintro v6 L6 ⟨rfl, rfl⟩
  change At _ _ _ [N4, N3, N2, R] _
  refine At.opsNil ?_
  refine At.norm (hk_3 ?_)
  refine At.condF rfl ?_
  refine At.skip ?_
  refine At.norm (hk_2 ?_)
  refine At.seq fun K4 hk_4 => ?_
  refine At.perm sel3 ?_
  refine At.perm sel2 ?_
  refine At.perm sel3 ?_
  refine At.perm sel3 ?_
  refine At.drawnS [N2, N3, R] [3,4,5,6] [] [0,2,1,3,4,5,6] (by kernel_rfl) (by kernel_rfl) (.cons _ (.refl _)) ?_
  refine op_loadAggB (ds := u64s (wl x)) (nxsf rfl rfl rfl) ag24 rfl B2 (by first | (rw [List.drop_zero, List.take_of_length_le (by first | (simp; done) | (simp; omega))]; done) | rfl) (by first | (simp; done) | (simp; omega)) mem0 rfl ?_
  refine op_loadAggB (ds := u64s (wl y)) (nxsf rfl rfl rfl) ag24 rfl B3 (by first | (rw [List.drop_zero, List.take_of_length_le (by first | (simp; done) | (simp; omega))]; done) | rfl) (by first | (simp; done) | (simp; omega)) mem1 rfl ?_
  refine op_callA (Nx.agree (nxsm rfl rfl rfl)) (.cons rfl .nil) (rN_w hx) Try.func104 rfl rfl (by simp) rfl ?_
  rintro v9 L9 ⟨M9, p9, c9, rfl, rfl, s9⟩
  change At _ _ _ [M9, N4, N2, N3, R] _
  refine At.perm sel4 ?_
  refine At.perm sel4 ?_
  refine At.perm sel4 ?_
  refine At.perm sel3 ?_
  refine At.perm sel4 ?_
  refine At.moreS (Lst := [N2, N3, R]) (Lst' := [M9, N2, N3, R]) (.cons _ (.refl _)) (.cons _ (.refl _)) ?_
  refine op_callA (Nx.agree (nxss rfl rfl rfl rfl)) (.cons rfl .nil) (rN_w hy) Try.func104 rfl rfl (by simp) rfl ?_
  rintro v11 L11 ⟨M11, p11, c11, rfl, rfl, s11⟩
  change At _ _ _ [M11, N4, M9, N2, N3, R] _
  refine At.anyS (.refl _) ?_
  refine op_callA (Nx.agree (nxss rfl rfl rfl rfl)) (.cons rfl (.cons rfl .nil)) (rMod_f s9 s11 (by omega) (by omega) hp) Try.func106 rfl rfl (by simp) rfl ?_
  rintro v12 L12 ⟨M12, p12, c12, rfl, rfl, h12⟩
  change At _ _ _ [M12, M11, N4, M9, N2, N3, R] _
  refine At.anyS (.refl _) ?_
  refine op_callA (Nx.agree (nxss rfl rfl rfl rfl)) (.cons rfl .nil) (or_W h12) Try.func105 rfl rfl (by simp) rfl ?_
  rintro v13 L13 ⟨rfl, rfl⟩
  change At _ _ _ [M12, M11, N4, M9, N2, N3, R] _
  refine At.anyS (.refl _) ?_
  refine op_store (nxsl rfl rfl rfl rfl) sz24 rfl rfl rfl rfl rfl B4 (by simp) sel2 (fun N4 B4 => ?_)
  rw [setL_whole (by simp)] at B4
  refine At.sNil ?_
  refine At.norm (hk_4 ?_)
  refine At.ret (?_)
  refine At.sub (L' := [N4, R]) (.cons_cons _ (.cons _ (.cons _ (.cons _ (.cons _ (.cons _ (.cons_cons _ (.slnil)))))))) ?_
  refine At.ret1 (L1 := []) rfl (.cell rfl (res_agg (ds := u64s (wl (x % y))) ag24 B4 (by first | (rw [List.drop_zero, List.take_of_length_le (by first | (simp; done) | (simp; omega))]; done) | rfl) (by first | (simp; done) | (simp; omega)) mem0) .nil) (.cons _ (.refl _)) (.refl _) ?_
  exact ⟨rfl, rfl⟩
theorem rMod_w {x y : Nat} (hx : x < WW) (hy : y < WW) : Fn Try.prog 21 #[wo x, wo y] [] [] (fun v L => v = wo (modZ x y) ∧ L = []) := by
  rcases Nat.eq_zero_or_pos y with h | h
  · subst h
    rw [modZ, if_pos rfl]
    exact rMod_0
  · rw [modZ, if_neg (by omega)]
    exact rMod_p hx hy h
set_option maxRecDepth 100000 in
theorem rSdiv_0 {x : Nat} : Fn Try.prog 23 #[wo x, wo 0] [] [] (fun v L => v = wo 0 ∧ L = []) := by
  refine Fn.enter (vs := [wo x, wo 0]) Try.func23 rfl rfl rfl ?_
  intro E R hR
  change At _ _ E [R] _
  refine At.seq fun K1 hk_1 => ?_
  refine At.region ?_
  refine op_box (nxla rfl) rfl rfl rfl (fun N2 b2 B2 => ?_)
  refine op_box (nxla rfl) rfl rfl rfl (fun N3 b3 B3 => ?_)
  change Blk N3 b3 _ (u64s (wl 0)) at B3
  refine op_alloc (nxla rfl) ze24 rfl (fun N4 b4 B4 => ?_)
  change Blk N4 b4 _ [.int .u64 0, .int .u64 0, .int .u64 0, .int .u64 0] at B4
  refine At.opsNil ?_
  refine At.norm (hk_1 ?_)
  refine At.seq fun K2 hk_2 => ?_
  refine At.seq fun K3 hk_3 => ?_
  refine At.region ?_
  refine op_loadAggB (ds := u64s (wl 0)) (nxlf rfl) ag24 rfl B3 (by first | (rw [List.drop_zero, List.take_of_length_le (by first | (simp; done) | (simp; omega))]; done) | rfl) (by first | (simp; done) | (simp; omega)) mem1 rfl ?_
  refine op_callA (nxla rfl) (.cons rfl .nil) (zero_t) Try.func103 rfl rfl (by simp) rfl ?_
  rintro v8 L8 ⟨rfl, rfl⟩
  change At _ _ _ [N4, N3, N2, R] _
  refine At.opsNil ?_
  refine At.norm (hk_3 ?_)
  refine At.condT rfl ?_
  refine At.seq fun K4 hk_4 => ?_
  refine At.region ?_
  refine op_loadAggB (ds := u64s (wl 0)) (nxlf rfl) ag24 rfl B3 (by first | (rw [List.drop_zero, List.take_of_length_le (by first | (simp; done) | (simp; omega))]; done) | rfl) (by first | (simp; done) | (simp; omega)) mem1 rfl ?_
  refine op_store (nxl rfl) sz24 rfl rfl rfl rfl rfl B4 (by simp) sel0 (fun N4 B4 => ?_)
  rw [setL_whole (by simp)] at B4
  refine At.opsNil ?_
  refine At.norm (hk_4 ?_)
  refine At.ret (At.thenRet (?_))
  refine At.sub (L' := [N4, R]) (.cons_cons _ (.cons _ (.cons _ (.cons_cons _ (.slnil))))) ?_
  refine At.ret1 (L1 := []) rfl (.cell rfl (res_agg (ds := u64s (wl 0)) ag24 B4 (by first | (rw [List.drop_zero, List.take_of_length_le (by first | (simp; done) | (simp; omega))]; done) | rfl) (by first | (simp; done) | (simp; omega)) mem0) .nil) (.cons _ (.refl _)) (.refl _) ?_
  exact ⟨rfl, rfl⟩
set_option maxRecDepth 100000 in
theorem rSdiv_t {x y : Nat} (hx : x < WW) (hy : y < WW) (hp : 0 < y) (h : (negB x != negB y) = true) : Fn Try.prog 23 #[wo x, wo y] [] [] (fun v L => v = wo (WW - absW x / absW y) ∧ L = []) := by
  have hdx := dig_w (absW_lt hx)
  have hdy := dig_w (absW_lt hy)
  have hpy : 0 < absW y := Nat.pos_of_ne_zero fun e => by have := (absW_zero hy).1 e; omega
  have hq : absW x / absW y < WW := div_lt (absW_lt hx)
  refine Fn.enter (vs := [wo x, wo y]) Try.func23 rfl rfl rfl ?_
  intro E R hR
  change At _ _ E [R] _
  refine At.seq fun K1 hk_1 => ?_
  refine At.region ?_
  refine op_box (nxla rfl) rfl rfl rfl (fun N2 b2 B2 => ?_)
  change Blk N2 b2 _ (u64s (wl x)) at B2
  refine op_box (nxla rfl) rfl rfl rfl (fun N3 b3 B3 => ?_)
  change Blk N3 b3 _ (u64s (wl y)) at B3
  refine op_alloc (nxla rfl) ze24 rfl (fun N4 b4 B4 => ?_)
  change Blk N4 b4 _ [.int .u64 0, .int .u64 0, .int .u64 0, .int .u64 0] at B4
  refine At.opsNil ?_
  refine At.norm (hk_1 ?_)
  refine At.seq fun K2 hk_2 => ?_
  refine At.seq fun K3 hk_3 => ?_
  refine At.region ?_
  refine op_loadAggB (ds := u64s (wl y)) (nxlf rfl) ag24 rfl B3 (by first | (rw [List.drop_zero, List.take_of_length_le (by first | (simp; done) | (simp; omega))]; done) | rfl) (by first | (simp; done) | (simp; omega)) mem1 rfl ?_
  refine op_callA (nxla rfl) (.cons rfl .nil) (zero_n hy hp) Try.func103 rfl rfl (by simp) rfl ?_
  rintro v8 L8 ⟨rfl, rfl⟩
  change At _ _ _ [N4, N3, N2, R] _
  refine At.opsNil ?_
  refine At.norm (hk_3 ?_)
  refine At.condF rfl ?_
  refine At.skip ?_
  refine At.norm (hk_2 ?_)
  refine At.seq fun K4 hk_4 => ?_
  refine At.perm sel3 ?_
  refine At.perm sel2 ?_
  refine At.perm sel3 ?_
  refine At.perm sel3 ?_
  refine At.drawnS [N2, N3, R] [3,4] [] [0,2,1,3,4,5,6,7,8,9] (by kernel_rfl) (by kernel_rfl) (.cons _ (.refl _)) ?_
  refine op_loadAggB (ds := u64s (wl x)) (nxsf rfl rfl rfl) ag24 rfl B2 (by first | (rw [List.drop_zero, List.take_of_length_le (by first | (simp; done) | (simp; omega))]; done) | rfl) (by first | (simp; done) | (simp; omega)) mem0 rfl ?_
  refine op_loadAggB (ds := u64s (wl y)) (nxsf rfl rfl rfl) ag24 rfl B3 (by first | (rw [List.drop_zero, List.take_of_length_le (by first | (simp; done) | (simp; omega))]; done) | rfl) (by first | (simp; done) | (simp; omega)) mem1 rfl ?_
  refine op_callA (Nx.agree (nxsm rfl rfl rfl)) (.cons rfl .nil) (abs_f hx) Try.func110 rfl rfl (by simp) rfl ?_
  rintro v12 L12 ⟨M12, p12, c12, rfl, rfl, s12⟩
  change At _ _ _ [M12, N4, N2, N3, R] _
  refine At.perm sel4 ?_
  refine At.perm sel4 ?_
  refine At.perm sel4 ?_
  refine At.perm sel3 ?_
  refine At.perm sel4 ?_
  refine At.moreS (Lst := [N2, N3, R]) (Lst' := [M12, N2, N3, R]) (.cons _ (.refl _)) (.cons _ (.refl _)) ?_
  refine op_callA (Nx.agree (nxss rfl rfl rfl rfl)) (.cons rfl .nil) (abs_f hy) Try.func110 rfl rfl (by simp) rfl ?_
  rintro v14 L14 ⟨M14, p14, c14, rfl, rfl, s14⟩
  change At _ _ _ [M14, N4, M12, N2, N3, R] _
  refine At.anyS (.refl _) ?_
  refine op_callA (Nx.agree (nxss rfl rfl rfl rfl)) (.cons rfl (.cons rfl .nil)) (rDivMod_f s12 s14 (by omega) (by omega) hpy) Try.func41 rfl rfl (by simp) rfl ?_
  rintro v15 L15 ⟨Mq, pq, cq, Mr, pr, cr, rfl, rfl, sq, sr⟩
  change At _ _ _ [Mq, Mr, M14, N4, M12, N2, N3, R] _
  refine At.anyS (.refl _) ?_
  refine op_move (nxsf rfl rfl rfl) rfl rfl ?_
  refine op_extract (nxsf rfl rfl rfl) rfl rfl rfl ?_
  refine op_extract (nxsf rfl rfl rfl) rfl rfl rfl ?_
  refine op_assign (nxsf rfl rfl rfl) rfl rfl ?_
  refine op_assign (nxsf rfl rfl rfl) rfl rfl ?_
  refine At.sNil ?_
  refine At.norm (hk_4 ?_)
  refine At.seq fun K5 hk_5 => ?_
  refine At.seq fun K6 hk_6 => ?_
  refine At.perm sel7 ?_
  refine At.perm sel1 ?_
  refine At.perm sel7 ?_
  refine At.perm sel7 ?_
  refine At.perm sel7 ?_
  refine At.perm sel7 ?_
  refine At.perm sel7 ?_
  refine At.perm sel7 ?_
  refine At.drawnS [N2, N3, Mq, R] [3] [] [0,2,1,3,4] (by kernel_rfl) (by kernel_rfl) (.cons _ (.cons _ (.cons _ (.cons _ (.refl _))))) ?_
  refine op_loadAggB (ds := u64s (wl x)) (nxsf rfl rfl rfl) ag24 rfl B2 (by first | (rw [List.drop_zero, List.take_of_length_le (by first | (simp; done) | (simp; omega))]; done) | rfl) (by first | (simp; done) | (simp; omega)) mem0 rfl ?_
  refine op_loadAggB (ds := u64s (wl y)) (nxsf rfl rfl rfl) ag24 rfl B3 (by first | (rw [List.drop_zero, List.take_of_length_le (by first | (simp; done) | (simp; omega))]; done) | rfl) (by first | (simp; done) | (simp; omega)) mem1 rfl ?_
  refine op_callA (Nx.agree (nxsm rfl rfl rfl)) (.cons rfl .nil) (Minus_f hx) Try.func111 rfl rfl (by simp) rfl ?_
  rintro v19 L19 ⟨rfl, rfl⟩
  change At _ _ _ [Mr, M14, N4, M12, N2, N3, Mq, R] _
  refine At.moreS (Lst := [N2, N3, Mq, R]) (Lst' := [N2, N3, Mq, R]) (.refl _) (.cons _ (.cons _ (.cons _ (.cons _ (.refl _))))) ?_
  refine op_callA (Nx.agree (nxss rfl rfl rfl rfl)) (.cons rfl .nil) (Minus_f hy) Try.func111 rfl rfl (by simp) rfl ?_
  rintro v21 L21 ⟨rfl, rfl⟩
  change At _ _ _ [Mr, M14, N4, M12, N2, N3, Mq, R] _
  refine At.anyS (.refl _) ?_
  refine op_neB (nxsf rfl rfl rfl) Try.underlying4 rfl rfl rfl ?_
  refine At.sNil ?_
  refine At.norm (hk_6 ?_)
  refine At.condB rfl (fun c22 => ?_) (fun c22 => ?_)
  · refine At.seq fun K7 hk_7 => ?_
    refine At.region ?_
    refine op_move (nxlf rfl) rfl rfl ?_
    refine op_callA (nxla rfl) (.cons rfl .nil) (rneg_f sq hq) Try.func112 rfl rfl (by simp) rfl ?_
    rintro v24 L24 ⟨rfl, rfl⟩
    change At _ _ _ [Mr, M14, N4, M12, N2, N3, Mq, R] _
    refine op_store (nxl rfl) sz24 rfl rfl rfl rfl rfl B4 (by simp) sel2 (fun N4 B4 => ?_)
    rw [setL_whole (by simp)] at B4
    refine At.opsNil ?_
    refine At.norm (hk_7 ?_)
    refine At.ret (At.thenRet (?_))
    refine At.sub (L' := [N4, R]) (.cons_cons _ (.cons _ (.cons _ (.cons _ (.cons _ (.cons _ (.cons _ (.cons_cons _ (.slnil))))))))) ?_
    refine At.ret1 (L1 := []) rfl (.cell rfl (res_agg (ds := u64s (wl (WW - absW x / absW y))) ag24 B4 (by first | (rw [List.drop_zero, List.take_of_length_le (by first | (simp; done) | (simp; omega))]; done) | rfl) (by first | (simp; done) | (simp; omega)) mem0) .nil) (.cons _ (.refl _)) (.refl _) ?_
    exact ⟨rfl, rfl⟩
  · exact absurd (c22.symm.trans h) Bool.false_ne_true
set_option maxRecDepth 100000 in
theorem rSdiv_n {x y : Nat} (hx : x < WW) (hy : y < WW) (hp : 0 < y) (h : (negB x != negB y) = false) : Fn Try.prog 23 #[wo x, wo y] [] [] (fun v L => v = wo (absW x / absW y) ∧ L = []) := by
  have hdx := dig_w (absW_lt hx)
  have hdy := dig_w (absW_lt hy)
  have hpy : 0 < absW y := Nat.pos_of_ne_zero fun e => by have := (absW_zero hy).1 e; omega
  refine Fn.enter (vs := [wo x, wo y]) Try.func23 rfl rfl rfl ?_
  intro E R hR
  change At _ _ E [R] _
  refine At.seq fun K1 hk_1 => ?_
  refine At.region ?_
  refine op_box (nxla rfl) rfl rfl rfl (fun N2 b2 B2 => ?_)
  change Blk N2 b2 _ (u64s (wl x)) at B2
  refine op_box (nxla rfl) rfl rfl rfl (fun N3 b3 B3 => ?_)
  change Blk N3 b3 _ (u64s (wl y)) at B3
  refine op_alloc (nxla rfl) ze24 rfl (fun N4 b4 B4 => ?_)
  change Blk N4 b4 _ [.int .u64 0, .int .u64 0, .int .u64 0, .int .u64 0] at B4
  refine At.opsNil ?_
  refine At.norm (hk_1 ?_)
  refine At.seq fun K2 hk_2 => ?_
  refine At.seq fun K3 hk_3 => ?_
  refine At.region ?_
  refine op_loadAggB (ds := u64s (wl y)) (nxlf rfl) ag24 rfl B3 (by first | (rw [List.drop_zero, List.take_of_length_le (by first | (simp; done) | (simp; omega))]; done) | rfl) (by first | (simp; done) | (simp; omega)) mem1 rfl ?_
  refine op_callA (nxla rfl) (.cons rfl .nil) (zero_n hy hp) Try.func103 rfl rfl (by simp) rfl ?_
  rintro v8 L8 ⟨rfl, rfl⟩
  change At _ _ _ [N4, N3, N2, R] _
  refine At.opsNil ?_
  refine At.norm (hk_3 ?_)
  refine At.condF rfl ?_
  refine At.skip ?_
  refine At.norm (hk_2 ?_)
  refine At.seq fun K4 hk_4 => ?_
  refine At.perm sel3 ?_
  refine At.perm sel2 ?_
  refine At.perm sel3 ?_
  refine At.perm sel3 ?_
  refine At.drawnS [N2, N3, R] [3,4] [] [0,2,1,3,4,5,6,7,8,9] (by kernel_rfl) (by kernel_rfl) (.cons _ (.refl _)) ?_
  refine op_loadAggB (ds := u64s (wl x)) (nxsf rfl rfl rfl) ag24 rfl B2 (by first | (rw [List.drop_zero, List.take_of_length_le (by first | (simp; done) | (simp; omega))]; done) | rfl) (by first | (simp; done) | (simp; omega)) mem0 rfl ?_
  refine op_loadAggB (ds := u64s (wl y)) (nxsf rfl rfl rfl) ag24 rfl B3 (by first | (rw [List.drop_zero, List.take_of_length_le (by first | (simp; done) | (simp; omega))]; done) | rfl) (by first | (simp; done) | (simp; omega)) mem1 rfl ?_
  refine op_callA (Nx.agree (nxsm rfl rfl rfl)) (.cons rfl .nil) (abs_f hx) Try.func110 rfl rfl (by simp) rfl ?_
  rintro v12 L12 ⟨M12, p12, c12, rfl, rfl, s12⟩
  change At _ _ _ [M12, N4, N2, N3, R] _
  refine At.perm sel4 ?_
  refine At.perm sel4 ?_
  refine At.perm sel4 ?_
  refine At.perm sel3 ?_
  refine At.perm sel4 ?_
  refine At.moreS (Lst := [N2, N3, R]) (Lst' := [M12, N2, N3, R]) (.cons _ (.refl _)) (.cons _ (.refl _)) ?_
  refine op_callA (Nx.agree (nxss rfl rfl rfl rfl)) (.cons rfl .nil) (abs_f hy) Try.func110 rfl rfl (by simp) rfl ?_
  rintro v14 L14 ⟨M14, p14, c14, rfl, rfl, s14⟩
  change At _ _ _ [M14, N4, M12, N2, N3, R] _
  refine At.anyS (.refl _) ?_
  refine op_callA (Nx.agree (nxss rfl rfl rfl rfl)) (.cons rfl (.cons rfl .nil)) (rDivMod_f s12 s14 (by omega) (by omega) hpy) Try.func41 rfl rfl (by simp) rfl ?_
  rintro v15 L15 ⟨Mq, pq, cq, Mr, pr, cr, rfl, rfl, sq, sr⟩
  change At _ _ _ [Mq, Mr, M14, N4, M12, N2, N3, R] _
  refine At.anyS (.refl _) ?_
  refine op_move (nxsf rfl rfl rfl) rfl rfl ?_
  refine op_extract (nxsf rfl rfl rfl) rfl rfl rfl ?_
  refine op_extract (nxsf rfl rfl rfl) rfl rfl rfl ?_
  refine op_assign (nxsf rfl rfl rfl) rfl rfl ?_
  refine op_assign (nxsf rfl rfl rfl) rfl rfl ?_
  refine At.sNil ?_
  refine At.norm (hk_4 ?_)
  refine At.seq fun K5 hk_5 => ?_
  refine At.seq fun K6 hk_6 => ?_
  refine At.perm sel7 ?_
  refine At.perm sel1 ?_
  refine At.perm sel7 ?_
  refine At.perm sel7 ?_
  refine At.perm sel7 ?_
  refine At.perm sel7 ?_
  refine At.perm sel7 ?_
  refine At.perm sel7 ?_
  refine At.drawnS [N2, N3, Mq, R] [3] [] [0,2,1,3,4] (by kernel_rfl) (by kernel_rfl) (.cons _ (.cons _ (.cons _ (.cons _ (.refl _))))) ?_
  refine op_loadAggB (ds := u64s (wl x)) (nxsf rfl rfl rfl) ag24 rfl B2 (by first | (rw [List.drop_zero, List.take_of_length_le (by first | (simp; done) | (simp; omega))]; done) | rfl) (by first | (simp; done) | (simp; omega)) mem0 rfl ?_
  refine op_loadAggB (ds := u64s (wl y)) (nxsf rfl rfl rfl) ag24 rfl B3 (by first | (rw [List.drop_zero, List.take_of_length_le (by first | (simp; done) | (simp; omega))]; done) | rfl) (by first | (simp; done) | (simp; omega)) mem1 rfl ?_
  refine op_callA (Nx.agree (nxsm rfl rfl rfl)) (.cons rfl .nil) (Minus_f hx) Try.func111 rfl rfl (by simp) rfl ?_
  rintro v19 L19 ⟨rfl, rfl⟩
  change At _ _ _ [Mr, M14, N4, M12, N2, N3, Mq, R] _
  refine At.moreS (Lst := [N2, N3, Mq, R]) (Lst' := [N2, N3, Mq, R]) (.refl _) (.cons _ (.cons _ (.cons _ (.cons _ (.refl _))))) ?_
  refine op_callA (Nx.agree (nxss rfl rfl rfl rfl)) (.cons rfl .nil) (Minus_f hy) Try.func111 rfl rfl (by simp) rfl ?_
  rintro v21 L21 ⟨rfl, rfl⟩
  change At _ _ _ [Mr, M14, N4, M12, N2, N3, Mq, R] _
  refine At.anyS (.refl _) ?_
  refine op_neB (nxsf rfl rfl rfl) Try.underlying4 rfl rfl rfl ?_
  refine At.sNil ?_
  refine At.norm (hk_6 ?_)
  refine At.condB rfl (fun c22 => ?_) (fun c22 => ?_)
  · exact absurd c22 (by rw [h]; exact Bool.false_ne_true)
  · refine At.skip ?_
    refine At.norm (hk_5 ?_)
    refine At.seq fun K7 hk_7 => ?_
    refine At.region ?_
    refine op_move (nxlf rfl) rfl rfl ?_
    refine op_callA (nxla rfl) (.cons rfl .nil) (rW_w sq) Try.func105 rfl rfl (by simp) rfl ?_
    rintro v26 L26 ⟨rfl, rfl⟩
    change At _ _ _ [Mr, M14, N4, M12, N2, N3, Mq, R] _
    refine op_store (nxl rfl) sz24 rfl rfl rfl rfl rfl B4 (by simp) sel2 (fun N4 B4 => ?_)
    rw [setL_whole (by simp)] at B4
    refine At.opsNil ?_
    refine At.norm (hk_7 ?_)
    refine At.ret (?_)
    refine At.sub (L' := [N4, R]) (.cons_cons _ (.cons _ (.cons _ (.cons _ (.cons _ (.cons _ (.cons _ (.cons_cons _ (.slnil))))))))) ?_
    refine At.ret1 (L1 := []) rfl (.cell rfl (res_agg (ds := u64s (wl (absW x / absW y))) ag24 B4 (by first | (rw [List.drop_zero, List.take_of_length_le (by first | (simp; done) | (simp; omega))]; done) | rfl) (by first | (simp; done) | (simp; omega)) mem0) .nil) (.cons _ (.refl _)) (.refl _) ?_
    exact ⟨rfl, rfl⟩
theorem absW_0 : absW 0 = 0 := (absW_zero WW_pos).2 rfl
theorem wo_WW : wo WW = wo 0 := wo_congr (by rw [Nat.mod_self, Nat.zero_mod])
theorem sgn_0 (m : Bool) : wo (sgn m 0) = wo 0 := by
  cases m
  · rfl
  · rw [sgn, if_pos rfl, Nat.sub_zero, wo_WW]
theorem rSdiv_w {x y : Nat} (hx : x < WW) (hy : y < WW) : Fn Try.prog 23 #[wo x, wo y] [] [] (fun v L => v = wo (sgn (negB x != negB y) (absW x / absW y)) ∧ L = []) := by
  rcases Nat.eq_zero_or_pos y with h | h
  · subst h
    rw [absW_0, Nat.div_zero, sgn_0]
    exact rSdiv_0
  · cases hm : (negB x != negB y) with
    | true => exact rSdiv_t hx hy h hm
    | false => exact rSdiv_n hx hy h hm
set_option maxRecDepth 100000 in
theorem rSmod_0 {x : Nat} : Fn Try.prog 25 #[wo x, wo 0] [] [] (fun v L => v = wo 0 ∧ L = []) := by
  refine Fn.enter (vs := [wo x, wo 0]) Try.func25 rfl rfl rfl ?_
  intro E R hR
  change At _ _ E [R] _
  refine At.seq fun K1 hk_1 => ?_
  refine At.region ?_
  refine op_box (nxla rfl) rfl rfl rfl (fun N2 b2 B2 => ?_)
  refine op_box (nxla rfl) rfl rfl rfl (fun N3 b3 B3 => ?_)
  change Blk N3 b3 _ (u64s (wl 0)) at B3
  refine op_alloc (nxla rfl) ze24 rfl (fun N4 b4 B4 => ?_)
  change Blk N4 b4 _ [.int .u64 0, .int .u64 0, .int .u64 0, .int .u64 0] at B4
  refine At.opsNil ?_
  refine At.norm (hk_1 ?_)
  refine At.seq fun K2 hk_2 => ?_
  refine At.seq fun K3 hk_3 => ?_
  refine At.region ?_
  refine op_loadAggB (ds := u64s (wl 0)) (nxlf rfl) ag24 rfl B3 (by first | (rw [List.drop_zero, List.take_of_length_le (by first | (simp; done) | (simp; omega))]; done) | rfl) (by first | (simp; done) | (simp; omega)) mem1 rfl ?_
  refine op_callA (nxla rfl) (.cons rfl .nil) (zero_t) Try.func103 rfl rfl (by simp) rfl ?_
  rintro v7 L7 ⟨rfl, rfl⟩
  change At _ _ _ [N4, N3, N2, R] _
  refine At.opsNil ?_
  refine At.norm (hk_3 ?_)
  refine At.condT rfl ?_
  refine At.seq fun K4 hk_4 => ?_
  refine At.region ?_
  refine op_loadAggB (ds := u64s (wl 0)) (nxlf rfl) ag24 rfl B3 (by first | (rw [List.drop_zero, List.take_of_length_le (by first | (simp; done) | (simp; omega))]; done) | rfl) (by first | (simp; done) | (simp; omega)) mem1 rfl ?_
  refine op_store (nxl rfl) sz24 rfl rfl rfl rfl rfl B4 (by simp) sel0 (fun N4 B4 => ?_)
  rw [setL_whole (by simp)] at B4
  refine At.opsNil ?_
  refine At.norm (hk_4 ?_)
  refine At.ret (At.thenRet (?_))
  refine At.sub (L' := [N4, R]) (.cons_cons _ (.cons _ (.cons _ (.cons_cons _ (.slnil))))) ?_
  refine At.ret1 (L1 := []) rfl (.cell rfl (res_agg (ds := u64s (wl 0)) ag24 B4 (by first | (rw [List.drop_zero, List.take_of_length_le (by first | (simp; done) | (simp; omega))]; done) | rfl) (by first | (simp; done) | (simp; omega)) mem0) .nil) (.cons _ (.refl _)) (.refl _) ?_
  exact ⟨rfl, rfl⟩
theorem or_rneg {Q N : Heaplet} {p : Option Addr} {n c X : Nat} (h : RSl Q 1 p n c (u32s (digsOf X)) ∨ RSl N 1 p n c (u32s (digsOf X))) (hX : X < WW) : Fn Try.prog 112 #[.slice p n c] [] [Q, N] (fun v L => v = wo (WW - X) ∧ L = []) := by
  rcases h with h | h
  · exact (rneg_f h hX).more (by simp)
  · exact (rneg_f h hX).more (by simp)
set_option maxRecDepth 100000 in
theorem rSmod_t {x y : Nat} (hx : x < WW) (hy : y < WW) (hp : 0 < y) (h : negB x = true) : Fn Try.prog 25 #[wo x, wo y] [] [] (fun v L => v = wo (WW - absW x % absW y) ∧ L = []) := by
  have hdx := dig_w (absW_lt hx)
  have hdy := dig_w (absW_lt hy)
  have hpy : 0 < absW y := Nat.pos_of_ne_zero fun e => by have := (absW_zero hy).1 e; omega
  have hq : absW x % absW y < WW := Nat.lt_of_le_of_lt (Nat.mod_le _ _) (absW_lt hx)
  refine Fn.enter (vs := [wo x, wo y]) Try.func25 rfl rfl rfl ?_
  intro E R hR
  change At _ _ E [R] _
  refine At.seq fun K1 hk_1 => ?_
  refine At.region ?_
  refine op_box (nxla rfl) rfl rfl rfl (fun N2 b2 B2 => ?_)
  change Blk N2 b2 _ (u64s (wl x)) at B2
  refine op_box (nxla rfl) rfl rfl rfl (fun N3 b3 B3 => ?_)
  change Blk N3 b3 _ (u64s (wl y)) at B3
  refine op_alloc (nxla rfl) ze24 rfl (fun N4 b4 B4 => ?_)
  change Blk N4 b4 _ [.int .u64 0, .int .u64 0, .int .u64 0, .int .u64 0] at B4
  refine At.opsNil ?_
  refine At.norm (hk_1 ?_)
  refine At.seq fun K2 hk_2 => ?_
  refine At.seq fun K3 hk_3 => ?_
  refine At.region ?_
  refine op_loadAggB (ds := u64s (wl y)) (nxlf rfl) ag24 rfl B3 (by first | (rw [List.drop_zero, List.take_of_length_le (by first | (simp; done) | (simp; omega))]; done) | rfl) (by first | (simp; done) | (simp; omega)) mem1 rfl ?_
  refine op_callA (nxla rfl) (.cons rfl .nil) (zero_n hy hp) Try.func103 rfl rfl (by simp) rfl ?_
  rintro v7 L7 ⟨rfl, rfl⟩
  change At _ _ _ [N4, N3, N2, R] _
  refine At.opsNil ?_
  refine At.norm (hk_3 ?_)
  refine At.condF rfl ?_
  refine At.skip ?_
  refine At.norm (hk_2 ?_)
  refine At.seq fun K4 hk_4 => ?_
  refine At.perm sel3 ?_
  refine At.perm sel2 ?_
  refine At.perm sel3 ?_
  refine At.perm sel3 ?_
  refine At.drawnS [N2, N3, R] [3,4] [] [0,2,1,3,4,5] (by kernel_rfl) (by kernel_rfl) (.cons _ (.refl _)) ?_
  refine op_loadAggB (ds := u64s (wl x)) (nxsf rfl rfl rfl) ag24 rfl B2 (by first | (rw [List.drop_zero, List.take_of_length_le (by first | (simp; done) | (simp; omega))]; done) | rfl) (by first | (simp; done) | (simp; omega)) mem0 rfl ?_
  refine op_loadAggB (ds := u64s (wl y)) (nxsf rfl rfl rfl) ag24 rfl B3 (by first | (rw [List.drop_zero, List.take_of_length_le (by first | (simp; done) | (simp; omega))]; done) | rfl) (by first | (simp; done) | (simp; omega)) mem1 rfl ?_
  refine op_callA (Nx.agree (nxsm rfl rfl rfl)) (.cons rfl .nil) (abs_f hx) Try.func110 rfl rfl (by simp) rfl ?_
  rintro v10 L10 ⟨M10, p10, c10, rfl, rfl, s10⟩
  change At _ _ _ [M10, N4, N2, N3, R] _
  refine At.perm sel4 ?_
  refine At.perm sel4 ?_
  refine At.perm sel4 ?_
  refine At.perm sel3 ?_
  refine At.perm sel4 ?_
  refine At.moreS (Lst := [N2, N3, R]) (Lst' := [M10, N2, N3, R]) (.cons _ (.refl _)) (.cons _ (.refl _)) ?_
  refine op_callA (Nx.agree (nxss rfl rfl rfl rfl)) (.cons rfl .nil) (abs_f hy) Try.func110 rfl rfl (by simp) rfl ?_
  rintro v12 L12 ⟨M12, p12, c12, rfl, rfl, s12⟩
  change At _ _ _ [M12, N4, M10, N2, N3, R] _
  refine At.anyS (.refl _) ?_
  refine op_callA (Nx.agree (nxss rfl rfl rfl rfl)) (.cons rfl (.cons rfl .nil)) (rMod_f s10 s12 (by omega) (by omega) hpy) Try.func106 rfl rfl (by simp) rfl ?_
  rintro v13 L13 ⟨M13, p13, c13, rfl, rfl, h13⟩
  change At _ _ _ [M13, M12, N4, M10, N2, N3, R] _
  refine At.anyS (.refl _) ?_
  refine op_assign (nxsf rfl rfl rfl) rfl rfl ?_
  refine At.sNil ?_
  refine At.norm (hk_4 ?_)
  refine At.seq fun K5 hk_5 => ?_
  refine At.seq fun K6 hk_6 => ?_
  refine At.region ?_
  refine op_loadAggB (ds := u64s (wl x)) (nxlf rfl) ag24 rfl B2 (by first | (rw [List.drop_zero, List.take_of_length_le (by first | (simp; done) | (simp; omega))]; done) | rfl) (by first | (simp; done) | (simp; omega)) mem4 rfl ?_
  refine op_callA (nxla rfl) (.cons rfl .nil) (Minus_f hx) Try.func111 rfl rfl (by simp) rfl ?_
  rintro v15 L15 ⟨rfl, rfl⟩
  change At _ _ _ [M13, M12, N4, M10, N2, N3, R] _
  rw [h]
  refine At.opsNil ?_
  refine At.norm (hk_6 ?_)
  refine At.condT rfl ?_
  refine At.seq fun K7 hk_7 => ?_
  refine At.region ?_
  refine op_move (nxlf rfl) rfl rfl ?_
  refine op_callA (nxla rfl) (.cons rfl .nil) (or_rneg h13 hq) Try.func112 rfl rfl (by simp) rfl ?_
  rintro v17 L17 ⟨rfl, rfl⟩
  change At _ _ _ [M13, M12, N4, M10, N2, N3, R] _
  refine op_store (nxl rfl) sz24 rfl rfl rfl rfl rfl B4 (by simp) sel2 (fun N4 B4 => ?_)
  rw [setL_whole (by simp)] at B4
  refine At.opsNil ?_
  refine At.norm (hk_7 ?_)
  refine At.ret (At.thenRet (?_))
  refine At.sub (L' := [N4, R]) (.cons_cons _ (.cons _ (.cons _ (.cons _ (.cons _ (.cons _ (.cons_cons _ (.slnil)))))))) ?_
  refine At.ret1 (L1 := []) rfl (.cell rfl (res_agg (ds := u64s (wl (WW - absW x % absW y))) ag24 B4 (by first | (rw [List.drop_zero, List.take_of_length_le (by first | (simp; done) | (simp; omega))]; done) | rfl) (by first | (simp; done) | (simp; omega)) mem0) .nil) (.cons _ (.refl _)) (.refl _) ?_
  exact ⟨rfl, rfl⟩
set_option maxRecDepth 100000 in
theorem rSmod_n {x y : Nat} (hx : x < WW) (hy : y < WW) (hp : 0 < y) (h : negB x = false) : Fn Try.prog 25 #[wo x, wo y] [] [] (fun v L => v = wo (absW x % absW y) ∧ L = []) := by
  have hdx := dig_w (absW_lt hx)
  have hdy := dig_w (absW_lt hy)
  have hpy : 0 < absW y := Nat.pos_of_ne_zero fun e => by have := (absW_zero hy).1 e; omega
  refine Fn.enter (vs := [wo x, wo y]) Try.func25 rfl rfl rfl ?_
  intro E R hR
  change At _ _ E [R] _
  refine At.seq fun K1 hk_1 => ?_
  refine At.region ?_
  refine op_box (nxla rfl) rfl rfl rfl (fun N2 b2 B2 => ?_)
  change Blk N2 b2 _ (u64s (wl x)) at B2
  refine op_box (nxla rfl) rfl rfl rfl (fun N3 b3 B3 => ?_)
  change Blk N3 b3 _ (u64s (wl y)) at B3
  refine op_alloc (nxla rfl) ze24 rfl (fun N4 b4 B4 => ?_)
  change Blk N4 b4 _ [.int .u64 0, .int .u64 0, .int .u64 0, .int .u64 0] at B4
  refine At.opsNil ?_
  refine At.norm (hk_1 ?_)
  refine At.seq fun K2 hk_2 => ?_
  refine At.seq fun K3 hk_3 => ?_
  refine At.region ?_
  refine op_loadAggB (ds := u64s (wl y)) (nxlf rfl) ag24 rfl B3 (by first | (rw [List.drop_zero, List.take_of_length_le (by first | (simp; done) | (simp; omega))]; done) | rfl) (by first | (simp; done) | (simp; omega)) mem1 rfl ?_
  refine op_callA (nxla rfl) (.cons rfl .nil) (zero_n hy hp) Try.func103 rfl rfl (by simp) rfl ?_
  rintro v7 L7 ⟨rfl, rfl⟩
  change At _ _ _ [N4, N3, N2, R] _
  refine At.opsNil ?_
  refine At.norm (hk_3 ?_)
  refine At.condF rfl ?_
  refine At.skip ?_
  refine At.norm (hk_2 ?_)
  refine At.seq fun K4 hk_4 => ?_
  refine At.perm sel3 ?_
  refine At.perm sel2 ?_
  refine At.perm sel3 ?_
  refine At.perm sel3 ?_
  refine At.drawnS [N2, N3, R] [3,4] [] [0,2,1,3,4,5] (by kernel_rfl) (by kernel_rfl) (.cons _ (.refl _)) ?_
  refine op_loadAggB (ds := u64s (wl x)) (nxsf rfl rfl rfl) ag24 rfl B2 (by first | (rw [List.drop_zero, List.take_of_length_le (by first | (simp; done) | (simp; omega))]; done) | rfl) (by first | (simp; done) | (simp; omega)) mem0 rfl ?_
  refine op_loadAggB (ds := u64s (wl y)) (nxsf rfl rfl rfl) ag24 rfl B3 (by first | (rw [List.drop_zero, List.take_of_length_le (by first | (simp; done) | (simp; omega))]; done) | rfl) (by first | (simp; done) | (simp; omega)) mem1 rfl ?_
  refine op_callA (Nx.agree (nxsm rfl rfl rfl)) (.cons rfl .nil) (abs_f hx) Try.func110 rfl rfl (by simp) rfl ?_
  rintro v10 L10 ⟨M10, p10, c10, rfl, rfl, s10⟩
  change At _ _ _ [M10, N4, N2, N3, R] _
  refine At.perm sel4 ?_
  refine At.perm sel4 ?_
  refine At.perm sel4 ?_
  refine At.perm sel3 ?_
  refine At.perm sel4 ?_
  refine At.moreS (Lst := [N2, N3, R]) (Lst' := [M10, N2, N3, R]) (.cons _ (.refl _)) (.cons _ (.refl _)) ?_
  refine op_callA (Nx.agree (nxss rfl rfl rfl rfl)) (.cons rfl .nil) (abs_f hy) Try.func110 rfl rfl (by simp) rfl ?_
  rintro v12 L12 ⟨M12, p12, c12, rfl, rfl, s12⟩
  change At _ _ _ [M12, N4, M10, N2, N3, R] _
  refine At.anyS (.refl _) ?_
  refine op_callA (Nx.agree (nxss rfl rfl rfl rfl)) (.cons rfl (.cons rfl .nil)) (rMod_f s10 s12 (by omega) (by omega) hpy) Try.func106 rfl rfl (by simp) rfl ?_
  rintro v13 L13 ⟨M13, p13, c13, rfl, rfl, h13⟩
  change At _ _ _ [M13, M12, N4, M10, N2, N3, R] _
  refine At.anyS (.refl _) ?_
  refine op_assign (nxsf rfl rfl rfl) rfl rfl ?_
  refine At.sNil ?_
  refine At.norm (hk_4 ?_)
  refine At.seq fun K5 hk_5 => ?_
  refine At.seq fun K6 hk_6 => ?_
  refine At.region ?_
  refine op_loadAggB (ds := u64s (wl x)) (nxlf rfl) ag24 rfl B2 (by first | (rw [List.drop_zero, List.take_of_length_le (by first | (simp; done) | (simp; omega))]; done) | rfl) (by first | (simp; done) | (simp; omega)) mem4 rfl ?_
  refine op_callA (nxla rfl) (.cons rfl .nil) (Minus_f hx) Try.func111 rfl rfl (by simp) rfl ?_
  rintro v15 L15 ⟨rfl, rfl⟩
  change At _ _ _ [M13, M12, N4, M10, N2, N3, R] _
  rw [h]
  refine At.opsNil ?_
  refine At.norm (hk_6 ?_)
  refine At.condF rfl ?_
  refine At.skip ?_
  refine At.norm (hk_5 ?_)
  refine At.seq fun K7 hk_7 => ?_
  refine At.region ?_
  refine op_move (nxlf rfl) rfl rfl ?_
  refine op_callA (nxla rfl) (.cons rfl .nil) (or_W h13) Try.func105 rfl rfl (by simp) rfl ?_
  rintro v19 L19 ⟨rfl, rfl⟩
  change At _ _ _ [M13, M12, N4, M10, N2, N3, R] _
  refine op_store (nxl rfl) sz24 rfl rfl rfl rfl rfl B4 (by simp) sel2 (fun N4 B4 => ?_)
  rw [setL_whole (by simp)] at B4
  refine At.opsNil ?_
  refine At.norm (hk_7 ?_)
  refine At.ret (?_)
  refine At.sub (L' := [N4, R]) (.cons_cons _ (.cons _ (.cons _ (.cons _ (.cons _ (.cons _ (.cons_cons _ (.slnil)))))))) ?_
  refine At.ret1 (L1 := []) rfl (.cell rfl (res_agg (ds := u64s (wl (absW x % absW y))) ag24 B4 (by first | (rw [List.drop_zero, List.take_of_length_le (by first | (simp; done) | (simp; omega))]; done) | rfl) (by first | (simp; done) | (simp; omega)) mem0) .nil) (.cons _ (.refl _)) (.refl _) ?_
  exact ⟨rfl, rfl⟩
theorem rSmod_w {x y : Nat} (hx : x < WW) (hy : y < WW) : Fn Try.prog 25 #[wo x, wo y] [] [] (fun v L => v = wo (sgn (negB x) (modZ (absW x) (absW y))) ∧ L = []) := by
  rcases Nat.eq_zero_or_pos y with h | h
  · subst h
    rw [absW_0, modZ, if_pos rfl, sgn_0]
    exact rSmod_0
  · have hpy : absW y ≠ 0 := fun e => by have := (absW_zero hy).1 e; omega
    rw [modZ, if_neg hpy]
    cases hm : negB x with
    | true => exact rSmod_t hx hy h hm
    | false => exact rSmod_n hx hy h hm
end Go.Proofs.Ytefljbbpaideaaa
