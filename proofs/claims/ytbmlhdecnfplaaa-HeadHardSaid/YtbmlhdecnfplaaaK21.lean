/- Several texts in one: see the remarks ahead of each part. No condition but those told there. -/
import Derived.Test.YtbmlhdecnfplaaaK20
import Derived.Test.YtbmlhdecnfplaaaK7
import Derived.WalkKit
import Derived.ProofKit
import Derived.OpenShut
import Derived.Below
import Derived.ChangeSame
import Derived.WideKeyArgs
import Derived.Deep.Slices
/- The reference of package head: the price of blob gas, the base fee. No condition. -/
namespace Go.Proofs.Ytbmlhdecnfplaaa
set_option linter.unusedVariables false
set_option linter.unusedSimpArgs false
open Go Go.RowKit
theorem u64_mulr {a b : Nat} (x y : UInt64) (hx : x.toNat = a) (hy : y.toNat = b) (h : a * b < 18446744073709551616) : (x * y).toNat = a * b := by
  rw [UInt64.toNat_mul, hx, hy, Nat.mod_eq_of_lt h]
set_option maxRecDepth 100000 in
theorem rNot_h {x : Nat} (hx : x < WW) : Fn Try.prog 54 #[wo x] [] [] (fun v L => v = wo (WW - 1 - x) ∧ L = []) := by
  have hdx := dword_len hx
  have hp := WW_pos
  have h1 : (digsOf (WW - 1)).length ≤ 8 := dword_len (by omega)
  have ht : (digsOf WW).length ≤ 9 := by
    have := digs_add2 h1 (B := 1) (Nat.le_trans (digs_le (V := 1) (k := 1) (by decide)) (by decide))
    rwa [show WW - 1 + 1 = WW by omega] at this
  have hle : x ≤ WW - 1 := by omega
  have hm := digs_mono hle
  have hv1 : v32 [1] = 1 := rfl
  have hl1 : 1 ≤ (digsOf WW).length := by
    have := digs_mono (A := 1) (B := WW) (by omega)
    have e : (digsOf 1).length = 1 := by decide
    omega
  refine Fn.enter (vs := [wo x]) Try.func54 rfl rfl rfl ?_
  intro E R hR
  change At _ _ E [R] _
  refine At.seq fun K1 hk_1 => ?_
  refine At.region ?_
  refine op_box (nxla rfl) rfl rfl rfl (fun N1 b1 B1 => ?_)
  change Blk N1 b1 _ (u64s (wl x)) at B1
  refine op_alloc (nxla rfl) ze29 rfl (fun N2 b2 B2 => ?_)
  change Blk N2 b2 _ [.int .u64 0, .int .u64 0, .int .u64 0, .int .u64 0] at B2
  refine At.opsNil ?_
  refine At.norm (hk_1 ?_)
  refine At.seq fun K2 hk_2 => ?_
  refine At.planS [N1, R] (.take 3 (.fork 0 false (.fork 1 false (.fork 2 false (.fork 4 true (.fork 5 true (.fork 6 true (.fork 7 true .done .nofork) .nofork) .nofork) .nofork) .nofork) .nofork) (.fork 1 false (.fork 0 false (.fork 2 false (.fork 4 true (.fork 5 true (.fork 6 true (.fork 7 true .done .nofork) .nofork) .nofork) .nofork) .nofork) .nofork) .nofork))) (by kernel_rfl) (by kernel_rfl) (.cons _ (.refl _)) ?_
  refine op_loadAggB (ds := u64s (wl x)) (nxpf rfl rfl) ag29 rfl B1 (by first | (rw [List.drop_zero, List.take_of_length_le (by first | (simp; done) | (simp; omega))]; done) | rfl) (by first | (simp; done) | (simp; omega)) mem0 rfl ?_
  refine At.fork ?_ ?_
  rotate_left
  · refine At.fork ?_ ?_
    rotate_left
    · exact At.pNo
    refine op_lit (Nx.agree (nxpa rfl rfl)) Try.underlying43 ze80 sz80 (.cons rfl .nil) rfl rfl (by simp [Value.cells]) rfl rfl rfl (fun N4 a4 r4 => ?_)
    simp only [flatV, List.flatMap_cons, List.flatMap_nil, Value.cells, List.append_nil, List.cons_append, List.nil_append] at r4
    have s4 := r4.rsl
    refine At.andS (.cons _ (.cons _ (.refl _))) ?_
    change Row N4 _ 1 a4 1 1 (u32s [1]) at r4
    have s4 := r4.rsl
    refine At.fork ?_ ?_
    rotate_left
    · exact At.pNo
    refine op_callA (Nx.agree (nxpa rfl rfl)) .nil (top_f) Try.func66 rfl rfl (by simp) rfl ?_
    rintro v3 L3 ⟨M3, p3, c3, rfl, rfl, s3⟩
    change At _ _ _ [M3, N4, N2, N1, R] _
    refine At.andS (.cons _ (.cons _ (.cons _ (.refl _)))) ?_
    refine At.fork ?_ ?_
    rotate_left
    · exact At.pNo
    refine op_callA (Nx.agree (nxpa rfl rfl)) (.cons rfl (.cons rfl .nil)) (rSub_f s3 s4 (by omega) hl1 (by rw [v32_digsOf, hv1]; omega)) Try.func18 rfl rfl (by simp) rfl ?_
    rintro v5 L5 ⟨M5, p5, c5, rfl, rfl, s5⟩
    change At _ _ _ [M5, M3, N4, N2, N1, R] _
    rw [v32_digsOf, hv1] at s5 ⊢
    refine At.andS (.cons _ (.cons _ (.cons _ (.cons _ (.refl _))))) ?_
    refine At.fork ?_ ?_
    rotate_left
    · exact At.pNo
    refine op_callA (Nx.agree (nxpa rfl rfl)) (.cons rfl .nil) (rN_w hx) Try.func13 rfl rfl (by simp) rfl ?_
    rintro v7 L7 ⟨M7, p7, c7, rfl, rfl, s7⟩
    change At _ _ _ [M7, M5, M3, N4, N2, N1, R] _
    refine At.andS (.cons _ (.cons _ (.cons _ (.cons _ (.cons _ (.refl _)))))) ?_
    refine At.fork ?_ ?_
    rotate_left
    · exact At.pNo
    refine op_callA (Nx.agree (nxpa rfl rfl)) (.cons rfl (.cons rfl .nil)) (rSub_f s5 s7 (by omega) hm (by rw [v32_digsOf, v32_digsOf]; exact hle)) Try.func18 rfl rfl (by simp) rfl ?_
    rintro v8 L8 ⟨M8, p8, c8, rfl, rfl, s8⟩
    change At _ _ _ [M8, M7, M5, M3, N4, N2, N1, R] _
    rw [v32_digsOf, v32_digsOf] at s8 ⊢
    refine At.andS (.cons _ (.cons _ (.cons _ (.cons _ (.cons _ (.cons _ (.refl _))))))) ?_
    refine At.fork ?_ ?_
    rotate_left
    · exact At.pNo
    refine op_callA (Nx.agree (nxpa rfl rfl)) (.cons rfl .nil) (rW_w s8) Try.func40 rfl rfl (by simp) rfl ?_
    rintro v9 L9 ⟨rfl, rfl⟩
    change At _ _ _ [M8, M7, M5, M3, N4, N2, N1, R] _
    refine At.andS (.cons _ (.cons _ (.cons _ (.cons _ (.cons _ (.cons _ (.refl _))))))) ?_
    refine At.fork ?_ ?_
    rotate_left
    · exact At.pNo
    refine op_store (nxpl rfl rfl) sz29 rfl rfl rfl rfl rfl B2 (by simp) sel5 (fun N2 B2 => ?_)
    rw [setL_whole (by simp)] at B2
    refine At.pDone ?_
    refine At.norm (hk_2 ?_)
    refine At.ret (?_)
    refine At.sub (L' := [N2, R]) (.cons_cons _ (.cons _ (.cons _ (.cons _ (.cons _ (.cons _ (.cons _ (.cons_cons _ (.slnil))))))))) ?_
    refine At.ret1 (L1 := []) rfl (.cell rfl (res_agg (ds := u64s (wl (WW - 1 - x))) ag29 B2 (by first | (rw [List.drop_zero, List.take_of_length_le (by first | (simp; done) | (simp; omega))]; done) | rfl) (by first | (simp; done) | (simp; omega)) mem0) .nil) (.cons _ (.refl _)) (.refl _) ?_
    exact ⟨rfl, rfl⟩
  refine op_callA (Nx.agree (nxpa rfl rfl)) .nil (top_f) Try.func66 rfl rfl (by simp) rfl ?_
  rintro v3 L3 ⟨M3, p3, c3, rfl, rfl, s3⟩
  change At _ _ _ [M3, N2, N1, R] _
  refine At.andS (.cons _ (.cons _ (.refl _))) ?_
  refine At.fork ?_ ?_
  rotate_left
  · exact At.pNo
  refine op_lit (Nx.agree (nxpa rfl rfl)) Try.underlying43 ze80 sz80 (.cons rfl .nil) rfl rfl (by simp [Value.cells]) rfl rfl rfl (fun N4 a4 r4 => ?_)
  simp only [flatV, List.flatMap_cons, List.flatMap_nil, Value.cells, List.append_nil, List.cons_append, List.nil_append] at r4
  have s4 := r4.rsl
  refine At.andS (.cons _ (.cons _ (.cons _ (.refl _)))) ?_
  change Row N4 _ 1 a4 1 1 (u32s [1]) at r4
  have s4 := r4.rsl
  refine At.fork ?_ ?_
  rotate_left
  · exact At.pNo
  refine op_callA (Nx.agree (nxpa rfl rfl)) (.cons rfl (.cons rfl .nil)) (rSub_f s3 s4 (by omega) hl1 (by rw [v32_digsOf, hv1]; omega)) Try.func18 rfl rfl (by simp) rfl ?_
  rintro v5 L5 ⟨M5, p5, c5, rfl, rfl, s5⟩
  change At _ _ _ [M5, N4, M3, N2, N1, R] _
  rw [v32_digsOf, hv1] at s5 ⊢
  refine At.andS (.cons _ (.cons _ (.cons _ (.cons _ (.refl _))))) ?_
  refine At.fork ?_ ?_
  rotate_left
  · exact At.pNo
  refine op_callA (Nx.agree (nxpa rfl rfl)) (.cons rfl .nil) (rN_w hx) Try.func13 rfl rfl (by simp) rfl ?_
  rintro v7 L7 ⟨M7, p7, c7, rfl, rfl, s7⟩
  change At _ _ _ [M7, M5, N4, M3, N2, N1, R] _
  refine At.andS (.cons _ (.cons _ (.cons _ (.cons _ (.cons _ (.refl _)))))) ?_
  refine At.fork ?_ ?_
  rotate_left
  · exact At.pNo
  refine op_callA (Nx.agree (nxpa rfl rfl)) (.cons rfl (.cons rfl .nil)) (rSub_f s5 s7 (by omega) hm (by rw [v32_digsOf, v32_digsOf]; exact hle)) Try.func18 rfl rfl (by simp) rfl ?_
  rintro v8 L8 ⟨M8, p8, c8, rfl, rfl, s8⟩
  change At _ _ _ [M8, M7, M5, N4, M3, N2, N1, R] _
  rw [v32_digsOf, v32_digsOf] at s8 ⊢
  refine At.andS (.cons _ (.cons _ (.cons _ (.cons _ (.cons _ (.cons _ (.refl _))))))) ?_
  refine At.fork ?_ ?_
  rotate_left
  · exact At.pNo
  refine op_callA (Nx.agree (nxpa rfl rfl)) (.cons rfl .nil) (rW_w s8) Try.func40 rfl rfl (by simp) rfl ?_
  rintro v9 L9 ⟨rfl, rfl⟩
  change At _ _ _ [M8, M7, M5, N4, M3, N2, N1, R] _
  refine At.andS (.cons _ (.cons _ (.cons _ (.cons _ (.cons _ (.cons _ (.refl _))))))) ?_
  refine At.fork ?_ ?_
  rotate_left
  · exact At.pNo
  refine op_store (nxpl rfl rfl) sz29 rfl rfl rfl rfl rfl B2 (by simp) sel5 (fun N2 B2 => ?_)
  rw [setL_whole (by simp)] at B2
  refine At.pDone ?_
  refine At.norm (hk_2 ?_)
  refine At.ret (?_)
  refine At.sub (L' := [N2, R]) (.cons_cons _ (.cons _ (.cons _ (.cons _ (.cons _ (.cons _ (.cons _ (.cons_cons _ (.slnil))))))))) ?_
  refine At.ret1 (L1 := []) rfl (.cell rfl (res_agg (ds := u64s (wl (WW - 1 - x))) ag29 B2 (by first | (rw [List.drop_zero, List.take_of_length_le (by first | (simp; done) | (simp; omega))]; done) | rfl) (by first | (simp; done) | (simp; omega)) mem0) .nil) (.cons _ (.refl _)) (.refl _) ?_
  exact ⟨rfl, rfl⟩
theorem rWNot_0 : Fn Try.prog 54 #[.agg #[.int .u64 0, .int .u64 0, .int .u64 0, .int .u64 0]] [] [] (fun v L => v = wo (WW - 1) ∧ L = []) := by
  have := rNot_h (x := 0) WW_pos
  rw [wo_zero, Nat.sub_zero] at this
  exact this
set_option maxRecDepth 100000 in
set_option maxHeartbeats 2000000 in
theorem rBlobFee_f (x : UInt64) : Fn Try.prog 22 #[.int .u64 (x.toNat : Int)] [] [] (fun v L => v = wo (blobF x.toNat) ∧ L = []) := by
  have hWp := WW_pos
  have e43 : (3338477 : UInt64).toNat = 3338477 := rfl
  have l0 := du64_len x
  have l43 := du64_len 3338477
  refine Fn.enter (vs := [.int .u64 (x.toNat : Int)]) Try.func22 rfl rfl rfl ?_
  intro E R hR
  change At _ _ E [R] _
  refine At.seq fun K1 hk_1 => ?_
  refine At.region ?_
  refine op_alloc (nxla rfl) ze29 rfl (fun N2 b2 B2 => ?_)
  change Blk N2 b2 _ [.int .u64 0, .int .u64 0, .int .u64 0, .int .u64 0] at B2
  refine At.opsNil ?_
  refine At.norm (hk_1 ?_)
  refine At.seq fun K2 hk_2 => ?_
  refine At.region ?_
  refine op_buildA (out := [.int .u64 0, .int .u64 0, .int .u64 0, .int .u64 0]) (nxlf rfl) ze29 ae29 .nil rfl rfl ?_
  refine op_callA (nxla rfl) (.cons rfl .nil) (rWNot_0) Try.func54 rfl rfl (by simp) rfl ?_
  rintro v12 L12 ⟨rfl, rfl⟩
  change At _ _ _ [N2, R] _
  refine op_alloc (nxla rfl) ze29 rfl (fun N3 b3 B3 => ?_)
  change Blk N3 b3 _ [.int .u64 0, .int .u64 0, .int .u64 0, .int .u64 0] at B3
  refine op_store (nxl rfl) sz29 rfl rfl rfl rfl rfl B3 (by simp) sel0 (fun N3 B3 => ?_)
  rw [setL_whole (by simp)] at B3
  refine At.opsNil ?_
  refine At.norm (hk_2 ?_)
  refine At.seq fun K3 hk_3 => ?_
  refine At.seq fun K4 hk_4 => ?_
  refine At.region ?_
  refine op_move (nxlf rfl) rfl rfl ?_
  refine op_gtr (nxlf rfl) rfl rfl rfl ?_
  refine At.opsNil ?_
  refine At.norm (hk_4 ?_)
  refine At.condP rfl (fun c14 => ?_) (fun c14 => ?_)
  · have hF : WW - 1 = blobF x.toNat := by rw [blobF, if_pos (by omega)]
    refine At.seq fun K5 hk_5 => ?_
    refine At.region ?_
    refine op_loadAggB (ds := u64s (wl (WW - 1))) (nxlf rfl) ag29 rfl B3 (by first | (rw [List.drop_zero, List.take_of_length_le (by first | (simp; done) | (simp; omega))]; done) | rfl) (by first | (simp; done) | (simp; omega)) mem0 rfl ?_
    refine op_store (nxl rfl) sz29 rfl rfl rfl rfl rfl B2 (by simp) sel1 (fun N2 B2 => ?_)
    rw [setL_whole (by simp), hF] at B2
    refine At.opsNil ?_
    refine At.norm (hk_5 ?_)
    refine At.ret (At.thenRet (?_))
    refine At.sub (L' := [N2, R]) (.cons_cons _ (.cons _ (.cons_cons _ (.slnil)))) ?_
    refine At.ret1 (L1 := []) rfl (.cell rfl (res_agg (ds := u64s (wl (blobF x.toNat))) ag29 B2 (by first | (rw [List.drop_zero, List.take_of_length_le (by first | (simp; done) | (simp; omega))]; done) | rfl) (by first | (simp; done) | (simp; omega)) mem0) .nil) (.cons _ (.refl _)) (.refl _) ?_
    exact ⟨rfl, rfl⟩
  · have hx6 : x.toNat ≤ 600000000 := by omega
    have hbf : blobF x.toNat = capW (blobQ x.toNat) := by rw [blobF, if_neg (by omega)]
    refine At.skip ?_
    refine At.norm (hk_3 ?_)
    refine At.seq fun K6 hk_6 => ?_
    refine At.region ?_
    refine op_assign (nxlf rfl) rfl rfl ?_
    refine At.opsNil ?_
    refine At.norm (hk_6 ?_)
    refine At.seq fun K7 hk_7 => ?_
    refine At.region ?_
    refine op_callA (nxla rfl) (.cons rfl .nil) (Of32_f 3338477) Try.func16 rfl rfl (by simp) rfl ?_
    rintro v16 L16 ⟨N16, p16, c16, rfl, rfl, s16⟩
    change At _ _ _ [N16, N3, N2, R] _
    refine op_assign (nxlf rfl) rfl rfl ?_
    refine At.opsNil ?_
    refine At.norm (hk_7 ?_)
    refine At.seq fun K8 hk_8 => ?_
    refine At.seq fun K9 hk_9 => ?_
    refine At.region ?_
    refine op_assign (nxlf rfl) rfl rfl ?_
    refine At.opsNil ?_
    refine At.norm (hk_9 ?_)
    refine At.block ?_
    refine At.empty ?_
    refine At.perm sel4 ?_
    refine At.perm sel3 ?_
    refine At.perm sel4 ?_
    refine At.perm sel4 ?_
    refine At.perm sel4 ?_
    refine At.loop (fun fr_ hp_ ms_ => ∃ (k : Nat) (i : UInt64) (pa pb : Option Addr) (ca cb na : Nat) (Na Nb : Heaplet), fr_ = [(0, .int .u64 (x.toNat : Int)), (2, .pointer (some ⟨b2, 0, none⟩)), (3, .pointer (some ⟨b3, 0, none⟩)), (4, .slice pa na ca), (5, .slice pb (digsOf (bT x.toNat k)).length cb), (6, .int .u64 (i.toNat : Int))] ∧ hp_ = [Na, Nb, N2, N3, R] ∧ 701 - k = ms_ ∧ (k ≤ 700) ∧ (i.toNat = k + 1) ∧ (na = (digsOf (bS x.toNat k)).length) ∧ (RSl Na 1 pa na ca (u32s (digsOf (bS x.toNat k)))) ∧ (RSl Nb 1 pb (digsOf (bT x.toNat k)).length cb (u32s (digsOf (bT x.toNat k))))) ?_ (.refl _) ⟨0, 1, none, p16, 0, c16, 0, nilH, N16, rfl, rfl, rfl, by omega, rfl, (digs_nil.2 rfl).symm, by rw [show digsOf (bS x.toNat 0) = [] from List.eq_nil_of_length_eq_zero (digs_nil.2 rfl)]; exact RSl.nil _ _, s16⟩ ?_
    · exact .cons (by first | exact lkI rfl (by omega) | rfl) (.cons (by first | exact lkI rfl (by omega) | rfl) (.cons (by first | exact lkI rfl (by omega) | rfl) (.cons (by first | exact lkI rfl (by omega) | rfl) (.cons (by first | exact lkI rfl (by omega) | rfl) (.cons (by first | exact lkI rfl (by omega) | rfl) .nil)))))
    rintro _ _ _ ⟨k, i, pa, pb, ca, cb, na, Na, Nb, rfl, rfl, rfl, hkk, hi, hna, sa, sb⟩
    subst hna
    have hmul : (3338477 * i).toNat = 3338477 * (k + 1) := u64_mulr _ _ rfl hi (by omega)
    refine At.seq fun K10 hk_10 => ?_
    refine At.seq fun K11 hk_11 => ?_
    refine At.region ?_
    refine op_move (nxlf rfl) rfl rfl ?_
    refine op_lenS (nxlf rfl) se43 rfl rfl ?_
    refine op_gtr (nxlf rfl) rfl rfl rfl ?_
    refine At.opsNil ?_
    refine At.norm (hk_11 ?_)
    refine At.condP rfl (fun c19 => ?_) (fun c19 => ?_)
    · have hne : bT x.toNat k ≠ 0 := by
        intro h0
        rw [digs_nil.2 h0] at c19
        exact absurd c19 (by decide)
      have hk1 : k + 1 ≤ 700 := bT_on hx6 hkk hne
      have lS := dS_len hx6 hkk
      have lT := dT_len hx6 hkk
      have lTx := dTx_len hx6 hkk
      have lm := du64_len (3338477 * i)
      refine At.skip ?_
      refine At.norm (hk_10 ?_)
      refine At.seq fun K12 hk_12 => ?_
      refine At.block ?_
      refine At.seq fun K13 hk_13 => ?_
      refine At.region ?_
      refine op_move (nxlf rfl) rfl rfl ?_
      refine op_move (nxlf rfl) rfl rfl ?_
      refine op_callA (nxla rfl) (.cons rfl (.cons rfl .nil)) (dAdd_f sa sb (by omega) (by omega)) Try.func14 rfl rfl (by simp) rfl ?_
      rintro v24 L24 ⟨N24, p24, c24, rfl, rfl, s24⟩
      change At _ _ _ [N24, Na, Nb, N2, N3, R] _
      rw [← bS_s] at s24 ⊢
      refine op_assign (nxlf rfl) rfl rfl ?_
      refine At.opsNil ?_
      refine At.norm (hk_13 ?_)
      refine At.region ?_
      refine op_move (nxlf rfl) rfl rfl ?_
      refine op_move (nxlf rfl) rfl rfl ?_
      refine op_callA (nxla rfl) (.cons rfl .nil) (Of32_f x) Try.func16 rfl rfl (by simp) rfl ?_
      rintro v28 L28 ⟨N28, p28, c28, rfl, rfl, s28⟩
      change At _ _ _ [N28, N24, Na, Nb, N2, N3, R] _
      refine op_callA (nxla rfl) (.cons rfl (.cons rfl .nil)) (dMul_f sb s28 (by omega) (by omega)) Try.func36 rfl rfl (by simp) rfl ?_
      rintro v29 L29 ⟨N29, p29, c29, rfl, rfl, s29⟩
      change At _ _ _ [N29, N28, N24, Na, Nb, N2, N3, R] _
      refine op_move (nxlf rfl) rfl rfl ?_
      refine op_mulU (a := 3338477) (nxlf rfl) rfl rfl rfl ?_
      refine op_callA (nxla rfl) (.cons rfl .nil) (Of32_f (3338477 * i)) Try.func16 rfl rfl (by simp) rfl ?_
      rintro v32 L32 ⟨N32, p32, c32, rfl, rfl, s32⟩
      change At _ _ _ [N32, N29, N28, N24, Na, Nb, N2, N3, R] _
      refine op_callA (nxla rfl) (.cons rfl (.cons rfl .nil)) (rDivMod_f s29 s32 (by omega) (by omega) (by omega)) Try.func38 rfl rfl (by simp) rfl ?_
      rintro v33 L33 ⟨Mq, pq, cq, Mr, pr, cr, rfl, rfl, sq, sr⟩
      change At _ _ _ [Mq, Mr, N32, N29, N28, N24, Na, Nb, N2, N3, R] _
      rw [hmul, ← bT_s] at sq ⊢
      refine op_move (nxlf rfl) rfl rfl ?_
      refine op_extract (nxlf rfl) rfl rfl rfl ?_
      refine op_extract (nxlf rfl) rfl rfl rfl ?_
      refine op_assign (nxlf rfl) rfl rfl ?_
      refine At.opsNil ?_
      refine At.inNorm ?_
      refine At.norm (hk_12 ?_)
      refine At.region ?_
      refine op_move (nxlf rfl) rfl rfl ?_
      refine op_addU (b := 1) (nxlf rfl) rfl rfl rfl ?_
      refine op_assign (nxlf rfl) rfl rfl ?_
      refine At.opsNil ?_
      refine At.norm ?_
      refine At.sub (L' := [Mq, N24, N2, N3, R]) (.cons_cons _ (.cons _ (.cons _ (.cons _ (.cons _ (.cons_cons _ (.cons _ (.cons _ (.cons_cons _ (.cons_cons _ (.cons_cons _ (.slnil)))))))))))) ?_
      refine At.perm sel4 ?_
      refine At.perm sel4 ?_
      refine At.perm sel4 ?_
      refine At.perm sel3 ?_
      refine At.perm sel4 ?_
      refine At.back ?_ (.refl _) ⟨k + 1, i + 1, p24, pq, c24, cq, _, N24, Mq, rfl, rfl, rfl, hk1, by rw [UInt64.toNat_add, hi]; show (k + 1 + 1) % 18446744073709551616 = _; omega, rfl, s24, sq⟩ ?_
      · exact .cons (by first | exact lkI rfl (by omega) | rfl) (.cons (by first | exact lkI rfl (by omega) | rfl) (.cons (by first | exact lkI rfl (by omega) | rfl) (.cons (by first | exact lkI rfl (by omega) | rfl) (.cons (by first | exact lkI rfl (by omega) | rfl) (.cons (by first | exact lkI rfl (by omega) | rfl) .nil)))))
      · omega
    · have h0 : bT x.toNat k = 0 := digs_nil.1 (by omega)
      have lS := dS_len hx6 hkk
      have lQ := dQ_len hx6 h0 hkk
      refine At.exit (At.thenExit (At.thenExit (At.inHit ?_)))
      refine At.norm (hk_8 ?_)
      refine At.seq fun K14 hk_14 => ?_
      refine At.region ?_
      refine op_move (nxlf rfl) rfl rfl ?_
      refine op_callA (nxla rfl) (.cons rfl .nil) (Of32_f 3338477) Try.func16 rfl rfl (by simp) rfl ?_
      rintro v38 L38 ⟨N38, p38, c38, rfl, rfl, s38⟩
      change At _ _ _ [N38, Na, Nb, N2, N3, R] _
      refine op_callA (nxla rfl) (.cons rfl (.cons rfl .nil)) (rDivMod_f sa s38 (by omega) (by omega) (by decide)) Try.func38 rfl rfl (by simp) rfl ?_
      rintro v39 L39 ⟨Mq, pq, cq, Mr, pr, cr, rfl, rfl, sq, sr⟩
      change At _ _ _ [Mq, Mr, N38, Na, Nb, N2, N3, R] _
      rw [e43, blobQ_eq h0 hkk] at sq ⊢
      refine op_move (nxlf rfl) rfl rfl ?_
      refine op_extract (nxlf rfl) rfl rfl rfl ?_
      refine op_extract (nxlf rfl) rfl rfl rfl ?_
      refine op_assign (nxlf rfl) rfl rfl ?_
      refine op_assign (nxlf rfl) rfl rfl ?_
      refine At.opsNil ?_
      refine At.norm (hk_14 ?_)
      refine At.seq fun K15 hk_15 => ?_
      refine At.region ?_
      refine op_move (nxlf rfl) rfl rfl ?_
      refine op_callA (nxla rfl) (.cons rfl .nil) (rfits_f sq (by omega)) Try.func42 rfl rfl (by simp) rfl ?_
      rintro v44 L44 ⟨rfl, rfl⟩
      change At _ _ _ [Mq, Mr, N38, Na, Nb, N2, N3, R] _
      refine op_move (nxlf rfl) rfl rfl ?_
      refine op_extract (nxlf rfl) rfl rfl rfl ?_
      refine op_extract (nxlf rfl) rfl rfl rfl ?_
      refine op_alloc (nxla rfl) ze29 rfl (fun N9 b9 B9 => ?_)
      change Blk N9 b9 _ [.int .u64 0, .int .u64 0, .int .u64 0, .int .u64 0] at B9
      refine op_store (nxl rfl) sz29 rfl rfl rfl rfl rfl B9 (by simp) sel0 (fun N9 B9 => ?_)
      rw [setL_whole (by simp)] at B9
      refine op_assign (nxlf rfl) rfl rfl ?_
      refine At.opsNil ?_
      refine At.norm (hk_15 ?_)
      refine At.seq fun K16 hk_16 => ?_
      refine At.seq fun K17 hk_17 => ?_
      refine At.region ?_
      refine op_move (nxlf rfl) rfl rfl ?_
      refine op_notP (nxlf rfl) rfl rfl ?_
      refine At.opsNil ?_
      refine At.norm (hk_17 ?_)
      refine At.condP rfl (fun c48 => ?_) (fun c48 => ?_)
      · have hF : WW - 1 = blobF x.toNat := by rw [hbf, capW, if_neg (by assumption)]
        refine At.seq fun K18 hk_18 => ?_
        refine At.region ?_
        refine op_loadAggB (ds := u64s (wl (WW - 1))) (nxlf rfl) ag29 rfl B3 (by first | (rw [List.drop_zero, List.take_of_length_le (by first | (simp; done) | (simp; omega))]; done) | rfl) (by first | (simp; done) | (simp; omega)) mem7 rfl ?_
        refine op_store (nxl rfl) sz29 rfl rfl rfl rfl rfl B2 (by simp) sel6 (fun N2 B2 => ?_)
        rw [setL_whole (by simp), hF] at B2
        refine At.opsNil ?_
        refine At.norm (hk_18 ?_)
        refine At.ret (At.thenRet (?_))
        refine At.sub (L' := [N2, R]) (.cons_cons _ (.cons _ (.cons _ (.cons _ (.cons _ (.cons _ (.cons _ (.cons _ (.cons_cons _ (.slnil)))))))))) ?_
        refine At.ret1 (L1 := []) rfl (.cell rfl (res_agg (ds := u64s (wl (blobF x.toNat))) ag29 B2 (by first | (rw [List.drop_zero, List.take_of_length_le (by first | (simp; done) | (simp; omega))]; done) | rfl) (by first | (simp; done) | (simp; omega)) mem0) .nil) (.cons _ (.refl _)) (.refl _) ?_
        exact ⟨rfl, rfl⟩
      · have hF : fitV (blobQ x.toNat) = blobF x.toNat := by
          have hlt : blobQ x.toNat < WW := by
            rcases Nat.lt_or_ge (blobQ x.toNat) WW with h1 | h1
            · exact h1
            · exact absurd (by omega) c48
          rw [hbf, fitV_y hlt, capW, if_pos hlt]
        refine At.skip ?_
        refine At.norm (hk_16 ?_)
        refine At.seq fun K19 hk_19 => ?_
        refine At.region ?_
        refine op_loadAggB (ds := u64s (wl (fitV (blobQ x.toNat)))) (nxlf rfl) ag29 rfl B9 (by first | (rw [List.drop_zero, List.take_of_length_le (by first | (simp; done) | (simp; omega))]; done) | rfl) (by first | (simp; done) | (simp; omega)) mem0 rfl ?_
        refine op_store (nxl rfl) sz29 rfl rfl rfl rfl rfl B2 (by simp) sel6 (fun N2 B2 => ?_)
        rw [setL_whole (by simp), hF] at B2
        refine At.opsNil ?_
        refine At.norm (hk_19 ?_)
        refine At.ret (?_)
        refine At.sub (L' := [N2, R]) (.cons_cons _ (.cons _ (.cons _ (.cons _ (.cons _ (.cons _ (.cons _ (.cons _ (.cons_cons _ (.slnil)))))))))) ?_
        refine At.ret1 (L1 := []) rfl (.cell rfl (res_agg (ds := u64s (wl (blobF x.toNat))) ag29 B2 (by first | (rw [List.drop_zero, List.take_of_length_le (by first | (simp; done) | (simp; omega))]; done) | rfl) (by first | (simp; done) | (simp; omega)) mem0) .nil) (.cons _ (.refl _)) (.refl _) ?_
        exact ⟨rfl, rfl⟩
section
variable {h : Hd} {ao : Option Addr} {n cap : Nat}
set_option maxRecDepth 100000 in
theorem rBaseFee_1 (hk : h.Ok) : Fn Try.prog 19 #[.bool true, .agg (h.cells ao n cap).toArray] [] [] (fun v L => v = .tuple #[wo 1000000000, .bool true] ∧ L = []) := by
  refine Fn.enter (vs := [.bool true, .agg (h.cells ao n cap).toArray]) Try.func19 rfl rfl rfl ?_
  intro E R hR
  change At _ _ E [R] _
  refine At.seq fun K1 hk_1 => ?_
  refine At.region ?_
  refine op_box (nxla rfl) rfl rfl rfl (fun N3 b3 B3 => ?_)
  refine op_alloc (nxla rfl) ze29 rfl (fun N4 b4 B4 => ?_)
  change Blk N4 b4 _ [.int .u64 0, .int .u64 0, .int .u64 0, .int .u64 0] at B4
  refine op_assign (nxlf rfl) rfl rfl ?_
  refine At.opsNil ?_
  refine At.norm (hk_1 ?_)
  refine At.seq fun K2 hk_2 => ?_
  refine At.seq fun K3 hk_3 => ?_
  refine At.region ?_
  refine op_move (nxlf rfl) rfl rfl ?_
  refine At.opsNil ?_
  refine At.norm (hk_3 ?_)
  refine At.condT rfl ?_
  refine At.seq fun K4 hk_4 => ?_
  refine At.region ?_
  refine op_callA (nxla rfl) (.cons rfl .nil) (rOf_w 1000000000) Try.func49 rfl rfl (by simp) rfl ?_
  rintro v11 L11 ⟨rfl, rfl⟩
  change At _ _ _ [N4, N3, R] _
  refine op_store (nxl rfl) sz29 rfl rfl rfl rfl rfl B4 (by simp) sel0 (fun N4 B4 => ?_)
  rw [setL_whole (by simp)] at B4
  refine op_assign (nxlf rfl) rfl rfl ?_
  refine At.opsNil ?_
  refine At.norm (hk_4 ?_)
  refine At.ret (At.thenRet (?_))
  refine At.sub (L' := [N4, R]) (.cons_cons _ (.cons _ (.cons_cons _ (.slnil)))) ?_
  refine At.retN (L1 := []) rfl (.cell rfl (res_agg (ds := u64s (wl 1000000000)) ag29 B4 (by first | (rw [List.drop_zero, List.take_of_length_le (by first | (simp; done) | (simp; omega))]; done) | rfl) (by first | (simp; done) | (simp; omega)) mem0) (.tmp rfl .nil)) rfl (.cons _ (.refl _)) (.refl _) ?_
  exact ⟨rfl, rfl⟩
set_option maxRecDepth 100000 in
set_option maxHeartbeats 2000000 in
theorem rBaseFee_0 (hk : h.Ok) : Fn Try.prog 19 #[.bool false, .agg (h.cells ao n cap).toArray] [] [] (fun v L => v = .tuple #[wo (feeR false h.gl.toNat h.gu.toNat h.bf).1, .bool (feeR false h.gl.toNat h.gu.toNat h.bf).2] ∧ L = []) := by
  have hbf := hk.bf
  have hbl := dbase_len (gl := h.gl.toNat) hbf h.gu.toNat_lt
  have hwl := dword_len hbf
  obtain ⟨g, hg⟩ : ∃ g, h.gl / 2 = g := ⟨_, rfl⟩
  have hgn : g.toNat = h.gl.toNat / 2 := by rw [← hg, UInt64.toNat_div]; rfl
  refine Fn.enter (vs := [.bool false, .agg (h.cells ao n cap).toArray]) Try.func19 rfl rfl rfl ?_
  intro E R hR
  change At _ _ E [R] _
  refine At.seq fun K1 hk_1 => ?_
  refine At.region ?_
  refine op_box (nxla rfl) rfl rfl rfl (fun N3 b3 B3 => ?_)
  change Blk N3 b3 _ (h.cells ao n cap) at B3
  refine op_alloc (nxla rfl) ze29 rfl (fun N4 b4 B4 => ?_)
  change Blk N4 b4 _ [.int .u64 0, .int .u64 0, .int .u64 0, .int .u64 0] at B4
  refine op_assign (nxlf rfl) rfl rfl ?_
  refine At.opsNil ?_
  refine At.norm (hk_1 ?_)
  refine At.seq fun K2 hk_2 => ?_
  refine At.seq fun K3 hk_3 => ?_
  refine At.region ?_
  refine op_move (nxlf rfl) rfl rfl ?_
  refine At.opsNil ?_
  refine At.norm (hk_3 ?_)
  refine At.condF rfl ?_
  refine At.skip ?_
  refine At.norm (hk_2 ?_)
  refine At.seq fun K4 hk_4 => ?_
  refine At.drawn [] [0,1,2,3,4,5,6] (by kernel_rfl) (by kernel_rfl) ?_
  refine op_fieldAddr (nxof rfl rfl rfl (by kernel_rfl)) fl33_10 rfl rfl ?_
  refine op_loadB (nxof rfl rfl rfl (by kernel_rfl)) sc27 rfl B3 (by first | rfl | exact Hd.gl_at hk | exact Hd.gu_at hk) mem1 rfl ?_
  refine op_quoU (b := 2) (nxof rfl rfl rfl (by kernel_rfl)) rfl rfl (by first | omega | decide) rfl ?_
  rw [hg]
  refine op_fieldAddr (nxof rfl rfl rfl (by kernel_rfl)) fl33_11 rfl rfl ?_
  refine op_loadB (nxof rfl rfl rfl (by kernel_rfl)) sc27 rfl B3 (by first | rfl | exact Hd.gl_at hk | exact Hd.gu_at hk) mem1 rfl ?_
  refine op_assign (nxof rfl rfl rfl (by kernel_rfl)) rfl rfl ?_
  refine op_assign (nxof rfl rfl rfl (by kernel_rfl)) rfl rfl ?_
  refine At.oneNil ?_
  refine At.norm (hk_4 ?_)
  refine At.seq fun K5 hk_5 => ?_
  refine At.region ?_
  refine op_fieldAddr (nxlf rfl) fl33_16 rfl rfl ?_
  refine op_loadAggB (ds := u64s (wl h.bf)) (nxlf rfl) ag29 rfl B3 (Hd.bfs hk) (by rw [u64s_len, length_wl]) (by first | exact mem0 | exact mem1 | exact mem2) rfl ?_
  refine op_callA (nxla rfl) (.cons rfl .nil) (rN_w hbf) Try.func13 rfl rfl (by simp) rfl ?_
  rintro v19 L19 ⟨N19, p19, c19, rfl, rfl, s19⟩
  change At _ _ _ [N19, N4, N3, R] _
  refine op_assign (nxlf rfl) rfl rfl ?_
  refine At.opsNil ?_
  refine At.norm (hk_5 ?_)
  refine At.seq fun K6 hk_6 => ?_
  refine At.seq fun K7 hk_7 => ?_
  refine At.region ?_
  refine op_move (nxlf rfl) rfl rfl ?_
  refine op_eql (nxlf rfl) rfl rfl rfl ?_
  refine At.opsNil ?_
  refine At.norm (hk_7 ?_)
  refine At.condP rfl (fun c21 => ?_) (fun c21 => ?_)
  · have hf : feeR false h.gl.toNat h.gu.toNat h.bf = (0, false) := feeR_0 (by omega)
    refine At.seq fun K8 hk_8 => ?_
    refine At.region ?_
    refine op_buildA (out := [.int .u64 0, .int .u64 0, .int .u64 0, .int .u64 0]) (nxlf rfl) ze29 ae29 .nil rfl rfl ?_
    refine op_store (nxl rfl) sz29 rfl rfl rfl rfl rfl B4 (by simp) sel1 (fun N4 B4 => ?_)
    have B4 : Blk N4 b4 29 (u64s (wl (feeR false h.gl.toNat h.gu.toNat h.bf).1)) := by rw [hf]; exact B4
    refine op_assign (nxlf rfl) rfl rfl ?_
    refine At.opsNil ?_
    refine At.norm (hk_8 ?_)
    refine At.ret (At.thenRet (?_))
    refine At.sub (L' := [N4, R]) (.cons_cons _ (.cons _ (.cons _ (.cons_cons _ (.slnil))))) ?_
    refine At.retN (L1 := []) rfl (.cell rfl (res_agg (ds := u64s (wl (feeR false h.gl.toNat h.gu.toNat h.bf).1)) ag29 B4 (by first | (rw [List.drop_zero, List.take_of_length_le (by first | (simp; done) | (simp; omega))]; done) | rfl) (by first | (simp; done) | (simp; omega)) mem0) (.tmp rfl .nil)) rfl (.cons _ (.refl _)) (.refl _) ?_
    exact ⟨by first | (rw [hfe]; rfl) | (rw [hf]; rfl), rfl⟩
  · have hf : feeR false h.gl.toNat h.gu.toNat h.bf = (fitV (baseF h.gl.toNat h.gu.toNat h.bf), decide (baseF h.gl.toNat h.gu.toNat h.bf < WW)) := feeR_1 (by omega)
    have hg0 : 0 < g.toNat := by omega
    refine At.skip ?_
    refine At.norm (hk_6 ?_)
    refine At.seq fun K9 hk_9 => ?_
    refine At.seq fun K10 hk_10 => ?_
    refine At.region ?_
    refine op_move (nxlf rfl) rfl rfl ?_
    refine op_move (nxlf rfl) rfl rfl ?_
    refine op_eql (nxlf rfl) rfl rfl rfl ?_
    refine At.opsNil ?_
    refine At.norm (hk_10 ?_)
    refine At.condP rfl (fun c25 => ?_) (fun c25 => ?_)
    · have hfe : feeR false h.gl.toNat h.gu.toNat h.bf = (h.bf, true) := by
        rw [hf, show h.gu.toNat = h.gl.toNat / 2 by omega, baseF_eq, fitV_y hbf, decide_eq_true hbf]
      refine At.seq fun K11 hk_11 => ?_
      refine At.region ?_
      refine op_fieldAddr (nxlf rfl) fl33_16 rfl rfl ?_
      refine op_loadAggB (ds := u64s (wl h.bf)) (nxlf rfl) ag29 rfl B3 (Hd.bfs hk) (by rw [u64s_len, length_wl]) (by first | exact mem0 | exact mem1 | exact mem2) rfl ?_
      refine op_store (nxl rfl) sz29 rfl rfl rfl rfl rfl B4 (by simp) sel1 (fun N4 B4 => ?_)
      rw [setL_whole (by simp)] at B4
      have B4 : Blk N4 b4 29 (u64s (wl (feeR false h.gl.toNat h.gu.toNat h.bf).1)) := by rw [hfe]; exact B4
      refine op_assign (nxlf rfl) rfl rfl ?_
      refine At.opsNil ?_
      refine At.norm (hk_11 ?_)
      refine At.ret (At.thenRet (?_))
      refine At.sub (L' := [N4, R]) (.cons_cons _ (.cons _ (.cons _ (.cons_cons _ (.slnil))))) ?_
      refine At.retN (L1 := []) rfl (.cell rfl (res_agg (ds := u64s (wl (feeR false h.gl.toNat h.gu.toNat h.bf).1)) ag29 B4 (by first | (rw [List.drop_zero, List.take_of_length_le (by first | (simp; done) | (simp; omega))]; done) | rfl) (by first | (simp; done) | (simp; omega)) mem0) (.tmp rfl .nil)) rfl (.cons _ (.refl _)) (.refl _) ?_
      exact ⟨by first | (rw [hfe]; rfl) | (rw [hf]; rfl), rfl⟩
    · refine At.skip ?_
      refine At.norm (hk_9 ?_)
      refine At.seq fun K12 hk_12 => ?_
      refine At.seq fun K13 hk_13 => ?_
      refine At.region ?_
      refine op_move (nxlf rfl) rfl rfl ?_
      refine op_move (nxlf rfl) rfl rfl ?_
      refine op_gtr (nxlf rfl) rfl rfl rfl ?_
      refine At.opsNil ?_
      refine At.norm (hk_13 ?_)
      refine At.condP rfl (fun c30 => ?_) (fun c30 => ?_)
      · have hbase : baseF h.gl.toNat h.gu.toNat h.bf = h.bf + moreN h.bf g.toNat (h.gu - g).toNat := by
          rw [baseF, if_pos (by omega), UInt64.toNat_sub_of_le _ _ (UInt64.le_iff_toNat_le.2 (by omega)), hgn]
        refine At.seq fun K14 hk_14 => ?_
        refine At.region ?_
        refine op_move (nxlf rfl) rfl rfl ?_
        refine op_move (nxlf rfl) rfl rfl ?_
        refine op_move (nxlf rfl) rfl rfl ?_
        refine op_subU (nxlf rfl) rfl rfl rfl ?_
        refine op_move (nxlf rfl) rfl rfl ?_
        refine op_callA (nxla rfl) (.cons rfl (.cons rfl (.cons rfl .nil))) (rpart_f s19 hbf (h.gu - g) g hg0) Try.func50 rfl rfl (by simp) rfl ?_
        rintro v36 L36 ⟨N36, p36, c36, rfl, rfl, s36⟩
        change At _ _ _ [N36, N19, N4, N3, R] _
        refine op_assign (nxlf rfl) rfl rfl ?_
        refine At.opsNil ?_
        refine At.norm (hk_14 ?_)
        refine At.seq fun K15 hk_15 => ?_
        refine At.seq fun K16 hk_16 => ?_
        refine At.region ?_
        refine op_move (nxlf rfl) rfl rfl ?_
        refine op_lenS (nxlf rfl) se43 rfl rfl ?_
        refine op_eql (nxlf rfl) rfl rfl rfl ?_
        refine At.opsNil ?_
        refine At.norm (hk_16 ?_)
        refine At.condP rfl (fun c39 => ?_) (fun c39 => ?_)
        · have hm1 : moreN h.bf g.toNat (h.gu - g).toNat = 1 := by rw [moreN, if_pos (digs_nil.1 (by omega))]
          refine At.region ?_
          refine op_callA (nxla rfl) (.cons rfl .nil) (Of32_f 1) Try.func16 rfl rfl (by simp) rfl ?_
          rintro v40 L40 ⟨N40, p40, c40, rfl, rfl, s40⟩
          change At _ _ _ [N40, N36, N19, N4, N3, R] _
          rw [show (1 : UInt64).toNat = moreN h.bf g.toNat (h.gu - g).toNat from hm1.symm] at s40 ⊢
          have sx := s40
          have hpl := du64_len 1
          rw [show (1 : UInt64).toNat = moreN h.bf g.toNat (h.gu - g).toNat from hm1.symm] at hpl
          refine op_assign (nxlf rfl) rfl rfl ?_
          refine At.opsNil ?_
          refine At.norm (hk_15 ?_)
          refine At.seq fun K17 hk_17 => ?_
          refine At.region ?_
          have hlx := sx.len32
          refine op_move (nxlf rfl) rfl rfl ?_
          refine op_move (nxlf rfl) rfl rfl ?_
          refine op_callA (nxla rfl) (.cons rfl (.cons rfl .nil)) (dAdd_f s19 sx (by omega) (by omega)) Try.func14 rfl rfl (by simp) rfl ?_
          rintro v43 L43 ⟨N43, p43, c43, rfl, rfl, s43⟩
          change At _ _ _ [N43, N40, N36, N19, N4, N3, R] _
          rw [← hbase] at s43 ⊢
          refine op_callA (nxla rfl) (.cons rfl .nil) (rfits_f s43 (by omega)) Try.func42 rfl rfl (by simp) rfl ?_
          rintro v44 L44 ⟨rfl, rfl⟩
          change At _ _ _ [N43, N40, N36, N19, N4, N3, R] _
          refine op_extract (nxlf rfl) rfl rfl rfl ?_
          refine op_extract (nxlf rfl) rfl rfl rfl ?_
          refine op_store (nxl rfl) sz29 rfl rfl rfl rfl rfl B4 (by simp) sel4 (fun N4 B4 => ?_)
          rw [setL_whole (by simp)] at B4
          have B4 : Blk N4 b4 29 (u64s (wl (feeR false h.gl.toNat h.gu.toNat h.bf).1)) := by rw [hf]; exact B4
          refine op_assign (nxlf rfl) rfl rfl ?_
          refine At.opsNil ?_
          refine At.norm (hk_17 ?_)
          refine At.ret (At.thenRet (?_))
          refine At.sub (L' := [N4, R]) (.cons_cons _ (.cons _ (.cons _ (.cons _ (.cons _ (.cons _ (.cons_cons _ (.slnil)))))))) ?_
          refine At.retN (L1 := []) rfl (.cell rfl (res_agg (ds := u64s (wl (feeR false h.gl.toNat h.gu.toNat h.bf).1)) ag29 B4 (by first | (rw [List.drop_zero, List.take_of_length_le (by first | (simp; done) | (simp; omega))]; done) | rfl) (by first | (simp; done) | (simp; omega)) mem0) (.tmp rfl .nil)) rfl (.cons _ (.refl _)) (.refl _) ?_
          exact ⟨by first | (rw [hfe]; rfl) | (rw [hf]; rfl), rfl⟩
        · have hm1 : moreN h.bf g.toNat (h.gu - g).toNat = partN h.bf g.toNat (h.gu - g).toNat := by rw [moreN, if_neg (fun h0 => by have := digs_nil.2 h0; omega)]
          have hpl := dpart_len (g := g.toNat) hbf (h.gu - g).toNat_lt
          rw [← hm1] at hpl s36 ⊢
          have sx := s36
          refine At.skip ?_
          refine At.norm (hk_15 ?_)
          refine At.seq fun K18 hk_18 => ?_
          refine At.region ?_
          have hlx := sx.len32
          refine op_move (nxlf rfl) rfl rfl ?_
          refine op_move (nxlf rfl) rfl rfl ?_
          refine op_callA (nxla rfl) (.cons rfl (.cons rfl .nil)) (dAdd_f s19 sx (by omega) (by omega)) Try.func14 rfl rfl (by simp) rfl ?_
          rintro v43 L43 ⟨N43, p43, c43, rfl, rfl, s43⟩
          change At _ _ _ [N43, N36, N19, N4, N3, R] _
          rw [← hbase] at s43 ⊢
          refine op_callA (nxla rfl) (.cons rfl .nil) (rfits_f s43 (by omega)) Try.func42 rfl rfl (by simp) rfl ?_
          rintro v44 L44 ⟨rfl, rfl⟩
          change At _ _ _ [N43, N36, N19, N4, N3, R] _
          refine op_extract (nxlf rfl) rfl rfl rfl ?_
          refine op_extract (nxlf rfl) rfl rfl rfl ?_
          refine op_store (nxl rfl) sz29 rfl rfl rfl rfl rfl B4 (by simp) sel3 (fun N4 B4 => ?_)
          rw [setL_whole (by simp)] at B4
          have B4 : Blk N4 b4 29 (u64s (wl (feeR false h.gl.toNat h.gu.toNat h.bf).1)) := by rw [hf]; exact B4
          refine op_assign (nxlf rfl) rfl rfl ?_
          refine At.opsNil ?_
          refine At.norm (hk_18 ?_)
          refine At.ret (At.thenRet (?_))
          refine At.sub (L' := [N4, R]) (.cons_cons _ (.cons _ (.cons _ (.cons _ (.cons _ (.cons_cons _ (.slnil))))))) ?_
          refine At.retN (L1 := []) rfl (.cell rfl (res_agg (ds := u64s (wl (feeR false h.gl.toNat h.gu.toNat h.bf).1)) ag29 B4 (by first | (rw [List.drop_zero, List.take_of_length_le (by first | (simp; done) | (simp; omega))]; done) | rfl) (by first | (simp; done) | (simp; omega)) mem0) (.tmp rfl .nil)) rfl (.cons _ (.refl _)) (.refl _) ?_
          exact ⟨by first | (rw [hfe]; rfl) | (rw [hf]; rfl), rfl⟩
      · have hgu : (g - h.gu).toNat = g.toNat - h.gu.toNat := UInt64.toNat_sub_of_le _ _ (UInt64.le_iff_toNat_le.2 (by omega))
        have hbase : baseF h.gl.toNat h.gu.toNat h.bf = h.bf - partN h.bf g.toNat (g - h.gu).toNat := by
          rw [baseF, if_neg (by omega), hgu, hgn]
        have hple : partN h.bf g.toNat (g - h.gu).toNat ≤ h.bf := part_le_b (by omega)
        refine At.skip ?_
        refine At.norm (hk_12 ?_)
        refine At.seq fun K19 hk_19 => ?_
        refine At.region ?_
        refine op_move (nxlf rfl) rfl rfl ?_
        refine op_move (nxlf rfl) rfl rfl ?_
        refine op_move (nxlf rfl) rfl rfl ?_
        refine op_move (nxlf rfl) rfl rfl ?_
        refine op_subU (nxlf rfl) rfl rfl rfl ?_
        refine op_move (nxlf rfl) rfl rfl ?_
        refine op_callA (nxla rfl) (.cons rfl (.cons rfl (.cons rfl .nil))) (rpart_f s19 hbf (g - h.gu) g hg0) Try.func50 rfl rfl (by simp) rfl ?_
        rintro v53 L53 ⟨N53, p53, c53, rfl, rfl, s53⟩
        change At _ _ _ [N53, N19, N4, N3, R] _
        refine op_callA (nxla rfl) (.cons rfl (.cons rfl .nil)) (dSub_f s19 s53 (by omega) hple) Try.func18 rfl rfl (by simp) rfl ?_
        rintro v54 L54 ⟨N54, p54, c54, rfl, rfl, s54⟩
        change At _ _ _ [N54, N53, N19, N4, N3, R] _
        rw [← hbase] at s54 ⊢
        refine op_callA (nxla rfl) (.cons rfl .nil) (rfits_f s54 (by omega)) Try.func42 rfl rfl (by simp) rfl ?_
        rintro v55 L55 ⟨rfl, rfl⟩
        change At _ _ _ [N54, N53, N19, N4, N3, R] _
        refine op_extract (nxlf rfl) rfl rfl rfl ?_
        refine op_extract (nxlf rfl) rfl rfl rfl ?_
        refine op_store (nxl rfl) sz29 rfl rfl rfl rfl rfl B4 (by simp) sel3 (fun N4 B4 => ?_)
        rw [setL_whole (by simp)] at B4
        have B4 : Blk N4 b4 29 (u64s (wl (feeR false h.gl.toNat h.gu.toNat h.bf).1)) := by rw [hf]; exact B4
        refine op_assign (nxlf rfl) rfl rfl ?_
        refine At.opsNil ?_
        refine At.norm (hk_19 ?_)
        refine At.ret (?_)
        refine At.sub (L' := [N4, R]) (.cons_cons _ (.cons _ (.cons _ (.cons _ (.cons _ (.cons_cons _ (.slnil))))))) ?_
        refine At.retN (L1 := []) rfl (.cell rfl (res_agg (ds := u64s (wl (feeR false h.gl.toNat h.gu.toNat h.bf).1)) ag29 B4 (by first | (rw [List.drop_zero, List.take_of_length_le (by first | (simp; done) | (simp; omega))]; done) | rfl) (by first | (simp; done) | (simp; omega)) mem0) (.tmp rfl .nil)) rfl (.cons _ (.refl _)) (.refl _) ?_
        exact ⟨by first | (rw [hfe]; rfl) | (rw [hf]; rfl), rfl⟩
theorem rBaseFee_f (hk : h.Ok) (first : Bool) : Fn Try.prog 19 #[.bool first, .agg (h.cells ao n cap).toArray] [] [] (fun v L => v = .tuple #[wo (feeR first h.gl.toNat h.gu.toNat h.bf).1, .bool (feeR first h.gl.toNat h.gu.toNat h.bf).2] ∧ L = []) := by
  cases first
  · exact rBaseFee_0 hk
  · exact rBaseFee_1 hk
end
end Go.Proofs.Ytbmlhdecnfplaaa
/- From what an argument reads as to the engine's facts; what is read again behind the call. No condition. -/
namespace Go.Proofs.Ytbmlhdecnfplaaa
set_option linter.unusedVariables false
set_option linter.unusedSimpArgs false
open Go Go.RowKit Go.ChangeShapes Go.WideShapes Go.Deep
theorem add_off (a : Addr) (n : Nat) : (a.add n).off = a.off + n := by unfold Addr.add; split <;> simp_all
theorem add_block (a : Addr) (n : Nat) : (a.add n).block = a.block := by unfold Addr.add; split <;> rfl
theorem cellOf_whole {w : World} {a : Addr} {v : Value} (h : w.cell? a = some v) : a.spot = none ∧ cellOf (whole w) a.block a.off = some v := by
  unfold World.cell? at h
  unfold cellOf whole
  split at h
  · rename_i c t fr e
    split at h
    · cases h
    · rename_i hs
      rw [e]
      exact ⟨by simpa using hs, h⟩
  · cases h
theorem rng_whole {w : World} {a : Addr} {base n size : Nat} {C : Nat → List Value} (h : ∀ i, i < n → w.cells? base (a.add (i * size)) size = some (C i)) :
    Rng (whole w) a.block a.off ((List.range n).flatMap C) ∧ ((List.range n).flatMap C).length = n * size := by
  induction n with
  | zero => exact ⟨fun i hi => by simp at hi, by simp⟩
  | succ n ih =>
    obtain ⟨h1, h2⟩ := ih fun i hi => h i (by omega)
    obtain ⟨_, hl, hc⟩ := World.cells?_some (h n (by omega))
    have e : (List.range (n + 1)).flatMap C = (List.range n).flatMap C ++ C n := by simp [List.range_succ]
    rw [e]
    refine ⟨fun i hi => ?_, by rw [List.length_append, h2, hl, Nat.succ_mul]⟩
    by_cases hlt : i < ((List.range n).flatMap C).length
    · rw [List.getElem_append_left hlt]; exact h1 i hlt
    · rw [List.length_append] at hi
      rw [List.getElem_append_right (by omega)]
      have hk := hc (i - n * size) (by omega)
      rw [List.getElem?_eq_getElem (by omega)] at hk
      have h3 := (cellOf_whole hk).2
      have e2 : ((a.add (n * size)).add (i - n * size)).off = a.off + i := by rw [add_off, add_off]; omega
      rw [e2, add_block, add_block] at h3
      have e3 : i - ((List.range n).flatMap C).length = i - n * size := by rw [h2]
      simp only [e3]
      exact h3
section
variable {H : Type} {enc : TypeId × Value → H} {P : Program} {w : World} {spare : Nat → Bool} {held : Bool}
theorem open_rsl {t e : TypeId} {fuel : Nat} {cs : List Value} {x : DataW H × List MemPlace} (ht : P.underlying t = some (.slice e)) (hpos : 0 < P.cellsOf e) (h : DataW.trod enc P w 0 spare held fuel t cs = some x) :
    ∃ ao n cap C m, cs = [.slice ao n cap] ∧ RSl (whole w) (P.cellsOf e) ao n cap ((List.range n).flatMap C) ∧ (n = 0 ∨ fuel = m + 1) ∧
      ∀ i, i < n → (C i).length = P.cellsOf e ∧ ∃ y, DataW.trod enc P w 0 spare held m e (C i) = some y := by
  rcases DataW.trod_slice ht h with ⟨rfl, _⟩ | ⟨a, len, cap, elems, rest, n, hf, rfl, rfl, hb, hl, hm, hlen, hel, hsp, hns⟩
  · exact ⟨none, 0, 0, fun _ => [], 0, rfl, ⟨by simp, by omega, by simp [maxLen], fun h => by omega⟩, Or.inl rfl, fun i hi => by omega⟩
  · obtain ⟨C, hC⟩ := choose_lt (α := List Value) (p := fun i c => w.cells? 0 (a.add (i * P.cellsOf e)) (P.cellsOf e) = some c ∧ ∃ y, DataW.trod enc P w 0 spare held n e c = some y) (n := len) (fun i hi => by
      have := hel i hi
      rw [List.getElem?_eq_getElem (by omega)] at this
      obtain ⟨c, h1, h2⟩ := Option.bind_eq_some_iff.1 this
      exact ⟨c, h1, _, h2⟩)
    obtain ⟨h1, h2⟩ := rng_whole (fun i hi => (hC i hi).1)
    refine ⟨some a, len, cap, C, n, rfl, ⟨h2, hl, hm, fun h0 => ?_⟩, Or.inr hf, fun i hi => ⟨(World.cells?_some (hC i hi).1).2.1, (hC i hi).2⟩⟩
    obtain ⟨_, hl0, hc0⟩ := World.cells?_some (hC 0 h0).1
    have hk := hc0 0 hpos
    rw [List.getElem?_eq_getElem (by omega)] at hk
    have hs := (cellOf_whole hk).1
    have hs' : a.spot = none := by simpa [Addr.add] using hs
    refine ⟨a.block, a.off, ?_, h1⟩
    cases a; simp at hs'; subst hs'; rfl
/-- The bytes that a list of cells holds. -/
def u8of : Value → UInt8
  | .int _ q => UInt8.ofNat q.toNat
  | _ => 0
theorem open_u8 {t e : TypeId} {fuel : Nat} {cs : List Value} {x : DataW H × List MemPlace} (ht : P.underlying t = some (.slice e)) (he : P.underlying e = some (.int .u8)) (hc : P.cellsOf e = 1) (h : DataW.trod enc P w 0 spare held fuel t cs = some x) :
    ∃ ao n cap bs, cs = [.slice ao n cap] ∧ RSl (whole w) 1 ao n cap (u8s bs) := by
  obtain ⟨ao, n, cap, C, m, rfl, hr, _, hC⟩ := open_rsl ht (by omega) h
  refine ⟨ao, n, cap, ((List.range n).flatMap C).map u8of, rfl, ?_⟩
  have e : u8s (((List.range n).flatMap C).map u8of) = (List.range n).flatMap C := by
    unfold u8s
    rw [List.map_map]
    refine (List.map_congr_left (g := id) fun v hv => ?_).trans (List.map_id _)
    obtain ⟨i, hi, hv⟩ := List.mem_flatMap.1 hv
    obtain ⟨hl, y, hy⟩ := hC i (List.mem_range.1 hi)
    obtain ⟨q, hq, _, hw⟩ := DataW.trod_int he hy
    rw [hq] at hv
    obtain rfl := List.mem_singleton.1 hv
    have hb : 0 ≤ q ∧ q ≤ 255 := by simpa [Lit.wf, IntKind.min, IntKind.max, IntKind.signed, IntKind.bits] using hw
    simp only [Function.comp, u8of, vb, id]
    have h8 : (UInt8.ofNat q.toNat).toNat = q.toNat := by rw [UInt8.toNat_ofNat']; omega
    rw [h8]
    congr 1
    omega
  rw [e, ← hc]
  exact hr
theorem stays_all {W W' : World} {sp : Nat → Bool} (hl : laidOutB P = true) : ∀ {ts : List TypeId} {vs : List Value} {ds : List (DataW H)} {ps : List MemPlace}, (∀ t ∈ ts, P.readableRec t = true ∧ t < P.types.size) →
    DataW.TrodAll enc P W 0 (fun _ => true) true ts vs ds ps → (∀ p ∈ ps, W.sameAt W' p) → (∀ p ∈ ps, sp p.block = true) → DataW.TrodAll enc P W' 0 sp true ts vs ds ps
  | [], [], [], _, _, h, _, _ => h
  | t :: _, _ :: _, _ :: _, _, hr, ⟨p, q, h1, h2, e⟩, hs, hb => ⟨p, q,
    Go.WideElems.Trod_stays hl (hr t (by simp)).1 (hr t (by simp)).2 h1 (fun x hx => hs x (by rw [e]; simp [hx])) (fun x hx => hb x (by rw [e]; simp [hx])),
    stays_all hl (fun t ht => hr t (by simp [ht])) h2 (fun x hx => hs x (by rw [e]; simp [hx])) (fun x hx => hb x (by rw [e]; simp [hx])), e⟩
theorem sameAt_below {W W' : World} (h : Below W.heap.size W W') {p : MemPlace} (hp : p.block < W.heap.size) : W.sameAt W' p := by
  cases p with
  | cell b off =>
    show W'.cell? ⟨b, off, none⟩ = W.cell? ⟨b, off, none⟩
    have e : W'.heap[b]? = W.heap[b]? := h.block b hp
    unfold World.cell?
    simp only [e]
  | map b => exact h.block b hp
/-- A law's last step: it answered v, and all that was there is there as it was. -/
theorem law_post {f : Func} {s : ChangeSpec} {W W' : World} {args : Array Value} {v : Value} {r : DataW H} {ds gs : List (DataW H)} {before : List MemPlace} {tr : TypeId}
    (hW : DataW.Whole enc P f.params.toList s.vars false W args.toList ds gs before) (hv : s.vars = [])
    (hs : s.fn H (ds ++ gs) = { results := [r], args := ds }) (hone' : v.resultList 1 = [v]) (hres : f.resultTypes = #[tr])
    (hr : ∀ (b : Nat) (sp : Nat → Bool) (hd : Bool), DataW.Trod enc P W' b sp hd tr v r []) (hok : Value.okWide P W' .any 0 tr v)
    (hl : laidOutB P = true) (ht : ∀ t ∈ f.params.toList, P.readableRec t = true ∧ t < P.types.size) (hb : Below W.heap.size W W') :
    s.post enc P f false true false false W args v W' := by
  have hlt : ∀ p ∈ before, p.block < W.heap.size := fun p hp => hW.lt p hp
  have hW' := hW
  obtain ⟨p, q, hA, hV, rfl, hfz, hnd⟩ := hW
  rw [hv] at hV
  obtain ⟨rfl, rfl⟩ := trodVars_none hV
  simp only [List.append_nil] at hs hlt hW' hfz
  have again : ∀ sp : Nat → Bool, (∀ x ∈ p, sp x.block = true) → DataW.TrodAll enc P W' 0 sp true f.params.toList args.toList ds p := fun sp hsp =>
    stays_all hl ht hA (fun x hx => sameAt_below hb (hlt x hx)) hsp
  have hrl : v.resultList f.resultTypes.size = [v] := by rw [hres]; exact hone'
  have hone : ∀ (b : Nat) (sp : Nat → Bool) (hd : Bool), DataW.TrodAll enc P W' b sp hd f.resultTypes.toList (v.resultList f.resultTypes.size) [r] [] := fun b sp hd => by
    rw [hrl, hres]; exact ⟨[], [], hr b sp hd, rfl, rfl⟩
  have hold : ∀ x ∈ p, (fun b => decide (b < W.heap.size)) x.block = true := fun x hx => by simpa using hlt x hx
  have hvs : ∀ sp : Nat → Bool, DataW.TrodVars enc P W' sp s.vars [] [] := fun sp => by rw [hv]; rfl
  refine ⟨ds, [], p, [], p, [], by simpa using hW', by simp only [List.append_nil]; rw [hs]; exact hone _ _ _, by simp only [List.append_nil]; rw [hs]; exact again _ hold, by simp only [List.append_nil]; rw [hs]; exact hvs _,
    World.keptBut_mono (fun x hx => ⟨hx, Or.inr (Or.inl hx)⟩) (hb.frame (· ∈ p)), fun _ => ?_⟩
  refine ⟨?_, _, _, ([] ++ p) ++ [], ⟨[] ++ p, [], trodAll_append (again _ (fun _ _ => rfl)) (hone _ _ _), hvs _, rfl, ?_, ?_⟩, ?_⟩
  · intro j t r hj hr
    rw [hrl] at hr
    rw [hres] at hj
    cases j with
    | zero => simp at hj hr; subst hj; subst hr; exact hok
    | succ j => simp at hr
  · intro b off hp
    have hin : MemPlace.cell b off ∈ p := by simpa using hp
    rw [hb.frozen (hlt _ hin)]
    exact hfz b off hin
  · intro ha
    cases ha
  · intro x hx _
    simpa using hx
end
end Go.Proofs.Ytbmlhdecnfplaaa
