/- Several texts in one: see the remarks ahead of each part. No condition but those told there. -/
import Derived.Test.YtlkjfbfenpkmhaaDoorR11
import Derived.Test.YtlkjfbfenpkmhaaDoorR4
import Derived.Test.YtlkjfbfenpkmhaaDoorR5
import Derived.Test.YtlkjfbfenpkmhaaDoorR10
import Derived.Test.YtlkjfbfenpkmhaaDoorR9
import Derived.Laws.StructEq
import Derived.Stop.BytesEq
/- quarryref04: Address, Hash, Number. Condition: a text of at most 2^40 bytes. -/
namespace Go.Proofs.YtlkjfbfenpkmhaaDoor
set_option linter.unusedVariables false
set_option linter.unusedSimpArgs false
open Go Go.RowKit
set_option maxRecDepth 100000 in
set_option maxHeartbeats 2000000 in
theorem rAddress_f (s : List UInt8) (hs : s.length ≤ 1099511627776) : Fn Tryd.prog 20 #[str s] [] [] (ArrP (arrR s 20)) := by
  have hF := rBytes_f s hs
  rw [← bytes_same] at hF
  unfold arrR
  obtain ⟨y, hy⟩ : ∃ y, justR s 20 = y := ⟨_, rfl⟩
  have hR : justR s 20 = if (bytesR s).2.1 ≠ 0 then ([], (bytesR s).2.1, (bytesR s).2.2) else if (bytesR s).1.length ≠ 20 then ([], 6, 0) else bytesR s := rfl
  rw [hy] at hR ⊢
  generalize bytesR s = z at hF hR
  obtain ⟨d, wy, pl⟩ := z
  obtain ⟨e, w2, p2⟩ := y
  simp only at hR ⊢
  replace hF : Fn Tryd.prog 16 #[str s] [] [] (fun v L => ∃ M a c, v = .tuple #[.slice a d.length c, faultV (wy : Int) (pl : Int)] ∧ L = [M] ∧ Row M 5 1 a d.length c (u8s d)) := hF
  have hR0 : wy ≠ 0 → e = [] ∧ w2 = wy ∧ p2 = pl := fun h => by rw [if_pos h] at hR; injection hR with e1 e2; injection e2 with e2 e3; exact ⟨e1, e2, e3⟩
  have hR1 : wy = 0 → d.length ≠ 20 → e = [] ∧ w2 = 6 ∧ p2 = 0 := fun h h2 => by rw [if_neg (fun e => e h), if_pos h2] at hR; injection hR with e1 e2; injection e2 with e2 e3; exact ⟨e1, e2, e3⟩
  have hR2 : wy = 0 → d.length = 20 → e = d ∧ w2 = wy ∧ p2 = pl := fun h h2 => by rw [if_neg (fun e => e h), if_neg (fun e => e h2)] at hR; injection hR with e1 e2; injection e2 with e2 e3; exact ⟨e1, e2, e3⟩
  obtain ⟨Zz, hE⟩ : ∃ Zz, e ++ List.replicate (20 - e.length) 0 = Zz := ⟨_, rfl⟩
  have hE0 : e = [] → List.replicate 20 0 = Zz := fun h => by rw [← hE, h]; rfl
  have hE1 : e = d → d.length = 20 → d = Zz := fun h h2 => by rw [← hE, h, h2]; simp
  rw [hE]
  refine Fn.enter (vs := [str s]) Tryd.func20 rfl rfl rfl ?_
  intro E R hR
  change At _ _ E [R] _
  refine At.seq fun K1 hk_1 => ?_
  refine At.region ?_
  refine op_alloc (nxla rfl) ze50 rfl (fun N2 b2 B2 => ?_)
  change Blk N2 b2 _ [.int .u8 0, .int .u8 0, .int .u8 0, .int .u8 0, .int .u8 0, .int .u8 0, .int .u8 0, .int .u8 0, .int .u8 0, .int .u8 0, .int .u8 0, .int .u8 0, .int .u8 0, .int .u8 0, .int .u8 0, .int .u8 0, .int .u8 0, .int .u8 0, .int .u8 0, .int .u8 0] at B2
  change Blk N2 b2 _ (u8s (List.replicate 20 0)) at B2
  refine op_alloc (nxla rfl) ze30 rfl (fun N3 b3 B3 => ?_)
  change Blk N3 b3 _ [.int .i64 0, .int .i64 0] at B3
  change Blk N3 b3 _ [.int .i64 0, .int .i64 0] at B3
  refine At.opsNil ?_
  refine At.norm (hk_1 ?_)
  refine At.seq fun K2 hk_2 => ?_
  refine At.region ?_
  refine op_alloc (nxla rfl) ze50 rfl (fun N4 b4 B4 => ?_)
  change Blk N4 b4 _ [.int .u8 0, .int .u8 0, .int .u8 0, .int .u8 0, .int .u8 0, .int .u8 0, .int .u8 0, .int .u8 0, .int .u8 0, .int .u8 0, .int .u8 0, .int .u8 0, .int .u8 0, .int .u8 0, .int .u8 0, .int .u8 0, .int .u8 0, .int .u8 0, .int .u8 0, .int .u8 0] at B4
  change Blk N4 b4 _ (u8s (List.replicate 20 0)) at B4
  refine At.opsNil ?_
  refine At.norm (hk_2 ?_)
  refine At.seq fun K3 hk_3 => ?_
  refine At.region ?_
  refine op_move (nxlf rfl) rfl rfl ?_
  refine op_callA (nxla rfl) (.cons rfl .nil) (hF) Tryd.func16 rfl rfl (by simp) rfl ?_
  rintro v10 L10 ⟨N10, a10, c10, rfl, rfl, r10⟩
  change At _ _ _ [N10, N4, N3, N2, R] _
  refine op_move (nxlf rfl) rfl rfl ?_
  refine op_extract (nxlf rfl) rfl rfl rfl ?_
  refine op_extract (nxlf rfl) rfl rfl rfl ?_
  refine op_alloc (nxla rfl) ze30 rfl (fun N6 b6 B6 => ?_)
  change Blk N6 b6 _ [.int .i64 0, .int .i64 0] at B6
  refine op_assign (nxlf rfl) rfl rfl ?_
  refine op_store (nxl rfl) sz30 rfl rfl rfl rfl rfl B6 (by simp) sel0 (fun N6 B6 => ?_)
  simp only [setL, List.set] at B6
  refine At.opsNil ?_
  refine At.norm (hk_3 ?_)
  refine At.seq fun K4 hk_4 => ?_
  refine At.seq fun K5 hk_5 => ?_
  refine At.region ?_
  refine op_fieldAddr (nxlf rfl) fl30_0 rfl rfl ?_
  refine op_loadB (nxlf rfl) sc28 rfl B6 (by first | rfl) mem0 rfl ?_
  refine op_neq (nxlf rfl) rfl rfl rfl ?_
  refine At.opsNil ?_
  refine At.norm (hk_5 ?_)
  refine At.condP rfl (fun c15 => ?_) (fun c15 => ?_)
  · refine At.knowT (d := 15) rfl c15 ?_
    obtain ⟨he, hw2, hp2⟩ := hR0 (by omega)
    refine At.seq fun K6 hk_6 => ?_
    refine At.perm sel5 ?_
    refine At.perm sel1 ?_
    refine At.perm sel3 ?_
    refine At.perm sel5 ?_
    refine At.perm sel5 ?_
    refine At.perm sel5 ?_
    refine At.drawnS [N4, N6, R] [3] [] [0,1,2,3] (by kernel_rfl) (by kernel_rfl) (.cons _ (.cons _ (.cons _ (.refl _)))) ?_
    refine op_loadAggB (ds := u8s (List.replicate 20 0)) (nxsf rfl rfl rfl) ag50 rfl B4 (by first | (rw [List.drop_zero, List.take_of_length_le (by first | (simp; done) | (simp; omega))]; done) | rfl) (by first | (simp; done) | (simp; omega)) mem0 rfl ?_
    refine op_loadAggB (ds := [_, _]) (nxsf rfl rfl rfl) ag30 rfl B6 rfl rfl mem1 rfl ?_
    refine op_store (nxsm rfl rfl rfl) sz50 rfl rfl rfl rfl rfl B2 (by simp) sel2 (fun N2 B2 => ?_)
    rw [setL_whole (by simp [u8s]), hE0 he] at B2
    refine At.moreS (Lst := [N4, N6, R]) (Lst' := [N4, N6, R]) (.refl _) (.cons _ (.cons _ (.cons _ (.refl _)))) ?_
    refine op_store (nxsl rfl rfl rfl rfl) sz30 rfl rfl rfl rfl rfl B3 (by simp) sel2 (fun N3 B3 => ?_)
    simp only [setL, List.set] at B3
    refine At.sNil ?_
    refine At.norm (hk_6 ?_)
    refine At.ret (At.thenRet (?_))
    have hEl : Zz.length = 20 := by rw [← hE0 he]; rfl
    refine At.sub (L' := [N3, N2, R]) (.cons_cons _ (.cons_cons _ (.cons _ (.cons _ (.cons _ (.cons_cons _ (.slnil))))))) ?_
    refine At.perm sel2 ?_
    refine At.perm sel1 ?_
    refine At.perm sel2 ?_
    refine At.retN (L1 := []) rfl (.cell rfl (res_agg (ds := u8s Zz) ag50 B2 (by rw [List.drop_zero, List.take_of_length_le (by simp [u8s]; omega)]) (by simp [u8s]; omega) mem0) (.cell rfl (res_agg (ds := [_, _]) ag30 B3 rfl rfl mem1) .nil)) rfl (.cons _ (.cons _ (.refl _))) (.refl _) ?_
    exact ⟨by rw [hw2, hp2]; rfl, rfl⟩
  · refine At.knowF (d := 15) rfl c15 ?_
    refine At.skip ?_
    refine At.norm (hk_4 ?_)
    refine At.seq fun K7 hk_7 => ?_
    refine At.seq fun K8 hk_8 => ?_
    refine At.region ?_
    refine op_move (nxlf rfl) rfl rfl ?_
    refine op_lenS (nxlf rfl) se22 rfl rfl ?_
    refine op_neq (nxlf rfl) rfl rfl rfl ?_
    refine At.opsNil ?_
    refine At.norm (hk_8 ?_)
    refine At.condP rfl (fun c20 => ?_) (fun c20 => ?_)
    · refine At.knowT (d := 20) rfl c20 ?_
      obtain ⟨he, hw2, hp2⟩ := hR1 (by omega) (by omega)
      refine At.seq fun K9 hk_9 => ?_
      refine At.perm sel5 ?_
      refine At.perm sel1 ?_
      refine At.perm sel3 ?_
      refine At.perm sel5 ?_
      refine At.perm sel5 ?_
      refine At.perm sel5 ?_
      refine At.drawnS [N4, N6, R] [2,3] [] [0,1,2,3] (by kernel_rfl) (by kernel_rfl) (.cons _ (.cons _ (.cons _ (.refl _)))) ?_
      refine op_loadAggB (ds := u8s (List.replicate 20 0)) (nxsf rfl rfl rfl) ag50 rfl B4 (by first | (rw [List.drop_zero, List.take_of_length_le (by first | (simp; done) | (simp; omega))]; done) | rfl) (by first | (simp; done) | (simp; omega)) mem0 rfl ?_
      refine op_callA (Nx.agree (nxsm rfl rfl rfl)) (.cons rfl (.cons rfl .nil)) (rfault_f 6 0) Tryd.func39 rfl rfl (by simp) rfl ?_
      rintro v22 L22 ⟨rfl, rfl⟩
      change At _ _ _ [N10, N3, N2, N4, N6, R] _
      refine At.moreS (Lst := [N4, N6, R]) (Lst' := [N4, N6, R]) (.refl _) (.cons _ (.cons _ (.cons _ (.refl _)))) ?_
      refine op_store (nxss rfl rfl rfl rfl) sz50 rfl rfl rfl rfl rfl B2 (by simp) sel2 (fun N2 B2 => ?_)
      rw [setL_whole (by simp [u8s]), hE0 he] at B2
      refine At.anyS (.refl _) ?_
      refine op_store (nxsl rfl rfl rfl rfl) sz30 rfl rfl rfl rfl rfl B3 (by simp) sel2 (fun N3 B3 => ?_)
      simp only [setL, List.set] at B3
      refine At.sNil ?_
      refine At.norm (hk_9 ?_)
      refine At.ret (At.thenRet (?_))
      have hEl : Zz.length = 20 := by rw [← hE0 he]; rfl
      refine At.sub (L' := [N3, N2, R]) (.cons_cons _ (.cons_cons _ (.cons _ (.cons _ (.cons _ (.cons_cons _ (.slnil))))))) ?_
      refine At.perm sel2 ?_
      refine At.perm sel1 ?_
      refine At.perm sel2 ?_
      refine At.retN (L1 := []) rfl (.cell rfl (res_agg (ds := u8s Zz) ag50 B2 (by rw [List.drop_zero, List.take_of_length_le (by simp [u8s]; omega)]) (by simp [u8s]; omega) mem0) (.cell rfl (res_agg (ds := [_, _]) ag30 B3 rfl rfl mem1) .nil)) rfl (.cons _ (.cons _ (.refl _))) (.refl _) ?_
      exact ⟨by rw [hw2, hp2]; rfl, rfl⟩
    · refine At.knowF (d := 20) rfl c20 ?_
      obtain ⟨he, hw2, hp2⟩ := hR2 (by omega) (by omega)
      have hd20 : d.length = 20 := by omega
      have s10 := r10.rsl
      refine At.skip ?_
      refine At.norm (hk_7 ?_)
      refine At.seq fun K10 hk_10 => ?_
      refine At.seq fun K11 hk_11 => ?_
      refine At.region ?_
      refine op_assign (nxlf rfl) rfl rfl ?_
      refine At.opsNil ?_
      refine At.norm (hk_11 ?_)
      refine At.block ?_
      refine At.perm sel5 ?_
      refine At.perm sel5 ?_
      refine At.perm sel5 ?_
      refine At.perm sel4 ?_
      refine At.perm sel4 ?_
      refine At.perm sel5 ?_
      refine At.loop (fun fr_ hp_ ms_ => ∃ (i : Nat) (N4 : Heaplet), fr_ = [(2, .pointer (some ⟨b2, 0, none⟩)), (3, .pointer (some ⟨b3, 0, none⟩)), (4, .pointer (some ⟨b4, 0, none⟩)), (5, .slice a10 d.length c10), (6, .pointer (some ⟨b6, 0, none⟩)), (7, .int .i64 (i : Int))] ∧ hp_ = [N4, N6, N10, N3, N2, R] ∧ 20 - i = ms_ ∧ (i ≤ 20) ∧ (Blk N4 b4 50 (u8s (d.take i ++ List.replicate (20 - i) 0)))) ?_ (.refl _) ⟨0, N4, rfl, rfl, rfl, Nat.zero_le _, B4⟩ ?_
      · exact .cons (by first | exact lkI rfl (by omega) | rfl) (.cons (by first | exact lkI rfl (by omega) | rfl) (.cons (by first | exact lkI rfl (by omega) | rfl) (.cons (by first | exact lkI rfl (by omega) | rfl) (.cons (by first | exact lkI rfl (by omega) | rfl) (.cons (by first | exact lkI rfl (by omega) | rfl) .nil)))))
      rintro _ _ _ ⟨i, N4, rfl, rfl, rfl, hi, B4⟩
      refine At.seq fun K12 hk_12 => ?_
      refine At.seq fun K13 hk_13 => ?_
      refine At.region ?_
      refine op_move (nxlf rfl) rfl rfl ?_
      refine op_lss (nxlf rfl) rfl rfl rfl ?_
      refine At.opsNil ?_
      refine At.norm (hk_13 ?_)
      refine At.condP rfl (fun c24 => ?_) (fun c24 => ?_)
      · refine At.knowT (d := 24) rfl c24 ?_
        refine At.skip ?_
        refine At.norm (hk_12 ?_)
        refine At.seq fun K14 hk_14 => ?_
        refine At.block ?_
        refine At.region ?_
        refine op_move (nxlf rfl) rfl rfl ?_
        refine op_move (nxlf rfl) rfl rfl ?_
        refine op_move (nxlf rfl) rfl rfl ?_
        refine op_idx1 (nxlf rfl) se22 rfl rfl s10 (show _ = (((i : Nat)) : Int) from by omega) (by omega) rfl ?_
        refine op_loadE (nxlf rfl) sc5 rfl s10 (by first | exact get8 (by omega) | exact get64 (by omega) | exact get32 (by omega)) (by first | exact mem0 | exact mem1 | exact mem2 | exact mem3 | exact mem4 | exact mem5 | exact mem6 | exact mem7 | exact mem8 | exact mem9) rfl ?_
        refine op_idxA (nxlf rfl) ae50 rfl rfl (show _ = (((i : Nat)) : Int) from by omega) (by omega) rfl ?_
        refine op_store (nxl rfl) sz5 rfl rfl rfl rfl rfl B4 (by simp [u8s]; omega) sel0 (fun N4 B4 => ?_)
        rw [set8A, put_at (by rw [List.length_take]; omega) (by omega), show d.take i ++ [d.getD i 0] = d.take (i + 1) by rw [List.take_add_one, List.getElem?_eq_getElem (show i < d.length by omega), Option.toList_some, List.getD_eq_getElem?_getD, List.getElem?_eq_getElem (show i < d.length by omega), Option.getD_some], show 20 - i - 1 = 20 - (i + 1) by omega] at B4
        refine At.opsNil ?_
        refine At.inNorm ?_
        refine At.norm (hk_14 ?_)
        refine At.region ?_
        refine op_move (nxlf rfl) rfl rfl ?_
        refine op_addI (nxlf rfl) rfl rfl (by omega) (by omega) rfl ?_
        refine op_assign (nxlf rfl) rfl rfl ?_
        refine At.opsNil ?_
        refine At.norm ?_
        refine At.back ?_ (.refl _) ⟨i + 1, N4, rfl, rfl, rfl, by omega, B4⟩ ?_
        · exact .cons (by first | exact lkI rfl (by omega) | rfl) (.cons (by first | exact lkI rfl (by omega) | rfl) (.cons (by first | exact lkI rfl (by omega) | rfl) (.cons (by first | exact lkI rfl (by omega) | rfl) (.cons (by first | exact lkI rfl (by omega) | rfl) (.cons (by first | exact lkI rfl (by omega) | rfl) .nil)))))
        · omega
      · refine At.knowF (d := 24) rfl c24 ?_
        refine At.exit (At.thenExit (At.thenExit (At.inHit ?_)))
        refine At.norm (hk_10 ?_)
        refine At.seq fun K15 hk_15 => ?_
        refine At.perm sel5 ?_
        refine At.perm sel2 ?_
        refine At.perm sel2 ?_
        refine At.perm sel5 ?_
        refine At.perm sel5 ?_
        refine At.perm sel5 ?_
        refine At.drawnS [N4, N6, R] [3] [] [0,1,2,3] (by kernel_rfl) (by kernel_rfl) (.cons _ (.cons _ (.cons _ (.refl _)))) ?_
        have hi20 : i = 20 := by omega
        rw [hi20, ← hd20, List.take_length, Nat.sub_self, List.replicate_zero, List.append_nil, hE1 he hd20] at B4
        have hEl : Zz.length = 20 := by rw [← hE1 he hd20]; exact hd20
        refine op_loadAggB (ds := u8s Zz) (nxsf rfl rfl rfl) ag50 rfl B4 (by first | (rw [List.drop_zero, List.take_of_length_le (by first | (simp; done) | (simp; omega))]; done) | rfl) (by first | (simp; done) | (simp; omega)) mem0 rfl ?_
        refine op_loadAggB (ds := [_, _]) (nxsf rfl rfl rfl) ag30 rfl B6 rfl rfl mem1 rfl ?_
        refine op_store (nxsm rfl rfl rfl) sz50 rfl rfl rfl (by simp [u8s]; omega) (all8x _) B2 (by simp [u8s]; omega) sel2 (fun N2 B2 => ?_)
        rw [setL_whole (by simp [u8s]; omega)] at B2
        refine At.moreS (Lst := [N4, N6, R]) (Lst' := [N4, N6, R]) (.refl _) (.cons _ (.cons _ (.cons _ (.refl _)))) ?_
        refine op_store (nxsl rfl rfl rfl rfl) sz30 rfl rfl rfl rfl rfl B3 (by simp) sel2 (fun N3 B3 => ?_)
        simp only [setL, List.set] at B3
        refine At.sNil ?_
        refine At.norm (hk_15 ?_)
        refine At.ret (?_)
        refine At.sub (L' := [N3, N2, R]) (.cons_cons _ (.cons_cons _ (.cons _ (.cons _ (.cons _ (.cons_cons _ (.slnil))))))) ?_
        refine At.perm sel2 ?_
        refine At.perm sel1 ?_
        refine At.perm sel2 ?_
        refine At.retN (L1 := []) rfl (.cell rfl (res_agg (ds := u8s Zz) ag50 B2 (by rw [List.drop_zero, List.take_of_length_le (by simp [u8s]; omega)]) (by simp [u8s]; omega) mem0) (.cell rfl (res_agg (ds := [_, _]) ag30 B3 rfl rfl mem1) .nil)) rfl (.cons _ (.cons _ (.refl _))) (.refl _) ?_
        exact ⟨by rw [hw2, hp2]; rfl, rfl⟩
set_option maxRecDepth 100000 in
set_option maxHeartbeats 2000000 in
theorem rHash_f (s : List UInt8) (hs : s.length ≤ 1099511627776) : Fn Tryd.prog 22 #[str s] [] [] (ArrP (arrR s 32)) := by
  have hF := rBytes_f s hs
  rw [← bytes_same] at hF
  unfold arrR
  obtain ⟨y, hy⟩ : ∃ y, justR s 32 = y := ⟨_, rfl⟩
  have hR : justR s 32 = if (bytesR s).2.1 ≠ 0 then ([], (bytesR s).2.1, (bytesR s).2.2) else if (bytesR s).1.length ≠ 32 then ([], 6, 0) else bytesR s := rfl
  rw [hy] at hR ⊢
  generalize bytesR s = z at hF hR
  obtain ⟨d, wy, pl⟩ := z
  obtain ⟨e, w2, p2⟩ := y
  simp only at hR ⊢
  replace hF : Fn Tryd.prog 16 #[str s] [] [] (fun v L => ∃ M a c, v = .tuple #[.slice a d.length c, faultV (wy : Int) (pl : Int)] ∧ L = [M] ∧ Row M 5 1 a d.length c (u8s d)) := hF
  have hR0 : wy ≠ 0 → e = [] ∧ w2 = wy ∧ p2 = pl := fun h => by rw [if_pos h] at hR; injection hR with e1 e2; injection e2 with e2 e3; exact ⟨e1, e2, e3⟩
  have hR1 : wy = 0 → d.length ≠ 32 → e = [] ∧ w2 = 6 ∧ p2 = 0 := fun h h2 => by rw [if_neg (fun e => e h), if_pos h2] at hR; injection hR with e1 e2; injection e2 with e2 e3; exact ⟨e1, e2, e3⟩
  have hR2 : wy = 0 → d.length = 32 → e = d ∧ w2 = wy ∧ p2 = pl := fun h h2 => by rw [if_neg (fun e => e h), if_neg (fun e => e h2)] at hR; injection hR with e1 e2; injection e2 with e2 e3; exact ⟨e1, e2, e3⟩
  obtain ⟨Zz, hE⟩ : ∃ Zz, e ++ List.replicate (32 - e.length) 0 = Zz := ⟨_, rfl⟩
  have hE0 : e = [] → List.replicate 32 0 = Zz := fun h => by rw [← hE, h]; rfl
  have hE1 : e = d → d.length = 32 → d = Zz := fun h h2 => by rw [← hE, h, h2]; simp
  rw [hE]
  refine Fn.enter (vs := [str s]) Tryd.func22 rfl rfl rfl ?_
  intro E R hR
  change At _ _ E [R] _
  refine At.seq fun K1 hk_1 => ?_
  refine At.region ?_
  refine op_alloc (nxla rfl) ze54 rfl (fun N2 b2 B2 => ?_)
  change Blk N2 b2 _ [.int .u8 0, .int .u8 0, .int .u8 0, .int .u8 0, .int .u8 0, .int .u8 0, .int .u8 0, .int .u8 0, .int .u8 0, .int .u8 0, .int .u8 0, .int .u8 0, .int .u8 0, .int .u8 0, .int .u8 0, .int .u8 0, .int .u8 0, .int .u8 0, .int .u8 0, .int .u8 0, .int .u8 0, .int .u8 0, .int .u8 0, .int .u8 0, .int .u8 0, .int .u8 0, .int .u8 0, .int .u8 0, .int .u8 0, .int .u8 0, .int .u8 0, .int .u8 0] at B2
  change Blk N2 b2 _ (u8s (List.replicate 32 0)) at B2
  refine op_alloc (nxla rfl) ze30 rfl (fun N3 b3 B3 => ?_)
  change Blk N3 b3 _ [.int .i64 0, .int .i64 0] at B3
  change Blk N3 b3 _ [.int .i64 0, .int .i64 0] at B3
  refine At.opsNil ?_
  refine At.norm (hk_1 ?_)
  refine At.seq fun K2 hk_2 => ?_
  refine At.region ?_
  refine op_alloc (nxla rfl) ze54 rfl (fun N4 b4 B4 => ?_)
  change Blk N4 b4 _ [.int .u8 0, .int .u8 0, .int .u8 0, .int .u8 0, .int .u8 0, .int .u8 0, .int .u8 0, .int .u8 0, .int .u8 0, .int .u8 0, .int .u8 0, .int .u8 0, .int .u8 0, .int .u8 0, .int .u8 0, .int .u8 0, .int .u8 0, .int .u8 0, .int .u8 0, .int .u8 0, .int .u8 0, .int .u8 0, .int .u8 0, .int .u8 0, .int .u8 0, .int .u8 0, .int .u8 0, .int .u8 0, .int .u8 0, .int .u8 0, .int .u8 0, .int .u8 0] at B4
  change Blk N4 b4 _ (u8s (List.replicate 32 0)) at B4
  refine At.opsNil ?_
  refine At.norm (hk_2 ?_)
  refine At.seq fun K3 hk_3 => ?_
  refine At.region ?_
  refine op_move (nxlf rfl) rfl rfl ?_
  refine op_callA (nxla rfl) (.cons rfl .nil) (hF) Tryd.func16 rfl rfl (by simp) rfl ?_
  rintro v10 L10 ⟨N10, a10, c10, rfl, rfl, r10⟩
  change At _ _ _ [N10, N4, N3, N2, R] _
  refine op_move (nxlf rfl) rfl rfl ?_
  refine op_extract (nxlf rfl) rfl rfl rfl ?_
  refine op_extract (nxlf rfl) rfl rfl rfl ?_
  refine op_alloc (nxla rfl) ze30 rfl (fun N6 b6 B6 => ?_)
  change Blk N6 b6 _ [.int .i64 0, .int .i64 0] at B6
  refine op_assign (nxlf rfl) rfl rfl ?_
  refine op_store (nxl rfl) sz30 rfl rfl rfl rfl rfl B6 (by simp) sel0 (fun N6 B6 => ?_)
  simp only [setL, List.set] at B6
  refine At.opsNil ?_
  refine At.norm (hk_3 ?_)
  refine At.seq fun K4 hk_4 => ?_
  refine At.seq fun K5 hk_5 => ?_
  refine At.region ?_
  refine op_fieldAddr (nxlf rfl) fl30_0 rfl rfl ?_
  refine op_loadB (nxlf rfl) sc28 rfl B6 (by first | rfl) mem0 rfl ?_
  refine op_neq (nxlf rfl) rfl rfl rfl ?_
  refine At.opsNil ?_
  refine At.norm (hk_5 ?_)
  refine At.condP rfl (fun c15 => ?_) (fun c15 => ?_)
  · refine At.knowT (d := 15) rfl c15 ?_
    obtain ⟨he, hw2, hp2⟩ := hR0 (by omega)
    refine At.seq fun K6 hk_6 => ?_
    refine At.perm sel5 ?_
    refine At.perm sel1 ?_
    refine At.perm sel3 ?_
    refine At.perm sel5 ?_
    refine At.perm sel5 ?_
    refine At.perm sel5 ?_
    refine At.drawnS [N4, N6, R] [3] [] [0,1,2,3] (by kernel_rfl) (by kernel_rfl) (.cons _ (.cons _ (.cons _ (.refl _)))) ?_
    refine op_loadAggB (ds := u8s (List.replicate 32 0)) (nxsf rfl rfl rfl) ag54 rfl B4 (by first | (rw [List.drop_zero, List.take_of_length_le (by first | (simp; done) | (simp; omega))]; done) | rfl) (by first | (simp; done) | (simp; omega)) mem0 rfl ?_
    refine op_loadAggB (ds := [_, _]) (nxsf rfl rfl rfl) ag30 rfl B6 rfl rfl mem1 rfl ?_
    refine op_store (nxsm rfl rfl rfl) sz54 rfl rfl rfl rfl rfl B2 (by simp) sel2 (fun N2 B2 => ?_)
    rw [setL_whole (by simp [u8s]), hE0 he] at B2
    refine At.moreS (Lst := [N4, N6, R]) (Lst' := [N4, N6, R]) (.refl _) (.cons _ (.cons _ (.cons _ (.refl _)))) ?_
    refine op_store (nxsl rfl rfl rfl rfl) sz30 rfl rfl rfl rfl rfl B3 (by simp) sel2 (fun N3 B3 => ?_)
    simp only [setL, List.set] at B3
    refine At.sNil ?_
    refine At.norm (hk_6 ?_)
    refine At.ret (At.thenRet (?_))
    have hEl : Zz.length = 32 := by rw [← hE0 he]; rfl
    refine At.sub (L' := [N3, N2, R]) (.cons_cons _ (.cons_cons _ (.cons _ (.cons _ (.cons _ (.cons_cons _ (.slnil))))))) ?_
    refine At.perm sel2 ?_
    refine At.perm sel1 ?_
    refine At.perm sel2 ?_
    refine At.retN (L1 := []) rfl (.cell rfl (res_agg (ds := u8s Zz) ag54 B2 (by rw [List.drop_zero, List.take_of_length_le (by simp [u8s]; omega)]) (by simp [u8s]; omega) mem0) (.cell rfl (res_agg (ds := [_, _]) ag30 B3 rfl rfl mem1) .nil)) rfl (.cons _ (.cons _ (.refl _))) (.refl _) ?_
    exact ⟨by rw [hw2, hp2]; rfl, rfl⟩
  · refine At.knowF (d := 15) rfl c15 ?_
    refine At.skip ?_
    refine At.norm (hk_4 ?_)
    refine At.seq fun K7 hk_7 => ?_
    refine At.seq fun K8 hk_8 => ?_
    refine At.region ?_
    refine op_move (nxlf rfl) rfl rfl ?_
    refine op_lenS (nxlf rfl) se22 rfl rfl ?_
    refine op_neq (nxlf rfl) rfl rfl rfl ?_
    refine At.opsNil ?_
    refine At.norm (hk_8 ?_)
    refine At.condP rfl (fun c20 => ?_) (fun c20 => ?_)
    · refine At.knowT (d := 20) rfl c20 ?_
      obtain ⟨he, hw2, hp2⟩ := hR1 (by omega) (by omega)
      refine At.seq fun K9 hk_9 => ?_
      refine At.perm sel5 ?_
      refine At.perm sel1 ?_
      refine At.perm sel3 ?_
      refine At.perm sel5 ?_
      refine At.perm sel5 ?_
      refine At.perm sel5 ?_
      refine At.drawnS [N4, N6, R] [2,3] [] [0,1,2,3] (by kernel_rfl) (by kernel_rfl) (.cons _ (.cons _ (.cons _ (.refl _)))) ?_
      refine op_loadAggB (ds := u8s (List.replicate 32 0)) (nxsf rfl rfl rfl) ag54 rfl B4 (by first | (rw [List.drop_zero, List.take_of_length_le (by first | (simp; done) | (simp; omega))]; done) | rfl) (by first | (simp; done) | (simp; omega)) mem0 rfl ?_
      refine op_callA (Nx.agree (nxsm rfl rfl rfl)) (.cons rfl (.cons rfl .nil)) (rfault_f 6 0) Tryd.func39 rfl rfl (by simp) rfl ?_
      rintro v22 L22 ⟨rfl, rfl⟩
      change At _ _ _ [N10, N3, N2, N4, N6, R] _
      refine At.moreS (Lst := [N4, N6, R]) (Lst' := [N4, N6, R]) (.refl _) (.cons _ (.cons _ (.cons _ (.refl _)))) ?_
      refine op_store (nxss rfl rfl rfl rfl) sz54 rfl rfl rfl rfl rfl B2 (by simp) sel2 (fun N2 B2 => ?_)
      rw [setL_whole (by simp [u8s]), hE0 he] at B2
      refine At.anyS (.refl _) ?_
      refine op_store (nxsl rfl rfl rfl rfl) sz30 rfl rfl rfl rfl rfl B3 (by simp) sel2 (fun N3 B3 => ?_)
      simp only [setL, List.set] at B3
      refine At.sNil ?_
      refine At.norm (hk_9 ?_)
      refine At.ret (At.thenRet (?_))
      have hEl : Zz.length = 32 := by rw [← hE0 he]; rfl
      refine At.sub (L' := [N3, N2, R]) (.cons_cons _ (.cons_cons _ (.cons _ (.cons _ (.cons _ (.cons_cons _ (.slnil))))))) ?_
      refine At.perm sel2 ?_
      refine At.perm sel1 ?_
      refine At.perm sel2 ?_
      refine At.retN (L1 := []) rfl (.cell rfl (res_agg (ds := u8s Zz) ag54 B2 (by rw [List.drop_zero, List.take_of_length_le (by simp [u8s]; omega)]) (by simp [u8s]; omega) mem0) (.cell rfl (res_agg (ds := [_, _]) ag30 B3 rfl rfl mem1) .nil)) rfl (.cons _ (.cons _ (.refl _))) (.refl _) ?_
      exact ⟨by rw [hw2, hp2]; rfl, rfl⟩
    · refine At.knowF (d := 20) rfl c20 ?_
      obtain ⟨he, hw2, hp2⟩ := hR2 (by omega) (by omega)
      have hd20 : d.length = 32 := by omega
      have s10 := r10.rsl
      refine At.skip ?_
      refine At.norm (hk_7 ?_)
      refine At.seq fun K10 hk_10 => ?_
      refine At.seq fun K11 hk_11 => ?_
      refine At.region ?_
      refine op_assign (nxlf rfl) rfl rfl ?_
      refine At.opsNil ?_
      refine At.norm (hk_11 ?_)
      refine At.block ?_
      refine At.perm sel5 ?_
      refine At.perm sel5 ?_
      refine At.perm sel5 ?_
      refine At.perm sel4 ?_
      refine At.perm sel4 ?_
      refine At.perm sel5 ?_
      refine At.loop (fun fr_ hp_ ms_ => ∃ (i : Nat) (N4 : Heaplet), fr_ = [(2, .pointer (some ⟨b2, 0, none⟩)), (3, .pointer (some ⟨b3, 0, none⟩)), (4, .pointer (some ⟨b4, 0, none⟩)), (5, .slice a10 d.length c10), (6, .pointer (some ⟨b6, 0, none⟩)), (7, .int .i64 (i : Int))] ∧ hp_ = [N4, N6, N10, N3, N2, R] ∧ 32 - i = ms_ ∧ (i ≤ 32) ∧ (Blk N4 b4 54 (u8s (d.take i ++ List.replicate (32 - i) 0)))) ?_ (.refl _) ⟨0, N4, rfl, rfl, rfl, Nat.zero_le _, B4⟩ ?_
      · exact .cons (by first | exact lkI rfl (by omega) | rfl) (.cons (by first | exact lkI rfl (by omega) | rfl) (.cons (by first | exact lkI rfl (by omega) | rfl) (.cons (by first | exact lkI rfl (by omega) | rfl) (.cons (by first | exact lkI rfl (by omega) | rfl) (.cons (by first | exact lkI rfl (by omega) | rfl) .nil)))))
      rintro _ _ _ ⟨i, N4, rfl, rfl, rfl, hi, B4⟩
      refine At.seq fun K12 hk_12 => ?_
      refine At.seq fun K13 hk_13 => ?_
      refine At.region ?_
      refine op_move (nxlf rfl) rfl rfl ?_
      refine op_lss (nxlf rfl) rfl rfl rfl ?_
      refine At.opsNil ?_
      refine At.norm (hk_13 ?_)
      refine At.condP rfl (fun c24 => ?_) (fun c24 => ?_)
      · refine At.knowT (d := 24) rfl c24 ?_
        refine At.skip ?_
        refine At.norm (hk_12 ?_)
        refine At.seq fun K14 hk_14 => ?_
        refine At.block ?_
        refine At.region ?_
        refine op_move (nxlf rfl) rfl rfl ?_
        refine op_move (nxlf rfl) rfl rfl ?_
        refine op_move (nxlf rfl) rfl rfl ?_
        refine op_idx1 (nxlf rfl) se22 rfl rfl s10 (show _ = (((i : Nat)) : Int) from by omega) (by omega) rfl ?_
        refine op_loadE (nxlf rfl) sc5 rfl s10 (by first | exact get8 (by omega) | exact get64 (by omega) | exact get32 (by omega)) (by first | exact mem0 | exact mem1 | exact mem2 | exact mem3 | exact mem4 | exact mem5 | exact mem6 | exact mem7 | exact mem8 | exact mem9) rfl ?_
        refine op_idxA (nxlf rfl) ae54 rfl rfl (show _ = (((i : Nat)) : Int) from by omega) (by omega) rfl ?_
        refine op_store (nxl rfl) sz5 rfl rfl rfl rfl rfl B4 (by simp [u8s]; omega) sel0 (fun N4 B4 => ?_)
        rw [set8A, put_at (by rw [List.length_take]; omega) (by omega), show d.take i ++ [d.getD i 0] = d.take (i + 1) by rw [List.take_add_one, List.getElem?_eq_getElem (show i < d.length by omega), Option.toList_some, List.getD_eq_getElem?_getD, List.getElem?_eq_getElem (show i < d.length by omega), Option.getD_some], show 32 - i - 1 = 32 - (i + 1) by omega] at B4
        refine At.opsNil ?_
        refine At.inNorm ?_
        refine At.norm (hk_14 ?_)
        refine At.region ?_
        refine op_move (nxlf rfl) rfl rfl ?_
        refine op_addI (nxlf rfl) rfl rfl (by omega) (by omega) rfl ?_
        refine op_assign (nxlf rfl) rfl rfl ?_
        refine At.opsNil ?_
        refine At.norm ?_
        refine At.back ?_ (.refl _) ⟨i + 1, N4, rfl, rfl, rfl, by omega, B4⟩ ?_
        · exact .cons (by first | exact lkI rfl (by omega) | rfl) (.cons (by first | exact lkI rfl (by omega) | rfl) (.cons (by first | exact lkI rfl (by omega) | rfl) (.cons (by first | exact lkI rfl (by omega) | rfl) (.cons (by first | exact lkI rfl (by omega) | rfl) (.cons (by first | exact lkI rfl (by omega) | rfl) .nil)))))
        · omega
      · refine At.knowF (d := 24) rfl c24 ?_
        refine At.exit (At.thenExit (At.thenExit (At.inHit ?_)))
        refine At.norm (hk_10 ?_)
        refine At.seq fun K15 hk_15 => ?_
        refine At.perm sel5 ?_
        refine At.perm sel2 ?_
        refine At.perm sel2 ?_
        refine At.perm sel5 ?_
        refine At.perm sel5 ?_
        refine At.perm sel5 ?_
        refine At.drawnS [N4, N6, R] [3] [] [0,1,2,3] (by kernel_rfl) (by kernel_rfl) (.cons _ (.cons _ (.cons _ (.refl _)))) ?_
        have hi20 : i = 32 := by omega
        rw [hi20, ← hd20, List.take_length, Nat.sub_self, List.replicate_zero, List.append_nil, hE1 he hd20] at B4
        have hEl : Zz.length = 32 := by rw [← hE1 he hd20]; exact hd20
        refine op_loadAggB (ds := u8s Zz) (nxsf rfl rfl rfl) ag54 rfl B4 (by first | (rw [List.drop_zero, List.take_of_length_le (by first | (simp; done) | (simp; omega))]; done) | rfl) (by first | (simp; done) | (simp; omega)) mem0 rfl ?_
        refine op_loadAggB (ds := [_, _]) (nxsf rfl rfl rfl) ag30 rfl B6 rfl rfl mem1 rfl ?_
        refine op_store (nxsm rfl rfl rfl) sz54 rfl rfl rfl (by simp [u8s]; omega) (all8x _) B2 (by simp [u8s]; omega) sel2 (fun N2 B2 => ?_)
        rw [setL_whole (by simp [u8s]; omega)] at B2
        refine At.moreS (Lst := [N4, N6, R]) (Lst' := [N4, N6, R]) (.refl _) (.cons _ (.cons _ (.cons _ (.refl _)))) ?_
        refine op_store (nxsl rfl rfl rfl rfl) sz30 rfl rfl rfl rfl rfl B3 (by simp) sel2 (fun N3 B3 => ?_)
        simp only [setL, List.set] at B3
        refine At.sNil ?_
        refine At.norm (hk_15 ?_)
        refine At.ret (?_)
        refine At.sub (L' := [N3, N2, R]) (.cons_cons _ (.cons_cons _ (.cons _ (.cons _ (.cons _ (.cons_cons _ (.slnil))))))) ?_
        refine At.perm sel2 ?_
        refine At.perm sel1 ?_
        refine At.perm sel2 ?_
        refine At.retN (L1 := []) rfl (.cell rfl (res_agg (ds := u8s Zz) ag54 B2 (by rw [List.drop_zero, List.take_of_length_le (by simp [u8s]; omega)]) (by simp [u8s]; omega) mem0) (.cell rfl (res_agg (ds := [_, _]) ag30 B3 rfl rfl mem1) .nil)) rfl (.cons _ (.cons _ (.refl _))) (.refl _) ?_
        exact ⟨by rw [hw2, hp2]; rfl, rfl⟩
theorem digs0 (d : List UInt8) : (digsOf (numD (d.take 0))).length = 0 ∧ digsOf (numD (d.take 0)) = [] := by
  have e : numD (d.take 0) = 0 := rfl
  have h : (digsOf 0).length = 0 := by
    rw [length_digsOf]
    have := bitLen_le (n := 0) (k := 0)
    omega
  rw [e]
  exact ⟨h, List.eq_nil_of_length_eq_zero h⟩
theorem hdigs_le {V k : Nat} (h : V < 2 ^ k) : (digsOf V).length ≤ (k + 31) / 32 := by
  rw [length_digsOf]
  have := bitLen_le.2 h
  omega
section
variable {N M : Heaplet} {p q : Option Addr} {n m c k A B : Nat}
theorem hAdd_f (ha : RSl N 1 p n c (u32s (digsOf A))) (hb : RSl M 1 q m k (u32s (digsOf B))) (hn : n ≤ 1099511627776) (hm : m ≤ 1099511627776) : Fn Tryd.prog 44 #[.slice p n c, .slice q m k] [] [N, M] (DigsP (A + B)) := by
  have := rAdd_f ha hb hn hm
  rw [v32_digsOf, v32_digsOf] at this
  exact this
theorem hShl4_f (ha : RSl N 1 p n c (u32s (digsOf A))) (hn : n ≤ 1099511627776) : Fn Tryd.prog 45 #[.slice p n c, .int .i64 4] [] [N] (DigsP (A * 16)) := by
  have := rShl_f ha 4 hn (by decide)
  rw [v32_digsOf] at this
  exact this
end
set_option maxRecDepth 100000 in
set_option maxHeartbeats 2000000 in
theorem rNumber_f (s : List UInt8) (hs : s.length ≤ 1099511627776) : Fn Tryd.prog 18 #[str s] [] [] (NumP (rNumR s)) := by
  have hF := rDigits_f s hs
  have hdl := dgR_digits s
  have hln := dgR_len s
  obtain ⟨y, hy⟩ : ∃ y, rNumR s = y := ⟨_, rfl⟩
  have hR : rNumR s = if 1 < (dgR s).1.length ∧ ((dgR s).1.getD 0 0).toNat = 0 then (0, 2, 3) else if 64 < (dgR s).1.length then (0, 3, 66) else if 0 ≤ (dgR s).2 then (0, 2, (dgR s).2.toNat) else if (dgR s).1.length = 0 then (0, 2, 2) else (numD (dgR s).1, 0, 0) := rfl
  rw [hy] at hR ⊢
  generalize dgR s = z at hF hdl hln hR
  obtain ⟨d, a⟩ := z
  obtain ⟨W, wh, pl⟩ := y
  simp only at hdl hln hR
  replace hF : Fn Tryd.prog 38 #[str s] [] [] (fun v L => ∃ M p c, v = .tuple #[.slice p d.length c, .int .i64 a] ∧ L = [M] ∧ RSl M 1 p d.length c (i64s d)) := hF
  have hdd := digit_lt hdl
  have hnl := numD_lt d hdd
  have hR0 : 1 < d.length ∧ (d.getD 0 0).toNat = 0 → W = 0 ∧ wh = 2 ∧ pl = 3 := fun h => by rw [if_pos h] at hR; injection hR with e1 e2; injection e2 with e2 e3; exact ⟨e1, e2, e3⟩
  have hR1 : ¬ (1 < d.length ∧ (d.getD 0 0).toNat = 0) → 64 < d.length → W = 0 ∧ wh = 3 ∧ pl = 66 := fun h h2 => by rw [if_neg h, if_pos h2] at hR; injection hR with e1 e2; injection e2 with e2 e3; exact ⟨e1, e2, e3⟩
  have hR2 : ¬ (1 < d.length ∧ (d.getD 0 0).toNat = 0) → ¬ 64 < d.length → 0 ≤ a → W = 0 ∧ wh = 2 ∧ pl = a.toNat := fun h h2 h3 => by rw [if_neg h, if_neg h2, if_pos h3] at hR; injection hR with e1 e2; injection e2 with e2 e3; exact ⟨e1, e2, e3⟩
  have hR3 : ¬ (1 < d.length ∧ (d.getD 0 0).toNat = 0) → ¬ 64 < d.length → ¬ 0 ≤ a → d.length = 0 → W = 0 ∧ wh = 2 ∧ pl = 2 := fun h h2 h3 h4 => by rw [if_neg h, if_neg h2, if_neg h3, if_pos h4] at hR; injection hR with e1 e2; injection e2 with e2 e3; exact ⟨e1, e2, e3⟩
  have hR4 : ¬ (1 < d.length ∧ (d.getD 0 0).toNat = 0) → ¬ 64 < d.length → ¬ 0 ≤ a → ¬ d.length = 0 → W = numD d ∧ wh = 0 ∧ pl = 0 := fun h h2 h3 h4 => by rw [if_neg h, if_neg h2, if_neg h3, if_neg h4] at hR; injection hR with e1 e2; injection e2 with e2 e3; exact ⟨e1, e2, e3⟩
  clear hR
  refine Fn.enter (vs := [str s]) Tryd.func18 rfl rfl rfl ?_
  intro E R hR
  change At _ _ E [R] _
  refine At.seq fun K1 hk_1 => ?_
  refine At.region ?_
  refine op_alloc (nxla rfl) ze46 rfl (fun N2 b2 B2 => ?_)
  change Blk N2 b2 _ [.int .u64 0, .int .u64 0, .int .u64 0, .int .u64 0] at B2
  change Blk N2 b2 _ (u64s (wl 0)) at B2
  refine op_alloc (nxla rfl) ze30 rfl (fun N3 b3 B3 => ?_)
  change Blk N3 b3 _ [.int .i64 0, .int .i64 0] at B3
  change Blk N3 b3 _ [.int .i64 0, .int .i64 0] at B3
  refine At.opsNil ?_
  refine At.norm (hk_1 ?_)
  refine At.seq fun K2 hk_2 => ?_
  refine At.region ?_
  refine op_move (nxlf rfl) rfl rfl ?_
  refine op_callA (nxla rfl) (.cons rfl .nil) (hF) Tryd.func38 rfl rfl (by simp) rfl ?_
  rintro v10 L10 ⟨N10, p10, c10, rfl, rfl, s10⟩
  change At _ _ _ [N10, N3, N2, R] _
  refine op_move (nxlf rfl) rfl rfl ?_
  refine op_extract (nxlf rfl) rfl rfl rfl ?_
  refine op_extract (nxlf rfl) rfl rfl rfl ?_
  refine op_assign (nxlf rfl) rfl rfl ?_
  refine op_assign (nxlf rfl) rfl rfl ?_
  refine At.opsNil ?_
  refine At.norm (hk_2 ?_)
  refine At.seq fun K3 hk_3 => ?_
  refine At.seq fun K4 hk_4 => ?_
  refine At.region ?_
  refine op_move (nxlf rfl) rfl rfl ?_
  refine op_lenS (nxlf rfl) se78 rfl rfl ?_
  refine op_gtr (nxlf rfl) rfl rfl rfl ?_
  refine op_move (nxlf rfl) rfl rfl ?_
  refine At.partP (d := 16) rfl (fun g16 => ?_) (fun g16 => ?_)
  · refine op_move (nxgf rfl rfl rfl rfl) rfl rfl ?_
    refine op_idx1 (nxgf rfl rfl rfl rfl) se78 rfl rfl s10 (show _ = (((0 : Nat)) : Int) from by omega) (by omega) rfl ?_
    refine op_loadE (nxgf rfl rfl rfl rfl) sc3 rfl s10 (by first | exact get8 (by omega) | exact get64 (by omega) | exact get32 (by omega) | exact getIn (by omega)) (by first | exact mem0 | exact mem1 | exact mem2 | exact mem3 | exact mem4 | exact mem5 | exact mem6 | exact mem7 | exact mem8 | exact mem9) rfl ?_
    refine op_eql (nxgf rfl rfl rfl rfl) rfl rfl rfl ?_
    refine op_pickT (nxlf rfl) rfl rfl rfl ?_
    refine At.opsNil ?_
    refine At.norm (hk_4 ?_)
    refine At.condP rfl (fun c21 => ?_) (fun c21 => ?_)
    · refine At.knowT (d := 21) rfl c21 ?_
      obtain ⟨hW, hwh, hpl⟩ := hR0 ⟨by omega, by omega⟩
      refine At.seq fun K5 hk_5 => ?_
      refine At.region ?_
      refine op_buildA (out := [.int .u64 0, .int .u64 0, .int .u64 0, .int .u64 0]) (nxlf rfl) ze46 ae46 .nil rfl rfl ?_
      refine op_callA (nxla rfl) (.cons rfl (.cons rfl .nil)) (rfault_f 2 3) Tryd.func39 rfl rfl (by simp) rfl ?_
      rintro v23 L23 ⟨rfl, rfl⟩
      change At _ _ _ [N10, N3, N2, R] _
      refine op_store (nxl rfl) sz46 rfl rfl rfl rfl rfl B2 (by simp) sel2 (fun N2 B2 => ?_)
      change Blk N2 b2 _ (u64s (wl 0)) at B2; rw [← hW] at B2
      refine op_store (nxl rfl) sz30 rfl rfl rfl rfl rfl B3 (by simp) sel2 (fun N3 B3 => ?_)
      simp only [setL, List.set] at B3
      refine At.opsNil ?_
      refine At.norm (hk_5 ?_)
      refine At.ret (At.thenRet (?_))
      refine At.sub (L' := [N3, N2, R]) (.cons_cons _ (.cons_cons _ (.cons _ (.cons_cons _ (.slnil))))) ?_
      refine At.perm sel2 ?_
      refine At.perm sel1 ?_
      refine At.perm sel2 ?_
      refine At.retN (L1 := []) rfl (.cell rfl (res_agg (ds := u64s (wl W)) ag46 B2 (by first | (rw [List.drop_zero, List.take_of_length_le (by first | (simp; done) | (simp; omega))]; done) | rfl) (by first | (simp; done) | (simp; omega)) mem0) (.cell rfl (res_agg (ds := [_, _]) ag30 B3 rfl rfl mem1) .nil)) rfl (.cons _ (.cons _ (.refl _))) (.refl _) ?_
      first
        | exact ⟨by rw [hwh, hpl]; rfl, rfl⟩
        | exact ⟨by rw [hwh, hpl]; show _ = Value.tuple #[_, faultV _ ((a.toNat : Nat) : Int)]; rw [ha2]; rfl, rfl⟩
    · refine At.knowF (d := 21) rfl c21 ?_
      refine At.skip ?_
      refine At.norm (hk_3 ?_)
      refine At.seq fun K6 hk_6 => ?_
      refine At.seq fun K7 hk_7 => ?_
      refine At.region ?_
      refine op_move (nxlf rfl) rfl rfl ?_
      refine op_lenS (nxlf rfl) se78 rfl rfl ?_
      refine op_gtr (nxlf rfl) rfl rfl rfl ?_
      refine At.opsNil ?_
      refine At.norm (hk_7 ?_)
      refine At.condP rfl (fun c26 => ?_) (fun c26 => ?_)
      · refine At.knowT (d := 26) rfl c26 ?_
        have hno : ¬ (1 < d.length ∧ (d.getD 0 0).toNat = 0) := fun e => by omega
        obtain ⟨hW, hwh, hpl⟩ := hR1 hno (by omega)
        refine At.seq fun K8 hk_8 => ?_
        refine At.region ?_
        refine op_buildA (out := [.int .u64 0, .int .u64 0, .int .u64 0, .int .u64 0]) (nxlf rfl) ze46 ae46 .nil rfl rfl ?_
        refine op_callA (nxla rfl) (.cons rfl (.cons rfl .nil)) (rfault_f 3 66) Tryd.func39 rfl rfl (by simp) rfl ?_
        rintro v28 L28 ⟨rfl, rfl⟩
        change At _ _ _ [N10, N3, N2, R] _
        refine op_store (nxl rfl) sz46 rfl rfl rfl rfl rfl B2 (by simp) sel2 (fun N2 B2 => ?_)
        change Blk N2 b2 _ (u64s (wl 0)) at B2; rw [← hW] at B2
        refine op_store (nxl rfl) sz30 rfl rfl rfl rfl rfl B3 (by simp) sel2 (fun N3 B3 => ?_)
        simp only [setL, List.set] at B3
        refine At.opsNil ?_
        refine At.norm (hk_8 ?_)
        refine At.ret (At.thenRet (?_))
        refine At.sub (L' := [N3, N2, R]) (.cons_cons _ (.cons_cons _ (.cons _ (.cons_cons _ (.slnil))))) ?_
        refine At.perm sel2 ?_
        refine At.perm sel1 ?_
        refine At.perm sel2 ?_
        refine At.retN (L1 := []) rfl (.cell rfl (res_agg (ds := u64s (wl W)) ag46 B2 (by first | (rw [List.drop_zero, List.take_of_length_le (by first | (simp; done) | (simp; omega))]; done) | rfl) (by first | (simp; done) | (simp; omega)) mem0) (.cell rfl (res_agg (ds := [_, _]) ag30 B3 rfl rfl mem1) .nil)) rfl (.cons _ (.cons _ (.refl _))) (.refl _) ?_
        first
          | exact ⟨by rw [hwh, hpl]; rfl, rfl⟩
          | exact ⟨by rw [hwh, hpl]; show _ = Value.tuple #[_, faultV _ ((a.toNat : Nat) : Int)]; rw [ha2]; rfl, rfl⟩
      · refine At.knowF (d := 26) rfl c26 ?_
        refine At.skip ?_
        refine At.norm (hk_6 ?_)
        refine At.seq fun K9 hk_9 => ?_
        refine At.seq fun K10 hk_10 => ?_
        refine At.region ?_
        refine op_move (nxlf rfl) rfl rfl ?_
        refine op_geq (nxlf rfl) rfl rfl rfl ?_
        refine At.opsNil ?_
        refine At.norm (hk_10 ?_)
        refine At.condP rfl (fun c30 => ?_) (fun c30 => ?_)
        · refine At.knowT (d := 30) rfl c30 ?_
          have hno : ¬ (1 < d.length ∧ (d.getD 0 0).toNat = 0) := fun e => by omega
          obtain ⟨hW, hwh, hpl⟩ := hR2 hno (by omega) (by omega)
          have ha2 : ((a.toNat : Nat) : Int) = a := Int.toNat_of_nonneg (by omega)
          refine At.seq fun K11 hk_11 => ?_
          refine At.region ?_
          refine op_buildA (out := [.int .u64 0, .int .u64 0, .int .u64 0, .int .u64 0]) (nxlf rfl) ze46 ae46 .nil rfl rfl ?_
          refine op_move (nxlf rfl) rfl rfl ?_
          refine op_callA (nxla rfl) (.cons rfl (.cons rfl .nil)) (rfault_f 2 a) Tryd.func39 rfl rfl (by simp) rfl ?_
          rintro v33 L33 ⟨rfl, rfl⟩
          change At _ _ _ [N10, N3, N2, R] _
          refine op_store (nxl rfl) sz46 rfl rfl rfl rfl rfl B2 (by simp) sel2 (fun N2 B2 => ?_)
          change Blk N2 b2 _ (u64s (wl 0)) at B2; rw [← hW] at B2
          refine op_store (nxl rfl) sz30 rfl rfl rfl rfl rfl B3 (by simp) sel2 (fun N3 B3 => ?_)
          simp only [setL, List.set] at B3
          refine At.opsNil ?_
          refine At.norm (hk_11 ?_)
          refine At.ret (At.thenRet (?_))
          refine At.sub (L' := [N3, N2, R]) (.cons_cons _ (.cons_cons _ (.cons _ (.cons_cons _ (.slnil))))) ?_
          refine At.perm sel2 ?_
          refine At.perm sel1 ?_
          refine At.perm sel2 ?_
          refine At.retN (L1 := []) rfl (.cell rfl (res_agg (ds := u64s (wl W)) ag46 B2 (by first | (rw [List.drop_zero, List.take_of_length_le (by first | (simp; done) | (simp; omega))]; done) | rfl) (by first | (simp; done) | (simp; omega)) mem0) (.cell rfl (res_agg (ds := [_, _]) ag30 B3 rfl rfl mem1) .nil)) rfl (.cons _ (.cons _ (.refl _))) (.refl _) ?_
          first
            | exact ⟨by rw [hwh, hpl]; rfl, rfl⟩
            | exact ⟨by rw [hwh, hpl]; show _ = Value.tuple #[_, faultV _ ((a.toNat : Nat) : Int)]; rw [ha2]; rfl, rfl⟩
        · refine At.knowF (d := 30) rfl c30 ?_
          refine At.skip ?_
          refine At.norm (hk_9 ?_)
          refine At.seq fun K12 hk_12 => ?_
          refine At.seq fun K13 hk_13 => ?_
          refine At.region ?_
          refine op_move (nxlf rfl) rfl rfl ?_
          refine op_lenS (nxlf rfl) se78 rfl rfl ?_
          refine op_eql (nxlf rfl) rfl rfl rfl ?_
          refine At.opsNil ?_
          refine At.norm (hk_13 ?_)
          refine At.condP rfl (fun c36 => ?_) (fun c36 => ?_)
          · refine At.knowT (d := 36) rfl c36 ?_
            have hno : ¬ (1 < d.length ∧ (d.getD 0 0).toNat = 0) := fun e => by omega
            obtain ⟨hW, hwh, hpl⟩ := hR3 hno (by omega) (by omega) (by omega)
            refine At.seq fun K14 hk_14 => ?_
            refine At.region ?_
            refine op_buildA (out := [.int .u64 0, .int .u64 0, .int .u64 0, .int .u64 0]) (nxlf rfl) ze46 ae46 .nil rfl rfl ?_
            refine op_callA (nxla rfl) (.cons rfl (.cons rfl .nil)) (rfault_f 2 2) Tryd.func39 rfl rfl (by simp) rfl ?_
            rintro v38 L38 ⟨rfl, rfl⟩
            change At _ _ _ [N10, N3, N2, R] _
            refine op_store (nxl rfl) sz46 rfl rfl rfl rfl rfl B2 (by simp) sel2 (fun N2 B2 => ?_)
            change Blk N2 b2 _ (u64s (wl 0)) at B2; rw [← hW] at B2
            refine op_store (nxl rfl) sz30 rfl rfl rfl rfl rfl B3 (by simp) sel2 (fun N3 B3 => ?_)
            simp only [setL, List.set] at B3
            refine At.opsNil ?_
            refine At.norm (hk_14 ?_)
            refine At.ret (At.thenRet (?_))
            refine At.sub (L' := [N3, N2, R]) (.cons_cons _ (.cons_cons _ (.cons _ (.cons_cons _ (.slnil))))) ?_
            refine At.perm sel2 ?_
            refine At.perm sel1 ?_
            refine At.perm sel2 ?_
            refine At.retN (L1 := []) rfl (.cell rfl (res_agg (ds := u64s (wl W)) ag46 B2 (by first | (rw [List.drop_zero, List.take_of_length_le (by first | (simp; done) | (simp; omega))]; done) | rfl) (by first | (simp; done) | (simp; omega)) mem0) (.cell rfl (res_agg (ds := [_, _]) ag30 B3 rfl rfl mem1) .nil)) rfl (.cons _ (.cons _ (.refl _))) (.refl _) ?_
            first
              | exact ⟨by rw [hwh, hpl]; rfl, rfl⟩
              | exact ⟨by rw [hwh, hpl]; show _ = Value.tuple #[_, faultV _ ((a.toNat : Nat) : Int)]; rw [ha2]; rfl, rfl⟩
          · refine At.knowF (d := 36) rfl c36 ?_
            have hno : ¬ (1 < d.length ∧ (d.getD 0 0).toNat = 0) := fun e => by omega
            obtain ⟨hW, hwh, hpl⟩ := hR4 hno (by omega) (by omega) (by omega)
            have hl64 : d.length ≤ 64 := by omega
            refine At.skip ?_
            refine At.norm (hk_12 ?_)
            refine At.seq fun K15 hk_15 => ?_
            refine At.region ?_
            refine op_assign (nxlf rfl) rfl rfl ?_
            refine At.opsNil ?_
            refine At.norm (hk_15 ?_)
            refine At.seq fun K16 hk_16 => ?_
            refine At.seq fun K17 hk_17 => ?_
            refine At.region ?_
            refine op_assign (nxlf rfl) rfl rfl ?_
            refine At.opsNil ?_
            refine At.norm (hk_17 ?_)
            refine At.block ?_
            refine At.empty ?_
            refine At.loop (fun fr_ hp_ ms_ => ∃ (i : Nat) (q : Option Addr) (m c : Nat) (Na : Heaplet), fr_ = [(2, .pointer (some ⟨b2, 0, none⟩)), (3, .pointer (some ⟨b3, 0, none⟩)), (4, .slice p10 d.length c10), (6, .slice q m c), (7, .int .i64 (i : Int))] ∧ hp_ = [Na, N10, N3, N2, R] ∧ d.length - i = ms_ ∧ (i ≤ d.length) ∧ (m = (digsOf (numD (d.take i))).length) ∧ (RSl Na 1 q m c (u32s (digsOf (numD (d.take i)))))) ?_ (.refl _) ⟨0, none, 0, 0, nilH, rfl, rfl, rfl, Nat.zero_le _, (digs0 d).1.symm, by rw [(digs0 d).2]; exact RSl.nil _ _⟩ ?_
            · exact .cons (by first | exact lkI rfl (by omega) | rfl) (.cons (by first | exact lkI rfl (by omega) | rfl) (.cons (by first | exact lkI rfl (by omega) | rfl) (.cons (by first | exact lkI rfl (by omega) | rfl) (.cons (by first | exact lkI rfl (by omega) | rfl) .nil))))
            rintro _ _ _ ⟨i, q, m, c, Na, rfl, rfl, rfl, hi, hm, sa⟩
            refine At.seq fun K18 hk_18 => ?_
            refine At.seq fun K19 hk_19 => ?_
            refine At.region ?_
            refine op_move (nxlf rfl) rfl rfl ?_
            refine op_move (nxlf rfl) rfl rfl ?_
            refine op_lenS (nxlf rfl) se78 rfl rfl ?_
            refine op_lss (nxlf rfl) rfl rfl rfl ?_
            refine At.opsNil ?_
            refine At.norm (hk_19 ?_)
            refine At.condP rfl (fun c42 => ?_) (fun c42 => ?_)
            · refine At.knowT (d := 42) rfl c42 ?_
              have hlt : i < d.length := by omega
              have hV := hnl i (by omega)
              have hp := hexPow64 (i := i) (by omega)
              have hxi := hdd i
              have hu8 : (UInt64.ofNat (d.getD i 0).toNat).toNat = (d.getD i 0).toNat := by rw [UInt64.toNat_ofNat']; omega
              have hl1 := hdigs_le (V := numD (d.take i)) (k := 256) (by omega)
              have hl2 := hdigs_le (V := numD (d.take i) * 16) (k := 256) (by omega)
              have hl3 := hdigs_le (V := (d.getD i 0).toNat) (k := 32) (by omega)
              refine At.skip ?_
              refine At.norm (hk_18 ?_)
              refine At.seq fun K20 hk_20 => ?_
              refine At.block ?_
              refine At.drawn [7,8] [0,2,3,4,5,6,1,7,8,9] (by kernel_rfl) (by kernel_rfl) ?_
              refine op_move (nxof rfl rfl rfl (by kernel_rfl)) rfl rfl ?_
              refine op_move (nxof rfl rfl rfl (by kernel_rfl)) rfl rfl ?_
              refine op_move (nxof rfl rfl rfl (by kernel_rfl)) rfl rfl ?_
              refine op_idx1 (nxof rfl rfl rfl (by kernel_rfl)) se78 rfl rfl s10 (show _ = (((i : Nat)) : Int) from by omega) (by omega) rfl ?_
              refine op_loadE (nxof rfl rfl rfl (by kernel_rfl)) sc3 rfl s10 (by first | exact get8 (by omega) | exact get64 (by omega) | exact get32 (by omega) | exact getIn (by omega)) (by first | exact mem0 | exact mem1 | exact mem2 | exact mem3 | exact mem4 | exact mem5 | exact mem6 | exact mem7 | exact mem8 | exact mem9) rfl ?_
              refine op_conv64 (nxof rfl rfl rfl (by kernel_rfl)) (und_some Tryd.underlying3) Tryd.underlying44 rfl (by first | rfl | exact (Int.toNat_of_nonneg (by omega)).symm) rfl ?_
              refine op_callA (nxoa rfl rfl rfl) (.cons rfl (.cons rfl .nil)) (hShl4_f sa (by omega)) Tryd.func45 rfl rfl (by simp) rfl ?_
              rintro v46 L46 ⟨N46, p46, c46, rfl, rfl, s46⟩
              change At _ _ _ [N46, Na, N10, N3, N2, R] _
              refine op_callA (nxosa rfl rfl rfl rfl) (.cons rfl .nil) (Of32_f (UInt64.ofNat (d.getD i 0).toNat)) Tryd.func46 rfl rfl (by simp) rfl ?_
              rintro v52 L52 ⟨N52, p52, c52, rfl, rfl, s52⟩
              change At _ _ _ [N52, N46, Na, N10, N3, N2, R] _
              rw [hu8] at s52 ⊢
              refine op_callA (nxosa rfl rfl rfl rfl) (.cons rfl (.cons rfl .nil)) (hAdd_f s46 s52 (by omega) (by omega)) Tryd.func44 rfl rfl (by simp) rfl ?_
              rintro v53 L53 ⟨N53, p53, c53, rfl, rfl, s53⟩
              change At _ _ _ [N53, N52, N46, Na, N10, N3, N2, R] _
              rw [Nat.mul_comm _ 16, ← numD_take hlt] at s53 ⊢
              refine op_assign (nxof rfl rfl rfl (by kernel_rfl)) rfl rfl ?_
              refine At.oneNil ?_
              refine At.inNorm ?_
              refine At.norm (hk_20 ?_)
              refine At.region ?_
              refine op_move (nxlf rfl) rfl rfl ?_
              refine op_addI (nxlf rfl) rfl rfl (by omega) (by omega) rfl ?_
              refine op_assign (nxlf rfl) rfl rfl ?_
              refine At.opsNil ?_
              refine At.norm ?_
              refine At.sub (L' := [N53, N10, N3, N2, R]) (.cons_cons _ (.cons _ (.cons _ (.cons _ (.cons_cons _ (.cons_cons _ (.cons_cons _ (.cons_cons _ (.slnil))))))))) ?_
              refine At.back ?_ (.refl _) ⟨i + 1, p53, _, c53, N53, rfl, rfl, rfl, by omega, rfl, s53⟩ ?_
              · exact .cons (by first | exact lkI rfl (by omega) | rfl) (.cons (by first | exact lkI rfl (by omega) | rfl) (.cons (by first | exact lkI rfl (by omega) | rfl) (.cons (by first | exact lkI rfl (by omega) | rfl) (.cons (by first | exact lkI rfl (by omega) | rfl) .nil))))
              · omega
            · refine At.knowF (d := 42) rfl c42 ?_
              have hil : i = d.length := by omega
              refine At.exit (At.thenExit (At.thenExit (At.inHit ?_)))
              refine At.norm (hk_16 ?_)
              refine At.seq fun K21 hk_21 => ?_
              refine At.region ?_
              refine op_move (nxlf rfl) rfl rfl ?_
              rw [hil, List.take_length, ← hW] at sa hm
              refine op_callA (nxla rfl) (.cons rfl .nil) (rW_w sa) Tryd.func47 rfl rfl (by simp) rfl ?_
              rintro v55 L55 ⟨rfl, rfl⟩
              change At _ _ _ [Na, N10, N3, N2, R] _
              refine op_build (out := [.int .i64 0, .int .i64 0]) (nxlf rfl) ze30 pl30 .nil rfl rfl ?_
              refine op_store (nxl rfl) sz46 rfl rfl rfl rfl rfl B2 (by simp) sel3 (fun N2 B2 => ?_)
              rw [setL_whole (by simp)] at B2
              refine op_store (nxl rfl) sz30 rfl rfl rfl rfl rfl B3 (by simp) sel3 (fun N3 B3 => ?_)
              simp only [setL, List.set] at B3
              refine At.opsNil ?_
              refine At.norm (hk_21 ?_)
              refine At.ret (?_)
              refine At.sub (L' := [N3, N2, R]) (.cons_cons _ (.cons_cons _ (.cons _ (.cons _ (.cons_cons _ (.slnil)))))) ?_
              refine At.perm sel2 ?_
              refine At.perm sel1 ?_
              refine At.perm sel2 ?_
              refine At.retN (L1 := []) rfl (.cell rfl (res_agg (ds := u64s (wl W)) ag46 B2 (by first | (rw [List.drop_zero, List.take_of_length_le (by first | (simp; done) | (simp; omega))]; done) | rfl) (by first | (simp; done) | (simp; omega)) mem0) (.cell rfl (res_agg (ds := [_, _]) ag30 B3 rfl rfl mem1) .nil)) rfl (.cons _ (.cons _ (.refl _))) (.refl _) ?_
              first
                | exact ⟨by rw [hwh, hpl]; rfl, rfl⟩
                | exact ⟨by rw [hwh, hpl]; show _ = Value.tuple #[_, faultV _ ((a.toNat : Nat) : Int)]; rw [ha2]; rfl, rfl⟩
  · refine op_skip rfl rfl rfl rfl rfl rfl rfl ?_
    refine op_skip rfl rfl rfl rfl rfl rfl rfl ?_
    refine op_skip rfl rfl rfl rfl rfl rfl rfl ?_
    refine op_skip rfl rfl rfl rfl rfl rfl rfl ?_
    refine op_pickF (nxlf rfl) rfl rfl rfl ?_
    refine At.opsNil ?_
    refine At.norm (hk_4 ?_)
    refine At.condF rfl ?_
    refine At.skip ?_
    refine At.norm (hk_3 ?_)
    refine At.seq fun K22 hk_22 => ?_
    refine At.seq fun K23 hk_23 => ?_
    refine At.region ?_
    refine op_move (nxlf rfl) rfl rfl ?_
    refine op_lenS (nxlf rfl) se78 rfl rfl ?_
    refine op_gtr (nxlf rfl) rfl rfl rfl ?_
    refine At.opsNil ?_
    refine At.norm (hk_23 ?_)
    refine At.condP rfl (fun c26 => ?_) (fun c26 => ?_)
    · refine At.knowT (d := 26) rfl c26 ?_
      have hno : ¬ (1 < d.length ∧ (d.getD 0 0).toNat = 0) := fun e => by omega
      obtain ⟨hW, hwh, hpl⟩ := hR1 hno (by omega)
      refine At.seq fun K24 hk_24 => ?_
      refine At.region ?_
      refine op_buildA (out := [.int .u64 0, .int .u64 0, .int .u64 0, .int .u64 0]) (nxlf rfl) ze46 ae46 .nil rfl rfl ?_
      refine op_callA (nxla rfl) (.cons rfl (.cons rfl .nil)) (rfault_f 3 66) Tryd.func39 rfl rfl (by simp) rfl ?_
      rintro v28 L28 ⟨rfl, rfl⟩
      change At _ _ _ [N10, N3, N2, R] _
      refine op_store (nxl rfl) sz46 rfl rfl rfl rfl rfl B2 (by simp) sel2 (fun N2 B2 => ?_)
      change Blk N2 b2 _ (u64s (wl 0)) at B2; rw [← hW] at B2
      refine op_store (nxl rfl) sz30 rfl rfl rfl rfl rfl B3 (by simp) sel2 (fun N3 B3 => ?_)
      simp only [setL, List.set] at B3
      refine At.opsNil ?_
      refine At.norm (hk_24 ?_)
      refine At.ret (At.thenRet (?_))
      refine At.sub (L' := [N3, N2, R]) (.cons_cons _ (.cons_cons _ (.cons _ (.cons_cons _ (.slnil))))) ?_
      refine At.perm sel2 ?_
      refine At.perm sel1 ?_
      refine At.perm sel2 ?_
      refine At.retN (L1 := []) rfl (.cell rfl (res_agg (ds := u64s (wl W)) ag46 B2 (by first | (rw [List.drop_zero, List.take_of_length_le (by first | (simp; done) | (simp; omega))]; done) | rfl) (by first | (simp; done) | (simp; omega)) mem0) (.cell rfl (res_agg (ds := [_, _]) ag30 B3 rfl rfl mem1) .nil)) rfl (.cons _ (.cons _ (.refl _))) (.refl _) ?_
      first
        | exact ⟨by rw [hwh, hpl]; rfl, rfl⟩
        | exact ⟨by rw [hwh, hpl]; show _ = Value.tuple #[_, faultV _ ((a.toNat : Nat) : Int)]; rw [ha2]; rfl, rfl⟩
    · refine At.knowF (d := 26) rfl c26 ?_
      refine At.skip ?_
      refine At.norm (hk_22 ?_)
      refine At.seq fun K25 hk_25 => ?_
      refine At.seq fun K26 hk_26 => ?_
      refine At.region ?_
      refine op_move (nxlf rfl) rfl rfl ?_
      refine op_geq (nxlf rfl) rfl rfl rfl ?_
      refine At.opsNil ?_
      refine At.norm (hk_26 ?_)
      refine At.condP rfl (fun c30 => ?_) (fun c30 => ?_)
      · refine At.knowT (d := 30) rfl c30 ?_
        have hno : ¬ (1 < d.length ∧ (d.getD 0 0).toNat = 0) := fun e => by omega
        obtain ⟨hW, hwh, hpl⟩ := hR2 hno (by omega) (by omega)
        have ha2 : ((a.toNat : Nat) : Int) = a := Int.toNat_of_nonneg (by omega)
        refine At.seq fun K27 hk_27 => ?_
        refine At.region ?_
        refine op_buildA (out := [.int .u64 0, .int .u64 0, .int .u64 0, .int .u64 0]) (nxlf rfl) ze46 ae46 .nil rfl rfl ?_
        refine op_move (nxlf rfl) rfl rfl ?_
        refine op_callA (nxla rfl) (.cons rfl (.cons rfl .nil)) (rfault_f 2 a) Tryd.func39 rfl rfl (by simp) rfl ?_
        rintro v33 L33 ⟨rfl, rfl⟩
        change At _ _ _ [N10, N3, N2, R] _
        refine op_store (nxl rfl) sz46 rfl rfl rfl rfl rfl B2 (by simp) sel2 (fun N2 B2 => ?_)
        change Blk N2 b2 _ (u64s (wl 0)) at B2; rw [← hW] at B2
        refine op_store (nxl rfl) sz30 rfl rfl rfl rfl rfl B3 (by simp) sel2 (fun N3 B3 => ?_)
        simp only [setL, List.set] at B3
        refine At.opsNil ?_
        refine At.norm (hk_27 ?_)
        refine At.ret (At.thenRet (?_))
        refine At.sub (L' := [N3, N2, R]) (.cons_cons _ (.cons_cons _ (.cons _ (.cons_cons _ (.slnil))))) ?_
        refine At.perm sel2 ?_
        refine At.perm sel1 ?_
        refine At.perm sel2 ?_
        refine At.retN (L1 := []) rfl (.cell rfl (res_agg (ds := u64s (wl W)) ag46 B2 (by first | (rw [List.drop_zero, List.take_of_length_le (by first | (simp; done) | (simp; omega))]; done) | rfl) (by first | (simp; done) | (simp; omega)) mem0) (.cell rfl (res_agg (ds := [_, _]) ag30 B3 rfl rfl mem1) .nil)) rfl (.cons _ (.cons _ (.refl _))) (.refl _) ?_
        first
          | exact ⟨by rw [hwh, hpl]; rfl, rfl⟩
          | exact ⟨by rw [hwh, hpl]; show _ = Value.tuple #[_, faultV _ ((a.toNat : Nat) : Int)]; rw [ha2]; rfl, rfl⟩
      · refine At.knowF (d := 30) rfl c30 ?_
        refine At.skip ?_
        refine At.norm (hk_25 ?_)
        refine At.seq fun K28 hk_28 => ?_
        refine At.seq fun K29 hk_29 => ?_
        refine At.region ?_
        refine op_move (nxlf rfl) rfl rfl ?_
        refine op_lenS (nxlf rfl) se78 rfl rfl ?_
        refine op_eql (nxlf rfl) rfl rfl rfl ?_
        refine At.opsNil ?_
        refine At.norm (hk_29 ?_)
        refine At.condP rfl (fun c36 => ?_) (fun c36 => ?_)
        · refine At.knowT (d := 36) rfl c36 ?_
          have hno : ¬ (1 < d.length ∧ (d.getD 0 0).toNat = 0) := fun e => by omega
          obtain ⟨hW, hwh, hpl⟩ := hR3 hno (by omega) (by omega) (by omega)
          refine At.seq fun K30 hk_30 => ?_
          refine At.region ?_
          refine op_buildA (out := [.int .u64 0, .int .u64 0, .int .u64 0, .int .u64 0]) (nxlf rfl) ze46 ae46 .nil rfl rfl ?_
          refine op_callA (nxla rfl) (.cons rfl (.cons rfl .nil)) (rfault_f 2 2) Tryd.func39 rfl rfl (by simp) rfl ?_
          rintro v38 L38 ⟨rfl, rfl⟩
          change At _ _ _ [N10, N3, N2, R] _
          refine op_store (nxl rfl) sz46 rfl rfl rfl rfl rfl B2 (by simp) sel2 (fun N2 B2 => ?_)
          change Blk N2 b2 _ (u64s (wl 0)) at B2; rw [← hW] at B2
          refine op_store (nxl rfl) sz30 rfl rfl rfl rfl rfl B3 (by simp) sel2 (fun N3 B3 => ?_)
          simp only [setL, List.set] at B3
          refine At.opsNil ?_
          refine At.norm (hk_30 ?_)
          refine At.ret (At.thenRet (?_))
          refine At.sub (L' := [N3, N2, R]) (.cons_cons _ (.cons_cons _ (.cons _ (.cons_cons _ (.slnil))))) ?_
          refine At.perm sel2 ?_
          refine At.perm sel1 ?_
          refine At.perm sel2 ?_
          refine At.retN (L1 := []) rfl (.cell rfl (res_agg (ds := u64s (wl W)) ag46 B2 (by first | (rw [List.drop_zero, List.take_of_length_le (by first | (simp; done) | (simp; omega))]; done) | rfl) (by first | (simp; done) | (simp; omega)) mem0) (.cell rfl (res_agg (ds := [_, _]) ag30 B3 rfl rfl mem1) .nil)) rfl (.cons _ (.cons _ (.refl _))) (.refl _) ?_
          first
            | exact ⟨by rw [hwh, hpl]; rfl, rfl⟩
            | exact ⟨by rw [hwh, hpl]; show _ = Value.tuple #[_, faultV _ ((a.toNat : Nat) : Int)]; rw [ha2]; rfl, rfl⟩
        · refine At.knowF (d := 36) rfl c36 ?_
          have hno : ¬ (1 < d.length ∧ (d.getD 0 0).toNat = 0) := fun e => by omega
          obtain ⟨hW, hwh, hpl⟩ := hR4 hno (by omega) (by omega) (by omega)
          have hl64 : d.length ≤ 64 := by omega
          refine At.skip ?_
          refine At.norm (hk_28 ?_)
          refine At.seq fun K31 hk_31 => ?_
          refine At.region ?_
          refine op_assign (nxlf rfl) rfl rfl ?_
          refine At.opsNil ?_
          refine At.norm (hk_31 ?_)
          refine At.seq fun K32 hk_32 => ?_
          refine At.seq fun K33 hk_33 => ?_
          refine At.region ?_
          refine op_assign (nxlf rfl) rfl rfl ?_
          refine At.opsNil ?_
          refine At.norm (hk_33 ?_)
          refine At.block ?_
          refine At.empty ?_
          refine At.loop (fun fr_ hp_ ms_ => ∃ (i : Nat) (q : Option Addr) (m c : Nat) (Na : Heaplet), fr_ = [(2, .pointer (some ⟨b2, 0, none⟩)), (3, .pointer (some ⟨b3, 0, none⟩)), (4, .slice p10 d.length c10), (6, .slice q m c), (7, .int .i64 (i : Int))] ∧ hp_ = [Na, N10, N3, N2, R] ∧ d.length - i = ms_ ∧ (i ≤ d.length) ∧ (m = (digsOf (numD (d.take i))).length) ∧ (RSl Na 1 q m c (u32s (digsOf (numD (d.take i)))))) ?_ (.refl _) ⟨0, none, 0, 0, nilH, rfl, rfl, rfl, Nat.zero_le _, (digs0 d).1.symm, by rw [(digs0 d).2]; exact RSl.nil _ _⟩ ?_
          · exact .cons (by first | exact lkI rfl (by omega) | rfl) (.cons (by first | exact lkI rfl (by omega) | rfl) (.cons (by first | exact lkI rfl (by omega) | rfl) (.cons (by first | exact lkI rfl (by omega) | rfl) (.cons (by first | exact lkI rfl (by omega) | rfl) .nil))))
          rintro _ _ _ ⟨i, q, m, c, Na, rfl, rfl, rfl, hi, hm, sa⟩
          refine At.seq fun K34 hk_34 => ?_
          refine At.seq fun K35 hk_35 => ?_
          refine At.region ?_
          refine op_move (nxlf rfl) rfl rfl ?_
          refine op_move (nxlf rfl) rfl rfl ?_
          refine op_lenS (nxlf rfl) se78 rfl rfl ?_
          refine op_lss (nxlf rfl) rfl rfl rfl ?_
          refine At.opsNil ?_
          refine At.norm (hk_35 ?_)
          refine At.condP rfl (fun c42 => ?_) (fun c42 => ?_)
          · refine At.knowT (d := 42) rfl c42 ?_
            have hlt : i < d.length := by omega
            have hV := hnl i (by omega)
            have hp := hexPow64 (i := i) (by omega)
            have hxi := hdd i
            have hu8 : (UInt64.ofNat (d.getD i 0).toNat).toNat = (d.getD i 0).toNat := by rw [UInt64.toNat_ofNat']; omega
            have hl1 := hdigs_le (V := numD (d.take i)) (k := 256) (by omega)
            have hl2 := hdigs_le (V := numD (d.take i) * 16) (k := 256) (by omega)
            have hl3 := hdigs_le (V := (d.getD i 0).toNat) (k := 32) (by omega)
            refine At.skip ?_
            refine At.norm (hk_34 ?_)
            refine At.seq fun K36 hk_36 => ?_
            refine At.block ?_
            refine At.drawn [7,8] [0,2,3,4,5,6,1,7,8,9] (by kernel_rfl) (by kernel_rfl) ?_
            refine op_move (nxof rfl rfl rfl (by kernel_rfl)) rfl rfl ?_
            refine op_move (nxof rfl rfl rfl (by kernel_rfl)) rfl rfl ?_
            refine op_move (nxof rfl rfl rfl (by kernel_rfl)) rfl rfl ?_
            refine op_idx1 (nxof rfl rfl rfl (by kernel_rfl)) se78 rfl rfl s10 (show _ = (((i : Nat)) : Int) from by omega) (by omega) rfl ?_
            refine op_loadE (nxof rfl rfl rfl (by kernel_rfl)) sc3 rfl s10 (by first | exact get8 (by omega) | exact get64 (by omega) | exact get32 (by omega) | exact getIn (by omega)) (by first | exact mem0 | exact mem1 | exact mem2 | exact mem3 | exact mem4 | exact mem5 | exact mem6 | exact mem7 | exact mem8 | exact mem9) rfl ?_
            refine op_conv64 (nxof rfl rfl rfl (by kernel_rfl)) (und_some Tryd.underlying3) Tryd.underlying44 rfl (by first | rfl | exact (Int.toNat_of_nonneg (by omega)).symm) rfl ?_
            refine op_callA (nxoa rfl rfl rfl) (.cons rfl (.cons rfl .nil)) (hShl4_f sa (by omega)) Tryd.func45 rfl rfl (by simp) rfl ?_
            rintro v46 L46 ⟨N46, p46, c46, rfl, rfl, s46⟩
            change At _ _ _ [N46, Na, N10, N3, N2, R] _
            refine op_callA (nxosa rfl rfl rfl rfl) (.cons rfl .nil) (Of32_f (UInt64.ofNat (d.getD i 0).toNat)) Tryd.func46 rfl rfl (by simp) rfl ?_
            rintro v52 L52 ⟨N52, p52, c52, rfl, rfl, s52⟩
            change At _ _ _ [N52, N46, Na, N10, N3, N2, R] _
            rw [hu8] at s52 ⊢
            refine op_callA (nxosa rfl rfl rfl rfl) (.cons rfl (.cons rfl .nil)) (hAdd_f s46 s52 (by omega) (by omega)) Tryd.func44 rfl rfl (by simp) rfl ?_
            rintro v53 L53 ⟨N53, p53, c53, rfl, rfl, s53⟩
            change At _ _ _ [N53, N52, N46, Na, N10, N3, N2, R] _
            rw [Nat.mul_comm _ 16, ← numD_take hlt] at s53 ⊢
            refine op_assign (nxof rfl rfl rfl (by kernel_rfl)) rfl rfl ?_
            refine At.oneNil ?_
            refine At.inNorm ?_
            refine At.norm (hk_36 ?_)
            refine At.region ?_
            refine op_move (nxlf rfl) rfl rfl ?_
            refine op_addI (nxlf rfl) rfl rfl (by omega) (by omega) rfl ?_
            refine op_assign (nxlf rfl) rfl rfl ?_
            refine At.opsNil ?_
            refine At.norm ?_
            refine At.sub (L' := [N53, N10, N3, N2, R]) (.cons_cons _ (.cons _ (.cons _ (.cons _ (.cons_cons _ (.cons_cons _ (.cons_cons _ (.cons_cons _ (.slnil))))))))) ?_
            refine At.back ?_ (.refl _) ⟨i + 1, p53, _, c53, N53, rfl, rfl, rfl, by omega, rfl, s53⟩ ?_
            · exact .cons (by first | exact lkI rfl (by omega) | rfl) (.cons (by first | exact lkI rfl (by omega) | rfl) (.cons (by first | exact lkI rfl (by omega) | rfl) (.cons (by first | exact lkI rfl (by omega) | rfl) (.cons (by first | exact lkI rfl (by omega) | rfl) .nil))))
            · omega
          · refine At.knowF (d := 42) rfl c42 ?_
            have hil : i = d.length := by omega
            refine At.exit (At.thenExit (At.thenExit (At.inHit ?_)))
            refine At.norm (hk_32 ?_)
            refine At.seq fun K37 hk_37 => ?_
            refine At.region ?_
            refine op_move (nxlf rfl) rfl rfl ?_
            rw [hil, List.take_length, ← hW] at sa hm
            refine op_callA (nxla rfl) (.cons rfl .nil) (rW_w sa) Tryd.func47 rfl rfl (by simp) rfl ?_
            rintro v55 L55 ⟨rfl, rfl⟩
            change At _ _ _ [Na, N10, N3, N2, R] _
            refine op_build (out := [.int .i64 0, .int .i64 0]) (nxlf rfl) ze30 pl30 .nil rfl rfl ?_
            refine op_store (nxl rfl) sz46 rfl rfl rfl rfl rfl B2 (by simp) sel3 (fun N2 B2 => ?_)
            rw [setL_whole (by simp)] at B2
            refine op_store (nxl rfl) sz30 rfl rfl rfl rfl rfl B3 (by simp) sel3 (fun N3 B3 => ?_)
            simp only [setL, List.set] at B3
            refine At.opsNil ?_
            refine At.norm (hk_37 ?_)
            refine At.ret (?_)
            refine At.sub (L' := [N3, N2, R]) (.cons_cons _ (.cons_cons _ (.cons _ (.cons _ (.cons_cons _ (.slnil)))))) ?_
            refine At.perm sel2 ?_
            refine At.perm sel1 ?_
            refine At.perm sel2 ?_
            refine At.retN (L1 := []) rfl (.cell rfl (res_agg (ds := u64s (wl W)) ag46 B2 (by first | (rw [List.drop_zero, List.take_of_length_le (by first | (simp; done) | (simp; omega))]; done) | rfl) (by first | (simp; done) | (simp; omega)) mem0) (.cell rfl (res_agg (ds := [_, _]) ag30 B3 rfl rfl mem1) .nil)) rfl (.cons _ (.cons _ (.refl _))) (.refl _) ?_
            first
              | exact ⟨by rw [hwh, hpl]; rfl, rfl⟩
              | exact ⟨by rw [hwh, hpl]; show _ = Value.tuple #[_, faultV _ ((a.toNat : Nat) : Int)]; rw [ha2]; rfl, rfl⟩
end Go.Proofs.YtlkjfbfenpkmhaaDoor
/- strings.TrimPrefix, strings.TrimLeft of one byte; hexa.Quantity. No condition. -/
namespace Go.Proofs.YtlkjfbfenpkmhaaDoor
set_option linter.unusedVariables false
set_option linter.unusedSimpArgs false
open Go Go.RowKit
theorem FHasP_f {l p : List UInt8} (hle : p.length ≤ l.length) (ht : l.take p.length = p) : Fn Tryd.prog 85 #[str l, str p] [] [] (fun v L => v = .bool true ∧ L = []) := by
  refine Fn.enter (vs := [str l, str p]) Tryd.func85 rfl rfl rfl ?_
  intro E R hR
  change At _ _ E [R] _
  refine At.seq fun K1 hk_1 => ?_
  refine At.region ?_
  refine op_assign (nxlf rfl) rfl rfl ?_
  refine At.opsNil ?_
  refine At.norm (hk_1 ?_)
  refine At.seq fun K2 hk_2 => ?_
  refine At.region ?_
  refine op_move (nxlf rfl) rfl rfl ?_
  refine op_lenStr (nxlf rfl) Tryd.underlying9 rfl rfl ?_
  refine op_move (nxlf rfl) rfl rfl ?_
  refine op_lenStr (nxlf rfl) Tryd.underlying9 rfl rfl ?_
  refine op_geq (nxlf rfl) rfl rfl rfl ?_
  refine op_move (nxlf rfl) rfl rfl ?_
  refine At.partP (d := 10) rfl (fun g10 => ?_) (fun g10 => ?_)
  · refine op_move (nxgf rfl rfl rfl rfl) rfl rfl ?_
    refine op_move (nxgf rfl rfl rfl rfl) rfl rfl ?_
    refine op_lenStr (nxgf rfl rfl rfl rfl) Tryd.underlying9 rfl rfl ?_
    refine op_sliceStr (nxgf rfl rfl rfl rfl) Tryd.underlying9 rfl .none (.some rfl (show _ = (((p.length : Nat)) : Int) from by omega)) .none (by omega) (by omega) (by omega) (by simp) rfl ?_
    rw [List.drop_zero, Nat.sub_zero, ht]
    refine op_move (nxgf rfl rfl rfl rfl) rfl rfl ?_
    refine op_eqS (nxgf rfl rfl rfl rfl) rfl rfl rfl ?_
    refine op_pickT (nxlf rfl) rfl rfl rfl ?_
    refine op_assign (nxlf rfl) rfl rfl ?_
    refine At.opsNil ?_
    refine At.norm (hk_2 ?_)
    refine At.ret (?_)
    refine At.ret1 (L1 := []) rfl (.tmp rfl .nil) (.refl _) (.refl _) ?_
    exact ⟨by rw [decide_eq_true rfl], rfl⟩
  · exfalso; omega
theorem FTrimP_f {l p : List UInt8} (hle : p.length ≤ l.length) (ht : l.take p.length = p) : Fn Tryd.prog 53 #[str l, str p] [] [] (fun v L => v = str (l.drop p.length) ∧ L = []) := by
  have h : Fn Tryd.prog 71 #[str l, str p] [] [] (fun v L => v = str (l.drop p.length) ∧ L = []) := by
    refine Fn.enter (vs := [str l, str p]) Tryd.func71 rfl rfl rfl ?_
    intro E R hR
    change At _ _ E [R] _
    refine At.seq fun K1 hk_1 => ?_
    refine At.region ?_
    refine op_assign (nxlf rfl) rfl rfl ?_
    refine At.opsNil ?_
    refine At.norm (hk_1 ?_)
    refine At.seq fun K2 hk_2 => ?_
    refine At.seq fun K3 hk_3 => ?_
    refine At.region ?_
    refine op_move (nxlf rfl) rfl rfl ?_
    refine op_move (nxlf rfl) rfl rfl ?_
    refine op_callA (nxla rfl) (.cons rfl (.cons rfl .nil)) (FHasP_f hle ht) Tryd.func85 rfl rfl (by simp) rfl ?_
    rintro v7 L7 ⟨rfl, rfl⟩
    change At _ _ _ [R] _
    refine At.opsNil ?_
    refine At.norm (hk_3 ?_)
    refine At.condT rfl ?_
    refine At.seq fun K4 hk_4 => ?_
    refine At.region ?_
    refine op_move (nxlf rfl) rfl rfl ?_
    refine op_move (nxlf rfl) rfl rfl ?_
    refine op_lenStr (nxlf rfl) Tryd.underlying9 rfl rfl ?_
    refine op_sliceStr (nxlf rfl) Tryd.underlying9 rfl (.some rfl (show _ = (((p.length : Nat)) : Int) from by omega)) .none .none (by omega) (by omega) (by omega) (by simp) rfl ?_
    rw [show (l.drop p.length).take (l.length - p.length) = l.drop p.length from List.take_of_length_le (by rw [List.length_drop]; exact Nat.le_refl _)]
    refine op_assign (nxlf rfl) rfl rfl ?_
    refine At.opsNil ?_
    refine At.norm (hk_4 ?_)
    refine At.ret (At.thenRet (?_))
    refine At.ret1 (L1 := []) rfl (.tmp rfl .nil) (.refl _) (.refl _) ?_
    exact ⟨rfl, rfl⟩
  refine Fn.enter (vs := [str l, str p]) Tryd.func53 rfl rfl rfl ?_
  intro E R hR
  change At _ _ E [R] _
  refine At.seq fun K1 hk_1 => ?_
  refine At.region ?_
  refine op_assign (nxlf rfl) rfl rfl ?_
  refine At.opsNil ?_
  refine At.norm (hk_1 ?_)
  refine At.seq fun K2 hk_2 => ?_
  refine At.region ?_
  refine op_move (nxlf rfl) rfl rfl ?_
  refine op_move (nxlf rfl) rfl rfl ?_
  refine op_callA (nxla rfl) (.cons rfl (.cons rfl .nil)) (h) Tryd.func71 rfl rfl (by simp) rfl ?_
  rintro v7 L7 ⟨rfl, rfl⟩
  change At _ _ _ [R] _
  refine op_assign (nxlf rfl) rfl rfl ?_
  refine At.opsNil ?_
  refine At.norm (hk_2 ?_)
  refine At.ret (?_)
  refine At.ret1 (L1 := []) rfl (.tmp rfl .nil) (.refl _) (.refl _) ?_
  exact ⟨rfl, rfl⟩
/-- A text without this byte ahead. -/
def dropB (c : UInt8) (l : List UInt8) : List UInt8 := l.dropWhile (· == c)
theorem dropB_y {c : UInt8} {t : List UInt8} (h : 0 < t.length) (he : (t.getD 0 0).toNat = c.toNat) : dropB c (t.drop 1) = dropB c t := by
  cases t with
  | nil => cases h
  | cons x t =>
    have : x = c := UInt8.toNat_inj.1 he
    subst this
    simp [dropB]
theorem dropB_n {c : UInt8} {t : List UInt8} (he : ¬ (t.getD 0 0).toNat = c.toNat) : dropB c t = t := by
  cases t with
  | nil => rfl
  | cons x t =>
    have : x ≠ c := fun e => he (by rw [← e]; rfl)
    simp [dropB, this]
theorem dropB_len (c : UInt8) (l : List UInt8) : (dropB c l).length ≤ l.length := (List.dropWhile_sublist _).length_le
theorem FTrimB_f (l : List UInt8) (c : UInt8) : Fn Tryd.prog 67 #[str l, .int .u8 (c.toNat : Int)] [] [] (fun v L => v = str (dropB c l) ∧ L = []) := by
  obtain ⟨z, hz⟩ : ∃ z, dropB c l = z := ⟨_, rfl⟩
  rw [hz]
  refine Fn.enter (vs := [str l, .int .u8 (c.toNat : Int)]) Tryd.func67 rfl rfl rfl ?_
  intro E R hR
  change At _ _ E [R] _
  refine At.seq fun K1 hk_1 => ?_
  refine At.region ?_
  refine op_assign (nxlf rfl) rfl rfl ?_
  refine At.opsNil ?_
  refine At.norm (hk_1 ?_)
  refine At.seq fun K2 hk_2 => ?_
  refine At.block ?_
  refine At.loop (fun fr_ hp_ ms_ => ∃ (t : List UInt8), fr_ = [(0, str t), (1, .int .u8 (c.toNat : Int))] ∧ hp_ = [R] ∧ t.length = ms_ ∧ (dropB c t = z)) ?_ (.refl _) ⟨l, rfl, rfl, rfl, hz⟩ ?_
  · exact .cons (by first | exact lkI rfl (by omega) | rfl) (.cons (by first | exact lkI rfl (by omega) | rfl) .nil)
  rintro _ _ _ ⟨t, rfl, rfl, rfl, hd⟩
  refine At.seq fun K3 hk_3 => ?_
  refine At.seq fun K4 hk_4 => ?_
  refine At.region ?_
  refine op_move (nxlf rfl) rfl rfl ?_
  refine op_lenStr (nxlf rfl) Tryd.underlying9 rfl rfl ?_
  refine op_gtr (nxlf rfl) rfl rfl rfl ?_
  refine op_move (nxlf rfl) rfl rfl ?_
  refine At.partP (d := 8) rfl (fun g8 => ?_) (fun g8 => ?_)
  · refine op_move (nxgf rfl rfl rfl rfl) rfl rfl ?_
    refine op_idxS (nxgf rfl rfl rfl rfl) Tryd.underlying9 rfl rfl (show _ = (((0 : Nat)) : Int) from by omega) (by omega) rfl ?_
    refine op_move (nxgf rfl rfl rfl rfl) rfl rfl ?_
    refine op_eql (nxgf rfl rfl rfl rfl) rfl rfl rfl ?_
    refine op_pickT (nxlf rfl) rfl rfl rfl ?_
    refine At.opsNil ?_
    refine At.norm (hk_4 ?_)
    refine At.condP rfl (fun c13 => ?_) (fun c13 => ?_)
    · refine At.knowT (d := 13) rfl c13 ?_
      refine At.skip ?_
      refine At.norm (hk_3 ?_)
      refine At.block ?_
      refine At.region ?_
      refine op_move (nxlf rfl) rfl rfl ?_
      refine op_sliceStr (nxlf rfl) Tryd.underlying9 rfl (.some rfl (show _ = (((1 : Nat)) : Int) from by omega)) .none .none (by omega) (by omega) (by omega) (by simp) rfl ?_
      rw [show (t.drop 1).take (t.length - 1) = t.drop 1 from List.take_of_length_le (by rw [List.length_drop]; exact Nat.le_refl _)]
      refine op_assign (nxlf rfl) rfl rfl ?_
      refine At.opsNil ?_
      refine At.inNorm ?_
      refine At.norm ?_
      refine At.back ?_ (.refl _) ⟨t.drop 1, rfl, rfl, rfl, by rw [dropB_y (by omega) (by omega)]; exact hd⟩ ?_
      · exact .cons (by first | exact lkI rfl (by omega) | rfl) (.cons (by first | exact lkI rfl (by omega) | rfl) .nil)
      · (rw [List.length_drop]; omega)
    · refine At.knowF (d := 13) rfl c13 ?_
      refine At.exit (At.thenExit (At.thenExit (At.inHit ?_)))
      refine At.norm (hk_2 ?_)
      refine At.seq fun K5 hk_5 => ?_
      refine At.region ?_
      refine op_move (nxlf rfl) rfl rfl ?_
      refine op_assign (nxlf rfl) rfl rfl ?_
      refine At.opsNil ?_
      refine At.norm (hk_5 ?_)
      refine At.ret (?_)
      refine At.ret1 (L1 := []) rfl (.tmp rfl .nil) (.refl _) (.refl _) ?_
      rw [dropB_n (by omega)] at hd
      exact ⟨by rw [hd], rfl⟩
  · refine op_skip rfl rfl rfl rfl rfl rfl rfl ?_
    refine op_skip rfl rfl rfl rfl rfl rfl rfl ?_
    refine op_skip rfl rfl rfl rfl rfl rfl rfl ?_
    refine op_skip rfl rfl rfl rfl rfl rfl rfl ?_
    refine op_pickF (nxlf rfl) rfl rfl rfl ?_
    refine At.opsNil ?_
    refine At.norm (hk_4 ?_)
    refine At.condF rfl ?_
    refine At.exit (At.thenExit (At.thenExit (At.inHit ?_)))
    refine At.norm (hk_2 ?_)
    refine At.seq fun K6 hk_6 => ?_
    refine At.region ?_
    refine op_move (nxlf rfl) rfl rfl ?_
    refine op_assign (nxlf rfl) rfl rfl ?_
    refine At.opsNil ?_
    refine At.norm (hk_6 ?_)
    refine At.ret (?_)
    refine At.ret1 (L1 := []) rfl (.tmp rfl .nil) (.refl _) (.refl _) ?_
    have e : t = [] := List.eq_nil_of_length_eq_zero (by omega)
    subst e
    exact ⟨by rw [← hd]; rfl, rfl⟩
theorem FTrimL_f (l : List UInt8) : Fn Tryd.prog 52 #[str l, str [48]] [] [] (fun v L => v = str (dropB 48 l) ∧ L = []) := by
  refine Fn.enter (vs := [str l, str [48]]) Tryd.func52 rfl rfl rfl ?_
  intro E R hR
  change At _ _ E [R] _
  refine At.seq fun K1 hk_1 => ?_
  refine At.region ?_
  refine op_assign (nxlf rfl) rfl rfl ?_
  refine At.opsNil ?_
  refine At.norm (hk_1 ?_)
  refine At.seq fun K2 hk_2 => ?_
  refine At.seq fun K3 hk_3 => ?_
  refine At.region ?_
  refine op_move (nxlf rfl) rfl rfl ?_
  refine op_eqS (b := []) (nxlf rfl) rfl rfl rfl ?_
  refine op_move (nxlf rfl) rfl rfl ?_
  refine At.partP (d := 9) rfl (fun g9 => ?_) (fun g9 => ?_)
  · refine op_skip rfl rfl rfl rfl rfl rfl rfl ?_
    refine op_skip rfl rfl rfl rfl rfl rfl rfl ?_
    refine op_pickT (nxlf rfl) rfl rfl rfl ?_
    refine At.opsNil ?_
    refine At.norm (hk_3 ?_)
    refine At.condT rfl ?_
    refine At.seq fun K4 hk_4 => ?_
    refine At.region ?_
    refine op_move (nxlf rfl) rfl rfl ?_
    refine op_assign (nxlf rfl) rfl rfl ?_
    refine At.opsNil ?_
    refine At.norm (hk_4 ?_)
    refine At.ret (At.thenRet (?_))
    refine At.ret1 (L1 := []) rfl (.tmp rfl .nil) (.refl _) (.refl _) ?_
    have e : l = [] := g9
    subst e
    exact ⟨rfl, rfl⟩
  · refine op_move (nxgf rfl rfl rfl rfl) rfl rfl ?_
    refine op_eqS (b := []) (nxgf rfl rfl rfl rfl) rfl rfl rfl ?_
    refine op_pickF (nxlf rfl) rfl rfl rfl ?_
    refine At.opsNil ?_
    refine At.norm (hk_3 ?_)
    refine At.condP rfl (fun c12 => ?_) (fun c12 => ?_)
    · exact absurd c12 (by decide)
    · refine At.knowF (d := 12) rfl c12 ?_
      refine At.skip ?_
      refine At.norm (hk_2 ?_)
      refine At.seq fun K5 hk_5 => ?_
      refine At.seq fun K6 hk_6 => ?_
      refine At.region ?_
      refine op_move (nxlf rfl) rfl rfl ?_
      refine op_lenStr (nxlf rfl) Tryd.underlying9 rfl rfl ?_
      refine op_eql (nxlf rfl) rfl rfl rfl ?_
      refine op_move (nxlf rfl) rfl rfl ?_
      refine At.partP (d := 17) rfl (fun g17 => ?_) (fun g17 => ?_)
      · refine op_move (nxgf rfl rfl rfl rfl) rfl rfl ?_
        refine op_idxS (nxgf rfl rfl rfl rfl) Tryd.underlying9 rfl rfl (show _ = (((0 : Nat)) : Int) from by omega) (by omega) rfl ?_
        refine op_lss (nxgf rfl rfl rfl rfl) rfl rfl rfl ?_
        refine op_pickT (nxlf rfl) rfl rfl rfl ?_
        refine At.opsNil ?_
        refine At.norm (hk_6 ?_)
        refine At.condP rfl (fun c21 => ?_) (fun c21 => ?_)
        · refine At.knowT (d := 21) rfl c21 ?_
          refine At.seq fun K7 hk_7 => ?_
          refine At.region ?_
          refine op_move (nxlf rfl) rfl rfl ?_
          refine op_move (nxlf rfl) rfl rfl ?_
          refine op_idxS (nxlf rfl) Tryd.underlying9 rfl rfl (show _ = (((0 : Nat)) : Int) from by omega) (by omega) rfl ?_
          refine op_callA (nxla rfl) (.cons rfl (.cons rfl .nil)) (FTrimB_f l 48) Tryd.func67 rfl rfl (by simp) rfl ?_
          rintro v25 L25 ⟨rfl, rfl⟩
          change At _ _ _ [R] _
          refine op_assign (nxlf rfl) rfl rfl ?_
          refine At.opsNil ?_
          refine At.norm (hk_7 ?_)
          refine At.ret (At.thenRet (?_))
          refine At.ret1 (L1 := []) rfl (.tmp rfl .nil) (.refl _) (.refl _) ?_
          exact ⟨rfl, rfl⟩
        · exact absurd (by decide) c21
      · exact absurd rfl g17
/-- A number's text. -/
def quantT (x : Nat) : List UInt8 := 48 :: 120 :: (if dropB 48 (hexL (bytesOf x)) = [] then [48] else dropB 48 (hexL (bytesOf x)))
theorem FQuant_f {x : Nat} (hx : x < WW) : Fn Tryd.prog 25 #[wo x] [] [] (fun v L => v = str (quantT x) ∧ L = []) := by
  have hb : (bytesOf x).length ≤ 32 := by
    rw [length_bytesOf]
    have := bitLen_le.2 hx
    omega
  obtain ⟨t, ht⟩ : ∃ t, hexL (bytesOf x) = t := ⟨_, rfl⟩
  have htl := hexL_len (bytesOf x)
  rw [ht] at htl
  refine Fn.enter (vs := [wo x]) Tryd.func25 rfl rfl rfl ?_
  intro E R hR
  change At _ _ E [R] _
  refine At.seq fun K1 hk_1 => ?_
  refine At.region ?_
  refine op_box (nxla rfl) rfl rfl rfl (fun N1 b1 B1 => ?_)
  change Blk N1 b1 _ (u64s (wl x)) at B1
  refine op_assign (nxlf rfl) rfl rfl ?_
  refine At.opsNil ?_
  refine At.norm (hk_1 ?_)
  refine At.seq fun K2 hk_2 => ?_
  refine At.region ?_
  refine op_loadAggB (ds := u64s (wl x)) (nxlf rfl) ag46 rfl B1 (by first | (rw [List.drop_zero, List.take_of_length_le (by first | (simp; done) | (simp; omega))]; done) | rfl) (by first | (simp; done) | (simp; omega)) mem0 rfl ?_
  refine op_callA (nxla rfl) (.cons rfl .nil) (WShort_w hx) Tryd.func54 rfl rfl (by simp) rfl ?_
  rintro v5 L5 ⟨N5, a5, c5, rfl, rfl, r5⟩
  change At _ _ _ [N5, N1, R] _
  refine op_callA (nxla rfl) (.cons rfl .nil) (FText_f r5.rsl (by omega)) Tryd.func9 rfl rfl (by simp) rfl ?_
  rintro v6 L6 ⟨rfl, rfl⟩
  change At _ _ _ [N5, N1, R] _
  refine op_callA (nxla rfl) (.cons rfl (.cons rfl .nil)) (FTrimP_f (l := hexT (bytesOf x)) (p := [48, 120]) (by rw [hexT_len]; show 2 ≤ _; omega) rfl) Tryd.func53 rfl rfl (by simp) rfl ?_
  rintro v7 L7 ⟨rfl, rfl⟩
  change At _ _ _ [N5, N1, R] _
  rw [show (hexT (bytesOf x)).drop ([48, 120] : List UInt8).length = t from by rw [← ht]; rfl]
  refine op_callA (nxla rfl) (.cons rfl (.cons rfl .nil)) (FTrimL_f t) Tryd.func52 rfl rfl (by simp) rfl ?_
  rintro v8 L8 ⟨rfl, rfl⟩
  change At _ _ _ [N5, N1, R] _
  refine op_assign (nxlf rfl) rfl rfl ?_
  refine At.opsNil ?_
  refine At.norm (hk_2 ?_)
  refine At.seq fun K3 hk_3 => ?_
  refine At.seq fun K4 hk_4 => ?_
  refine At.region ?_
  refine op_move (nxlf rfl) rfl rfl ?_
  refine op_eqS (b := []) (nxlf rfl) rfl rfl rfl ?_
  refine At.opsNil ?_
  refine At.norm (hk_4 ?_)
  refine At.condP rfl (fun c10 => ?_) (fun c10 => ?_)
  · refine At.region ?_
    refine op_assign (nxlf rfl) rfl rfl ?_
    refine At.opsNil ?_
    refine At.norm (hk_3 ?_)
    refine At.seq fun K5 hk_5 => ?_
    refine At.region ?_
    refine op_move (nxlf rfl) rfl rfl ?_
    refine op_addS (a := [48, 120]) (nxlf rfl) rfl rfl (by (have := dropB_len 48 t; first | (simp; done) | (simp; omega))) rfl ?_
    refine op_assign (nxlf rfl) rfl rfl ?_
    refine At.opsNil ?_
    refine At.norm (hk_5 ?_)
    refine At.ret (?_)
    refine At.sub (L' := [R]) (.cons _ (.cons _ (.cons_cons _ (.slnil)))) ?_
    refine At.ret1 (L1 := []) rfl (.tmp rfl .nil) (.refl _) (.refl _) ?_
    exact ⟨by rw [quantT, ht, if_pos c10]; rfl, rfl⟩
  · refine At.skip ?_
    refine At.norm (hk_3 ?_)
    refine At.seq fun K6 hk_6 => ?_
    refine At.region ?_
    refine op_move (nxlf rfl) rfl rfl ?_
    refine op_addS (a := [48, 120]) (nxlf rfl) rfl rfl (by (have := dropB_len 48 t; first | (simp; done) | (simp; omega))) rfl ?_
    refine op_assign (nxlf rfl) rfl rfl ?_
    refine At.opsNil ?_
    refine At.norm (hk_6 ?_)
    refine At.ret (?_)
    refine At.sub (L' := [R]) (.cons _ (.cons _ (.cons_cons _ (.slnil)))) ?_
    refine At.ret1 (L1 := []) rfl (.tmp rfl .nil) (.refl _) (.refl _) ?_
    exact ⟨by rw [quantT, ht, if_neg c10]; rfl, rfl⟩
end Go.Proofs.YtlkjfbfenpkmhaaDoor
/- The engine: structs of two ints compared. For whatever program. No condition. -/
namespace Go.Proofs.YtlkjfbfenpkmhaaDoor
set_option linter.unusedVariables false
set_option linter.unusedSimpArgs false
open Go Go.RowKit
/-- A struct of two ints with names of their own. -/
def pairInts (P : Program) (t : TypeId) : Bool := !P.eqGuardType P.depth t && !P.stoodInHeld t && match (P.fieldsOf t).toList with
  | [f, g] => (match P.underlying f.type with | some (.int .i64) => true | _ => false) && (match P.underlying g.type with | some (.int .i64) => true | _ => false) && decide (f.offset = 0) && decide (g.offset = 1) && decide (f.name ≠ "_") && decide (g.name ≠ "_")
  | _ => false
theorem i64_of {P : Program} {t : TypeId} (h : (match P.underlying t with | some (.int .i64) => true | _ => false) = true) : P.underlying t = some (.int .i64) := by
  split at h
  · assumption
  · cases h
theorem pairInts_spec {P : Program} {t : TypeId} (h : pairInts P t = true) : P.eqGuardType P.depth t = false ∧ P.stoodInHeld t = false ∧ ∃ f g, (P.fieldsOf t).toList = [f, g] ∧ P.underlying f.type = some (.int .i64) ∧ P.underlying g.type = some (.int .i64) ∧ f.offset = 0 ∧ g.offset = 1 ∧ f.name ≠ "_" ∧ g.name ≠ "_" := by
  unfold pairInts at h
  split at h
  · rename_i f g e
    simp only [Bool.and_eq_true, Bool.not_eq_true', decide_eq_true_eq] at h
    exact ⟨h.1.1, h.1.2, f, g, e, i64_of h.2.1.1.1.1.1, i64_of h.2.1.1.1.1.2, h.2.1.1.1.2, h.2.1.1.2, h.2.1.2, h.2.2⟩
  · simp at h
theorem pair_eq {P : Program} {t : TypeId} (h : pairInts P t = true) (ht : P.underlying t = some (.struct (P.fieldsOf t))) (a b c e : Int) (w : World) : (Op.equalIn 10000 t (.agg #[.int .i64 a, .int .i64 b]) (.agg #[.int .i64 c, .int .i64 e])).run P w = .ok (decide (a = c ∧ b = e)) w := by
  obtain ⟨_, h2, f, g, hf, u1, u2, o1, o2, n1, n2⟩ := pairInts_spec h
  rw [run_equalIn_struct w 9999 t _ _ ht h2, hf]
  have p : ∀ (t' : TypeId) (u : P.underlying t' = some (.int .i64)) (x y : Int), (Op.equalIn 9999 t' (.int .i64 x) (.int .i64 y)).run P w = .ok (x == y) w := fun t' u x y => run_equalIn_int w 9998 t' .i64 .i64 x y u
  have q : ∀ (t' : TypeId) (u : P.underlying t' = some (.int .i64)) (x y : Int) (o : Nat) (z : Int) (ho : (#[Value.int .i64 x, Value.int .i64 y] : Array Value)[o]? = some (.int .i64 z)), (part t' #[.int .i64 x, .int .i64 y] o).run P w = .ok (.int .i64 z) w := fun t' u x y o z ho => by
    simp [part, isAgg, Go.run_underlying u, ho]
  have q1 := q _ u1 a b 0 a rfl
  have q2 := q _ u1 c e 0 c rfl
  have q3 := q _ u2 a b 1 b rfl
  have q4 := q _ u2 c e 1 e rfl
  simp only [Op.eqFields, if_pos n1, if_pos n2, Sem.run_bind, o1, o2, q1, q2, Result.andThen_ok, p _ u1]
  by_cases e1 : a = c
  · subst e1
    by_cases e2 : b = e
    · subst e2; simp [q3, p _ u2]
    · simp [e2, q3, q4, p _ u2]
  · simp [e1]
section
variable {P : Program} {n : Nat} {l : List (Nat × Value)} {E : World} {L Ls : List Heaplet} {X Y : Act → World → Prop} {d : Nat} {t t' ty : TypeId} {x y : Operand} {a b c e : Int}
theorem op_eqP {pos : _} {aft : _} {g : _} (s : NxF P n l E L Ls ⟨some d, .binOp .eql t x y t', ty, pos, aft, g⟩ X Y) (hp : pairInts P t = true) (ht : P.underlying t = some (.struct (P.fieldsOf t))) (hx : ev l x = some (.agg #[.int .i64 a, .int .i64 b])) (hy : ev l y = some (.agg #[.int .i64 c, .int .i64 e])) (hn : Nat.ble (d + 1) n = true)
    (h : At n ((d, .bool (decide (a = c ∧ b = e))) :: l) E L Y) : At n l E L X :=
  op_bin s hx hy (fun w => eqGuard_agg (pairInts_spec hp).1 w) (fun w => by
    rw [run_eql_struct, pair_eq hp ht]; rfl) hn h
theorem op_neP {pos : _} {aft : _} {g : _} (s : NxF P n l E L Ls ⟨some d, .binOp .neq t x y t', ty, pos, aft, g⟩ X Y) (hp : pairInts P t = true) (ht : P.underlying t = some (.struct (P.fieldsOf t))) (hx : ev l x = some (.agg #[.int .i64 a, .int .i64 b])) (hy : ev l y = some (.agg #[.int .i64 c, .int .i64 e])) (hn : Nat.ble (d + 1) n = true)
    (h : At n ((d, .bool (!decide (a = c ∧ b = e))) :: l) E L Y) : At n l E L X :=
  op_bin s hx hy (fun w => eqGuard_agg (pairInts_spec hp).1 w) (fun w => by
    rw [run_neq_struct, pair_eq hp ht]; rfl) hn h
end
end Go.Proofs.YtlkjfbfenpkmhaaDoor
/- quarrylaw04.wakes. No condition. -/
namespace Go.Proofs.YtlkjfbfenpkmhaaDoor
set_option linter.unusedVariables false
set_option linter.unusedSimpArgs false
open Go Go.RowKit
theorem WkBytes_f : Fn Tryd.prog 11 #[str [48, 120, 48, 48, 102, 70]] [] [] (fun v L => ∃ M a c, v = .tuple #[.slice a 2 c, faultV 0 0] ∧ L = [M] ∧ Row M 5 1 a 2 c (u8s [0, 255])) := by
  have h := FBytes_f [48, 120, 48, 48, 102, 70] (by decide)
  rw [show bytesR [48, 120, 48, 48, 102, 70] = ([0, 255], 0, 0) by decide +kernel] at h
  exact h
theorem WkNumber_f : Fn Tryd.prog 17 #[str [48, 120, 49, 102]] [] [] (fun v L => v = .tuple #[wo 31, faultV 0 0] ∧ L = []) := by
  have h := FNumber_f [48, 120, 49, 102] (by decide)
  rw [show numR [48, 120, 49, 102] = (31, 0, 0) by decide +kernel] at h
  exact h
theorem WkText_f {N : Heaplet} {a : Option Addr} {c : Nat} (h : RSl N 1 a 2 c (u8s [0, 255])) : Fn Tryd.prog 9 #[.slice a 2 c] [] [N] (fun v L => v = str [48, 120, 48, 48, 102, 102] ∧ L = []) := by
  have := FText_f h (by decide)
  rw [show hexT [0, 255] = [48, 120, 48, 48, 102, 102] by decide +kernel] at this
  exact this
theorem WkQuant_f : Fn Tryd.prog 25 #[.agg #[.int .u64 255, .int .u64 0, .int .u64 0, .int .u64 0]] [] [] (fun v L => v = str [48, 120, 102, 102] ∧ L = []) := by
  have h := FQuant_f (x := (255 : UInt64).toNat) (by decide)
  rw [wo_small, show quantT (255 : UInt64).toNat = [48, 120, 102, 102] by decide +kernel] at h
  exact h
set_option maxRecDepth 100000 in
theorem HWakes_f : Fn Tryd.prog 10 #[] [] [] (fun v L => v = .bool true ∧ L = []) := by
  refine Fn.enter (vs := []) Tryd.func10 rfl rfl rfl ?_
  intro E R hR
  change At _ _ E [R] _
  refine At.seq fun K1 hk_1 => ?_
  refine At.region ?_
  refine op_assign (nxlf rfl) rfl rfl ?_
  refine At.opsNil ?_
  refine At.norm (hk_1 ?_)
  refine At.seq fun K2 hk_2 => ?_
  refine At.region ?_
  refine op_callA (nxla rfl) (.cons rfl .nil) (WkBytes_f) Tryd.func11 rfl rfl (by simp) rfl ?_
  rintro v6 L6 ⟨N6, a6, c6, rfl, rfl, r6⟩
  change At _ _ _ [N6, R] _
  refine op_move (nxlf rfl) rfl rfl ?_
  refine op_extract (nxlf rfl) rfl rfl rfl ?_
  refine op_extract (nxlf rfl) rfl rfl rfl ?_
  refine op_alloc (nxla rfl) ze30 rfl (fun N2 b2 B2 => ?_)
  change Blk N2 b2 _ [.int .i64 0, .int .i64 0] at B2
  refine op_assign (nxlf rfl) rfl rfl ?_
  refine op_store (nxl rfl) sz30 rfl rfl rfl rfl rfl B2 (by simp) sel0 (fun N2 B2 => ?_)
  simp only [setL, List.set] at B2
  refine At.opsNil ?_
  refine At.norm (hk_2 ?_)
  refine At.seq fun K3 hk_3 => ?_
  refine At.region ?_
  refine op_callA (nxla rfl) (.cons rfl .nil) (WkNumber_f) Tryd.func17 rfl rfl (by simp) rfl ?_
  rintro v10 L10 ⟨rfl, rfl⟩
  change At _ _ _ [N2, N6, R] _
  refine op_move (nxlf rfl) rfl rfl ?_
  refine op_extract (nxlf rfl) rfl rfl rfl ?_
  refine op_extract (nxlf rfl) rfl rfl rfl ?_
  refine op_alloc (nxla rfl) ze46 rfl (fun N3 b3 B3 => ?_)
  change Blk N3 b3 _ [.int .u64 0, .int .u64 0, .int .u64 0, .int .u64 0] at B3
  refine op_alloc (nxla rfl) ze30 rfl (fun N4 b4 B4 => ?_)
  change Blk N4 b4 _ [.int .i64 0, .int .i64 0] at B4
  refine op_store (nxl rfl) sz46 rfl rfl rfl rfl rfl B3 (by simp) sel1 (fun N3 B3 => ?_)
  rw [setL_whole (by simp)] at B3
  refine op_store (nxl rfl) sz30 rfl rfl rfl rfl rfl B4 (by simp) sel1 (fun N4 B4 => ?_)
  simp only [setL, List.set] at B4
  refine At.opsNil ?_
  refine At.norm (hk_3 ?_)
  refine At.seq fun K4 hk_4 => ?_
  refine At.region ?_
  refine op_loadAggB (ds := [_, _]) (nxlf rfl) ag30 rfl B2 rfl rfl mem2 rfl ?_
  refine op_build (out := [.int .i64 0, .int .i64 0]) (nxlf rfl) ze30 pl30 .nil rfl rfl ?_
  refine op_eqP (nxlf rfl) (by kernel_rfl) (by kernel_rfl) rfl rfl rfl ?_
  change At _ ((15, .bool true) :: _) _ _ _
  refine op_move (nxlf rfl) rfl rfl ?_
  refine op_move (nxgf rfl rfl rfl rfl) rfl rfl ?_
  have s6 := r6.rsl
  refine op_str (nxgf rfl rfl rfl rfl) Tryd.underlying22 Tryd.underlying5 Tryd.underlying9 rfl (by assumption) (by first | exact mem0 | exact mem1 | exact mem2 | exact mem3 | exact mem4 | exact mem5 | exact mem6 | exact mem7 | exact mem8 | exact mem9) rfl ?_
  refine op_eqS (b := [0, 255]) (nxgf rfl rfl rfl rfl) rfl rfl rfl ?_
  change At _ ((19, .bool true) :: _) _ _ _
  refine op_pickT (nxlf rfl) rfl rfl rfl ?_
  refine op_move (nxlf rfl) rfl rfl ?_
  refine op_loadAggB (ds := [_, _]) (nxgf rfl rfl rfl rfl) ag30 rfl B4 rfl rfl mem0 rfl ?_
  refine op_loadAggB (ds := [_, _]) (nxgf rfl rfl rfl rfl) ag30 rfl B2 rfl rfl mem2 rfl ?_
  refine op_eqP (nxgf rfl rfl rfl rfl) (by kernel_rfl) (by kernel_rfl) rfl rfl rfl ?_
  change At _ ((24, .bool true) :: _) _ _ _
  refine op_pickT (nxlf rfl) rfl rfl rfl ?_
  refine op_move (nxlf rfl) rfl rfl ?_
  refine op_loadAggB (ds := u64s (wl 31)) (nxgf rfl rfl rfl rfl) ag46 rfl B3 (by first | (rw [List.drop_zero, List.take_of_length_le (by first | (simp; done) | (simp; omega))]; done) | rfl) (by first | (simp; done) | (simp; omega)) mem1 rfl ?_
  refine op_buildA (out := [_, .int .u64 0, .int .u64 0, .int .u64 0]) (nxgf rfl rfl rfl rfl) ze46 ae46 (.cons rfl .nil) rfl rfl ?_
  refine op_eqW (a := wl 31) (b := [31, 0, 0, 0]) (nxgf rfl rfl rfl rfl) ae46 Tryd.underlying44 (by kernel_rfl) rfl rfl rfl rfl rfl ?_
  change At _ ((29, .bool true) :: _) _ _ _
  refine op_pickT (nxlf rfl) rfl rfl rfl ?_
  refine op_move (nxlf rfl) rfl rfl ?_
  refine op_lit (nxga rfl rfl rfl rfl) Tryd.underlying22 ze5 sz5 (.cons rfl (.cons rfl .nil)) rfl rfl (by simp [Value.cells]) rfl rfl rfl (fun N32 a32 r32 => ?_)
  simp only [flatV, List.flatMap_cons, List.flatMap_nil, Value.cells, List.append_nil, List.cons_append, List.nil_append] at r32
  have s32 := r32.rsl
  change Row N32 _ 1 a32 2 2 (u8s [0, 255]) at r32
  have s32 := r32.rsl
  refine op_callA (nxga rfl rfl rfl rfl) (.cons rfl .nil) (WkText_f s32) Tryd.func9 rfl rfl (by simp) rfl ?_
  rintro v33 L33 ⟨rfl, rfl⟩
  change At _ _ _ [N32, N4, N3, N2, N6, R] _
  refine op_eqS (b := [48, 120, 48, 48, 102, 102]) (nxgf rfl rfl rfl rfl) rfl rfl rfl ?_
  change At _ ((34, .bool true) :: _) _ _ _
  refine op_pickT (nxlf rfl) rfl rfl rfl ?_
  refine op_move (nxlf rfl) rfl rfl ?_
  refine op_buildA (out := [_, .int .u64 0, .int .u64 0, .int .u64 0]) (nxgf rfl rfl rfl rfl) ze46 ae46 (.cons rfl .nil) rfl rfl ?_
  refine op_callA (nxga rfl rfl rfl rfl) (.cons rfl .nil) (WkQuant_f) Tryd.func25 rfl rfl (by simp) rfl ?_
  rintro v38 L38 ⟨rfl, rfl⟩
  change At _ _ _ [N32, N4, N3, N2, N6, R] _
  refine op_eqS (b := [48, 120, 102, 102]) (nxgf rfl rfl rfl rfl) rfl rfl rfl ?_
  change At _ ((39, .bool true) :: _) _ _ _
  refine op_pickT (nxlf rfl) rfl rfl rfl ?_
  refine op_assign (nxlf rfl) rfl rfl ?_
  refine At.opsNil ?_
  refine At.norm (hk_4 ?_)
  refine At.ret (?_)
  refine At.sub (L' := [R]) (.cons _ (.cons _ (.cons _ (.cons _ (.cons _ (.cons_cons _ (.slnil))))))) ?_
  refine At.ret1 (L1 := []) rfl (.tmp rfl .nil) (.refl _) (.refl _) ?_
  exact ⟨rfl, rfl⟩
end Go.Proofs.YtlkjfbfenpkmhaaDoor
/- The engine, words told apart. For whatever program. No condition. -/
namespace Go.Proofs.YtlkjfbfenpkmhaaDoor
set_option linter.unusedVariables false
set_option linter.unusedSimpArgs false
open Go Go.RowKit
section
variable {P : Program} {n : Nat} {l : List (Nat × Value)} {E : World} {L Ls : List Heaplet} {X Y : Act → World → Prop} {d : Nat} {t t' ty e : TypeId} {x y : Operand}
theorem op_neW {a b : List UInt64} {k : Nat} {pos : _} {aft : _} {g : _} (s : NxF P n l E L Ls ⟨some d, .binOp .neq t x y t', ty, pos, aft, g⟩ X Y) (ht : aelt P t = some (k, e, 1)) (he : P.underlying e = some (.int .u64)) (hg : P.eqGuardType P.depth t = false) (hx : ev l x = some (.agg (u64s a).toArray)) (hy : ev l y = some (.agg (u64s b).toArray)) (ha : a.length = k) (hb : b.length = k) (hn : Nat.ble (d + 1) n = true) (h : At n ((d, .bool (decide (a ≠ b))) :: l) E L Y) : At n l E L X := by
  obtain ⟨hu, i, hi, hsz⟩ := aelt_spec ht
  exact op_bin s hx hy (fun w => eqGuard_agg hg w) (fun w => by
    rw [run_neq_struct, run_equalIn_words w 9998 t e k hu he (fun w => by rw [run_sizeOf hi, hsz]) a b ha hb]
    simp only [Result.andThen_ok, show (!(a == b)) = decide (a ≠ b) from by rw [Bool.eq_iff_iff]; simp]) hn h
end
end Go.Proofs.YtlkjfbfenpkmhaaDoor
/- The engine, arrays of bytes compared. For whatever program. No condition. -/
namespace Go.Proofs.YtlkjfbfenpkmhaaDoor
set_option linter.unusedVariables false
set_option linter.unusedSimpArgs false
open Go Go.RowKit
theorem all_range8 : ∀ (xs ys : List UInt8), xs.length = ys.length → ((List.range xs.length).all fun i => xs.getD i 0 == ys.getD i 0) = (xs == ys)
  | [], [], _ => rfl
  | x :: xs, y :: ys, h => by
    have ih := all_range8 xs ys (by simpa using h)
    rw [List.length_cons, List.range_succ_eq_map, List.all_cons, List.all_map]
    simp only [List.getD_cons_zero, Function.comp_def, List.getD_cons_succ, ih]
    simp [List.cons_beq_cons]
  | [], _ :: _, h => by simp at h
  | _ :: _, [], h => by simp at h
section
variable {P : Program}
theorem run_equalIn_bytes8 (w : World) (d : Nat) (t e : TypeId) (n : Nat) (ht : P.underlying t = some (.array n e)) (he : P.underlying e = some (.int .u8)) (hsz : ∀ w, (sizeOf e).run P w = .ok 1 w)
    (xs ys : List UInt8) (hx : xs.length = n) (hy : ys.length = n) :
    (Op.equalIn (d + 2) t (.agg (u8s xs).toArray) (.agg (u8s ys).toArray)).run P w = .ok (xs == ys) w := by
  rw [← all_range8 xs ys (hx.trans hy.symm), hx, List.range_eq_range', Op.equalIn]
  simp only [Sem.run_bind, Go.run_underlying ht, Result.andThen_ok, hsz, Std.Legacy.Range.forIn_eq_forIn_range', Std.Legacy.Range.size, Nat.sub_zero, Nat.add_sub_cancel, Nat.div_one]
  have hl : ∀ i ∈ List.range' 0 n 1, i < n := fun i hi => by simpa using (List.mem_range'_1.1 hi).2
  generalize List.range' 0 n 1 = l at hl ⊢
  induction l with
  | nil => simp
  | cons i l ih =>
    have hi : i < n := hl i (by simp)
    have px : (part e (u8s xs).toArray (i * 1)).run P w = .ok (.int .u8 ((xs.getD i 0).toNat : Int)) w := by
      simp [part, isAgg, Go.run_underlying he, u8s, vb, List.getD, List.getElem?_eq_getElem (show i < xs.length by omega)]
    have py : (part e (u8s ys).toArray (i * 1)).run P w = .ok (.int .u8 ((ys.getD i 0).toNat : Int)) w := by
      simp [part, isAgg, Go.run_underlying he, u8s, vb, List.getD, List.getElem?_eq_getElem (show i < ys.length by omega)]
    have pe : (Op.equalIn (d + 1) e (.int .u8 ((xs.getD i 0).toNat : Int)) (.int .u8 ((ys.getD i 0).toNat : Int))).run P w = .ok (xs.getD i 0 == ys.getD i 0) w := by
      rw [run_equalIn_int w d e .u8 .u8 _ _ he]
      congr 1
      rw [Bool.eq_iff_iff]
      simp [← UInt8.toNat_inj]
      omega
    simp only [List.forIn_cons, Sem.run_bind, px, py, pe, Result.andThen_ok, List.all_cons]
    cases hb : (xs.getD i 0 == ys.getD i 0)
    · simp
    · simp only [Bool.not_true, Bool.false_eq_true, if_false, Sem.run_pure, Result.andThen_ok, Bool.true_and]
      exact ih fun j hj => hl j (by simp [hj])
variable {n : Nat} {l : List (Nat × Value)} {E : World} {L Ls : List Heaplet} {X Y : Act → World → Prop} {d : Nat} {t t' ty e : TypeId} {x y : Operand}
theorem op_eqW8 {a b : List UInt8} {k : Nat} {pos : _} {aft : _} {g : _} (s : NxF P n l E L Ls ⟨some d, .binOp .eql t x y t', ty, pos, aft, g⟩ X Y) (ht : aelt P t = some (k, e, 1)) (he : P.underlying e = some (.int .u8)) (hg : P.eqGuardType P.depth t = false) (hx : ev l x = some (.agg (u8s a).toArray)) (hy : ev l y = some (.agg (u8s b).toArray)) (ha : a.length = k) (hb : b.length = k) (hn : Nat.ble (d + 1) n = true) (h : At n ((d, .bool (decide (a = b))) :: l) E L Y) : At n l E L X := by
  obtain ⟨hu, i, hi, hsz⟩ := aelt_spec ht
  exact op_bin s hx hy (fun w => eqGuard_agg hg w) (fun w => by
    rw [run_eql_struct, run_equalIn_bytes8 w 9998 t e k hu he (fun w => by rw [run_sizeOf hi, hsz]) a b ha hb]
    simp only [Result.andThen_ok, show (a == b) = decide (a = b) from by rw [Bool.eq_iff_iff]; simp]) hn h
end
end Go.Proofs.YtlkjfbfenpkmhaaDoor
/- The engine, arrays of bytes told apart. For whatever program. No condition. -/
namespace Go.Proofs.YtlkjfbfenpkmhaaDoor
set_option linter.unusedVariables false
set_option linter.unusedSimpArgs false
open Go Go.RowKit
section
variable {P : Program} {n : Nat} {l : List (Nat × Value)} {E : World} {L Ls : List Heaplet} {X Y : Act → World → Prop} {d : Nat} {t t' ty e : TypeId} {x y : Operand}
theorem op_neW8 {a b : List UInt8} {k : Nat} {pos : _} {aft : _} {g : _} (s : NxF P n l E L Ls ⟨some d, .binOp .neq t x y t', ty, pos, aft, g⟩ X Y) (ht : aelt P t = some (k, e, 1)) (he : P.underlying e = some (.int .u8)) (hg : P.eqGuardType P.depth t = false) (hx : ev l x = some (.agg (u8s a).toArray)) (hy : ev l y = some (.agg (u8s b).toArray)) (ha : a.length = k) (hb : b.length = k) (hn : Nat.ble (d + 1) n = true) (h : At n ((d, .bool (decide (a ≠ b))) :: l) E L Y) : At n l E L X := by
  obtain ⟨hu, i, hi, hsz⟩ := aelt_spec ht
  exact op_bin s hx hy (fun w => eqGuard_agg hg w) (fun w => by
    rw [run_neq_struct, run_equalIn_bytes8 w 9998 t e k hu he (fun w => by rw [run_sizeOf hi, hsz]) a b ha hb]
    simp only [Result.andThen_ok, show (!(a == b)) = decide (a ≠ b) from by rw [Bool.eq_iff_iff]; simp]) hn h
end
end Go.Proofs.YtlkjfbfenpkmhaaDoor
