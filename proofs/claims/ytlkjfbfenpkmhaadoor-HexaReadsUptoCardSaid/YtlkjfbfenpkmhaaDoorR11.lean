/- Several texts in one: see the remarks ahead of each part. No condition but those told there. -/
import Derived.Test.YtlkjfbfenpkmhaaDoorR6
import Derived.Test.YtlkjfbfenpkmhaaDoorR10
import Derived.Test.YtlkjfbfenpkmhaaDoorR9
/- hexa.Number, hexa.just, hexa.Address, hexa.Hash. Condition: a text of at most 2^40 bytes. -/
namespace Go.Proofs.YtlkjfbfenpkmhaaDoor
set_option linter.unusedVariables false
set_option linter.unusedSimpArgs false
open Go Go.RowKit
theorem askN_f : AskP 40 askN := by
  intro N a n c l hs hn
  have hlen := hs.len8
  refine Fn.enter (vs := [.slice a n c]) Tryd.func40 rfl rfl rfl ?_
  intro E R hR
  have hs := hs.le (hR N (by simp))
  change At _ _ E [R] _
  refine At.seq fun K1 hk_1 => ?_
  refine At.region ?_
  refine op_assign (nxlf rfl) rfl rfl ?_
  refine At.opsNil ?_
  refine At.norm (hk_1 ?_)
  refine At.seq fun K2 hk_2 => ?_
  refine At.block ?_
  refine At.seq fun K3 hk_3 => ?_
  refine At.region ?_
  refine op_move (nxlf rfl) rfl rfl ?_
  refine op_lenS (nxlf rfl) se22 rfl rfl ?_
  refine op_eql (nxlf rfl) rfl rfl rfl ?_
  refine op_move (nxlf rfl) rfl rfl ?_
  refine At.partP (d := 7) rfl (fun g7 => ?_) (fun g7 => ?_)
  · refine op_move (nxgf rfl rfl rfl rfl) rfl rfl ?_
    refine op_idx1 (nxgf rfl rfl rfl rfl) se22 rfl rfl (by assumption) (show _ = ((0 : Nat) : Int) from rfl) (by omega) rfl ?_
    refine op_loadE (nxgf rfl rfl rfl rfl) sc5 rfl (by assumption) (by first | exact get8 (by omega) | exact get64 (by omega) | exact get32 (by omega)) (by first | exact mem0 | exact mem1 | exact mem2 | exact mem3 | exact mem4 | exact mem5 | exact mem6 | exact mem7 | exact mem8 | exact mem9) rfl ?_
    refine op_eql (nxgf rfl rfl rfl rfl) rfl rfl rfl ?_
    refine op_pickT (nxlf rfl) rfl rfl rfl ?_
    refine op_assign (nxlf rfl) rfl rfl ?_
    refine At.opsNil ?_
    refine At.norm (hk_3 ?_)
    refine At.condP rfl (fun c3 => ?_) (fun c3 => ?_)
    · refine At.seq fun K4 hk_4 => ?_
      refine At.region ?_
      refine op_assign (nxlf rfl) rfl rfl ?_
      refine At.opsNil ?_
      refine At.norm (hk_4 ?_)
      refine At.ret (At.inRet (At.thenRet (?_)))
      refine At.ret1 (L1 := []) rfl (.tmp rfl .nil) (.refl _) (.refl _) ?_
      first
        | exact ⟨by rw [askN, if_pos (by omega)]; rfl, rfl⟩
        | exact ⟨by rw [askN, if_neg (by omega), if_pos (by omega)]; rfl, rfl⟩
        | exact ⟨by rw [askN, if_neg (by omega), if_neg (by omega)]; rfl, rfl⟩
    · refine At.seq fun K5 hk_5 => ?_
      refine At.region ?_
      refine op_move (nxlf rfl) rfl rfl ?_
      refine op_lenS (nxlf rfl) se22 rfl rfl ?_
      refine op_eql (nxlf rfl) rfl rfl rfl ?_
      refine op_assign (nxlf rfl) rfl rfl ?_
      refine At.opsNil ?_
      refine At.norm (hk_5 ?_)
      refine At.condP rfl (fun c13 => ?_) (fun c13 => ?_)
      · refine At.seq fun K6 hk_6 => ?_
        refine At.region ?_
        refine op_assign (nxlf rfl) rfl rfl ?_
        refine At.opsNil ?_
        refine At.norm (hk_6 ?_)
        refine At.ret (At.inRet (At.thenRet (?_)))
        refine At.ret1 (L1 := []) rfl (.tmp rfl .nil) (.refl _) (.refl _) ?_
        first
          | exact ⟨by rw [askN, if_pos (by omega)]; rfl, rfl⟩
          | exact ⟨by rw [askN, if_neg (by omega), if_pos (by omega)]; rfl, rfl⟩
          | exact ⟨by rw [askN, if_neg (by omega), if_neg (by omega)]; rfl, rfl⟩
      · refine At.skip ?_
        refine At.inNorm ?_
        refine At.norm (hk_2 ?_)
        refine At.seq fun K7 hk_7 => ?_
        refine At.region ?_
        refine op_assign (nxlf rfl) rfl rfl ?_
        refine At.opsNil ?_
        refine At.norm (hk_7 ?_)
        refine At.ret (?_)
        refine At.ret1 (L1 := []) rfl (.tmp rfl .nil) (.refl _) (.refl _) ?_
        first
          | exact ⟨by rw [askN, if_pos (by omega)]; rfl, rfl⟩
          | exact ⟨by rw [askN, if_neg (by omega), if_pos (by omega)]; rfl, rfl⟩
          | exact ⟨by rw [askN, if_neg (by omega), if_neg (by omega)]; rfl, rfl⟩
  · refine op_skip rfl rfl rfl rfl rfl rfl rfl ?_
    refine op_skip rfl rfl rfl rfl rfl rfl rfl ?_
    refine op_skip rfl rfl rfl rfl rfl rfl rfl ?_
    refine op_skip rfl rfl rfl rfl rfl rfl rfl ?_
    refine op_pickF (nxlf rfl) rfl rfl rfl ?_
    refine op_assign (nxlf rfl) rfl rfl ?_
    refine At.opsNil ?_
    refine At.norm (hk_3 ?_)
    refine At.condF rfl ?_
    refine At.seq fun K8 hk_8 => ?_
    refine At.region ?_
    refine op_move (nxlf rfl) rfl rfl ?_
    refine op_lenS (nxlf rfl) se22 rfl rfl ?_
    refine op_eql (nxlf rfl) rfl rfl rfl ?_
    refine op_assign (nxlf rfl) rfl rfl ?_
    refine At.opsNil ?_
    refine At.norm (hk_8 ?_)
    refine At.condP rfl (fun c13 => ?_) (fun c13 => ?_)
    · refine At.seq fun K9 hk_9 => ?_
      refine At.region ?_
      refine op_assign (nxlf rfl) rfl rfl ?_
      refine At.opsNil ?_
      refine At.norm (hk_9 ?_)
      refine At.ret (At.inRet (At.thenRet (?_)))
      refine At.ret1 (L1 := []) rfl (.tmp rfl .nil) (.refl _) (.refl _) ?_
      first
        | exact ⟨by rw [askN, if_pos (by omega)]; rfl, rfl⟩
        | exact ⟨by rw [askN, if_neg (by omega), if_pos (by omega)]; rfl, rfl⟩
        | exact ⟨by rw [askN, if_neg (by omega), if_neg (by omega)]; rfl, rfl⟩
    · refine At.skip ?_
      refine At.inNorm ?_
      refine At.norm (hk_2 ?_)
      refine At.seq fun K10 hk_10 => ?_
      refine At.region ?_
      refine op_assign (nxlf rfl) rfl rfl ?_
      refine At.opsNil ?_
      refine At.norm (hk_10 ?_)
      refine At.ret (?_)
      refine At.ret1 (L1 := []) rfl (.tmp rfl .nil) (.refl _) (.refl _) ?_
      first
        | exact ⟨by rw [askN, if_pos (by omega)]; rfl, rfl⟩
        | exact ⟨by rw [askN, if_neg (by omega), if_pos (by omega)]; rfl, rfl⟩
        | exact ⟨by rw [askN, if_neg (by omega), if_neg (by omega)]; rfl, rfl⟩
theorem WOf4_f : Fn Tryd.prog 43 #[.int .u64 4] [] [] (fun v L => v = wo 4 ∧ L = []) := WOf_f 4
theorem amt4 : amt 4 = 4 := rfl
/-- A number, what is wrong, and where. -/
def NumP (z : Nat × Nat × Nat) (v : Value) (L : List Heaplet) : Prop := v = .tuple #[wo z.1, faultV (z.2.1 : Int) (z.2.2 : Int)] ∧ L = []
set_option maxRecDepth 100000 in
set_option maxHeartbeats 2000000 in
theorem FNumber_f (s : List UInt8) (hs : s.length ≤ 1099511627776) : Fn Tryd.prog 17 #[str s] [] [] (NumP (numR s)) := by
  obtain ⟨z, hz⟩ : ∃ z, readF askN 0 [] (runesOf s) = z := ⟨_, rfl⟩
  have hF := FRead_f Tryd.func40 rfl rfl askN_f s hs
  have hdl := readF_digits (ask := askN) (runesOf s) 0 [] (fun x hx => by cases hx)
  have hln := readF_len (ask := askN) (runesOf s) 0 []
  have h64 := readF_asked (runesOf s) 0 [] (by decide)
  have hrl := runes_len s
  obtain ⟨y, hy⟩ : ∃ y, numR s = y := ⟨_, rfl⟩
  have hR : y = if z.2.2 ≠ 0 then (0, z.2.2, z.2.1) else if z.1.length = 0 then (0, 2, z.2.1) else (numD z.1, 0, 0) := by rw [← hz, ← hy]; rfl
  rw [hz] at hF hdl hln h64
  rw [hy]
  obtain ⟨d, k, wy⟩ := z
  obtain ⟨W, wh, pl⟩ := y
  simp only at hdl hln h64 hR
  replace hF : Fn Tryd.prog 32 #[str s, .func (.func 40) #[] #[]] [] [] (fun v L => ∃ M a c, v = .tuple #[.slice a d.length c, .int .i64 (k : Int), faultV (wy : Int) ((if wy = 0 then 0 else k : Nat) : Int)] ∧ L = [M] ∧ RSl M 1 a d.length c (u8s d)) := hF
  have hdd := digit_lt hdl
  have hnl := numD_lt d hdd
  simp only [List.length_nil] at hln
  have hR0 : wy ≠ 0 → W = 0 ∧ wh = wy ∧ pl = k := fun h => by rw [if_pos h] at hR; injection hR with e1 e2; injection e2 with e2 e3; exact ⟨e1, e2, e3⟩
  have hR1 : wy = 0 → d.length = 0 → W = 0 ∧ wh = 2 ∧ pl = k := fun h h2 => by rw [if_neg (fun e => e h), if_pos h2] at hR; injection hR with e1 e2; injection e2 with e2 e3; exact ⟨e1, e2, e3⟩
  have hR2 : wy = 0 → ¬ d.length = 0 → W = numD d ∧ wh = 0 ∧ pl = 0 := fun h h2 => by rw [if_neg (fun e => e h), if_neg h2] at hR; injection hR with e1 e2; injection e2 with e2 e3; exact ⟨e1, e2, e3⟩
  refine Fn.enter (vs := [str s]) Tryd.func17 rfl rfl rfl ?_
  intro E R hR
  change At _ _ E [R] _
  refine At.seq fun K1 hk_1 => ?_
  refine At.region ?_
  refine op_alloc (nxla rfl) ze46 rfl (fun N2 b2 B2 => ?_)
  change Blk N2 b2 _ [.int .u64 0, .int .u64 0, .int .u64 0, .int .u64 0] at B2
  change Blk N2 b2 _ (u64s (wl 0)) at B2
  refine op_alloc (nxla rfl) ze30 rfl (fun N3 b3 B3 => ?_)
  change Blk N3 b3 _ [.int .i64 0, .int .i64 0] at B3
  change Blk N3 b3 _ [.int .i64 0, .int .i64 0] at B3
  refine At.opsNil ?_
  refine At.norm (hk_1 ?_)
  refine At.seq fun K2 hk_2 => ?_
  refine At.region ?_
  refine op_move (nxlf rfl) rfl rfl ?_
  refine op_callA (nxla rfl) (.cons rfl (.cons rfl .nil)) (hF) Tryd.func32 rfl rfl (by simp) rfl ?_
  rintro v12 L12 ⟨N12, a12, c12, rfl, rfl, s12⟩
  change At _ _ _ [N12, N3, N2, R] _
  refine op_move (nxlf rfl) rfl rfl ?_
  refine op_extract (nxlf rfl) rfl rfl rfl ?_
  refine op_extract (nxlf rfl) rfl rfl rfl ?_
  refine op_extract (nxlf rfl) rfl rfl rfl ?_
  refine op_alloc (nxla rfl) ze30 rfl (fun N6 b6 B6 => ?_)
  change Blk N6 b6 _ [.int .i64 0, .int .i64 0] at B6
  refine op_assign (nxlf rfl) rfl rfl ?_
  refine op_assign (nxlf rfl) rfl rfl ?_
  refine op_store (nxl rfl) sz30 rfl rfl rfl rfl rfl B6 (by simp) sel0 (fun N6 B6 => ?_)
  simp only [setL, List.set] at B6
  refine At.opsNil ?_
  refine At.norm (hk_2 ?_)
  refine At.seq fun K3 hk_3 => ?_
  refine At.block ?_
  refine At.seq fun K4 hk_4 => ?_
  refine At.region ?_
  refine op_fieldAddr (nxlf rfl) fl30_0 rfl rfl ?_
  refine op_loadB (nxlf rfl) sc28 rfl B6 (by first | rfl) mem0 rfl ?_
  refine op_neq (nxlf rfl) rfl rfl rfl ?_
  refine op_assign (nxlf rfl) rfl rfl ?_
  refine At.opsNil ?_
  refine At.norm (hk_4 ?_)
  refine At.condP rfl (fun c16 => ?_) (fun c16 => ?_)
  · refine At.knowT (d := 16) rfl c16 ?_
    obtain ⟨hW, hwh, hpl⟩ := hR0 (by omega)
    refine At.seq fun K5 hk_5 => ?_
    refine At.perm sel4 ?_
    refine At.perm sel2 ?_
    refine At.perm sel2 ?_
    refine At.perm sel4 ?_
    refine At.perm sel4 ?_
    refine At.drawnS [N6, N12, R] [3] [] [0,1,2,3] (by kernel_rfl) (by kernel_rfl) (.cons _ (.cons _ (.refl _))) ?_
    refine op_buildA (out := [.int .u64 0, .int .u64 0, .int .u64 0, .int .u64 0]) (nxsf rfl rfl rfl) ze46 ae46 .nil rfl rfl ?_
    refine op_loadAggB (ds := [_, _]) (nxsf rfl rfl rfl) ag30 rfl B6 rfl rfl mem0 rfl ?_
    refine op_store (nxsm rfl rfl rfl) sz46 rfl rfl rfl rfl rfl B2 (by simp) sel1 (fun N2 B2 => ?_)
    change Blk N2 b2 _ (u64s (wl 0)) at B2; rw [← hW] at B2
    refine At.moreS (Lst := [N6, N12, R]) (Lst' := [N6, N12, R]) (.refl _) (.cons _ (.cons _ (.refl _))) ?_
    refine op_store (nxsl rfl rfl rfl rfl) sz30 rfl rfl rfl rfl rfl B3 (by simp) sel1 (fun N3 B3 => ?_)
    simp only [setL, List.set] at B3
    refine At.sNil ?_
    refine At.norm (hk_5 ?_)
    refine At.ret (At.inRet (At.thenRet (?_)))
    refine At.sub (L' := [N3, N2, R]) (.cons_cons _ (.cons_cons _ (.cons _ (.cons _ (.cons_cons _ (.slnil)))))) ?_
    refine At.perm sel2 ?_
    refine At.perm sel1 ?_
    refine At.perm sel2 ?_
    refine At.retN (L1 := []) rfl (.cell rfl (res_agg (ds := u64s (wl W)) ag46 B2 (by first | (rw [List.drop_zero, List.take_of_length_le (by first | (simp; done) | (simp; omega))]; done) | rfl) (by first | (simp; done) | (simp; omega)) mem0) (.cell rfl (res_agg (ds := [_, _]) ag30 B3 rfl rfl mem1) .nil)) rfl (.cons _ (.cons _ (.refl _))) (.refl _) ?_
    exact ⟨by rw [hwh, hpl, if_neg (by omega)]; rfl, rfl⟩
  · refine At.knowF (d := 16) rfl c16 ?_
    refine At.seq fun K6 hk_6 => ?_
    refine At.region ?_
    refine op_move (nxlf rfl) rfl rfl ?_
    refine op_lenS (nxlf rfl) se22 rfl rfl ?_
    refine op_eql (nxlf rfl) rfl rfl rfl ?_
    refine op_assign (nxlf rfl) rfl rfl ?_
    refine At.opsNil ?_
    refine At.norm (hk_6 ?_)
    refine At.condP rfl (fun c22 => ?_) (fun c22 => ?_)
    · refine At.knowT (d := 22) rfl c22 ?_
      obtain ⟨hW, hwh, hpl⟩ := hR1 (by omega) (by omega)
      refine At.seq fun K7 hk_7 => ?_
      refine At.region ?_
      refine op_buildA (out := [.int .u64 0, .int .u64 0, .int .u64 0, .int .u64 0]) (nxlf rfl) ze46 ae46 .nil rfl rfl ?_
      refine op_move (nxlf rfl) rfl rfl ?_
      refine op_callA (nxla rfl) (.cons rfl (.cons rfl .nil)) (FFault_f 2 (k : Int)) Tryd.func34 rfl rfl (by simp) rfl ?_
      rintro v28 L28 ⟨rfl, rfl⟩
      change At _ _ _ [N6, N12, N3, N2, R] _
      refine op_store (nxl rfl) sz46 rfl rfl rfl rfl rfl B2 (by simp) sel3 (fun N2 B2 => ?_)
      change Blk N2 b2 _ (u64s (wl 0)) at B2; rw [← hW] at B2
      refine op_store (nxl rfl) sz30 rfl rfl rfl rfl rfl B3 (by simp) sel3 (fun N3 B3 => ?_)
      simp only [setL, List.set] at B3
      refine At.opsNil ?_
      refine At.norm (hk_7 ?_)
      refine At.ret (At.inRet (At.thenRet (?_)))
      refine At.sub (L' := [N3, N2, R]) (.cons_cons _ (.cons_cons _ (.cons _ (.cons _ (.cons_cons _ (.slnil)))))) ?_
      refine At.perm sel2 ?_
      refine At.perm sel1 ?_
      refine At.perm sel2 ?_
      refine At.retN (L1 := []) rfl (.cell rfl (res_agg (ds := u64s (wl W)) ag46 B2 (by first | (rw [List.drop_zero, List.take_of_length_le (by first | (simp; done) | (simp; omega))]; done) | rfl) (by first | (simp; done) | (simp; omega)) mem0) (.cell rfl (res_agg (ds := [_, _]) ag30 B3 rfl rfl mem1) .nil)) rfl (.cons _ (.cons _ (.refl _))) (.refl _) ?_
      exact ⟨by rw [hwh, hpl]; rfl, rfl⟩
    · refine At.knowF (d := 22) rfl c22 ?_
      obtain ⟨hW, hwh, hpl⟩ := hR2 (by omega) (by omega)
      refine At.skip ?_
      refine At.inNorm ?_
      refine At.norm (hk_3 ?_)
      refine At.seq fun K8 hk_8 => ?_
      refine At.region ?_
      refine op_alloc (nxla rfl) ze46 rfl (fun N7 b7 B7 => ?_)
      change Blk N7 b7 _ [.int .u64 0, .int .u64 0, .int .u64 0, .int .u64 0] at B7
      change Blk N7 b7 _ (u64s (wl 0)) at B7
      refine At.opsNil ?_
      refine At.norm (hk_8 ?_)
      refine At.seq fun K9 hk_9 => ?_
      refine At.seq fun K10 hk_10 => ?_
      refine At.region ?_
      refine op_move (nxlf rfl) rfl rfl ?_
      refine op_lenS (nxlf rfl) se22 rfl rfl ?_
      refine op_move (nxlf rfl) rfl rfl ?_
      refine At.opsNil ?_
      refine At.norm (hk_10 ?_)
      refine At.block ?_
      refine At.loop (fun fr_ hp_ ms_ => ∃ (i : Nat) (N7 : Heaplet), fr_ = [(2, .pointer (some ⟨b2, 0, none⟩)), (3, .pointer (some ⟨b3, 0, none⟩)), (7, .pointer (some ⟨b7, 0, none⟩)), (29, .slice a12 d.length c12), (30, .int .i64 (d.length : Int)), (31, .int .i64 (i : Int))] ∧ hp_ = [N7, N6, N12, N3, N2, R] ∧ d.length - i = ms_ ∧ (i ≤ d.length) ∧ (Blk N7 b7 46 (u64s (wl (numD (d.take i)))))) ?_ (.refl _) ⟨0, N7, rfl, rfl, rfl, Nat.zero_le _, B7⟩ ?_
      · exact .cons (by first | exact lkI rfl (by omega) | rfl) (.cons (by first | exact lkI rfl (by omega) | rfl) (.cons (by first | exact lkI rfl (by omega) | rfl) (.cons (by first | exact lkI rfl (by omega) | rfl) (.cons (by first | exact lkI rfl (by omega) | rfl) (.cons (by first | exact lkI rfl (by omega) | rfl) .nil)))))
      rintro _ _ _ ⟨i, N7, rfl, rfl, rfl, hi, B7⟩
      refine At.seq fun K11 hk_11 => ?_
      refine At.region ?_
      refine op_lss (nxlf rfl) rfl rfl rfl ?_
      refine At.opsNil ?_
      refine At.norm (hk_11 ?_)
      refine At.seq fun K12 hk_12 => ?_
      refine At.condP rfl (fun c32 => ?_) (fun c32 => ?_)
      · refine At.knowT (d := 32) rfl c32 ?_
        have hlt : i < d.length := by omega
        have hV := hnl i (by omega)
        have hp := hexPow64 (i := i) (by omega)
        have hxi := hdd i
        have hu8 : (UInt64.ofNat (d.getD i 0).toNat).toNat = (d.getD i 0).toNat := by rw [UInt64.toNat_ofNat']; omega
        have hVW : numD (d.take i) * 2 ^ amt 4 < WW := by rw [amt4]; show _ * 16 < 2 ^ 256; omega
        have hV0 : numD (d.take i) < WW := by show _ < 2 ^ 256; omega
        refine At.skip ?_
        refine At.norm (hk_12 ?_)
        refine At.seq fun K13 hk_13 => ?_
        refine At.block ?_
        refine At.seq fun K14 hk_14 => ?_
        refine At.region ?_
        refine op_idx1 (nxlf rfl) se22 rfl rfl s12 (by first | rfl | exact (Int.toNat_of_nonneg (by omega)).symm) (by omega) rfl ?_
        refine op_loadE (nxlf rfl) sc5 rfl s12 (by first | exact get8 (by omega) | exact get64 (by omega) | exact get32 (by omega)) (by first | exact mem0 | exact mem1 | exact mem2 | exact mem3 | exact mem4 | exact mem5 | exact mem6 | exact mem7 | exact mem8 | exact mem9) rfl ?_
        refine op_assign (nxlf rfl) rfl rfl ?_
        refine At.opsNil ?_
        refine At.norm (hk_14 ?_)
        refine At.drawn [5,6,7] [1,3,4,0,2,5,6,7] (by kernel_rfl) (by kernel_rfl) ?_
        refine op_loadAggB (ds := u64s (wl (numD (d.take i)))) (nxof rfl rfl rfl (by kernel_rfl)) ag46 rfl B7 (by first | (rw [List.drop_zero, List.take_of_length_le (by first | (simp; done) | (simp; omega))]; done) | rfl) (by first | (simp; done) | (simp; omega)) mem0 rfl ?_
        refine op_move (nxof rfl rfl rfl (by kernel_rfl)) rfl rfl ?_
        refine op_conv64 (nxof rfl rfl rfl (by kernel_rfl)) (und_some Tryd.underlying5) Tryd.underlying44 rfl (by first | rfl | exact (Int.toNat_of_nonneg (by omega)).symm) rfl ?_
        refine op_callA (nxoa rfl rfl rfl) (.cons rfl .nil) (WOf4_f) Tryd.func43 rfl rfl (by simp) rfl ?_
        rintro v35 L35 ⟨rfl, rfl⟩
        change At _ _ _ [N7, N6, N12, N3, N2, R] _
        refine op_callA (nxoa rfl rfl rfl) (.cons rfl (.cons rfl .nil)) (WShl_f (m := 4) (x := numD (d.take i)) (by decide) hV0) Tryd.func42 rfl rfl (by simp) rfl ?_
        rintro v37 L37 ⟨rfl, rfl⟩
        change At _ _ _ [N7, N6, N12, N3, N2, R] _
        refine op_callA (nxosa rfl rfl rfl rfl) (.cons rfl .nil) (WOf_f (UInt64.ofNat (d.getD i 0).toNat)) Tryd.func43 rfl rfl (by simp) rfl ?_
        rintro v40 L40 ⟨rfl, rfl⟩
        change At _ _ _ [N7, N6, N12, N3, N2, R] _
        rw [hu8]
        refine op_callA (nxosa rfl rfl rfl rfl) (.cons rfl (.cons rfl .nil)) (WOr_f (x := numD (d.take i) * 2 ^ amt 4) (y := (d.getD i 0).toNat) hVW (Nat.lt_of_lt_of_le hxi (by decide))) Tryd.func41 rfl rfl (by simp) rfl ?_
        rintro v41 L41 ⟨rfl, rfl⟩
        change At _ _ _ [N7, N6, N12, N3, N2, R] _
        rw [amt4, show (2 : Nat) ^ 4 = 16 from rfl, or_digit _ hxi, ← numD_take hlt]
        refine op_store (nxos rfl rfl rfl rfl) sz46 rfl rfl rfl rfl rfl B7 (by simp) sel0 (fun N7 B7 => ?_)
        rw [setL_whole (by simp)] at B7
        refine At.oneNil ?_
        refine At.inNorm ?_
        refine At.norm (hk_13 ?_)
        refine At.region ?_
        refine op_addI (nxlf rfl) rfl rfl (by omega) (by omega) rfl ?_
        refine op_move (nxlf rfl) rfl rfl ?_
        refine At.opsNil ?_
        refine At.norm ?_
        refine At.back ?_ (.refl _) ⟨i + 1, N7, rfl, rfl, rfl, by omega, B7⟩ ?_
        · exact .cons (by first | exact lkI rfl (by omega) | rfl) (.cons (by first | exact lkI rfl (by omega) | rfl) (.cons (by first | exact lkI rfl (by omega) | rfl) (.cons (by first | exact lkI rfl (by omega) | rfl) (.cons (by first | exact lkI rfl (by omega) | rfl) (.cons (by first | exact lkI rfl (by omega) | rfl) .nil)))))
        · omega
      · refine At.knowF (d := 32) rfl c32 ?_
        refine At.exit (At.thenExit (At.thenExit (At.inHit ?_)))
        refine At.norm (hk_9 ?_)
        refine At.seq fun K15 hk_15 => ?_
        refine At.region ?_
        rw [show i = d.length by omega, List.take_length] at B7
        refine op_loadAggB (ds := u64s (wl (numD d))) (nxlf rfl) ag46 rfl B7 (by first | (rw [List.drop_zero, List.take_of_length_le (by first | (simp; done) | (simp; omega))]; done) | rfl) (by first | (simp; done) | (simp; omega)) mem0 rfl ?_
        refine op_build (out := [.int .i64 0, .int .i64 0]) (nxlf rfl) ze30 pl30 .nil rfl rfl ?_
        refine op_store (nxl rfl) sz46 rfl rfl rfl rfl rfl B2 (by simp) sel4 (fun N2 B2 => ?_)
        rw [setL_whole (by simp), ← hW] at B2
        refine op_store (nxl rfl) sz30 rfl rfl rfl rfl rfl B3 (by simp) sel4 (fun N3 B3 => ?_)
        simp only [setL, List.set] at B3
        refine At.opsNil ?_
        refine At.norm (hk_15 ?_)
        refine At.ret (?_)
        refine At.sub (L' := [N3, N2, R]) (.cons_cons _ (.cons_cons _ (.cons _ (.cons _ (.cons _ (.cons_cons _ (.slnil))))))) ?_
        refine At.perm sel2 ?_
        refine At.perm sel1 ?_
        refine At.perm sel2 ?_
        refine At.retN (L1 := []) rfl (.cell rfl (res_agg (ds := u64s (wl W)) ag46 B2 (by first | (rw [List.drop_zero, List.take_of_length_le (by first | (simp; done) | (simp; omega))]; done) | rfl) (by first | (simp; done) | (simp; omega)) mem0) (.cell rfl (res_agg (ds := [_, _]) ag30 B3 rfl rfl mem1) .nil)) rfl (.cons _ (.cons _ (.refl _))) (.refl _) ?_
        exact ⟨by rw [hwh, hpl]; rfl, rfl⟩
end Go.Proofs.YtlkjfbfenpkmhaaDoor
/- hexa.just, hexa.Address, hexa.Hash. Condition: a text of at most 2^40 bytes. -/
namespace Go.Proofs.YtlkjfbfenpkmhaaDoor
set_option linter.unusedVariables false
set_option linter.unusedSimpArgs false
open Go Go.RowKit
theorem all8x (l : List UInt8) : (u8s l).all (·.oneCell') = true := List.all_eq_true.2 (one_u8s l)
/-- So many bytes of a text; what is wrong, and where. -/
def justR (s : List UInt8) (n : Nat) : List UInt8 × Nat × Nat :=
  let z := bytesR s
  if z.2.1 ≠ 0 then ([], z.2.1, z.2.2) else if z.1.length ≠ n then ([], 6, 0) else z
theorem justR_len (s : List UInt8) (n : Nat) : (justR s n).1.length ≤ n := by
  unfold justR
  by_cases h : (bytesR s).2.1 ≠ 0
  · simp only [if_pos h]; exact Nat.zero_le _
  · by_cases h2 : (bytesR s).1.length ≠ n
    · simp only [if_neg h, if_pos h2]; exact Nat.zero_le _
    · simp only [if_neg h, if_neg h2]; omega
theorem FJust_f (s : List UInt8) (hs : s.length ≤ 1099511627776) (n : Nat) : Fn Tryd.prog 48 #[str s, .int .i64 (n : Int)] [] [] (BytP (justR s n)) := by
  have hF := FBytes_f s hs
  have hR : justR s n = if (bytesR s).2.1 ≠ 0 then ([], (bytesR s).2.1, (bytesR s).2.2) else if (bytesR s).1.length ≠ n then ([], 6, 0) else bytesR s := rfl
  rw [hR]
  generalize bytesR s = z at hF ⊢
  obtain ⟨d, wy, pl⟩ := z
  simp only
  replace hF : Fn Tryd.prog 11 #[str s] [] [] (fun v L => ∃ M a c, v = .tuple #[.slice a d.length c, faultV (wy : Int) (pl : Int)] ∧ L = [M] ∧ Row M 5 1 a d.length c (u8s d)) := hF
  refine Fn.enter (vs := [str s, .int .i64 (n : Int)]) Tryd.func48 rfl rfl rfl ?_
  intro E R hR
  change At _ _ E [R] _
  refine At.seq fun K1 hk_1 => ?_
  refine At.region ?_
  refine op_assign (nxlf rfl) rfl rfl ?_
  refine op_alloc (nxla rfl) ze30 rfl (fun N5 b5 B5 => ?_)
  change Blk N5 b5 _ [.int .i64 0, .int .i64 0] at B5
  change Blk N5 b5 _ [.int .i64 0, .int .i64 0] at B5
  refine At.opsNil ?_
  refine At.norm (hk_1 ?_)
  refine At.seq fun K2 hk_2 => ?_
  refine At.region ?_
  refine op_move (nxlf rfl) rfl rfl ?_
  refine op_callA (nxla rfl) (.cons rfl .nil) (hF) Tryd.func11 rfl rfl (by simp) rfl ?_
  rintro v10 L10 ⟨N10, a10, c10, rfl, rfl, r10⟩
  change At _ _ _ [N10, N5, R] _
  refine op_move (nxlf rfl) rfl rfl ?_
  refine op_extract (nxlf rfl) rfl rfl rfl ?_
  refine op_extract (nxlf rfl) rfl rfl rfl ?_
  refine op_alloc (nxla rfl) ze30 rfl (fun N7 b7 B7 => ?_)
  change Blk N7 b7 _ [.int .i64 0, .int .i64 0] at B7
  refine op_assign (nxlf rfl) rfl rfl ?_
  refine op_store (nxl rfl) sz30 rfl rfl rfl rfl rfl B7 (by simp) sel0 (fun N7 B7 => ?_)
  simp only [setL, List.set] at B7
  refine At.opsNil ?_
  refine At.norm (hk_2 ?_)
  refine At.seq fun K3 hk_3 => ?_
  refine At.block ?_
  refine At.seq fun K4 hk_4 => ?_
  refine At.region ?_
  refine op_fieldAddr (nxlf rfl) fl30_0 rfl rfl ?_
  refine op_loadB (nxlf rfl) sc28 rfl B7 (by first | rfl) mem0 rfl ?_
  refine op_neq (nxlf rfl) rfl rfl rfl ?_
  refine op_assign (nxlf rfl) rfl rfl ?_
  refine At.opsNil ?_
  refine At.norm (hk_4 ?_)
  refine At.condP rfl (fun c13 => ?_) (fun c13 => ?_)
  · refine At.knowT (d := 13) rfl c13 ?_
    refine At.seq fun K5 hk_5 => ?_
    refine At.drawn [2] [0,1,2] (by kernel_rfl) (by kernel_rfl) ?_
    refine op_loadAggB (ds := [_, _]) (nxof rfl rfl rfl (by kernel_rfl)) ag30 rfl B7 rfl rfl mem0 rfl ?_
    refine op_assign (nxof rfl rfl rfl (by kernel_rfl)) rfl rfl ?_
    refine op_store (nxos rfl rfl rfl rfl) sz30 rfl rfl rfl rfl rfl B5 (by simp) sel2 (fun N5 B5 => ?_)
    simp only [setL, List.set] at B5
    refine At.oneNil ?_
    refine At.norm (hk_5 ?_)
    refine At.ret (At.inRet (At.thenRet (?_)))
    refine At.empty ?_
    refine At.sub (L' := [nilH, N5, R]) (.cons_cons _ (.cons_cons _ (.cons _ (.cons _ (.cons_cons _ (.slnil)))))) ?_
    refine At.perm sel2 ?_
    refine At.perm sel1 ?_
    refine At.perm sel2 ?_
    refine At.retN (L1 := [nilH]) rfl (.tmp rfl (.cell rfl (res_agg (ds := [_, _]) ag30 B5 rfl rfl mem0) .nil)) rfl (.cons _ (.refl _)) (.refl _) ?_
    have hw : wy ≠ 0 := by omega
    rw [if_pos hw]
    exact ⟨nilH, none, 0, rfl, rfl, Row.nil _ _ _⟩
  · refine At.knowF (d := 13) rfl c13 ?_
    refine At.seq fun K6 hk_6 => ?_
    refine At.region ?_
    refine op_move (nxlf rfl) rfl rfl ?_
    refine op_lenS (nxlf rfl) se22 rfl rfl ?_
    refine op_move (nxlf rfl) rfl rfl ?_
    refine op_neq (nxlf rfl) rfl rfl rfl ?_
    refine op_assign (nxlf rfl) rfl rfl ?_
    refine At.opsNil ?_
    refine At.norm (hk_6 ?_)
    refine At.condP rfl (fun c18 => ?_) (fun c18 => ?_)
    · refine At.knowT (d := 18) rfl c18 ?_
      refine At.seq fun K7 hk_7 => ?_
      refine At.region ?_
      refine op_callA (nxla rfl) (.cons rfl (.cons rfl .nil)) (FFault_f 6 0) Tryd.func34 rfl rfl (by simp) rfl ?_
      rintro v23 L23 ⟨rfl, rfl⟩
      change At _ _ _ [N7, N10, N5, R] _
      refine op_assign (nxlf rfl) rfl rfl ?_
      refine op_store (nxl rfl) sz30 rfl rfl rfl rfl rfl B5 (by simp) sel2 (fun N5 B5 => ?_)
      simp only [setL, List.set] at B5
      refine At.opsNil ?_
      refine At.norm (hk_7 ?_)
      refine At.ret (At.inRet (At.thenRet (?_)))
      refine At.empty ?_
      refine At.sub (L' := [nilH, N5, R]) (.cons_cons _ (.cons_cons _ (.cons _ (.cons _ (.cons_cons _ (.slnil)))))) ?_
      refine At.perm sel2 ?_
      refine At.perm sel1 ?_
      refine At.perm sel2 ?_
      refine At.retN (L1 := [nilH]) rfl (.tmp rfl (.cell rfl (res_agg (ds := [_, _]) ag30 B5 rfl rfl mem0) .nil)) rfl (.cons _ (.refl _)) (.refl _) ?_
      have hw : ¬ wy ≠ 0 := by omega
      rw [if_neg hw, if_pos (show d.length ≠ n by omega)]
      exact ⟨nilH, none, 0, rfl, rfl, Row.nil _ _ _⟩
    · refine At.knowF (d := 18) rfl c18 ?_
      refine At.skip ?_
      refine At.inNorm ?_
      refine At.norm (hk_3 ?_)
      refine At.seq fun K8 hk_8 => ?_
      refine At.drawn [3] [0,1,2,3] (by kernel_rfl) (by kernel_rfl) ?_
      refine op_move (nxof rfl rfl rfl (by kernel_rfl)) rfl rfl ?_
      refine op_loadAggB (ds := [_, _]) (nxof rfl rfl rfl (by kernel_rfl)) ag30 rfl B7 rfl rfl mem0 rfl ?_
      refine op_assign (nxof rfl rfl rfl (by kernel_rfl)) rfl rfl ?_
      refine op_store (nxos rfl rfl rfl rfl) sz30 rfl rfl rfl rfl rfl B5 (by simp) sel2 (fun N5 B5 => ?_)
      simp only [setL, List.set] at B5
      refine At.oneNil ?_
      refine At.norm (hk_8 ?_)
      refine At.ret (?_)
      refine At.sub (L' := [N5, N10, R]) (.cons_cons _ (.cons _ (.cons_cons _ (.cons_cons _ (.slnil))))) ?_
      refine At.retN (L1 := [N10]) rfl (.tmp rfl (.cell rfl (res_agg (ds := [_, _]) ag30 B5 rfl rfl mem0) .nil)) rfl (.cons _ (.refl _)) (.refl _) ?_
      have hw : ¬ wy ≠ 0 := by omega
      rw [if_neg hw, if_neg (show ¬ d.length ≠ n by omega)]
      exact ⟨N10, a10, c10, rfl, rfl, r10⟩
theorem copyN {n : Nat} {r : List UInt8} {o k : Nat} (ho : o = 0) (hk : k = r.length) (hr : r.length ≤ n) : (u8s (List.replicate n 0)).take o ++ (u8s r).take k ++ (u8s (List.replicate n 0)).drop (o + k) = u8s (r ++ List.replicate (n - r.length) 0) := by
  subst ho; subst hk
  rw [List.take_zero, List.nil_append, Nat.zero_add, List.take_of_length_le (by simp [u8s]), show u8s (List.replicate n 0) = List.replicate n (vb 0) from List.map_replicate, List.drop_replicate, u8s, u8s, List.map_append, List.map_replicate]
/-- An address, a hash out of a text. -/
def arrR (s : List UInt8) (n : Nat) : List UInt8 × Nat × Nat := ((justR s n).1 ++ List.replicate (n - (justR s n).1.length) 0, (justR s n).2)
theorem arrR_len (s : List UInt8) (n : Nat) : (arrR s n).1.length = n := by
  have := justR_len s n
  rw [arrR, List.length_append, List.length_replicate]; omega
def ArrP (z : List UInt8 × Nat × Nat) (v : Value) (L : List Heaplet) : Prop := v = .tuple #[.agg (u8s z.1).toArray, faultV (z.2.1 : Int) (z.2.2 : Int)] ∧ L = []
set_option maxRecDepth 100000 in
theorem FAddress_f (s : List UInt8) (hs : s.length ≤ 1099511627776) : Fn Tryd.prog 19 #[str s] [] [] (ArrP (arrR s 20)) := by
  have hF := FJust_f s hs 20
  have hl := justR_len s 20
  unfold arrR
  generalize justR s 20 = z at hF hl ⊢
  obtain ⟨d, wy, pl⟩ := z
  simp only at hl ⊢
  have hlz : (d ++ List.replicate (20 - d.length) 0).length = 20 := by rw [List.length_append, List.length_replicate]; omega
  replace hF : Fn Tryd.prog 48 #[str s, .int .i64 20] [] [] (fun v L => ∃ M a c, v = .tuple #[.slice a d.length c, faultV (wy : Int) (pl : Int)] ∧ L = [M] ∧ Row M 5 1 a d.length c (u8s d)) := hF
  refine Fn.enter (vs := [str s]) Tryd.func19 rfl rfl rfl ?_
  intro E R hR
  change At _ _ E [R] _
  refine At.seq fun K1 hk_1 => ?_
  refine At.region ?_
  refine op_alloc (nxla rfl) ze50 rfl (fun N2 b2 B2 => ?_)
  change Blk N2 b2 _ [.int .u8 0, .int .u8 0, .int .u8 0, .int .u8 0, .int .u8 0, .int .u8 0, .int .u8 0, .int .u8 0, .int .u8 0, .int .u8 0, .int .u8 0, .int .u8 0, .int .u8 0, .int .u8 0, .int .u8 0, .int .u8 0, .int .u8 0, .int .u8 0, .int .u8 0, .int .u8 0] at B2
  change Blk N2 b2 _ (u8s (List.replicate 20 0)) at B2
  refine op_alloc (nxla rfl) ze30 rfl (fun N3 b3 B3 => ?_)
  change Blk N3 b3 _ [.int .i64 0, .int .i64 0] at B3
  change Blk N3 b3 _ [.int .i64 0, .int .i64 0] at B3
  refine At.opsNil ?_
  refine At.norm (hk_1 ?_)
  refine At.seq fun K2 hk_2 => ?_
  refine At.region ?_
  refine op_alloc (nxla rfl) ze50 rfl (fun N4 b4 B4 => ?_)
  change Blk N4 b4 _ [.int .u8 0, .int .u8 0, .int .u8 0, .int .u8 0, .int .u8 0, .int .u8 0, .int .u8 0, .int .u8 0, .int .u8 0, .int .u8 0, .int .u8 0, .int .u8 0, .int .u8 0, .int .u8 0, .int .u8 0, .int .u8 0, .int .u8 0, .int .u8 0, .int .u8 0, .int .u8 0] at B4
  change Blk N4 b4 _ (u8s (List.replicate 20 0)) at B4
  refine At.opsNil ?_
  refine At.norm (hk_2 ?_)
  refine At.seq fun K3 hk_3 => ?_
  refine At.region ?_
  refine op_move (nxlf rfl) rfl rfl ?_
  refine op_callA (nxla rfl) (.cons rfl (.cons rfl .nil)) (hF) Tryd.func48 rfl rfl (by simp) rfl ?_
  rintro v9 L9 ⟨N9, a9, c9, rfl, rfl, r9⟩
  change At _ _ _ [N9, N4, N3, N2, R] _
  refine op_move (nxlf rfl) rfl rfl ?_
  refine op_extract (nxlf rfl) rfl rfl rfl ?_
  refine op_extract (nxlf rfl) rfl rfl rfl ?_
  refine op_alloc (nxla rfl) ze30 rfl (fun N6 b6 B6 => ?_)
  change Blk N6 b6 _ [.int .i64 0, .int .i64 0] at B6
  refine op_assign (nxlf rfl) rfl rfl ?_
  refine op_store (nxl rfl) sz30 rfl rfl rfl rfl rfl B6 (by simp) sel0 (fun N6 B6 => ?_)
  simp only [setL, List.set] at B6
  refine At.opsNil ?_
  refine At.norm (hk_3 ?_)
  refine At.seq fun K4 hk_4 => ?_
  refine At.region ?_
  have s9 := r9.rsl
  refine op_sliceA (nxlf rfl) ae50 rfl .none .none .none (by omega) (by omega) (by omega) (by simp) rfl ?_
  refine op_move (nxlf rfl) rfl rfl ?_
  refine op_copyB (nxl rfl) se22 rfl rfl B4 s9 (by first | exact mem0 | exact mem1 | exact mem2 | exact mem3 | exact mem4 | exact mem5 | exact mem6 | exact mem7 | exact mem8 | exact mem9) (by first | exact one_u8s _ | exact one_u64s _ | exact one_u32s _ | (intro u hu; simp at hu; subst hu; rfl)) (by simp [u8s]; omega) sel2 rfl (fun N4 B4 => ?_)
  rw [copyN rfl (by omega) (by omega)] at B4
  refine At.opsNil ?_
  refine At.norm (hk_4 ?_)
  refine At.seq fun K5 hk_5 => ?_
  refine At.perm sel5 ?_
  refine At.perm sel2 ?_
  refine At.perm sel2 ?_
  refine At.perm sel5 ?_
  refine At.perm sel5 ?_
  refine At.perm sel5 ?_
  refine At.drawnS [N4, N6, R] [3] [] [0,1,2,3] (by kernel_rfl) (by kernel_rfl) (.cons _ (.cons _ (.cons _ (.refl _)))) ?_
  refine op_loadAggB (ds := u8s (d ++ List.replicate (20 - d.length) 0)) (nxsf rfl rfl rfl) ag50 rfl B4 (by first | (rw [List.drop_zero, List.take_of_length_le (by first | (simp; done) | (simp; omega))]; done) | rfl) (by first | (simp; done) | (simp; omega)) mem0 rfl ?_
  refine op_loadAggB (ds := [_, _]) (nxsf rfl rfl rfl) ag30 rfl B6 rfl rfl mem1 rfl ?_
  refine op_store (nxsm rfl rfl rfl) sz50 rfl rfl rfl (by simp [u8s]; omega) (all8x _) B2 (by simp [u8s]; omega) sel2 (fun N2 B2 => ?_)
  rw [setL_whole (by simp [u8s]; omega)] at B2
  refine At.moreS (Lst := [N4, N6, R]) (Lst' := [N4, N6, R]) (.refl _) (.cons _ (.cons _ (.cons _ (.refl _)))) ?_
  refine op_store (nxsl rfl rfl rfl rfl) sz30 rfl rfl rfl rfl rfl B3 (by simp) sel2 (fun N3 B3 => ?_)
  simp only [setL, List.set] at B3
  refine At.sNil ?_
  refine At.norm (hk_5 ?_)
  refine At.ret (?_)
  refine At.sub (L' := [N3, N2, R]) (.cons_cons _ (.cons_cons _ (.cons _ (.cons _ (.cons _ (.cons_cons _ (.slnil))))))) ?_
  refine At.perm sel2 ?_
  refine At.perm sel1 ?_
  refine At.perm sel2 ?_
  refine At.retN (L1 := []) rfl (.cell rfl (res_agg (ds := u8s (d ++ List.replicate (20 - d.length) 0)) ag50 B2 (by rw [List.drop_zero, List.take_of_length_le (by simp [u8s]; omega)]) (by simp [u8s]; omega) mem0) (.cell rfl (res_agg (ds := [_, _]) ag30 B3 rfl rfl mem1) .nil)) rfl (.cons _ (.cons _ (.refl _))) (.refl _) ?_
  exact ⟨rfl, rfl⟩
set_option maxRecDepth 100000 in
theorem FHash_f (s : List UInt8) (hs : s.length ≤ 1099511627776) : Fn Tryd.prog 21 #[str s] [] [] (ArrP (arrR s 32)) := by
  have hF := FJust_f s hs 32
  have hl := justR_len s 32
  unfold arrR
  generalize justR s 32 = z at hF hl ⊢
  obtain ⟨d, wy, pl⟩ := z
  simp only at hl ⊢
  have hlz : (d ++ List.replicate (32 - d.length) 0).length = 32 := by rw [List.length_append, List.length_replicate]; omega
  replace hF : Fn Tryd.prog 48 #[str s, .int .i64 32] [] [] (fun v L => ∃ M a c, v = .tuple #[.slice a d.length c, faultV (wy : Int) (pl : Int)] ∧ L = [M] ∧ Row M 5 1 a d.length c (u8s d)) := hF
  refine Fn.enter (vs := [str s]) Tryd.func21 rfl rfl rfl ?_
  intro E R hR
  change At _ _ E [R] _
  refine At.seq fun K1 hk_1 => ?_
  refine At.region ?_
  refine op_alloc (nxla rfl) ze54 rfl (fun N2 b2 B2 => ?_)
  change Blk N2 b2 _ [.int .u8 0, .int .u8 0, .int .u8 0, .int .u8 0, .int .u8 0, .int .u8 0, .int .u8 0, .int .u8 0, .int .u8 0, .int .u8 0, .int .u8 0, .int .u8 0, .int .u8 0, .int .u8 0, .int .u8 0, .int .u8 0, .int .u8 0, .int .u8 0, .int .u8 0, .int .u8 0, .int .u8 0, .int .u8 0, .int .u8 0, .int .u8 0, .int .u8 0, .int .u8 0, .int .u8 0, .int .u8 0, .int .u8 0, .int .u8 0, .int .u8 0, .int .u8 0] at B2
  change Blk N2 b2 _ (u8s (List.replicate 32 0)) at B2
  refine op_alloc (nxla rfl) ze30 rfl (fun N3 b3 B3 => ?_)
  change Blk N3 b3 _ [.int .i64 0, .int .i64 0] at B3
  change Blk N3 b3 _ [.int .i64 0, .int .i64 0] at B3
  refine At.opsNil ?_
  refine At.norm (hk_1 ?_)
  refine At.seq fun K2 hk_2 => ?_
  refine At.region ?_
  refine op_alloc (nxla rfl) ze54 rfl (fun N4 b4 B4 => ?_)
  change Blk N4 b4 _ [.int .u8 0, .int .u8 0, .int .u8 0, .int .u8 0, .int .u8 0, .int .u8 0, .int .u8 0, .int .u8 0, .int .u8 0, .int .u8 0, .int .u8 0, .int .u8 0, .int .u8 0, .int .u8 0, .int .u8 0, .int .u8 0, .int .u8 0, .int .u8 0, .int .u8 0, .int .u8 0, .int .u8 0, .int .u8 0, .int .u8 0, .int .u8 0, .int .u8 0, .int .u8 0, .int .u8 0, .int .u8 0, .int .u8 0, .int .u8 0, .int .u8 0, .int .u8 0] at B4
  change Blk N4 b4 _ (u8s (List.replicate 32 0)) at B4
  refine At.opsNil ?_
  refine At.norm (hk_2 ?_)
  refine At.seq fun K3 hk_3 => ?_
  refine At.region ?_
  refine op_move (nxlf rfl) rfl rfl ?_
  refine op_callA (nxla rfl) (.cons rfl (.cons rfl .nil)) (hF) Tryd.func48 rfl rfl (by simp) rfl ?_
  rintro v9 L9 ⟨N9, a9, c9, rfl, rfl, r9⟩
  change At _ _ _ [N9, N4, N3, N2, R] _
  refine op_move (nxlf rfl) rfl rfl ?_
  refine op_extract (nxlf rfl) rfl rfl rfl ?_
  refine op_extract (nxlf rfl) rfl rfl rfl ?_
  refine op_alloc (nxla rfl) ze30 rfl (fun N6 b6 B6 => ?_)
  change Blk N6 b6 _ [.int .i64 0, .int .i64 0] at B6
  refine op_assign (nxlf rfl) rfl rfl ?_
  refine op_store (nxl rfl) sz30 rfl rfl rfl rfl rfl B6 (by simp) sel0 (fun N6 B6 => ?_)
  simp only [setL, List.set] at B6
  refine At.opsNil ?_
  refine At.norm (hk_3 ?_)
  refine At.seq fun K4 hk_4 => ?_
  refine At.region ?_
  have s9 := r9.rsl
  refine op_sliceA (nxlf rfl) ae54 rfl .none .none .none (by omega) (by omega) (by omega) (by simp) rfl ?_
  refine op_move (nxlf rfl) rfl rfl ?_
  refine op_copyB (nxl rfl) se22 rfl rfl B4 s9 (by first | exact mem0 | exact mem1 | exact mem2 | exact mem3 | exact mem4 | exact mem5 | exact mem6 | exact mem7 | exact mem8 | exact mem9) (by first | exact one_u8s _ | exact one_u64s _ | exact one_u32s _ | (intro u hu; simp at hu; subst hu; rfl)) (by simp [u8s]; omega) sel2 rfl (fun N4 B4 => ?_)
  rw [copyN rfl (by omega) (by omega)] at B4
  refine At.opsNil ?_
  refine At.norm (hk_4 ?_)
  refine At.seq fun K5 hk_5 => ?_
  refine At.perm sel5 ?_
  refine At.perm sel2 ?_
  refine At.perm sel2 ?_
  refine At.perm sel5 ?_
  refine At.perm sel5 ?_
  refine At.perm sel5 ?_
  refine At.drawnS [N4, N6, R] [3] [] [0,1,2,3] (by kernel_rfl) (by kernel_rfl) (.cons _ (.cons _ (.cons _ (.refl _)))) ?_
  refine op_loadAggB (ds := u8s (d ++ List.replicate (32 - d.length) 0)) (nxsf rfl rfl rfl) ag54 rfl B4 (by first | (rw [List.drop_zero, List.take_of_length_le (by first | (simp; done) | (simp; omega))]; done) | rfl) (by first | (simp; done) | (simp; omega)) mem0 rfl ?_
  refine op_loadAggB (ds := [_, _]) (nxsf rfl rfl rfl) ag30 rfl B6 rfl rfl mem1 rfl ?_
  refine op_store (nxsm rfl rfl rfl) sz54 rfl rfl rfl (by simp [u8s]; omega) (all8x _) B2 (by simp [u8s]; omega) sel2 (fun N2 B2 => ?_)
  rw [setL_whole (by simp [u8s]; omega)] at B2
  refine At.moreS (Lst := [N4, N6, R]) (Lst' := [N4, N6, R]) (.refl _) (.cons _ (.cons _ (.cons _ (.refl _)))) ?_
  refine op_store (nxsl rfl rfl rfl rfl) sz30 rfl rfl rfl rfl rfl B3 (by simp) sel2 (fun N3 B3 => ?_)
  simp only [setL, List.set] at B3
  refine At.sNil ?_
  refine At.norm (hk_5 ?_)
  refine At.ret (?_)
  refine At.sub (L' := [N3, N2, R]) (.cons_cons _ (.cons_cons _ (.cons _ (.cons _ (.cons _ (.cons_cons _ (.slnil))))))) ?_
  refine At.perm sel2 ?_
  refine At.perm sel1 ?_
  refine At.perm sel2 ?_
  refine At.retN (L1 := []) rfl (.cell rfl (res_agg (ds := u8s (d ++ List.replicate (32 - d.length) 0)) ag54 B2 (by rw [List.drop_zero, List.take_of_length_le (by simp [u8s]; omega)]) (by simp [u8s]; omega) mem0) (.cell rfl (res_agg (ds := [_, _]) ag30 B3 rfl rfl mem1) .nil)) rfl (.cons _ (.cons _ (.refl _))) (.refl _) ?_
  exact ⟨rfl, rfl⟩
end Go.Proofs.YtlkjfbfenpkmhaaDoor
/- quarryref04: digit, Runes, digits, fault. Condition: a text of at most 2^40 bytes. -/
namespace Go.Proofs.YtlkjfbfenpkmhaaDoor
set_option linter.unusedVariables false
set_option linter.unusedSimpArgs false
open Go Go.RowKit
/-- Runes as cells; digits as cells. -/
def vr (r : Nat) : Value := .int .i32 (r : Int)
def runesV (l : List Nat) : List Value := l.map vr
def vi (x : UInt8) : Value := .int .i64 (x.toNat : Int)
def i64s (l : List UInt8) : List Value := l.map vi
theorem getRn {l : List Nat} {j : Nat} (h : j < l.length) : (runesV l)[j]? = some (.int .i32 ((l.getD j 0 : Nat) : Int)) := by
  rw [runesV, List.getElem?_map, getD_some (z := 0) h]; rfl
theorem getIn {l : List UInt8} {j : Nat} (h : j < l.length) : (i64s l)[j]? = some (.int .i64 ((l.getD j 0).toNat : Int)) := by
  rw [i64s, List.getElem?_map, getD_some (z := 0) h]; rfl
theorem one_rs (l : List Nat) : ∀ u ∈ runesV l, u.oneCell' = true := fun u hu => by
  obtain ⟨x, _, rfl⟩ := List.mem_map.1 hu; rfl
theorem one_is (l : List UInt8) : ∀ u ∈ i64s l, u.oneCell' = true := fun u hu => by
  obtain ⟨x, _, rfl⟩ := List.mem_map.1 hu; rfl
theorem runesV_len (l : List Nat) : (runesV l).length = l.length := List.length_map _
theorem i64s_len (l : List UInt8) : (i64s l).length = l.length := List.length_map _
theorem runes_okF : ∀ (k : Nat) (l : List UInt8), ∀ r ∈ runeF k l, RuneOk r := by
  intro k
  induction k with
  | zero => intro l r h; cases h
  | succ k ih =>
    intro l r h
    rw [runeF] at h
    by_cases h0 : l = []
    · rw [if_pos h0] at h; cases h
    · rw [if_neg h0] at h
      rcases List.mem_cons.1 h with rfl | h
      · exact decode_ok l
      · exact ih _ r h
theorem runes_ok {s : List UInt8} {j : Nat} (h : j < (runesOf s).length) : RuneOk ((runesOf s).getD j 0) := by
  refine runes_okF s.length s _ ?_
  rw [List.getD_eq_getElem?_getD, List.getElem?_eq_getElem h, Option.getD_some]
  exact List.getElem_mem h
theorem runes_dropC {l : List Nat} {k : Nat} (h : k < l.length) : l.drop k = l.getD k 0 :: l.drop (k + 1) := by
  rw [List.drop_eq_getElem_cons h, List.getD_eq_getElem?_getD, List.getElem?_eq_getElem h, Option.getD_some]
theorem dgF_digits : ∀ (t : List Nat) (k : Nat) (acc : List UInt8), (∀ x ∈ acc, x.toNat < 16) → ∀ x ∈ (dgF k acc t).1, x.toNat < 16 := by
  intro t
  induction t with
  | nil => intro k acc h x hx; exact h x hx
  | cons r t ih =>
    intro k acc h x hx
    by_cases h2 : k < 2
    · by_cases h3 : r = ox k
      · rw [dgF_ox h2 h3] at hx; exact ih _ _ h x hx
      · rw [dgF_no h2 h3] at hx; exact h x hx
    · cases hv : hexV r with
      | none => rw [dgF_none h2 hv] at hx; exact h x hx
      | some v =>
        rw [dgF_some h2 hv] at hx
        refine ih _ _ (fun y hy => ?_) x hx
        rcases List.mem_append.1 hy with hy | hy
        · exact h y hy
        · obtain rfl := List.mem_singleton.1 hy
          have := hexV_lt hv
          rw [UInt8.toNat_ofNat']; omega
theorem dgR_digits (s : List UInt8) : ∀ x ∈ (dgR s).1, x.toNat < 16 := by
  intro x hx
  have h := dgF_digits (runesOf s) 0 [] (fun y hy => by cases hy)
  unfold dgR at hx
  simp only at hx
  split at hx
  · exact h x hx
  · split at hx
    · cases hx
    · exact h x hx
theorem dgR_len (s : List UInt8) : (dgR s).1.length ≤ s.length ∧ -1 ≤ (dgR s).2 ∧ (dgR s).2 ≤ (s.length : Nat) := by
  obtain ⟨e, e1, e2, e3, e4⟩ := dgF_ext (runesOf s) 0 []
  have hl := runes_len s
  have e5 := congrArg List.length e1
  rw [List.nil_append] at e5
  rw [Nat.zero_add] at e4
  unfold dgR
  simp only
  split
  · exact ⟨by omega, e3, by omega⟩
  · split
    · exact ⟨Nat.zero_le _, by show (-1 : Int) ≤ ((runesOf s).length : Int); omega, by show ((runesOf s).length : Int) ≤ _; omega⟩
    · exact ⟨by omega, e3, by omega⟩
theorem hexI_eq (r : Nat) : hexI r = if 48 ≤ r ∧ r ≤ 57 then (r : Int) - 48 else if 97 ≤ r ∧ r ≤ 102 then (r : Int) - 87 else if 65 ≤ r ∧ r ≤ 70 then (r : Int) - 55 else -1 := by
  unfold hexI hexV
  by_cases h1 : 48 ≤ r ∧ r ≤ 57
  · rw [if_pos h1, if_pos h1]; simp only; omega
  · rw [if_neg h1, if_neg h1]
    by_cases h2 : 97 ≤ r ∧ r ≤ 102
    · rw [if_pos h2, if_pos h2]; simp only; omega
    · rw [if_neg h2, if_neg h2]
      by_cases h3 : 65 ≤ r ∧ r ≤ 70
      · rw [if_pos h3, if_pos h3]; simp only; omega
      · rw [if_neg h3, if_neg h3]
theorem hexI_neg {r : Nat} (h : hexI r < 0) : hexV r = none := by
  unfold hexI at h
  cases e : hexV r with
  | none => rfl
  | some v => rw [e] at h; simp only at h; omega
theorem hexI_pos {r : Nat} (h : ¬ hexI r < 0) : ∃ v, hexV r = some v ∧ hexI r = (v : Int) ∧ v < 16 := by
  unfold hexI at h ⊢
  cases e : hexV r with
  | none => rw [e] at h; exact absurd (by decide) h
  | some v => exact ⟨v, rfl, rfl, hexV_lt e⟩
theorem rdigit_f {r : Nat} (h : RuneOk r) : Fn Tryd.prog 64 #[.int .i32 (r : Int)] [] [] (fun v L => v = .int .i64 (hexI r) ∧ L = []) := by
  unfold RuneOk at h
  have e := hexI_eq r
  refine Fn.enter (vs := [.int .i32 (r : Int)]) Tryd.func64 rfl rfl rfl ?_
  intro E R hR
  change At _ _ E [R] _
  refine At.seq fun K1 hk_1 => ?_
  refine At.region ?_
  refine op_assign (nxlf rfl) rfl rfl ?_
  refine At.opsNil ?_
  refine At.norm (hk_1 ?_)
  refine At.seq fun K2 hk_2 => ?_
  refine At.block ?_
  refine At.seq fun K3 hk_3 => ?_
  refine At.region ?_
  refine op_move (nxlf rfl) rfl rfl ?_
  refine op_geq (nxlf rfl) rfl rfl rfl ?_
  refine op_move (nxlf rfl) rfl rfl ?_
  refine At.partP (d := 6) rfl (fun g6 => ?_) (fun g6 => ?_)
  · refine op_move (nxgf rfl rfl rfl rfl) rfl rfl ?_
    refine op_leq (nxgf rfl rfl rfl rfl) rfl rfl rfl ?_
    refine op_pickT (nxlf rfl) rfl rfl rfl ?_
    refine op_assign (nxlf rfl) rfl rfl ?_
    refine At.opsNil ?_
    refine At.norm (hk_3 ?_)
    refine At.condP rfl (fun c3 => ?_) (fun c3 => ?_)
    · refine At.seq fun K4 hk_4 => ?_
      refine At.region ?_
      refine op_move (nxlf rfl) rfl rfl ?_
      refine op_arith32 (.inr ⟨rfl, rfl⟩) (nxlf rfl) rfl rfl (by omega) (by omega) rfl ?_
      refine op_convI (nxlf rfl) (und_some Tryd.underlying21) Tryd.underlying3 rfl (by omega) (by omega) rfl ?_
      refine op_assign (nxlf rfl) rfl rfl ?_
      refine At.opsNil ?_
      refine At.norm (hk_4 ?_)
      refine At.ret (At.inRet (At.thenRet (?_)))
      refine At.ret1 (L1 := []) rfl (.tmp rfl .nil) (.refl _) (.refl _) ?_
      refine ⟨congrArg (Value.int .i64) ?_, rfl⟩
      rw [e]
      first
        | (rw [if_pos (by omega)]; all_goals omega)
        | (rw [if_neg (by omega), if_pos (by omega)]; all_goals omega)
        | (rw [if_neg (by omega), if_neg (by omega), if_pos (by omega)]; all_goals omega)
        | (rw [if_neg (by omega), if_neg (by omega), if_neg (by omega)])
    · refine At.seq fun K5 hk_5 => ?_
      refine At.region ?_
      refine op_move (nxlf rfl) rfl rfl ?_
      refine op_geq (nxlf rfl) rfl rfl rfl ?_
      refine op_move (nxlf rfl) rfl rfl ?_
      refine At.partP (d := 16) rfl (fun g16 => ?_) (fun g16 => ?_)
      · refine op_move (nxgf rfl rfl rfl rfl) rfl rfl ?_
        refine op_leq (nxgf rfl rfl rfl rfl) rfl rfl rfl ?_
        refine op_pickT (nxlf rfl) rfl rfl rfl ?_
        refine op_assign (nxlf rfl) rfl rfl ?_
        refine At.opsNil ?_
        refine At.norm (hk_5 ?_)
        refine At.condP rfl (fun c13 => ?_) (fun c13 => ?_)
        · refine At.seq fun K6 hk_6 => ?_
          refine At.region ?_
          refine op_move (nxlf rfl) rfl rfl ?_
          refine op_arith32 (.inr ⟨rfl, rfl⟩) (nxlf rfl) rfl rfl (by omega) (by omega) rfl ?_
          refine op_convI (nxlf rfl) (und_some Tryd.underlying21) Tryd.underlying3 rfl (by omega) (by omega) rfl ?_
          refine op_addI (nxlf rfl) rfl rfl (by omega) (by omega) rfl ?_
          refine op_assign (nxlf rfl) rfl rfl ?_
          refine At.opsNil ?_
          refine At.norm (hk_6 ?_)
          refine At.ret (At.inRet (At.thenRet (?_)))
          refine At.ret1 (L1 := []) rfl (.tmp rfl .nil) (.refl _) (.refl _) ?_
          refine ⟨congrArg (Value.int .i64) ?_, rfl⟩
          rw [e]
          first
            | (rw [if_pos (by omega)]; all_goals omega)
            | (rw [if_neg (by omega), if_pos (by omega)]; all_goals omega)
            | (rw [if_neg (by omega), if_neg (by omega), if_pos (by omega)]; all_goals omega)
            | (rw [if_neg (by omega), if_neg (by omega), if_neg (by omega)])
        · refine At.seq fun K7 hk_7 => ?_
          refine At.region ?_
          refine op_move (nxlf rfl) rfl rfl ?_
          refine op_geq (nxlf rfl) rfl rfl rfl ?_
          refine op_move (nxlf rfl) rfl rfl ?_
          refine At.partP (d := 27) rfl (fun g27 => ?_) (fun g27 => ?_)
          · refine op_move (nxgf rfl rfl rfl rfl) rfl rfl ?_
            refine op_leq (nxgf rfl rfl rfl rfl) rfl rfl rfl ?_
            refine op_pickT (nxlf rfl) rfl rfl rfl ?_
            refine op_assign (nxlf rfl) rfl rfl ?_
            refine At.opsNil ?_
            refine At.norm (hk_7 ?_)
            refine At.condP rfl (fun c24 => ?_) (fun c24 => ?_)
            · refine At.seq fun K8 hk_8 => ?_
              refine At.region ?_
              refine op_move (nxlf rfl) rfl rfl ?_
              refine op_arith32 (.inr ⟨rfl, rfl⟩) (nxlf rfl) rfl rfl (by omega) (by omega) rfl ?_
              refine op_convI (nxlf rfl) (und_some Tryd.underlying21) Tryd.underlying3 rfl (by omega) (by omega) rfl ?_
              refine op_addI (nxlf rfl) rfl rfl (by omega) (by omega) rfl ?_
              refine op_assign (nxlf rfl) rfl rfl ?_
              refine At.opsNil ?_
              refine At.norm (hk_8 ?_)
              refine At.ret (At.inRet (At.thenRet (?_)))
              refine At.ret1 (L1 := []) rfl (.tmp rfl .nil) (.refl _) (.refl _) ?_
              refine ⟨congrArg (Value.int .i64) ?_, rfl⟩
              rw [e]
              first
                | (rw [if_pos (by omega)]; all_goals omega)
                | (rw [if_neg (by omega), if_pos (by omega)]; all_goals omega)
                | (rw [if_neg (by omega), if_neg (by omega), if_pos (by omega)]; all_goals omega)
                | (rw [if_neg (by omega), if_neg (by omega), if_neg (by omega)])
            · refine At.skip ?_
              refine At.inNorm ?_
              refine At.norm (hk_2 ?_)
              refine At.seq fun K9 hk_9 => ?_
              refine At.region ?_
              refine op_assign (nxlf rfl) rfl rfl ?_
              refine At.opsNil ?_
              refine At.norm (hk_9 ?_)
              refine At.ret (?_)
              refine At.ret1 (L1 := []) rfl (.tmp rfl .nil) (.refl _) (.refl _) ?_
              refine ⟨congrArg (Value.int .i64) ?_, rfl⟩
              rw [e]
              first
                | (rw [if_pos (by omega)]; all_goals omega)
                | (rw [if_neg (by omega), if_pos (by omega)]; all_goals omega)
                | (rw [if_neg (by omega), if_neg (by omega), if_pos (by omega)]; all_goals omega)
                | (rw [if_neg (by omega), if_neg (by omega), if_neg (by omega)])
          · refine op_skip rfl rfl rfl rfl rfl rfl rfl ?_
            refine op_skip rfl rfl rfl rfl rfl rfl rfl ?_
            refine op_pickF (nxlf rfl) rfl rfl rfl ?_
            refine op_assign (nxlf rfl) rfl rfl ?_
            refine At.opsNil ?_
            refine At.norm (hk_7 ?_)
            refine At.condF rfl ?_
            refine At.skip ?_
            refine At.inNorm ?_
            refine At.norm (hk_2 ?_)
            refine At.seq fun K10 hk_10 => ?_
            refine At.region ?_
            refine op_assign (nxlf rfl) rfl rfl ?_
            refine At.opsNil ?_
            refine At.norm (hk_10 ?_)
            refine At.ret (?_)
            refine At.ret1 (L1 := []) rfl (.tmp rfl .nil) (.refl _) (.refl _) ?_
            refine ⟨congrArg (Value.int .i64) ?_, rfl⟩
            rw [e]
            first
              | (rw [if_pos (by omega)]; all_goals omega)
              | (rw [if_neg (by omega), if_pos (by omega)]; all_goals omega)
              | (rw [if_neg (by omega), if_neg (by omega), if_pos (by omega)]; all_goals omega)
              | (rw [if_neg (by omega), if_neg (by omega), if_neg (by omega)])
      · refine op_skip rfl rfl rfl rfl rfl rfl rfl ?_
        refine op_skip rfl rfl rfl rfl rfl rfl rfl ?_
        refine op_pickF (nxlf rfl) rfl rfl rfl ?_
        refine op_assign (nxlf rfl) rfl rfl ?_
        refine At.opsNil ?_
        refine At.norm (hk_5 ?_)
        refine At.condF rfl ?_
        refine At.seq fun K11 hk_11 => ?_
        refine At.region ?_
        refine op_move (nxlf rfl) rfl rfl ?_
        refine op_geq (nxlf rfl) rfl rfl rfl ?_
        refine op_move (nxlf rfl) rfl rfl ?_
        refine At.partP (d := 27) rfl (fun g27 => ?_) (fun g27 => ?_)
        · refine op_move (nxgf rfl rfl rfl rfl) rfl rfl ?_
          refine op_leq (nxgf rfl rfl rfl rfl) rfl rfl rfl ?_
          refine op_pickT (nxlf rfl) rfl rfl rfl ?_
          refine op_assign (nxlf rfl) rfl rfl ?_
          refine At.opsNil ?_
          refine At.norm (hk_11 ?_)
          refine At.condP rfl (fun c24 => ?_) (fun c24 => ?_)
          · refine At.seq fun K12 hk_12 => ?_
            refine At.region ?_
            refine op_move (nxlf rfl) rfl rfl ?_
            refine op_arith32 (.inr ⟨rfl, rfl⟩) (nxlf rfl) rfl rfl (by omega) (by omega) rfl ?_
            refine op_convI (nxlf rfl) (und_some Tryd.underlying21) Tryd.underlying3 rfl (by omega) (by omega) rfl ?_
            refine op_addI (nxlf rfl) rfl rfl (by omega) (by omega) rfl ?_
            refine op_assign (nxlf rfl) rfl rfl ?_
            refine At.opsNil ?_
            refine At.norm (hk_12 ?_)
            refine At.ret (At.inRet (At.thenRet (?_)))
            refine At.ret1 (L1 := []) rfl (.tmp rfl .nil) (.refl _) (.refl _) ?_
            refine ⟨congrArg (Value.int .i64) ?_, rfl⟩
            rw [e]
            first
              | (rw [if_pos (by omega)]; all_goals omega)
              | (rw [if_neg (by omega), if_pos (by omega)]; all_goals omega)
              | (rw [if_neg (by omega), if_neg (by omega), if_pos (by omega)]; all_goals omega)
              | (rw [if_neg (by omega), if_neg (by omega), if_neg (by omega)])
          · refine At.skip ?_
            refine At.inNorm ?_
            refine At.norm (hk_2 ?_)
            refine At.seq fun K13 hk_13 => ?_
            refine At.region ?_
            refine op_assign (nxlf rfl) rfl rfl ?_
            refine At.opsNil ?_
            refine At.norm (hk_13 ?_)
            refine At.ret (?_)
            refine At.ret1 (L1 := []) rfl (.tmp rfl .nil) (.refl _) (.refl _) ?_
            refine ⟨congrArg (Value.int .i64) ?_, rfl⟩
            rw [e]
            first
              | (rw [if_pos (by omega)]; all_goals omega)
              | (rw [if_neg (by omega), if_pos (by omega)]; all_goals omega)
              | (rw [if_neg (by omega), if_neg (by omega), if_pos (by omega)]; all_goals omega)
              | (rw [if_neg (by omega), if_neg (by omega), if_neg (by omega)])
        · refine op_skip rfl rfl rfl rfl rfl rfl rfl ?_
          refine op_skip rfl rfl rfl rfl rfl rfl rfl ?_
          refine op_pickF (nxlf rfl) rfl rfl rfl ?_
          refine op_assign (nxlf rfl) rfl rfl ?_
          refine At.opsNil ?_
          refine At.norm (hk_11 ?_)
          refine At.condF rfl ?_
          refine At.skip ?_
          refine At.inNorm ?_
          refine At.norm (hk_2 ?_)
          refine At.seq fun K14 hk_14 => ?_
          refine At.region ?_
          refine op_assign (nxlf rfl) rfl rfl ?_
          refine At.opsNil ?_
          refine At.norm (hk_14 ?_)
          refine At.ret (?_)
          refine At.ret1 (L1 := []) rfl (.tmp rfl .nil) (.refl _) (.refl _) ?_
          refine ⟨congrArg (Value.int .i64) ?_, rfl⟩
          rw [e]
          first
            | (rw [if_pos (by omega)]; all_goals omega)
            | (rw [if_neg (by omega), if_pos (by omega)]; all_goals omega)
            | (rw [if_neg (by omega), if_neg (by omega), if_pos (by omega)]; all_goals omega)
            | (rw [if_neg (by omega), if_neg (by omega), if_neg (by omega)])
  · refine op_skip rfl rfl rfl rfl rfl rfl rfl ?_
    refine op_skip rfl rfl rfl rfl rfl rfl rfl ?_
    refine op_pickF (nxlf rfl) rfl rfl rfl ?_
    refine op_assign (nxlf rfl) rfl rfl ?_
    refine At.opsNil ?_
    refine At.norm (hk_3 ?_)
    refine At.condF rfl ?_
    refine At.seq fun K15 hk_15 => ?_
    refine At.region ?_
    refine op_move (nxlf rfl) rfl rfl ?_
    refine op_geq (nxlf rfl) rfl rfl rfl ?_
    refine op_move (nxlf rfl) rfl rfl ?_
    refine At.partP (d := 16) rfl (fun g16 => ?_) (fun g16 => ?_)
    · refine op_move (nxgf rfl rfl rfl rfl) rfl rfl ?_
      refine op_leq (nxgf rfl rfl rfl rfl) rfl rfl rfl ?_
      refine op_pickT (nxlf rfl) rfl rfl rfl ?_
      refine op_assign (nxlf rfl) rfl rfl ?_
      refine At.opsNil ?_
      refine At.norm (hk_15 ?_)
      refine At.condP rfl (fun c13 => ?_) (fun c13 => ?_)
      · refine At.seq fun K16 hk_16 => ?_
        refine At.region ?_
        refine op_move (nxlf rfl) rfl rfl ?_
        refine op_arith32 (.inr ⟨rfl, rfl⟩) (nxlf rfl) rfl rfl (by omega) (by omega) rfl ?_
        refine op_convI (nxlf rfl) (und_some Tryd.underlying21) Tryd.underlying3 rfl (by omega) (by omega) rfl ?_
        refine op_addI (nxlf rfl) rfl rfl (by omega) (by omega) rfl ?_
        refine op_assign (nxlf rfl) rfl rfl ?_
        refine At.opsNil ?_
        refine At.norm (hk_16 ?_)
        refine At.ret (At.inRet (At.thenRet (?_)))
        refine At.ret1 (L1 := []) rfl (.tmp rfl .nil) (.refl _) (.refl _) ?_
        refine ⟨congrArg (Value.int .i64) ?_, rfl⟩
        rw [e]
        first
          | (rw [if_pos (by omega)]; all_goals omega)
          | (rw [if_neg (by omega), if_pos (by omega)]; all_goals omega)
          | (rw [if_neg (by omega), if_neg (by omega), if_pos (by omega)]; all_goals omega)
          | (rw [if_neg (by omega), if_neg (by omega), if_neg (by omega)])
      · refine At.seq fun K17 hk_17 => ?_
        refine At.region ?_
        refine op_move (nxlf rfl) rfl rfl ?_
        refine op_geq (nxlf rfl) rfl rfl rfl ?_
        refine op_move (nxlf rfl) rfl rfl ?_
        refine At.partP (d := 27) rfl (fun g27 => ?_) (fun g27 => ?_)
        · refine op_move (nxgf rfl rfl rfl rfl) rfl rfl ?_
          refine op_leq (nxgf rfl rfl rfl rfl) rfl rfl rfl ?_
          refine op_pickT (nxlf rfl) rfl rfl rfl ?_
          refine op_assign (nxlf rfl) rfl rfl ?_
          refine At.opsNil ?_
          refine At.norm (hk_17 ?_)
          refine At.condP rfl (fun c24 => ?_) (fun c24 => ?_)
          · refine At.seq fun K18 hk_18 => ?_
            refine At.region ?_
            refine op_move (nxlf rfl) rfl rfl ?_
            refine op_arith32 (.inr ⟨rfl, rfl⟩) (nxlf rfl) rfl rfl (by omega) (by omega) rfl ?_
            refine op_convI (nxlf rfl) (und_some Tryd.underlying21) Tryd.underlying3 rfl (by omega) (by omega) rfl ?_
            refine op_addI (nxlf rfl) rfl rfl (by omega) (by omega) rfl ?_
            refine op_assign (nxlf rfl) rfl rfl ?_
            refine At.opsNil ?_
            refine At.norm (hk_18 ?_)
            refine At.ret (At.inRet (At.thenRet (?_)))
            refine At.ret1 (L1 := []) rfl (.tmp rfl .nil) (.refl _) (.refl _) ?_
            refine ⟨congrArg (Value.int .i64) ?_, rfl⟩
            rw [e]
            first
              | (rw [if_pos (by omega)]; all_goals omega)
              | (rw [if_neg (by omega), if_pos (by omega)]; all_goals omega)
              | (rw [if_neg (by omega), if_neg (by omega), if_pos (by omega)]; all_goals omega)
              | (rw [if_neg (by omega), if_neg (by omega), if_neg (by omega)])
          · refine At.skip ?_
            refine At.inNorm ?_
            refine At.norm (hk_2 ?_)
            refine At.seq fun K19 hk_19 => ?_
            refine At.region ?_
            refine op_assign (nxlf rfl) rfl rfl ?_
            refine At.opsNil ?_
            refine At.norm (hk_19 ?_)
            refine At.ret (?_)
            refine At.ret1 (L1 := []) rfl (.tmp rfl .nil) (.refl _) (.refl _) ?_
            refine ⟨congrArg (Value.int .i64) ?_, rfl⟩
            rw [e]
            first
              | (rw [if_pos (by omega)]; all_goals omega)
              | (rw [if_neg (by omega), if_pos (by omega)]; all_goals omega)
              | (rw [if_neg (by omega), if_neg (by omega), if_pos (by omega)]; all_goals omega)
              | (rw [if_neg (by omega), if_neg (by omega), if_neg (by omega)])
        · refine op_skip rfl rfl rfl rfl rfl rfl rfl ?_
          refine op_skip rfl rfl rfl rfl rfl rfl rfl ?_
          refine op_pickF (nxlf rfl) rfl rfl rfl ?_
          refine op_assign (nxlf rfl) rfl rfl ?_
          refine At.opsNil ?_
          refine At.norm (hk_17 ?_)
          refine At.condF rfl ?_
          refine At.skip ?_
          refine At.inNorm ?_
          refine At.norm (hk_2 ?_)
          refine At.seq fun K20 hk_20 => ?_
          refine At.region ?_
          refine op_assign (nxlf rfl) rfl rfl ?_
          refine At.opsNil ?_
          refine At.norm (hk_20 ?_)
          refine At.ret (?_)
          refine At.ret1 (L1 := []) rfl (.tmp rfl .nil) (.refl _) (.refl _) ?_
          refine ⟨congrArg (Value.int .i64) ?_, rfl⟩
          rw [e]
          first
            | (rw [if_pos (by omega)]; all_goals omega)
            | (rw [if_neg (by omega), if_pos (by omega)]; all_goals omega)
            | (rw [if_neg (by omega), if_neg (by omega), if_pos (by omega)]; all_goals omega)
            | (rw [if_neg (by omega), if_neg (by omega), if_neg (by omega)])
    · refine op_skip rfl rfl rfl rfl rfl rfl rfl ?_
      refine op_skip rfl rfl rfl rfl rfl rfl rfl ?_
      refine op_pickF (nxlf rfl) rfl rfl rfl ?_
      refine op_assign (nxlf rfl) rfl rfl ?_
      refine At.opsNil ?_
      refine At.norm (hk_15 ?_)
      refine At.condF rfl ?_
      refine At.seq fun K21 hk_21 => ?_
      refine At.region ?_
      refine op_move (nxlf rfl) rfl rfl ?_
      refine op_geq (nxlf rfl) rfl rfl rfl ?_
      refine op_move (nxlf rfl) rfl rfl ?_
      refine At.partP (d := 27) rfl (fun g27 => ?_) (fun g27 => ?_)
      · refine op_move (nxgf rfl rfl rfl rfl) rfl rfl ?_
        refine op_leq (nxgf rfl rfl rfl rfl) rfl rfl rfl ?_
        refine op_pickT (nxlf rfl) rfl rfl rfl ?_
        refine op_assign (nxlf rfl) rfl rfl ?_
        refine At.opsNil ?_
        refine At.norm (hk_21 ?_)
        refine At.condP rfl (fun c24 => ?_) (fun c24 => ?_)
        · refine At.seq fun K22 hk_22 => ?_
          refine At.region ?_
          refine op_move (nxlf rfl) rfl rfl ?_
          refine op_arith32 (.inr ⟨rfl, rfl⟩) (nxlf rfl) rfl rfl (by omega) (by omega) rfl ?_
          refine op_convI (nxlf rfl) (und_some Tryd.underlying21) Tryd.underlying3 rfl (by omega) (by omega) rfl ?_
          refine op_addI (nxlf rfl) rfl rfl (by omega) (by omega) rfl ?_
          refine op_assign (nxlf rfl) rfl rfl ?_
          refine At.opsNil ?_
          refine At.norm (hk_22 ?_)
          refine At.ret (At.inRet (At.thenRet (?_)))
          refine At.ret1 (L1 := []) rfl (.tmp rfl .nil) (.refl _) (.refl _) ?_
          refine ⟨congrArg (Value.int .i64) ?_, rfl⟩
          rw [e]
          first
            | (rw [if_pos (by omega)]; all_goals omega)
            | (rw [if_neg (by omega), if_pos (by omega)]; all_goals omega)
            | (rw [if_neg (by omega), if_neg (by omega), if_pos (by omega)]; all_goals omega)
            | (rw [if_neg (by omega), if_neg (by omega), if_neg (by omega)])
        · refine At.skip ?_
          refine At.inNorm ?_
          refine At.norm (hk_2 ?_)
          refine At.seq fun K23 hk_23 => ?_
          refine At.region ?_
          refine op_assign (nxlf rfl) rfl rfl ?_
          refine At.opsNil ?_
          refine At.norm (hk_23 ?_)
          refine At.ret (?_)
          refine At.ret1 (L1 := []) rfl (.tmp rfl .nil) (.refl _) (.refl _) ?_
          refine ⟨congrArg (Value.int .i64) ?_, rfl⟩
          rw [e]
          first
            | (rw [if_pos (by omega)]; all_goals omega)
            | (rw [if_neg (by omega), if_pos (by omega)]; all_goals omega)
            | (rw [if_neg (by omega), if_neg (by omega), if_pos (by omega)]; all_goals omega)
            | (rw [if_neg (by omega), if_neg (by omega), if_neg (by omega)])
      · refine op_skip rfl rfl rfl rfl rfl rfl rfl ?_
        refine op_skip rfl rfl rfl rfl rfl rfl rfl ?_
        refine op_pickF (nxlf rfl) rfl rfl rfl ?_
        refine op_assign (nxlf rfl) rfl rfl ?_
        refine At.opsNil ?_
        refine At.norm (hk_21 ?_)
        refine At.condF rfl ?_
        refine At.skip ?_
        refine At.inNorm ?_
        refine At.norm (hk_2 ?_)
        refine At.seq fun K24 hk_24 => ?_
        refine At.region ?_
        refine op_assign (nxlf rfl) rfl rfl ?_
        refine At.opsNil ?_
        refine At.norm (hk_24 ?_)
        refine At.ret (?_)
        refine At.ret1 (L1 := []) rfl (.tmp rfl .nil) (.refl _) (.refl _) ?_
        refine ⟨congrArg (Value.int .i64) ?_, rfl⟩
        rw [e]
        first
          | (rw [if_pos (by omega)]; all_goals omega)
          | (rw [if_neg (by omega), if_pos (by omega)]; all_goals omega)
          | (rw [if_neg (by omega), if_neg (by omega), if_pos (by omega)]; all_goals omega)
          | (rw [if_neg (by omega), if_neg (by omega), if_neg (by omega)])
theorem rfault_f (w a : Int) : Fn Tryd.prog 39 #[.int .i64 w, .int .i64 a] [] [] (fun v L => v = faultV w a ∧ L = []) := by
  refine Fn.enter (vs := [.int .i64 w, .int .i64 a]) Tryd.func39 rfl rfl rfl ?_
  intro E R hR
  change At _ _ E [R] _
  refine At.seq fun K1 hk_1 => ?_
  refine At.region ?_
  refine op_alloc (nxla rfl) ze30 rfl (fun N4 b4 B4 => ?_)
  change Blk N4 b4 _ [.int .i64 0, .int .i64 0] at B4
  refine At.opsNil ?_
  refine At.norm (hk_1 ?_)
  refine At.seq fun K2 hk_2 => ?_
  refine At.region ?_
  refine op_move (nxlf rfl) rfl rfl ?_
  refine op_move (nxlf rfl) rfl rfl ?_
  refine op_build (out := [_, _]) (nxlf rfl) ze30 pl30 (.cons rfl (.cons rfl .nil)) rfl rfl ?_
  refine op_store (nxl rfl) sz30 rfl rfl rfl rfl rfl B4 (by simp) sel0 (fun N4 B4 => ?_)
  simp only [setL, List.set] at B4
  refine At.opsNil ?_
  refine At.norm (hk_2 ?_)
  refine At.ret (?_)
  refine At.ret1 (L1 := []) rfl (.cell rfl (res_agg (ds := [_, _]) ag30 B4 rfl rfl mem0) .nil) (.cons _ (.refl _)) (.refl _) ?_
  exact ⟨rfl, rfl⟩
set_option maxRecDepth 100000 in
theorem rRunes_f (s : List UInt8) (hs : s.length ≤ 1099511627776) : Fn Tryd.prog 63 #[str s] [] [] (fun v L => ∃ M a c, v = .slice a (runesOf s).length c ∧ L = [M] ∧ RSl M 1 a (runesOf s).length c (runesV (runesOf s))) := by
  refine Fn.enter (vs := [str s]) Tryd.func63 rfl rfl rfl ?_
  intro E R hR
  change At _ _ E [R] _
  refine At.seq fun K1 hk_1 => ?_
  refine At.region ?_
  refine op_assign (nxlf rfl) rfl rfl ?_
  refine At.opsNil ?_
  refine At.norm (hk_1 ?_)
  refine At.seq fun K2 hk_2 => ?_
  refine At.region ?_
  refine op_assign (nxlf rfl) rfl rfl ?_
  refine At.opsNil ?_
  refine At.norm (hk_2 ?_)
  refine At.seq fun K3 hk_3 => ?_
  refine At.seq fun K4 hk_4 => ?_
  refine At.region ?_
  refine op_move (nxlf rfl) rfl rfl ?_
  refine op_rangeS (nxla rfl) Tryd.underlying9 rfl rfl (fun N7 b7 I7 => ?_)
  refine At.opsNil ?_
  refine At.norm (hk_4 ?_)
  refine At.block ?_
  refine At.empty ?_
  refine At.perm sel2 ?_
  refine At.perm sel1 ?_
  refine At.perm sel2 ?_
  refine At.loop (fun fr_ hp_ ms_ => ∃ (q : Nat) (done : List Nat) (a : Option Addr) (m c : Nat) (Na N7 : Heaplet), fr_ = [(3, .slice a m c), (7, .pointer (some ⟨b7, 0, none⟩))] ∧ hp_ = [N7, Na, R] ∧ s.length - q = ms_ ∧ (q ≤ s.length + 4) ∧ (m = done.length) ∧ (m ≤ q) ∧ (done ++ runesOf (s.drop q) = runesOf s) ∧ (IterH N7 b7 s q) ∧ (Row Na 21 1 a m c (runesV done))) ?_ (.refl _) ⟨0, [], none, 0, 0, nilH, N7, rfl, rfl, rfl, Nat.zero_le _, rfl, Nat.le_refl _, rfl, I7, Row.nil _ _ _⟩ ?_
  · exact .cons (by first | exact lkI rfl (by omega) | rfl) (.cons (by first | exact lkI rfl (by omega) | rfl) .nil)
  rintro _ _ _ ⟨q, done, a, m, c, Na, N7, rfl, rfl, rfl, hq, hm, hmq, hd, I7, ra⟩
  refine At.seq fun K5 hk_5 => ?_
  refine At.region ?_
  refine op_nextS (nxl rfl) rfl I7 sel0 rfl (fun N7 I7 => ?_)
  refine op_nx0 (nxlf rfl) rfl rfl ?_
  refine At.opsNil ?_
  refine At.norm (hk_5 ?_)
  refine At.seq fun K6 hk_6 => ?_
  refine At.condP rfl (fun c9 => ?_) (fun c9 => ?_)
  · have hlt : q < s.length := c9
    have hok : RuneOk (runeAt s q) := decode_ok _
    have hnp := nextP_y hlt
    have hw1 := Lib.decodeL_width (s.drop q)
    have hw4 := width4 (s.drop q)
    rw [runes_at hlt] at hd
    change done ++ (runeAt s q :: runesOf (s.drop (q + (Lib.decodeL (s.drop q)).2))) = _ at hd
    refine At.skip ?_
    refine At.norm (hk_6 ?_)
    refine At.block ?_
    refine At.seq fun K7 hk_7 => ?_
    refine At.region ?_
    refine op_nx2 (nxlf rfl) rfl (by omega) rfl ?_
    refine op_assign (nxlf rfl) rfl rfl ?_
    refine At.opsNil ?_
    refine At.norm (hk_7 ?_)
    refine At.region ?_
    refine op_move (nxlf rfl) rfl rfl ?_
    refine op_move (nxlf rfl) rfl rfl ?_
    refine op_lit (nxla rfl) Tryd.underlying96 ze21 sz21 (.cons rfl .nil) rfl rfl (by simp [Value.cells]) rfl rfl rfl (fun N13 a13 r13 => ?_)
    simp only [flatV, List.flatMap_cons, List.flatMap_nil, Value.cells, List.append_nil, List.cons_append, List.nil_append] at r13
    have s13 := r13.rsl
    change Row N13 _ 1 a13 1 1 (runesV [runeAt s q]) at r13
    have s13 := r13.rsl
    refine op_append (nxl rfl) Tryd.underlying96 Tryd.underlying96 te21 rfl rfl ra s13 (by first | exact mem0 | exact mem1 | exact mem2 | exact mem3 | exact mem4 | exact mem5 | exact mem6 | exact mem7 | exact mem8 | exact mem9) (one_rs _) (by omega) (by omega) sel2 rfl (fun N14 a14 p14 r14 => ?_)
    have s14 := r14.rsl
    have r14 : Row N14 21 1 a14 (m + 1) p14 (runesV (done ++ [runeAt s q])) := by
      rw [show runesV (done ++ [runeAt s q]) = runesV done ++ runesV [runeAt s q] by simp [runesV]]
      exact r14
    refine op_assign (nxlf rfl) rfl rfl ?_
    refine At.opsNil ?_
    refine At.inNorm ?_
    refine At.norm ?_
    refine At.sub (L' := [N14, N7, R]) (.cons_cons _ (.cons _ (.cons_cons _ (.cons_cons _ (.slnil))))) ?_
    refine At.perm sel2 ?_
    refine At.perm sel1 ?_
    refine At.perm sel2 ?_
    refine At.back ?_ (.refl _) ⟨nextP s q, done ++ [runeAt s q], a14, m + 1, p14, N14, N7, rfl, rfl, rfl, by rw [hnp]; omega, by rw [List.length_append, hm]; rfl, by rw [hnp]; omega, by rw [hnp, List.append_assoc]; exact hd, I7, r14⟩ ?_
    · exact .cons (by first | exact lkI rfl (by omega) | rfl) (.cons (by first | exact lkI rfl (by omega) | rfl) .nil)
    · (rw [hnp]; omega)
  · have hge : s.length ≤ q := by omega
    rw [runes_end hge, List.append_nil] at hd
    refine At.exit (At.thenExit (At.thenExit (At.inHit ?_)))
    refine At.norm (hk_3 ?_)
    refine At.seq fun K8 hk_8 => ?_
    refine At.region ?_
    refine op_move (nxlf rfl) rfl rfl ?_
    refine op_assign (nxlf rfl) rfl rfl ?_
    refine At.opsNil ?_
    refine At.norm (hk_8 ?_)
    refine At.ret (?_)
    refine At.sub (L' := [Na, R]) (.cons _ (.cons_cons _ (.cons_cons _ (.slnil)))) ?_
    refine At.ret1 (L1 := [Na]) rfl (.tmp rfl .nil) (.refl _) (.refl _) ?_
    subst hd
    exact ⟨Na, a, c, by rw [hm], rfl, by rw [← hm]; exact ra.rsl⟩
def DgP (z : List UInt8 × Int) (v : Value) (L : List Heaplet) : Prop := ∃ M a c, v = .tuple #[.slice a z.1.length c, .int .i64 z.2] ∧ L = [M] ∧ RSl M 1 a z.1.length c (i64s z.1)
set_option maxRecDepth 100000 in
set_option maxHeartbeats 2000000 in
theorem rDigits_f (s : List UInt8) (hs : s.length ≤ 1099511627776) : Fn Tryd.prog 38 #[str s] [] [] (DgP (dgR s)) := by
  have hRu := rRunes_f s hs
  have hl := runes_len s
  have hok := fun j (h : j < (runesOf s).length) => runes_ok h
  unfold dgR
  obtain ⟨z, hz⟩ : ∃ z, dgF 0 [] (runesOf s) = z := ⟨_, rfl⟩
  rw [hz]
  simp only
  obtain ⟨rs, hrs⟩ : ∃ rs, runesOf s = rs := ⟨_, rfl⟩
  rw [hrs] at hRu hl hok hz ⊢
  have h48 : ox 0 = 48 := rfl
  have h120 : ox 1 = 120 := rfl
  refine Fn.enter (vs := [str s]) Tryd.func38 rfl rfl rfl ?_
  intro E R hR
  change At _ _ E [R] _
  refine At.seq fun K1 hk_1 => ?_
  refine At.region ?_
  refine op_assign (nxlf rfl) rfl rfl ?_
  refine op_assign (nxlf rfl) rfl rfl ?_
  refine At.opsNil ?_
  refine At.norm (hk_1 ?_)
  refine At.seq fun K2 hk_2 => ?_
  refine At.region ?_
  refine op_move (nxlf rfl) rfl rfl ?_
  refine op_callA (nxla rfl) (.cons rfl .nil) (hRu) Tryd.func63 rfl rfl (by simp) rfl ?_
  rintro v8 L8 ⟨N8, a8, c8, rfl, rfl, s8⟩
  change At _ _ _ [N8, R] _
  refine op_assign (nxlf rfl) rfl rfl ?_
  refine At.opsNil ?_
  refine At.norm (hk_2 ?_)
  refine At.seq fun K3 hk_3 => ?_
  refine At.region ?_
  refine op_assign (nxlf rfl) rfl rfl ?_
  refine At.opsNil ?_
  refine At.norm (hk_3 ?_)
  refine At.seq fun K4 hk_4 => ?_
  refine At.seq fun K5 hk_5 => ?_
  refine At.region ?_
  refine op_assign (nxlf rfl) rfl rfl ?_
  refine At.opsNil ?_
  refine At.norm (hk_5 ?_)
  refine At.block ?_
  refine At.empty ?_
  refine At.loop (fun fr_ hp_ ms_ => ∃ (k : Nat) (acc : List UInt8) (a : Option Addr) (m c : Nat) (Na : Heaplet), fr_ = [(4, .slice a8 rs.length c8), (5, .slice a m c), (6, .int .i64 (k : Int))] ∧ hp_ = [Na, N8, R] ∧ rs.length - k = ms_ ∧ (k ≤ rs.length) ∧ (m = acc.length) ∧ (m ≤ k) ∧ (dgF k acc (rs.drop k) = z) ∧ (Row Na 3 1 a m c (i64s acc))) ?_ (.refl _) ⟨0, [], none, 0, 0, nilH, rfl, rfl, rfl, Nat.zero_le _, rfl, Nat.le_refl _, by rw [List.drop_zero]; exact hz, Row.nil _ _ _⟩ ?_
  · exact .cons (by first | exact lkI rfl (by omega) | rfl) (.cons (by first | exact lkI rfl (by omega) | rfl) (.cons (by first | exact lkI rfl (by omega) | rfl) .nil))
  rintro _ _ _ ⟨k, acc, a, m, c, Na, rfl, rfl, rfl, hk, hm, hmk, hd, ra⟩
  refine At.seq fun K6 hk_6 => ?_
  refine At.seq fun K7 hk_7 => ?_
  refine At.region ?_
  refine op_move (nxlf rfl) rfl rfl ?_
  refine op_move (nxlf rfl) rfl rfl ?_
  refine op_lenS (nxlf rfl) se96 rfl rfl ?_
  refine op_lss (nxlf rfl) rfl rfl rfl ?_
  refine At.opsNil ?_
  refine At.norm (hk_7 ?_)
  refine At.condP rfl (fun c12 => ?_) (fun c12 => ?_)
  · refine At.knowT (d := 12) rfl c12 ?_
    have hlt : k < rs.length := by omega
    have hrk := hok k hlt
    rw [runes_dropC hlt] at hd
    obtain ⟨r, hr⟩ : ∃ r, rs.getD k 0 = r := ⟨_, rfl⟩
    have hget := getRn hlt
    rw [hr] at hd hrk hget
    have o0 : k = 0 → ox k = 48 := fun h => by rw [h]; rfl
    have o1 : k = 1 → ox k = 120 := fun h => by rw [h]; rfl
    refine At.skip ?_
    refine At.norm (hk_6 ?_)
    refine At.seq fun K8 hk_8 => ?_
    refine At.block ?_
    refine At.seq fun K9 hk_9 => ?_
    refine At.seq fun K10 hk_10 => ?_
    refine At.region ?_
    refine op_move (nxlf rfl) rfl rfl ?_
    refine op_eql (nxlf rfl) rfl rfl rfl ?_
    refine op_move (nxlf rfl) rfl rfl ?_
    refine At.partP (d := 17) rfl (fun g17 => ?_) (fun g17 => ?_)
    · refine op_move (nxgf rfl rfl rfl rfl) rfl rfl ?_
      refine op_move (nxgf rfl rfl rfl rfl) rfl rfl ?_
      refine op_idx1 (nxgf rfl rfl rfl rfl) se96 rfl rfl s8 (show _ = (((k : Nat)) : Int) from by omega) (by omega) rfl ?_
      refine op_loadE (nxgf rfl rfl rfl rfl) sc21 rfl s8 (by first | exact get8 (by omega) | exact get64 (by omega) | exact get32 (by omega) | exact hget) (by first | exact mem0 | exact mem1 | exact mem2 | exact mem3 | exact mem4 | exact mem5 | exact mem6 | exact mem7 | exact mem8 | exact mem9) rfl ?_
      refine op_neq (nxgf rfl rfl rfl rfl) rfl rfl rfl ?_
      refine op_pickT (nxlf rfl) rfl rfl rfl ?_
      refine op_move (nxlf rfl) rfl rfl ?_
      refine At.partP (d := 24) rfl (fun g24 => ?_) (fun g24 => ?_)
      · refine op_skip rfl rfl rfl rfl rfl rfl rfl ?_
        refine op_skip rfl rfl rfl rfl rfl rfl rfl ?_
        refine op_skip rfl rfl rfl rfl rfl rfl rfl ?_
        refine op_skipU rfl rfl rfl rfl rfl rfl ?_
        refine op_skipU rfl rfl rfl rfl rfl rfl ?_
        refine op_skipU rfl rfl rfl rfl rfl rfl ?_
        refine op_skipU rfl rfl rfl rfl rfl rfl ?_
        refine op_skipU rfl rfl rfl rfl rfl rfl ?_
        refine op_skip rfl rfl rfl rfl rfl rfl rfl ?_
        refine op_pickT (nxlf rfl) rfl rfl rfl ?_
        refine op_move (nxlf rfl) rfl rfl ?_
        refine op_skip rfl rfl rfl rfl rfl rfl rfl ?_
        refine op_skip rfl rfl rfl rfl rfl rfl rfl ?_
        refine op_skip rfl rfl rfl rfl rfl rfl rfl ?_
        refine op_skipU rfl rfl rfl rfl rfl rfl ?_
        refine op_skipU rfl rfl rfl rfl rfl rfl ?_
        refine op_skipU rfl rfl rfl rfl rfl rfl ?_
        refine op_skipU rfl rfl rfl rfl rfl rfl ?_
        refine op_skipU rfl rfl rfl rfl rfl rfl ?_
        refine op_skipU rfl rfl rfl rfl rfl rfl ?_
        refine op_skip rfl rfl rfl rfl rfl rfl rfl ?_
        refine op_pickT (nxlf rfl) rfl rfl rfl ?_
        refine At.opsNil ?_
        refine At.norm (hk_10 ?_)
        refine At.condT rfl ?_
        refine At.seq fun K11 hk_11 => ?_
        refine At.region ?_
        refine op_move (nxlf rfl) rfl rfl ?_
        refine op_move (nxlf rfl) rfl rfl ?_
        refine op_assign (nxlf rfl) rfl rfl ?_
        refine op_assign (nxlf rfl) rfl rfl ?_
        refine At.opsNil ?_
        refine At.norm (hk_11 ?_)
        refine At.ret (At.thenRet (At.inRet (At.thenRet (At.thenRet (At.inRet (At.thenRet (?_)))))))
        refine At.sub (L' := [Na, R]) (.cons_cons _ (.cons _ (.cons_cons _ (.slnil)))) ?_
        refine At.retN (L1 := [Na]) rfl (.tmp rfl (.tmp rfl .nil)) rfl (.refl _) (.refl _) ?_
        first
          | (have hz2 : z = (acc, (k : Int)) := by
               rw [← hd]
               first
                 | exact dgF_no (by omega) (fun e => by omega)
                 | exact dgF_none (by omega) (hexI_neg (by omega))
             rw [hz2, if_pos (Int.natCast_nonneg k)]
             exact ⟨Na, a, c, by rw [hm], rfl, by rw [← hm]; exact ra.rsl⟩)
      · refine op_move (nxgf rfl rfl rfl rfl) rfl rfl ?_
        refine op_eql (nxgf rfl rfl rfl rfl) rfl rfl rfl ?_
        refine op_move (nxgf rfl rfl rfl rfl) rfl rfl ?_
        refine At.partP (d := 27) rfl (fun g27 => ?_) (fun g27 => ?_)
        · exfalso; omega
        · refine op_skip rfl rfl rfl rfl rfl rfl rfl ?_
          refine op_skip rfl rfl rfl rfl rfl rfl rfl ?_
          refine op_skip rfl rfl rfl rfl rfl rfl rfl ?_
          refine op_skip rfl rfl rfl rfl rfl rfl rfl ?_
          refine op_skip rfl rfl rfl rfl rfl rfl rfl ?_
          refine op_pickF (nxgf rfl rfl rfl rfl) rfl rfl rfl ?_
          refine op_pickF (nxlf rfl) rfl rfl rfl ?_
          refine op_move (nxlf rfl) rfl rfl ?_
          refine op_move (nxgf rfl rfl rfl rfl) rfl rfl ?_
          refine op_geq (nxgf rfl rfl rfl rfl) rfl rfl rfl ?_
          refine op_move (nxgf rfl rfl rfl rfl) rfl rfl ?_
          refine At.partP (d := 38) rfl (fun g38 => ?_) (fun g38 => ?_)
          · exfalso; omega
          · refine op_skip rfl rfl rfl rfl rfl rfl rfl ?_
            refine op_skip rfl rfl rfl rfl rfl rfl rfl ?_
            refine op_skip rfl rfl rfl rfl rfl rfl rfl ?_
            refine op_skip rfl rfl rfl rfl rfl rfl rfl ?_
            refine op_skip rfl rfl rfl rfl rfl rfl rfl ?_
            refine op_skip rfl rfl rfl rfl rfl rfl rfl ?_
            refine op_pickF (nxgf rfl rfl rfl rfl) rfl rfl rfl ?_
            refine op_pickF (nxlf rfl) rfl rfl rfl ?_
            refine At.opsNil ?_
            refine At.norm (hk_10 ?_)
            refine At.condF rfl ?_
            refine At.skip ?_
            refine At.norm (hk_9 ?_)
            refine At.seq fun K12 hk_12 => ?_
            refine At.region ?_
            refine op_move (nxlf rfl) rfl rfl ?_
            refine op_geq (nxlf rfl) rfl rfl rfl ?_
            refine At.opsNil ?_
            refine At.norm (hk_12 ?_)
            refine At.condP rfl (fun c50 => ?_) (fun c50 => ?_)
            · exfalso; omega
            · refine At.knowF (d := 50) rfl c50 ?_
              refine At.skip ?_
              refine At.inNorm ?_
              refine At.norm (hk_8 ?_)
              refine At.region ?_
              refine op_move (nxlf rfl) rfl rfl ?_
              refine op_addI (nxlf rfl) rfl rfl (by omega) (by omega) rfl ?_
              refine op_assign (nxlf rfl) rfl rfl ?_
              refine At.opsNil ?_
              refine At.norm ?_
              refine At.back ?_ (.refl _) ⟨k + 1, acc, a, m, c, Na, rfl, rfl, rfl, by omega, hm, by omega, by rw [dgF_ox (by omega) (by omega)] at hd; exact hd, ra⟩ ?_
              · exact .cons (by first | exact lkI rfl (by omega) | rfl) (.cons (by first | exact lkI rfl (by omega) | rfl) (.cons (by first | exact lkI rfl (by omega) | rfl) .nil))
              · omega
    · refine op_skip rfl rfl rfl rfl rfl rfl rfl ?_
      refine op_skip rfl rfl rfl rfl rfl rfl rfl ?_
      refine op_skip rfl rfl rfl rfl rfl rfl rfl ?_
      refine op_skip rfl rfl rfl rfl rfl rfl rfl ?_
      refine op_skip rfl rfl rfl rfl rfl rfl rfl ?_
      refine op_pickF (nxlf rfl) rfl rfl rfl ?_
      refine op_move (nxlf rfl) rfl rfl ?_
      refine op_move (nxgf rfl rfl rfl rfl) rfl rfl ?_
      refine op_eql (nxgf rfl rfl rfl rfl) rfl rfl rfl ?_
      refine op_move (nxgf rfl rfl rfl rfl) rfl rfl ?_
      refine At.partP (d := 27) rfl (fun g27 => ?_) (fun g27 => ?_)
      · refine op_move (nxgf rfl rfl rfl rfl) rfl rfl ?_
        refine op_move (nxgf rfl rfl rfl rfl) rfl rfl ?_
        refine op_idx1 (nxgf rfl rfl rfl rfl) se96 rfl rfl s8 (show _ = (((k : Nat)) : Int) from by omega) (by omega) rfl ?_
        refine op_loadE (nxgf rfl rfl rfl rfl) sc21 rfl s8 (by first | exact get8 (by omega) | exact get64 (by omega) | exact get32 (by omega) | exact hget) (by first | exact mem0 | exact mem1 | exact mem2 | exact mem3 | exact mem4 | exact mem5 | exact mem6 | exact mem7 | exact mem8 | exact mem9) rfl ?_
        refine op_neq (nxgf rfl rfl rfl rfl) rfl rfl rfl ?_
        refine op_pickT (nxgf rfl rfl rfl rfl) rfl rfl rfl ?_
        refine op_pickF (nxlf rfl) rfl rfl rfl ?_
        refine op_move (nxlf rfl) rfl rfl ?_
        refine At.partP (d := 35) rfl (fun g35 => ?_) (fun g35 => ?_)
        · refine op_skip rfl rfl rfl rfl rfl rfl rfl ?_
          refine op_skip rfl rfl rfl rfl rfl rfl rfl ?_
          refine op_skip rfl rfl rfl rfl rfl rfl rfl ?_
          refine op_skipU rfl rfl rfl rfl rfl rfl ?_
          refine op_skipU rfl rfl rfl rfl rfl rfl ?_
          refine op_skipU rfl rfl rfl rfl rfl rfl ?_
          refine op_skipU rfl rfl rfl rfl rfl rfl ?_
          refine op_skipU rfl rfl rfl rfl rfl rfl ?_
          refine op_skipU rfl rfl rfl rfl rfl rfl ?_
          refine op_skip rfl rfl rfl rfl rfl rfl rfl ?_
          refine op_pickT (nxlf rfl) rfl rfl rfl ?_
          refine At.opsNil ?_
          refine At.norm (hk_10 ?_)
          refine At.condT rfl ?_
          refine At.seq fun K13 hk_13 => ?_
          refine At.region ?_
          refine op_move (nxlf rfl) rfl rfl ?_
          refine op_move (nxlf rfl) rfl rfl ?_
          refine op_assign (nxlf rfl) rfl rfl ?_
          refine op_assign (nxlf rfl) rfl rfl ?_
          refine At.opsNil ?_
          refine At.norm (hk_13 ?_)
          refine At.ret (At.thenRet (At.inRet (At.thenRet (At.thenRet (At.inRet (At.thenRet (?_)))))))
          refine At.sub (L' := [Na, R]) (.cons_cons _ (.cons _ (.cons_cons _ (.slnil)))) ?_
          refine At.retN (L1 := [Na]) rfl (.tmp rfl (.tmp rfl .nil)) rfl (.refl _) (.refl _) ?_
          first
            | (have hz2 : z = (acc, (k : Int)) := by
                 rw [← hd]
                 first
                   | exact dgF_no (by omega) (fun e => by omega)
                   | exact dgF_none (by omega) (hexI_neg (by omega))
               rw [hz2, if_pos (Int.natCast_nonneg k)]
               exact ⟨Na, a, c, by rw [hm], rfl, by rw [← hm]; exact ra.rsl⟩)
        · refine op_move (nxgf rfl rfl rfl rfl) rfl rfl ?_
          refine op_geq (nxgf rfl rfl rfl rfl) rfl rfl rfl ?_
          refine op_move (nxgf rfl rfl rfl rfl) rfl rfl ?_
          refine At.partP (d := 38) rfl (fun g38 => ?_) (fun g38 => ?_)
          · exfalso; omega
          · refine op_skip rfl rfl rfl rfl rfl rfl rfl ?_
            refine op_skip rfl rfl rfl rfl rfl rfl rfl ?_
            refine op_skip rfl rfl rfl rfl rfl rfl rfl ?_
            refine op_skip rfl rfl rfl rfl rfl rfl rfl ?_
            refine op_skip rfl rfl rfl rfl rfl rfl rfl ?_
            refine op_skip rfl rfl rfl rfl rfl rfl rfl ?_
            refine op_pickF (nxgf rfl rfl rfl rfl) rfl rfl rfl ?_
            refine op_pickF (nxlf rfl) rfl rfl rfl ?_
            refine At.opsNil ?_
            refine At.norm (hk_10 ?_)
            refine At.condF rfl ?_
            refine At.skip ?_
            refine At.norm (hk_9 ?_)
            refine At.seq fun K14 hk_14 => ?_
            refine At.region ?_
            refine op_move (nxlf rfl) rfl rfl ?_
            refine op_geq (nxlf rfl) rfl rfl rfl ?_
            refine At.opsNil ?_
            refine At.norm (hk_14 ?_)
            refine At.condP rfl (fun c50 => ?_) (fun c50 => ?_)
            · exfalso; omega
            · refine At.knowF (d := 50) rfl c50 ?_
              refine At.skip ?_
              refine At.inNorm ?_
              refine At.norm (hk_8 ?_)
              refine At.region ?_
              refine op_move (nxlf rfl) rfl rfl ?_
              refine op_addI (nxlf rfl) rfl rfl (by omega) (by omega) rfl ?_
              refine op_assign (nxlf rfl) rfl rfl ?_
              refine At.opsNil ?_
              refine At.norm ?_
              refine At.back ?_ (.refl _) ⟨k + 1, acc, a, m, c, Na, rfl, rfl, rfl, by omega, hm, by omega, by rw [dgF_ox (by omega) (by omega)] at hd; exact hd, ra⟩ ?_
              · exact .cons (by first | exact lkI rfl (by omega) | rfl) (.cons (by first | exact lkI rfl (by omega) | rfl) (.cons (by first | exact lkI rfl (by omega) | rfl) .nil))
              · omega
      · refine op_skip rfl rfl rfl rfl rfl rfl rfl ?_
        refine op_skip rfl rfl rfl rfl rfl rfl rfl ?_
        refine op_skip rfl rfl rfl rfl rfl rfl rfl ?_
        refine op_skip rfl rfl rfl rfl rfl rfl rfl ?_
        refine op_skip rfl rfl rfl rfl rfl rfl rfl ?_
        refine op_pickF (nxgf rfl rfl rfl rfl) rfl rfl rfl ?_
        refine op_pickF (nxlf rfl) rfl rfl rfl ?_
        refine op_move (nxlf rfl) rfl rfl ?_
        refine op_move (nxgf rfl rfl rfl rfl) rfl rfl ?_
        refine op_geq (nxgf rfl rfl rfl rfl) rfl rfl rfl ?_
        refine op_move (nxgf rfl rfl rfl rfl) rfl rfl ?_
        refine At.partP (d := 38) rfl (fun g38 => ?_) (fun g38 => ?_)
        · refine op_move (nxgf rfl rfl rfl rfl) rfl rfl ?_
          refine op_move (nxgf rfl rfl rfl rfl) rfl rfl ?_
          refine op_idx1 (nxgf rfl rfl rfl rfl) se96 rfl rfl s8 (show _ = (((k : Nat)) : Int) from by omega) (by omega) rfl ?_
          refine op_loadE (nxgf rfl rfl rfl rfl) sc21 rfl s8 (by first | exact get8 (by omega) | exact get64 (by omega) | exact get32 (by omega) | exact hget) (by first | exact mem0 | exact mem1 | exact mem2 | exact mem3 | exact mem4 | exact mem5 | exact mem6 | exact mem7 | exact mem8 | exact mem9) rfl ?_
          refine op_callA (nxga rfl rfl rfl rfl) (.cons rfl .nil) (rdigit_f hrk) Tryd.func64 rfl rfl (by simp) rfl ?_
          rintro v43 L43 ⟨rfl, rfl⟩
          change At _ _ _ [Na, N8, R] _
          refine op_lss (nxgf rfl rfl rfl rfl) rfl rfl rfl ?_
          refine op_pickT (nxgf rfl rfl rfl rfl) rfl rfl rfl ?_
          refine op_pickF (nxlf rfl) rfl rfl rfl ?_
          refine At.opsNil ?_
          refine At.norm (hk_10 ?_)
          refine At.condP rfl (fun c46 => ?_) (fun c46 => ?_)
          · refine At.knowT (d := 46) rfl c46 ?_
            refine At.seq fun K15 hk_15 => ?_
            refine At.region ?_
            refine op_move (nxlf rfl) rfl rfl ?_
            refine op_move (nxlf rfl) rfl rfl ?_
            refine op_assign (nxlf rfl) rfl rfl ?_
            refine op_assign (nxlf rfl) rfl rfl ?_
            refine At.opsNil ?_
            refine At.norm (hk_15 ?_)
            refine At.ret (At.thenRet (At.inRet (At.thenRet (At.thenRet (At.inRet (At.thenRet (?_)))))))
            refine At.sub (L' := [Na, R]) (.cons_cons _ (.cons _ (.cons_cons _ (.slnil)))) ?_
            refine At.retN (L1 := [Na]) rfl (.tmp rfl (.tmp rfl .nil)) rfl (.refl _) (.refl _) ?_
            first
              | (have hz2 : z = (acc, (k : Int)) := by
                   rw [← hd]
                   first
                     | exact dgF_no (by omega) (fun e => by omega)
                     | exact dgF_none (by omega) (hexI_neg (by omega))
                 rw [hz2, if_pos (Int.natCast_nonneg k)]
                 exact ⟨Na, a, c, by rw [hm], rfl, by rw [← hm]; exact ra.rsl⟩)
          · refine At.knowF (d := 46) rfl c46 ?_
            refine At.skip ?_
            refine At.norm (hk_9 ?_)
            refine At.seq fun K16 hk_16 => ?_
            refine At.region ?_
            refine op_move (nxlf rfl) rfl rfl ?_
            refine op_geq (nxlf rfl) rfl rfl rfl ?_
            refine At.opsNil ?_
            refine At.norm (hk_16 ?_)
            refine At.condP rfl (fun c50 => ?_) (fun c50 => ?_)
            · refine At.knowT (d := 50) rfl c50 ?_
              refine At.region ?_
              refine op_move (nxlf rfl) rfl rfl ?_
              refine op_move (nxlf rfl) rfl rfl ?_
              refine op_move (nxlf rfl) rfl rfl ?_
              refine op_idx1 (nxlf rfl) se96 rfl rfl s8 (show _ = (((k : Nat)) : Int) from by omega) (by omega) rfl ?_
              refine op_loadE (nxlf rfl) sc21 rfl s8 (by first | exact get8 (by omega) | exact get64 (by omega) | exact get32 (by omega) | exact hget) (by first | exact mem0 | exact mem1 | exact mem2 | exact mem3 | exact mem4 | exact mem5 | exact mem6 | exact mem7 | exact mem8 | exact mem9) rfl ?_
              refine op_callA (nxla rfl) (.cons rfl .nil) (rdigit_f hrk) Tryd.func64 rfl rfl (by simp) rfl ?_
              rintro v56 L56 ⟨rfl, rfl⟩
              change At _ _ _ [Na, N8, R] _
              refine op_lit (nxla rfl) Tryd.underlying78 ze3 sz3 (.cons rfl .nil) rfl rfl (by simp [Value.cells]) rfl rfl rfl (fun N57 a57 r57 => ?_)
              simp only [flatV, List.flatMap_cons, List.flatMap_nil, Value.cells, List.append_nil, List.cons_append, List.nil_append] at r57
              have s57 := r57.rsl
              obtain ⟨y, hy, hyI, hy16⟩ := hexI_pos (r := r) (by omega)
              rw [show hexI r = ((UInt8.ofNat y).toNat : Int) by rw [hyI, UInt8.toNat_ofNat']; omega] at r57
              change Row N57 _ 1 a57 1 1 (i64s [UInt8.ofNat y]) at r57
              have s57 := r57.rsl
              refine op_append (nxl rfl) Tryd.underlying78 Tryd.underlying78 te3 rfl rfl ra s57 (by first | exact mem0 | exact mem1 | exact mem2 | exact mem3 | exact mem4 | exact mem5 | exact mem6 | exact mem7 | exact mem8 | exact mem9) (one_is _) (by omega) (by omega) sel1 rfl (fun N58 a58 p58 r58 => ?_)
              have s58 := r58.rsl
              have r58 : Row N58 3 1 a58 (m + 1) p58 (i64s (acc ++ [UInt8.ofNat y])) := by
                rw [show i64s (acc ++ [UInt8.ofNat y]) = i64s acc ++ i64s [UInt8.ofNat y] by simp [i64s]]
                exact r58
              refine op_assign (nxlf rfl) rfl rfl ?_
              refine At.opsNil ?_
              refine At.inNorm ?_
              refine At.norm (hk_8 ?_)
              refine At.region ?_
              refine op_move (nxlf rfl) rfl rfl ?_
              refine op_addI (nxlf rfl) rfl rfl (by omega) (by omega) rfl ?_
              refine op_assign (nxlf rfl) rfl rfl ?_
              refine At.opsNil ?_
              refine At.norm ?_
              refine At.sub (L' := [N58, N8, R]) (.cons_cons _ (.cons _ (.cons_cons _ (.cons_cons _ (.slnil))))) ?_
              refine At.back ?_ (.refl _) ⟨k + 1, acc ++ [UInt8.ofNat y], a58, m + 1, p58, N58, rfl, rfl, rfl, by omega, by rw [List.length_append, hm]; rfl, by omega, by rw [dgF_some (by omega) hy] at hd; exact hd, r58⟩ ?_
              · exact .cons (by first | exact lkI rfl (by omega) | rfl) (.cons (by first | exact lkI rfl (by omega) | rfl) (.cons (by first | exact lkI rfl (by omega) | rfl) .nil))
              · omega
            · exfalso; omega
        · exfalso; omega
  · refine At.knowF (d := 12) rfl c12 ?_
    rw [List.drop_eq_nil_of_le (by omega)] at hd
    have hz2 : z = (acc, (-1 : Int)) := hd.symm
    have hkl : k = rs.length := by omega
    refine At.exit (At.thenExit (At.thenExit (At.inHit ?_)))
    refine At.norm (hk_4 ?_)
    refine At.seq fun K17 hk_17 => ?_
    refine At.seq fun K18 hk_18 => ?_
    refine At.region ?_
    refine op_move (nxlf rfl) rfl rfl ?_
    refine op_lenS (nxlf rfl) se96 rfl rfl ?_
    refine op_lss (nxlf rfl) rfl rfl rfl ?_
    refine At.opsNil ?_
    refine At.norm (hk_18 ?_)
    refine At.condP rfl (fun c61 => ?_) (fun c61 => ?_)
    · refine At.knowT (d := 61) rfl c61 ?_
      refine At.seq fun K19 hk_19 => ?_
      refine At.region ?_
      refine op_move (nxlf rfl) rfl rfl ?_
      refine op_lenS (nxlf rfl) se96 rfl rfl ?_
      refine op_assign (nxlf rfl) rfl rfl ?_
      refine op_assign (nxlf rfl) rfl rfl ?_
      refine At.opsNil ?_
      refine At.norm (hk_19 ?_)
      refine At.ret (At.thenRet (?_))
      refine At.empty ?_
      refine At.sub (L' := [nilH, R]) (.cons_cons _ (.cons _ (.cons _ (.cons_cons _ (.slnil))))) ?_
      refine At.retN (L1 := [nilH]) rfl (.tmp rfl (.tmp rfl .nil)) rfl (.refl _) (.refl _) ?_
      rw [hz2, if_neg (show ¬ (0 : Int) ≤ (-1) by decide), if_pos (show rs.length < 2 by omega)]
      exact ⟨nilH, none, 0, rfl, rfl, RSl.nil _ _⟩
    · refine At.knowF (d := 61) rfl c61 ?_
      refine At.skip ?_
      refine At.norm (hk_17 ?_)
      refine At.seq fun K20 hk_20 => ?_
      refine At.region ?_
      refine op_move (nxlf rfl) rfl rfl ?_
      refine op_assign (nxlf rfl) rfl rfl ?_
      refine op_assign (nxlf rfl) rfl rfl ?_
      refine At.opsNil ?_
      refine At.norm (hk_20 ?_)
      refine At.ret (?_)
      refine At.sub (L' := [Na, R]) (.cons_cons _ (.cons _ (.cons_cons _ (.slnil)))) ?_
      refine At.retN (L1 := [Na]) rfl (.tmp rfl (.tmp rfl .nil)) rfl (.refl _) (.refl _) ?_
      rw [hz2, if_neg (show ¬ (0 : Int) ≤ (-1) by decide), if_neg (show ¬ rs.length < 2 by omega)]
      exact ⟨Na, a, c, by rw [hm], rfl, by rw [← hm]; exact ra.rsl⟩
end Go.Proofs.YtlkjfbfenpkmhaaDoor
/- quarryref04: Bytes, Address, Hash, Number. Condition: a text of at most 2^40 bytes. -/
namespace Go.Proofs.YtlkjfbfenpkmhaaDoor
set_option linter.unusedVariables false
set_option linter.unusedSimpArgs false
open Go Go.RowKit
theorem conv_pair {x y : Nat} (hx : x < 16) (hy : y < 16) : (UInt8.ofNat (16 * x + y)).toNat = 16 * x + y := by rw [UInt8.toNat_ofNat']; omega
set_option maxRecDepth 100000 in
set_option maxHeartbeats 2000000 in
theorem rBytes_f (s : List UInt8) (hs : s.length ≤ 1099511627776) : Fn Tryd.prog 16 #[str s] [] [] (BytP (rBytesR s)) := by
  have hF := rDigits_f s hs
  have hdl := dgR_digits s
  have hln := dgR_len s
  unfold rBytesR
  generalize dgR s = z at hF hdl hln ⊢
  obtain ⟨d, a⟩ := z
  simp only at hdl hln ⊢
  replace hF : Fn Tryd.prog 38 #[str s] [] [] (fun v L => ∃ M p c, v = .tuple #[.slice p d.length c, .int .i64 a] ∧ L = [M] ∧ RSl M 1 p d.length c (i64s d)) := hF
  have hdd := digit_lt hdl
  refine Fn.enter (vs := [str s]) Tryd.func16 rfl rfl rfl ?_
  intro E R hR
  change At _ _ E [R] _
  refine At.seq fun K1 hk_1 => ?_
  refine At.region ?_
  refine op_assign (nxlf rfl) rfl rfl ?_
  refine op_alloc (nxla rfl) ze30 rfl (fun N3 b3 B3 => ?_)
  change Blk N3 b3 _ [.int .i64 0, .int .i64 0] at B3
  change Blk N3 b3 _ [.int .i64 0, .int .i64 0] at B3
  refine At.opsNil ?_
  refine At.norm (hk_1 ?_)
  refine At.seq fun K2 hk_2 => ?_
  refine At.region ?_
  refine op_move (nxlf rfl) rfl rfl ?_
  refine op_callA (nxla rfl) (.cons rfl .nil) (hF) Tryd.func38 rfl rfl (by simp) rfl ?_
  rintro v10 L10 ⟨N10, p10, c10, rfl, rfl, s10⟩
  change At _ _ _ [N10, N3, R] _
  refine op_move (nxlf rfl) rfl rfl ?_
  refine op_extract (nxlf rfl) rfl rfl rfl ?_
  refine op_extract (nxlf rfl) rfl rfl rfl ?_
  refine op_assign (nxlf rfl) rfl rfl ?_
  refine op_assign (nxlf rfl) rfl rfl ?_
  refine At.opsNil ?_
  refine At.norm (hk_2 ?_)
  refine At.seq fun K3 hk_3 => ?_
  refine At.seq fun K4 hk_4 => ?_
  refine At.region ?_
  refine op_move (nxlf rfl) rfl rfl ?_
  refine op_geq (nxlf rfl) rfl rfl rfl ?_
  refine At.opsNil ?_
  refine At.norm (hk_4 ?_)
  refine At.condP rfl (fun c14 => ?_) (fun c14 => ?_)
  · refine At.knowT (d := 14) rfl c14 ?_
    refine At.seq fun K5 hk_5 => ?_
    refine At.region ?_
    refine op_move (nxlf rfl) rfl rfl ?_
    refine op_callA (nxla rfl) (.cons rfl (.cons rfl .nil)) (rfault_f 2 a) Tryd.func39 rfl rfl (by simp) rfl ?_
    rintro v16 L16 ⟨rfl, rfl⟩
    change At _ _ _ [N10, N3, R] _
    refine op_assign (nxlf rfl) rfl rfl ?_
    refine op_store (nxl rfl) sz30 rfl rfl rfl rfl rfl B3 (by simp) sel1 (fun N3 B3 => ?_)
    simp only [setL, List.set] at B3
    refine At.opsNil ?_
    refine At.norm (hk_5 ?_)
    refine At.ret (At.thenRet (?_))
    refine At.empty ?_
    refine At.sub (L' := [nilH, N3, R]) (.cons_cons _ (.cons_cons _ (.cons _ (.cons_cons _ (.slnil))))) ?_
    refine At.perm sel2 ?_
    refine At.perm sel1 ?_
    refine At.perm sel2 ?_
    refine At.retN (L1 := [nilH]) rfl (.tmp rfl (.cell rfl (res_agg (ds := [_, _]) ag30 B3 rfl rfl mem0) .nil)) rfl (.cons _ (.refl _)) (.refl _) ?_
    have ha : 0 ≤ a := by omega
    rw [if_pos ha]
    exact ⟨nilH, none, 0, by rw [show ((a.toNat : Nat) : Int) = a from Int.toNat_of_nonneg ha]; rfl, rfl, Row.nil _ _ _⟩
  · refine At.knowF (d := 14) rfl c14 ?_
    refine At.skip ?_
    refine At.norm (hk_3 ?_)
    refine At.seq fun K6 hk_6 => ?_
    refine At.seq fun K7 hk_7 => ?_
    refine At.region ?_
    refine op_move (nxlf rfl) rfl rfl ?_
    refine op_lenS (nxlf rfl) se78 rfl rfl ?_
    refine op_rem (nxlf rfl) rfl rfl (by omega) (by omega) rfl ?_
    refine op_eql (nxlf rfl) rfl rfl rfl ?_
    refine At.opsNil ?_
    refine At.norm (hk_7 ?_)
    refine At.condP rfl (fun c20 => ?_) (fun c20 => ?_)
    · refine At.knowT (d := 20) rfl c20 ?_
      refine At.seq fun K8 hk_8 => ?_
      refine At.region ?_
      refine op_move (nxlf rfl) rfl rfl ?_
      refine op_lenS (nxlf rfl) se78 rfl rfl ?_
      refine op_addI (nxlf rfl) rfl rfl (by omega) (by omega) rfl ?_
      refine op_callA (nxla rfl) (.cons rfl (.cons rfl .nil)) (rfault_f 2 ((d.length : Int) + 2)) Tryd.func39 rfl rfl (by simp) rfl ?_
      rintro v24 L24 ⟨rfl, rfl⟩
      change At _ _ _ [N10, N3, R] _
      refine op_assign (nxlf rfl) rfl rfl ?_
      refine op_store (nxl rfl) sz30 rfl rfl rfl rfl rfl B3 (by simp) sel1 (fun N3 B3 => ?_)
      simp only [setL, List.set] at B3
      refine At.opsNil ?_
      refine At.norm (hk_8 ?_)
      refine At.ret (At.thenRet (?_))
      refine At.empty ?_
      refine At.sub (L' := [nilH, N3, R]) (.cons_cons _ (.cons_cons _ (.cons _ (.cons_cons _ (.slnil))))) ?_
      refine At.perm sel2 ?_
      refine At.perm sel1 ?_
      refine At.perm sel2 ?_
      refine At.retN (L1 := [nilH]) rfl (.tmp rfl (.cell rfl (res_agg (ds := [_, _]) ag30 B3 rfl rfl mem0) .nil)) rfl (.cons _ (.refl _)) (.refl _) ?_
      rw [if_neg (show ¬ 0 ≤ a by omega), if_pos (show d.length % 2 = 1 by omega)]
      exact ⟨nilH, none, 0, rfl, rfl, Row.nil _ _ _⟩
    · refine At.knowF (d := 20) rfl c20 ?_
      refine At.skip ?_
      refine At.norm (hk_6 ?_)
      refine At.seq fun K9 hk_9 => ?_
      refine At.region ?_
      refine op_assign (nxlf rfl) rfl rfl ?_
      refine At.opsNil ?_
      refine At.norm (hk_9 ?_)
      refine At.seq fun K10 hk_10 => ?_
      refine At.seq fun K11 hk_11 => ?_
      refine At.region ?_
      refine op_assign (nxlf rfl) rfl rfl ?_
      refine At.opsNil ?_
      refine At.norm (hk_11 ?_)
      refine At.block ?_
      refine At.empty ?_
      refine At.loop (fun fr_ hp_ ms_ => ∃ (j m : Nat) (p : Option Addr) (c : Nat) (Na : Heaplet), fr_ = [(3, .pointer (some ⟨b3, 0, none⟩)), (4, .slice p10 d.length c10), (6, .slice p m c), (7, .int .i64 ((2 * j : Nat) : Int))] ∧ hp_ = [Na, N10, N3, R] ∧ d.length - 2 * j = ms_ ∧ (2 * j ≤ d.length) ∧ (m = j) ∧ (Row Na 5 1 p m c (u8s (hexPs d j)))) ?_ (.refl _) ⟨0, 0, none, 0, nilH, rfl, rfl, rfl, Nat.zero_le _, rfl, Row.nil _ _ _⟩ ?_
      · exact .cons (by first | exact lkI rfl (by omega) | rfl) (.cons (by first | exact lkI rfl (by omega) | rfl) (.cons (by first | exact lkI rfl (by omega) | rfl) (.cons (by first | exact lkI rfl (by omega) | rfl) .nil)))
      rintro _ _ _ ⟨j, m, p, c, Na, rfl, rfl, rfl, hj, hm, ra⟩
      refine At.seq fun K12 hk_12 => ?_
      refine At.seq fun K13 hk_13 => ?_
      refine At.region ?_
      refine op_move (nxlf rfl) rfl rfl ?_
      refine op_move (nxlf rfl) rfl rfl ?_
      refine op_lenS (nxlf rfl) se78 rfl rfl ?_
      refine op_lss (nxlf rfl) rfl rfl rfl ?_
      refine At.opsNil ?_
      refine At.norm (hk_13 ?_)
      refine At.condP rfl (fun c28 => ?_) (fun c28 => ?_)
      · refine At.knowT (d := 28) rfl c28 ?_
        have hx0 := hdd (2 * j)
        have hx1 := hdd (2 * j + 1)
        have hlt : 2 * j + 1 < d.length := by omega
        refine At.skip ?_
        refine At.norm (hk_12 ?_)
        refine At.seq fun K14 hk_14 => ?_
        refine At.block ?_
        refine At.drawn [14] [0,1,2,3,4,5,6,7,8,9,10,11,12,13,14,15] (by kernel_rfl) (by kernel_rfl) ?_
        refine op_move (nxof rfl rfl rfl (by kernel_rfl)) rfl rfl ?_
        refine op_move (nxof rfl rfl rfl (by kernel_rfl)) rfl rfl ?_
        refine op_move (nxof rfl rfl rfl (by kernel_rfl)) rfl rfl ?_
        refine op_idx1 (nxof rfl rfl rfl (by kernel_rfl)) se78 rfl rfl s10 (show _ = (((2 * j : Nat)) : Int) from by omega) (by omega) rfl ?_
        refine op_loadE (nxof rfl rfl rfl (by kernel_rfl)) sc3 rfl s10 (by first | exact get8 (by omega) | exact get64 (by omega) | exact get32 (by omega) | exact getIn (by omega)) (by first | exact mem0 | exact mem1 | exact mem2 | exact mem3 | exact mem4 | exact mem5 | exact mem6 | exact mem7 | exact mem8 | exact mem9) rfl ?_
        refine op_mulI (nxof rfl rfl rfl (by kernel_rfl)) rfl rfl (by omega) (by omega) rfl ?_
        refine op_move (nxof rfl rfl rfl (by kernel_rfl)) rfl rfl ?_
        refine op_move (nxof rfl rfl rfl (by kernel_rfl)) rfl rfl ?_
        refine op_addI (nxof rfl rfl rfl (by kernel_rfl)) rfl rfl (by omega) (by omega) rfl ?_
        refine op_idx1 (nxof rfl rfl rfl (by kernel_rfl)) se78 rfl rfl s10 (show _ = (((2 * j + 1 : Nat)) : Int) from by omega) (by omega) rfl ?_
        refine op_loadE (nxof rfl rfl rfl (by kernel_rfl)) sc3 rfl s10 (by first | exact get8 (by omega) | exact get64 (by omega) | exact get32 (by omega) | exact getIn (by omega)) (by first | exact mem0 | exact mem1 | exact mem2 | exact mem3 | exact mem4 | exact mem5 | exact mem6 | exact mem7 | exact mem8 | exact mem9) rfl ?_
        refine op_addI (nxof rfl rfl rfl (by kernel_rfl)) rfl rfl (by omega) (by omega) rfl ?_
        refine op_conv8 (nxof rfl rfl rfl (by kernel_rfl)) (und_some Tryd.underlying3) Tryd.underlying5 rfl (by first | rfl | exact (Int.toNat_of_nonneg (by omega)).symm) rfl ?_
        refine op_lit (nxoa rfl rfl rfl) Tryd.underlying22 ze5 sz5 (.cons rfl .nil) rfl rfl (by simp [Value.cells]) rfl rfl rfl (fun N44 a44 r44 => ?_)
        simp only [flatV, List.flatMap_cons, List.flatMap_nil, Value.cells, List.append_nil, List.cons_append, List.nil_append] at r44
        have s44 := r44.rsl
        change Row N44 _ 1 a44 1 1 (u8s [hexPr d j]) at r44
        have s44 := r44.rsl
        refine op_append (nxos rfl rfl rfl rfl) Tryd.underlying22 Tryd.underlying22 te5 rfl rfl ra s44 (by first | exact mem0 | exact mem1 | exact mem2 | exact mem3 | exact mem4 | exact mem5 | exact mem6 | exact mem7 | exact mem8 | exact mem9) (by first | exact one_u8s _ | exact one_u64s _ | exact one_u32s _ | (intro u hu; simp at hu; subst hu; rfl)) (by omega) (by omega) sel1 rfl (fun N45 a45 p45 r45 => ?_)
        have s45 := r45.rsl
        have r45 : Row N45 5 1 a45 (m + 1) p45 (u8s (hexPs d (j + 1))) := by
          rw [hexPs_succ, show u8s (hexPs d j ++ [hexPr d j]) = u8s (hexPs d j) ++ u8s [hexPr d j] by simp [u8s]]
          exact r45
        refine op_assign (nxof rfl rfl rfl (by kernel_rfl)) rfl rfl ?_
        refine At.oneNil ?_
        refine At.inNorm ?_
        refine At.norm (hk_14 ?_)
        refine At.region ?_
        refine op_move (nxlf rfl) rfl rfl ?_
        refine op_addI (nxlf rfl) rfl rfl (by omega) (by omega) rfl ?_
        refine op_assign (nxlf rfl) rfl rfl ?_
        refine At.opsNil ?_
        refine At.norm ?_
        refine At.sub (L' := [N45, N10, N3, R]) (.cons_cons _ (.cons _ (.cons_cons _ (.cons_cons _ (.cons_cons _ (.slnil)))))) ?_
        refine At.back ?_ (.refl _) ⟨j + 1, m + 1, a45, p45, N45, rfl, rfl, rfl, by omega, by omega, r45⟩ ?_
        · exact .cons (by first | exact lkI rfl (by omega) | rfl) (.cons (by first | exact lkI rfl (by omega) | rfl) (.cons (by first | exact lkI rfl (by omega) | rfl) (.cons (by first | exact lkI rfl (by omega) | rfl) .nil)))
        · omega
      · refine At.knowF (d := 28) rfl c28 ?_
        refine At.exit (At.thenExit (At.thenExit (At.inHit ?_)))
        refine At.norm (hk_10 ?_)
        refine At.seq fun K15 hk_15 => ?_
        refine At.region ?_
        refine op_move (nxlf rfl) rfl rfl ?_
        refine op_build (out := [.int .i64 0, .int .i64 0]) (nxlf rfl) ze30 pl30 .nil rfl rfl ?_
        refine op_assign (nxlf rfl) rfl rfl ?_
        refine op_store (nxl rfl) sz30 rfl rfl rfl rfl rfl B3 (by simp) sel2 (fun N3 B3 => ?_)
        simp only [setL, List.set] at B3
        refine At.opsNil ?_
        refine At.norm (hk_15 ?_)
        refine At.ret (?_)
        refine At.sub (L' := [N3, Na, R]) (.cons_cons _ (.cons_cons _ (.cons _ (.cons_cons _ (.slnil))))) ?_
        refine At.retN (L1 := [Na]) rfl (.tmp rfl (.cell rfl (res_agg (ds := [_, _]) ag30 B3 rfl rfl mem0) .nil)) rfl (.cons _ (.refl _)) (.refl _) ?_
        rw [if_neg (show ¬ 0 ≤ a by omega), if_neg (show ¬ d.length % 2 = 1 by omega), show d.length / 2 = j by omega]
        exact ⟨Na, p, c, by simp only [hexPs_len]; rw [hm]; rfl, rfl, by simp only [hexPs_len]; rw [hm] at ra; exact ra⟩
end Go.Proofs.YtlkjfbfenpkmhaaDoor
